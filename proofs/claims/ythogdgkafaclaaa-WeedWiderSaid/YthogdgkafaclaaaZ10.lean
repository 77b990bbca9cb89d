import Derived.Test.YthogdgkafaclaaaBD5
import Derived.ProofKit
import Derived.ChangeSame
import Derived.SizedLaws
import Derived.Deep.Slices
import Derived.Test.YthogdgkafaclaaaProg
import Derived.Test.YthogdgkafaclaaaRows
/-
  Proved: the law WeedWider returns true for every argument that the row hands over, and leaves every argument as it was; no condition beside the row's own.
-/
set_option linter.all false
section
namespace Go.Proofs.Ythogdgkafaclaaa
theorem bd {α β : Type} {x : Option α} {a : α} {f : α → Option β} (h : x = some a) : x.bind f = f a := by rw [h]; rfl
theorem i64b {β : Type} {x : Int} {f : Int → Option β} (h0 : -9223372036854775808 ≤ x) (h1 : x ≤ 9223372036854775807) : (i64 x).bind f = f x := bd (i64_eq h0 h1)
theorem idxb {α β : Type} {xs : List α} {k : Nat} {f : α → Option β} (h : k < xs.length) : (idx xs (k : Int)).bind f = f xs[k] := bd (idx_eq h)
theorem ifob {β : Type} {p : Prop} [Decidable p] {f : Unit → Option β} (h : p) : (ifo p).bind f = f () := bd (if_pos h)
theorem remb {β : Type} {a b : Int} {f : Int → Option β} (h0 : 0 ≤ a) (h1 : 1 ≤ b) : (rem a b).bind f = f (a % b) := bd (if_pos ⟨h0, h1⟩)
theorem quob {β : Type} {a b : Int} {f : Int → Option β} (h0 : 0 ≤ a) (h1 : 1 ≤ b) : (quo a b).bind f = f (a / b) := bd (if_pos ⟨h0, h1⟩)
theorem ct {α : Type} {b : Bool} {x y : α} (h : b = true) : cond b x y = x := by rw [h]; rfl
theorem cf {α : Type} {b : Bool} {x y : α} (h : b = false) : cond b x y = y := by rw [h]; rfl
theorem nt {α : Type} {x y : α} : cond (!true) x y = y := rfl
theorem nf {α : Type} {x y : α} : cond (!false) x y = x := rfl
theorem dt {p : Prop} [Decidable p] (h : p) : decide p = true := decide_eq_true h
theorem df {p : Prop} [Decidable p] (h : ¬ p) : decide p = false := decide_eq_false h
theorem g_In (K : Nat) (n a b : Int) : G_In K n a b = some (inR n a b) := by unfold G_In inR; cases decide (a ≤ n) <;> rfl
theorem g_Within (K : Nat) (f : Fld) (lo hi : Int) : G_Within K (⟨lo, hi⟩ : Int × Int) 0 f.rows = some (rngOk f lo hi) := by
  unfold G_Within rngOk
  simp only []
  cases decide ((0 : Int) ≤ lo) <;> cases decide (lo ≤ hi) <;> rfl
/-- How often somebody stands in a part of a list. -/
def part (l : List Int) (who : Int) (fr n : Nat) : Nat := cnt who ((l.drop fr).take n)
theorem part_le (l : List Int) (who : Int) (fr n : Nat) : part l who fr n ≤ n := by
  unfold part cnt
  exact Nat.le_trans List.countP_le_length (by simp; omega)
theorem l_Many (f : Fld) (hw : 0 ≤ f.wd) (hw3 : f.wd ≤ 3) (hr : f.rows ≤ 7) : ∀ (n m i : Nat) (s : Int), f.rows = i + n → n < m → 0 ≤ s → s * (f.wd + 1) ^ n ≤ 1000000 → G_Many_L2 f m s (i : Int) = some (s * (f.wd + 1) ^ n)
  | n, 0, i, s, h, hm, _, _ => by omega
  | 0, m + 1, i, s, h, hm, h0, h1 => by
    unfold G_Many_L2
    rw [cf (df (by omega))]
    simp
  | n + 1, m + 1, i, s, h, hm, h0, h1 => by
    unfold G_Many_L2
    have hp : 1 ≤ (f.wd + 1) ^ n := by
      have h9 : 0 < (f.wd + 1) ^ n := Int.pow_pos (by omega)
      omega
    have hs : s * (f.wd + 1) * (f.wd + 1) ^ n ≤ 1000000 := by
      rw [Int.mul_assoc]; rw [Int.pow_succ, Int.mul_comm ((f.wd + 1) ^ n)] at h1; exact h1
    have h2 : 0 ≤ s * (f.wd + 1) := Int.mul_nonneg h0 (by omega)
    have h3 : s * (f.wd + 1) ≤ 1000000 := by
      have h4 := Int.mul_le_mul_of_nonneg_left hp h2
      omega
    rw [ct (dt (by omega)), i64b (by omega) (by omega), i64b (by omega) (by omega), i64b (by omega) (by omega)]
    have e : ((i : Int) + 1) = ((i + 1 : Nat) : Int) := by omega
    rw [e, l_Many f hw hw3 hr n m (i + 1) (s * (f.wd + 1)) (by omega) (by omega) h2 hs]
    rw [Int.mul_assoc, Int.pow_succ, Int.mul_comm ((f.wd + 1) ^ n)]
theorem g_Many {K : Nat} {f : Fld} (hK : 1000 ≤ K) (hw : 0 ≤ f.wd) (hw3 : f.wd ≤ 3) (hr0 : 0 ≤ f.rows) (hr : f.rows ≤ 7) : G_Many K f = some (many f) := by
  unfold G_Many
  have h := (pow_bd7 (f.wd + 1) (by omega) (by omega) f.rows.toNat (by omega)).2
  have := l_Many f hw hw3 hr f.rows.toNat K 0 1 (by omega) (by omega) (by omega) (by omega)
  rw [Int.natCast_zero] at this
  rw [this]
  simp [many]
theorem talOk_ref (f : Fld) (t : Tly) : talOk f t = (inR t.who 0 (f.wd - 1) && (inR t.fr 0 (f.rows - 1) && (inR t.to t.fr (f.rows - 1) && rngOk f t.lo t.hi))) := by
  rw [Bool.eq_iff_iff]
  unfold talOk
  simp only [Bool.and_eq_true, inR_iff, decide_eq_true_eq]
  constructor
  · rintro ⟨⟨⟨⟨h1, h2⟩, h3⟩, h4⟩, h5⟩; exact ⟨h1, h2, ⟨h4, h3.2⟩, h5⟩
  · rintro ⟨h1, h2, ⟨h3, h4⟩, h5⟩; exact ⟨⟨⟨⟨h1, h2⟩, by omega, h4⟩, h3⟩, h5⟩
theorem l_Fault (K : Nat) (f : Fld) (hr : 1 ≤ f.rows ∧ f.rows ≤ 7) (hw : 1 ≤ f.wd ∧ f.wd ≤ 3) (hl : f.ts.length ≤ 1000000) : ∀ (n m i : Nat), f.ts.length = i + n → n < m → G_Fault_L12 K f m (i : Int) = some (if (f.ts.drop i).all (talOk f) = true then .inr () else .inl 1)
  | n, 0, i, h, hm => by omega
  | 0, m + 1, i, h, hm => by
    unfold G_Fault_L12
    rw [cf (df (by omega)), List.drop_eq_nil_of_le (by omega)]
    rfl
  | n + 1, m + 1, i, h, hm => by
    unfold G_Fault_L12
    have hi : i < f.ts.length := by omega
    rw [ct (dt (by omega)), idxb hi, i64b (by omega) (by omega), bd (g_In ..), List.drop_eq_getElem_cons hi, List.all_cons, talOk_ref]
    cases h1 : inR f.ts[i].who 0 (f.wd - 1) with
    | false => rfl
    | true =>
      rw [nt, i64b (by omega) (by omega), bd (g_In ..)]
      cases h2 : inR f.ts[i].fr 0 (f.rows - 1) with
      | false => rfl
      | true =>
        rw [nt, i64b (by omega) (by omega), bd (g_In ..)]
        cases h3 : inR f.ts[i].to f.ts[i].fr (f.rows - 1) with
        | false => rfl
        | true =>
          rw [nt, bd (g_Within ..)]
          cases h4 : rngOk f f.ts[i].lo f.ts[i].hi with
          | false => rfl
          | true =>
            have e : ((i : Int) + 1) = ((i + 1 : Nat) : Int) := by omega
            rw [nt, i64b (by omega) (by omega), e, l_Fault K f hr hw hl n m (i + 1) (by omega) (by omega)]
            rfl
theorem g_Fault {K : Nat} {f : Fld} (hK : 1000 ≤ K) : G_Fault K f = some (check f) := by
  unfold G_Fault check
  by_cases hb : big f = true
  · rw [if_pos hb]
    simp only [big, Bool.or_eq_true, decide_eq_true_eq] at hb
    by_cases h1 : 7 < f.rows
    · rw [ct (dt h1)]
    · rw [cf (df h1)]
      by_cases h2 : 3 < f.wd
      · rw [ct (dt h2)]
      · rw [cf (df h2), ct (dt (by omega))]
  · rw [if_neg hb]
    simp only [big, Bool.or_eq_true, decide_eq_true_eq, not_or] at hb
    rw [cf (df hb.1), cf (df hb.2.1), cf (df hb.2.2)]
    by_cases hr : f.rows < 1
    · rw [ct (dt hr), if_pos (by simp [bad, hr])]
    · by_cases hw : f.wd < 1
      · rw [cf (df hr), ct (dt hw), if_pos (by simp [bad, hw])]
      · rw [cf (df hr), cf (df hw), bd (g_Within ..)]
        have hbad : bad f = (!rngOk f f.lo f.hi || !f.ts.all (talOk f)) := by simp [bad, hr, hw]
        rw [hbad]
        cases h3 : rngOk f f.lo f.hi with
        | false => rfl
        | true =>
          have := l_Fault K f ⟨by omega, by omega⟩ ⟨by omega, by omega⟩ (by omega) f.ts.length K 0 (by omega) (by omega)
          rw [Int.natCast_zero] at this
          rw [nt, bd this, List.drop_zero]
          cases h4 : f.ts.all (talOk f) with
          | false => rfl
          | true =>
            rw [if_pos rfl, if_neg (by decide)]
            show (G_Many K f).bind _ = _
            rw [bd (g_Many hK (by omega) (by omega) (by omega) (by omega))]
            by_cases h5 : 2500 < many f
            · rw [ct (dt h5), if_pos h5]
            · rw [cf (df h5), if_neg h5]
theorem g_fault {K : Nat} {f : Fld} (hK : 1000 ≤ K) : G_fault K f = some (check f) := by unfold G_fault; rw [bd (g_Fault hK)]
/-- The fields that the laws go through. -/
def thin (f : Fld) : Bool := decide (f.ts.length ≤ 7) && (decide (check f ≠ 0) || decide (many f ≤ 250))
theorem g_Thin {K : Nat} {f : Fld} (hK : 1000 ≤ K) : G_Thin K f = some (thin f) := by
  unfold G_Thin thin
  by_cases h1 : f.ts.length ≤ 7
  · rw [ct (dt (by omega)), bd (g_Fault hK)]
    by_cases h2 : check f = 0
    · obtain ⟨hr, hw, _⟩ := check_ok h2
      rw [cf (by simp [h2]), bd (g_Many hK (by omega) (by omega) (by omega) (by omega))]
      simp [h1, h2]
    · rw [ct (by simp [h2])]
      simp [h1, h2]
  · rw [cf (df (by omega))]
    simp [h1]
theorem thin_len {f : Fld} (h : thin f = true) : f.ts.length ≤ 7 := by
  simp only [thin, Bool.and_eq_true, decide_eq_true_eq] at h; exact h.1
theorem g_to (K : Nat) (r : Int × Int) : G_to K r = some r := rfl
theorem l_Field (K : Nat) (f : Fld) (hl : f.ts.length ≤ 7) : ∀ (n m i : Nat), f.ts.length = i + n → n < m → G_Field_L7 K f m (i : Int) (f.ts.take i) = some f.ts
  | n, 0, i, h, hm => by omega
  | 0, m + 1, i, h, hm => by
    unfold G_Field_L7
    rw [cf (df (by omega)), List.take_of_length_le (by omega)]
  | n + 1, m + 1, i, h, hm => by
    unfold G_Field_L7
    have hi : i < f.ts.length := by omega
    have e : ((i : Int) + 1) = ((i + 1 : Nat) : Int) := by omega
    rw [ct (dt (by omega)), idxb hi, bd (g_to ..), ifob (by simp; omega), i64b (by omega) (by omega), e]
    have ht : f.ts.take i ++ [(⟨f.ts[i].who, f.ts[i].fr, f.ts[i].to, f.ts[i].lo, f.ts[i].hi⟩ : Tly)] = f.ts.take (i + 1) := (List.take_succ_eq_append_getElem hi).symm
    show G_Field_L7 K f m ((i + 1 : Nat) : Int) (f.ts.take i ++ [(⟨f.ts[i].who, f.ts[i].fr, f.ts[i].to, f.ts[i].lo, f.ts[i].hi⟩ : Tly)]) = _
    rw [ht, l_Field K f hl n m (i + 1) (by omega) (by omega)]
theorem g_Field {K : Nat} {f : Fld} (hK : 1000 ≤ K) (hl : f.ts.length ≤ 7) : G_Field K f = some f := by
  unfold G_Field
  have := l_Field K f hl f.ts.length K 0 (by omega) (by omega)
  rw [Int.natCast_zero, List.take_zero] at this
  rw [bd (g_to ..), bd this]
/-- All tallies but none. -/
theorem allAt_nil (l : List Int) : ∀ (ts : List Tly) (i : Nat), allAt l [] i ts = ts.all fun t => inR (didK l [t.who, t.fr, t.to]) t.lo t.hi
  | [], _ => rfl
  | t :: ts, i => by
    rw [allAt, allAt_nil l ts (i + 1), List.all_cons]
    rfl
/-- Somebody's rows in a tally's stretch. -/
def tdid (l : List Int) (t : Tly) : Int := (part l t.who t.fr.toNat (t.to + 1 - t.fr).toNat : Nat)
theorem didK_part (l : List Int) (t : Tly) (h : 0 ≤ t.fr ∧ t.fr ≤ t.to) : didK l [t.who, t.fr, t.to] = tdid l t := by
  unfold didK tdid part
  have : (t.to + 1).toNat - t.fr.toNat = (t.to + 1 - t.fr).toNat := by omega
  simp only [this]
theorem part_pad (l : List Int) (who : Int) (fr n : Nat) (h : fr + n ≤ l.length) : part (pad l) who fr n = part l who fr n := by
  unfold part pad
  rw [List.drop_append_of_le_length (by omega), List.take_append_of_le_length (by simp; omega)]
theorem tdid_pad (f : Fld) (l : List Int) (t : Tly) (hl : (l.length : Int) = f.rows) (h : talOk f t = true) : tdid (pad l) t = tdid l t := by
  have := talOk_bd h
  unfold tdid
  rw [part_pad _ _ _ _ (by omega)]
/-- What the reference calls allowed, and a truth. -/
def alw (f : Fld) (l : List Int) : Bool := l.all (okWho f) && (decide ((l.length : Int) = f.rows) && inR ((part l (-1) 0 l.length : Nat) : Int) f.lo f.hi)
def tru (f : Fld) (l : List Int) : Bool := alw f l && f.ts.all fun t => inR (tdid l t) t.lo t.hi
theorem okWho_in (f : Fld) (n : Int) (hw : 1 ≤ f.wd) : okWho f n = inR n (-1) (f.wd - 1) := by
  rw [Bool.eq_iff_iff]
  simp only [okWho, Bool.or_eq_true, beq_iff_eq, inR_iff]
  omega
end Go.Proofs.Ythogdgkafaclaaa
end
section
namespace Go.Proofs.Ythogdgkafaclaaa
/-- The i-th list of so many numbers. -/
def nthL (b : Int) : Nat → Int → List Int
  | 0, _ => []
  | n + 1, i => (i % b - 1) :: nthL b n (i / b)
theorem nthL_surj (b : Int) (hb : 1 ≤ b) : ∀ (l : List Int), (∀ x ∈ l, -1 ≤ x ∧ x ≤ b - 2) → ∃ i : Nat, (i : Int) < b ^ l.length ∧ nthL b l.length i = l
  | [], _ => ⟨0, by simp, rfl⟩
  | x :: l, h => by
    obtain ⟨i, hi, he⟩ := nthL_surj b hb l fun y hy => h y (List.mem_cons_of_mem _ hy)
    have hx := h x (List.mem_cons_self ..)
    have h0 : 0 ≤ (x + 1) + b * (i : Int) := by
      have : 0 ≤ b * (i : Int) := Int.mul_nonneg (by omega) (by omega)
      omega
    refine ⟨((x + 1) + b * (i : Int)).toNat, ?_, ?_⟩
    · have h2 : b ^ (l.length + 1) = b * b ^ l.length := by rw [Int.pow_succ, Int.mul_comm]
      rw [Int.toNat_of_nonneg h0, List.length_cons, h2]
      have h1 : b * ((i : Int) + 1) ≤ b * b ^ l.length := Int.mul_le_mul_of_nonneg_left (by omega) (by omega)
      rw [Int.mul_add, Int.mul_one] at h1
      omega
    · rw [Int.toNat_of_nonneg h0]
      simp only [List.length_cons, nthL]
      rw [Int.add_mul_emod_self_left, Int.add_mul_ediv_left _ _ (by omega), Int.emod_eq_of_lt (by omega) (by omega), Int.ediv_eq_zero_of_lt (by omega) (by omega), Int.zero_add, he]
      congr 1
      omega
/-- The reference's truths. -/
def refs (f : Fld) : List (List Int) := ((List.range (many f).toNat).map fun i : Nat => nthL (f.wd + 1) f.rows.toNat (i : Int)).filter (tru f)
theorem many_nn {f : Fld} (hc : check f = 0) : 0 ≤ many f := by
  obtain ⟨hr, hw, _⟩ := check_ok hc
  exact (pow_bd7 (f.wd + 1) (by omega) (by omega) f.rows.toNat (by omega)).1
theorem tru_alw {f : Fld} {l : List Int} (h : tru f l = true) : (∀ x ∈ l, okWho f x = true) ∧ (l.length : Int) = f.rows ∧ inR ((part l (-1) 0 l.length : Nat) : Int) f.lo f.hi = true := by
  simp only [tru, alw, Bool.and_eq_true, decide_eq_true_eq, List.all_eq_true] at h
  exact ⟨h.1.1, h.1.2.1, h.1.2.2⟩
theorem mem_refs {f : Fld} (hc : check f = 0) {l : List Int} : l ∈ refs f ↔ tru f l = true := by
  obtain ⟨hr, hw, _⟩ := check_ok hc
  unfold refs
  rw [List.mem_filter]
  constructor
  · exact fun h => h.2
  · intro h
    refine ⟨?_, h⟩
    obtain ⟨h1, h2, _⟩ := tru_alw h
    obtain ⟨i, hi, he⟩ := nthL_surj (f.wd + 1) (by omega) l fun x hx => by
      have := h1 x hx
      rw [okWho_in f x hw.1, inR_iff] at this
      omega
    have hl : f.rows.toNat = l.length := by omega
    rw [List.mem_map]
    refine ⟨i, ?_, by rw [hl]; exact he⟩
    have h0 := many_nn hc
    have hm : many f = (f.wd + 1) ^ l.length := by unfold many; rw [hl]
    rw [List.mem_range]
    omega
theorem mem_whos {wd x : Int} (hw : 0 ≤ wd) : x ∈ whos wd ↔ -1 ≤ x ∧ x ≤ wd - 1 := by
  simp only [whos, List.mem_map, List.mem_range]
  constructor
  · rintro ⟨j, hj, rfl⟩; omega
  · intro h; exact ⟨(x + 1).toNat, by omega, by omega⟩
theorem mem_enum (p : List Int → Bool) (wd : Int) : ∀ (k : Nat) (pre a : List Int), a ∈ enum p wd k pre ↔ ∃ t : List Int, t.length = k ∧ (∀ x ∈ t, x ∈ whos wd) ∧ p (pad (pre ++ t)) = true ∧ a = pad (pre ++ t)
  | 0, pre, a => by
    unfold enum
    constructor
    · intro h
      split at h
      · rename_i hp
        exact ⟨[], rfl, by simp, by simpa using hp, by simpa using h⟩
      · cases h
    · rintro ⟨t, ht, _, hp, rfl⟩
      obtain rfl := List.length_eq_zero_iff.1 ht
      rw [List.append_nil] at hp ⊢
      rw [if_pos hp]; simp
  | k + 1, pre, a => by
    simp only [enum, List.mem_flatMap]
    constructor
    · rintro ⟨x, hx, h⟩
      obtain ⟨t, h1, h2, h3, h4⟩ := (mem_enum p wd k _ a).1 h
      rw [List.append_assoc, List.singleton_append] at h3 h4
      exact ⟨x :: t, by simp [h1], by simpa using ⟨hx, h2⟩, h3, h4⟩
    · rintro ⟨t, h1, h2, h3, h4⟩
      cases t with
      | nil => simp at h1
      | cons x t =>
        refine ⟨x, h2 x (List.mem_cons_self ..), (mem_enum p wd k _ a).2 ⟨t, by simpa using h1, fun y hy => h2 y (List.mem_cons_of_mem _ hy), ?_, ?_⟩⟩
        · rw [List.append_assoc, List.singleton_append]; exact h3
        · rw [List.append_assoc, List.singleton_append]; exact h4
theorem all_congr {α : Type} {p q : α → Bool} : ∀ {l : List α}, (∀ x ∈ l, p x = q x) → l.all p = l.all q
  | [], _ => rfl
  | a :: l, h => by rw [List.all_cons, List.all_cons, h a (List.mem_cons_self ..), all_congr fun x hx => h x (List.mem_cons_of_mem _ hx)]
theorem right_tru {f : Fld} {l : List Int} (ht : ∀ t ∈ f.ts, talOk f t = true) (hl : (l.length : Int) = f.rows) : rightB f (pad l) [] = (f.ts.all (fun t => inR (tdid l t) t.lo t.hi) && inR ((part l (-1) 0 l.length : Nat) : Int) f.lo f.hi) := by
  unfold rightB
  rw [allAt_nil]
  congr 1
  · refine all_congr fun t h => ?_
    have h1 := talOk_bd (ht t h)
    rw [didK_part _ _ ⟨h1.2.1.1, h1.2.1.2.1⟩, tdid_pad f l t hl (ht t h)]
  · have h2 : f.rows.toNat = l.length := by omega
    have h3 : (pad l).take f.rows.toNat = l.take l.length := by
      unfold pad; rw [h2, List.take_append_of_le_length (Nat.le_refl _)]
    rw [h3]
    unfold part
    rw [List.drop_zero]
theorem mem_truths {f : Fld} (hc : check f = 0) {a : List Int} : a ∈ truths f [] ↔ ∃ l, l ∈ refs f ∧ a = pad l := by
  obtain ⟨hr, hw, _, ht, _⟩ := check_ok hc
  unfold truths
  rw [mem_enum]
  constructor
  · rintro ⟨t, h1, h2, h3, h4⟩
    rw [List.nil_append] at h3 h4
    refine ⟨t, (mem_refs hc).2 ?_, h4⟩
    have hl : (t.length : Int) = f.rows := by omega
    have h3' : rightB f (pad t) [] = true := h3
    rw [right_tru ht hl, Bool.and_eq_true] at h3'
    have h5 : t.all (okWho f) = true := by
      rw [List.all_eq_true]
      intro x hx
      rw [okWho_in f x hw.1, inR_iff]
      have := (mem_whos (by omega)).1 (h2 x hx)
      omega
    unfold tru alw
    rw [h5, h3'.1, h3'.2]
    simp [hl]
  · rintro ⟨l, h, rfl⟩
    have h1 := (mem_refs hc).1 h
    obtain ⟨h2, h3, h4⟩ := tru_alw h1
    refine ⟨l, by omega, fun x hx => ?_, ?_, by simp⟩
    · rw [mem_whos (by omega)]
      have := h2 x hx
      rw [okWho_in f x hw.1, inR_iff] at this
      omega
    · rw [List.nil_append]
      show rightB f (pad l) [] = true
      rw [right_tru ht h3, h4]
      simp only [tru, Bool.and_eq_true] at h1
      rw [h1.2]; rfl
theorem truths_nil {f : Fld} (hc : check f = 0) : truths f [] = [] ↔ refs f = [] := by
  constructor
  · intro h
    rw [List.eq_nil_iff_forall_not_mem] at h ⊢
    exact fun l hl => h (pad l) ((mem_truths hc).2 ⟨l, hl, rfl⟩)
  · intro h
    rw [List.eq_nil_iff_forall_not_mem] at h ⊢
    rintro a ha
    obtain ⟨l, hl, _⟩ := (mem_truths hc).1 ha
    exact h l hl
/-- The error that comes with a question. -/
def sureE (f : Fld) : Int := if check f ≠ 0 then check f else if refs f = [] then 11 else 0
theorem askE_true (f : Fld) : askE f true = sureE f := by
  unfold askE sureE
  by_cases hc : check f = 0
  · simp only [hc, ne_eq, not_true_eq_false, if_false]
    by_cases h : refs f = []
    · rw [if_neg (by decide), if_pos h, if_pos ((truths_nil hc).2 h)]
    · rw [if_neg (by decide), if_neg h, if_neg (fun e => h ((truths_nil hc).1 e))]
  · rw [if_pos hc, if_pos hc]
theorem cntr_pad {f : Fld} {l : List Int} {who : Int} (hl : (l.length : Int) = f.rows) : cntr f (pad l) who = (part l who 0 l.length : Nat) := by
  unfold cntr part pad
  have h2 : f.rows.toNat = l.length := by omega
  rw [h2, List.take_append_of_le_length (Nat.le_refl _), List.drop_zero]
/-- A least and a greatest number, from a first one on. -/
theorem foldl_mm (g : List Int → Int) : ∀ (T : List (List Int)) (r : Int × Int),
    (T.foldl (fun r a => (min r.1 (g a), max r.2 (g a))) r).1 ≤ r.1 ∧ r.2 ≤ (T.foldl (fun r a => (min r.1 (g a), max r.2 (g a))) r).2 ∧
    (∀ a ∈ T, (T.foldl (fun r a => (min r.1 (g a), max r.2 (g a))) r).1 ≤ g a ∧ g a ≤ (T.foldl (fun r a => (min r.1 (g a), max r.2 (g a))) r).2) ∧
    ((T.foldl (fun r a => (min r.1 (g a), max r.2 (g a))) r).1 = r.1 ∨ ∃ a ∈ T, (T.foldl (fun r a => (min r.1 (g a), max r.2 (g a))) r).1 = g a) ∧
    ((T.foldl (fun r a => (min r.1 (g a), max r.2 (g a))) r).2 = r.2 ∨ ∃ a ∈ T, (T.foldl (fun r a => (min r.1 (g a), max r.2 (g a))) r).2 = g a)
  | [], r => ⟨Int.le_refl _, Int.le_refl _, by simp, .inl rfl, .inl rfl⟩
  | b :: T, r => by
    obtain ⟨h1, h2, h3, h4, h5⟩ := foldl_mm g T (min r.1 (g b), max r.2 (g b))
    rw [List.foldl_cons]
    simp only [] at h1 h2 h3 h4 h5
    refine ⟨by clear h4 h5; omega, by clear h4 h5; omega, ?_, ?_, ?_⟩
    · clear h4 h5
      intro a ha
      rcases List.mem_cons.1 ha with rfl | ha
      · exact ⟨by omega, by omega⟩
      · exact h3 a ha
    · clear h5
      rcases h4 with h4 | ⟨a, ha, h4⟩
      · by_cases h : r.1 ≤ g b
        · exact .inl (by omega)
        · exact .inr ⟨b, List.mem_cons_self .., by omega⟩
      · exact .inr ⟨a, List.mem_cons_of_mem _ ha, h4⟩
    · clear h4
      rcases h5 with h5 | ⟨a, ha, h5⟩
      · by_cases h : g b ≤ r.2
        · exact .inl (by omega)
        · exact .inr ⟨b, List.mem_cons_self .., by omega⟩
      · exact .inr ⟨a, List.mem_cons_of_mem _ ha, h5⟩
/-- The reference's bounds. -/
def didB (T : List (List Int)) (who : Int) : Int × Int := T.foldl (fun (r : Int × Int) (a : List Int) => (min r.1 (part a who 0 a.length : Nat), max r.2 (part a who 0 a.length : Nat))) (1099511627776, -1099511627776)
/-- Both say the same of the same truths. -/
theorem doneOf_didB {f : Fld} (hc : check f = 0) (hn : refs f ≠ []) (who : Int) : doneOf f (truths f []) who = didB (refs f) who := by
  obtain ⟨hr, hw, _⟩ := check_ok hc
  have hmin : ∀ (r : Int × Int) (a : List Int), rngS f who r a = (min r.1 (cntr f a who), max r.2 (cntr f a who)) := fun r a => rfl
  have hfold : doneOf f (truths f []) who = (truths f []).foldl (fun r a => (min r.1 (cntr f a who), max r.2 (cntr f a who))) (cntr f ((truths f []).headD []) who, cntr f ((truths f []).headD []) who) := rfl
  have hne : truths f [] ≠ [] := fun e => hn ((truths_nil hc).1 e)
  have hhd : (truths f []).headD [] ∈ truths f [] := by
    cases h : truths f [] with
    | nil => exact absurd h hne
    | cons a T => simp
  obtain ⟨p1, p2, p3, p4, p5⟩ := foldl_mm (fun a => cntr f a who) (truths f []) (cntr f ((truths f []).headD []) who, cntr f ((truths f []).headD []) who)
  obtain ⟨q1, q2, q3, q4, q5⟩ := foldl_mm (fun a => ((part a who 0 a.length : Nat) : Int)) (refs f) (1099511627776, -1099511627776)
  rw [← hfold] at p1 p2 p3 p4 p5
  have hd : didB (refs f) who = (refs f).foldl (fun r a => (min r.1 ((part a who 0 a.length : Nat) : Int), max r.2 ((part a who 0 a.length : Nat) : Int))) (1099511627776, -1099511627776) := rfl
  rw [← hd] at q1 q2 q3 q4 q5
  have hlen : ∀ l ∈ refs f, (l.length : Int) = f.rows := fun l hl => (tru_alw ((mem_refs hc).1 hl)).2.1
  -- each is met by the other
  have toP : ∀ l ∈ refs f, ∃ a ∈ truths f [], cntr f a who = ((part l who 0 l.length : Nat) : Int) := fun l hl => ⟨pad l, (mem_truths hc).2 ⟨l, hl, rfl⟩, cntr_pad (hlen l hl)⟩
  have toQ : ∀ a ∈ truths f [], ∃ l ∈ refs f, cntr f a who = ((part l who 0 l.length : Nat) : Int) := fun a ha => by
    obtain ⟨l, hl, rfl⟩ := (mem_truths hc).1 ha
    exact ⟨l, hl, cntr_pad (hlen l hl)⟩
  have bnd : ∀ l ∈ refs f, ((part l who 0 l.length : Nat) : Int) ≤ 7 := fun l hl => by
    have h1 := part_le l who 0 l.length
    have h2 := hlen l hl
    omega
  obtain ⟨l0, hl0⟩ : ∃ l, l ∈ refs f := by
    cases h : refs f with
    | nil => exact absurd h hn
    | cons a T => exact ⟨a, List.mem_cons_self ..⟩
  have b0 := bnd l0 hl0
  have m0 := q3 l0 hl0
  have P4 : ∃ a ∈ truths f [], (doneOf f (truths f []) who).1 = cntr f a who := by
    rcases p4 with h | h
    · exact ⟨_, hhd, h⟩
    · exact h
  have P5 : ∃ a ∈ truths f [], (doneOf f (truths f []) who).2 = cntr f a who := by
    rcases p5 with h | h
    · exact ⟨_, hhd, h⟩
    · exact h
  have Q4 : ∃ a ∈ refs f, (didB (refs f) who).1 = ((part a who 0 a.length : Nat) : Int) := by
    rcases q4 with h | h
    · simp only [] at h m0; omega
    · exact h
  have Q5 : ∃ a ∈ refs f, (didB (refs f) who).2 = ((part a who 0 a.length : Nat) : Int) := by
    rcases q5 with h | h
    · simp only [] at h m0; omega
    · exact h
  obtain ⟨a4, ha4, e4⟩ := P4
  obtain ⟨a5, ha5, e5⟩ := P5
  obtain ⟨l4, hl4, g4⟩ := Q4
  obtain ⟨l5, hl5, g5⟩ := Q5
  obtain ⟨x4, hx4, i4⟩ := toQ a4 ha4
  obtain ⟨x5, hx5, i5⟩ := toQ a5 ha5
  obtain ⟨y4, hy4, j4⟩ := toP l4 hl4
  obtain ⟨y5, hy5, j5⟩ := toP l5 hl5
  have u1 := (q3 x4 hx4).1
  have u2 := (q3 x5 hx5).2
  have u3 := (p3 y4 hy4).1
  have u4 := (p3 y5 hy5).2
  refine Prod.ext ?_ ?_ <;> omega
theorem donesTo_len (f : Fld) (T : List (List Int)) (k : Nat) : (donesTo f T k).length = k := by simp [donesTo]
theorem donesTo_get (f : Fld) (T : List (List Int)) (k i : Nat) (h : i < (donesTo f T k).length) : (donesTo f T k)[i] = doneOf f T (i : Int) := by simp [donesTo]
end Go.Proofs.Ythogdgkafaclaaa
end
section
namespace Go.Proofs.Ythogdgkafaclaaa
theorem sorted_ext : ∀ {l m : List Int}, l.Pairwise (· < ·) → m.Pairwise (· < ·) → (∀ x, x ∈ l ↔ x ∈ m) → l = m
  | [], [], _, _, _ => rfl
  | [], b :: m, _, _, h => by have := (h b).2 (List.mem_cons_self ..); cases this
  | a :: l, [], _, _, h => by have := (h a).1 (List.mem_cons_self ..); cases this
  | a :: l, b :: m, h1, h2, h => by
    rw [List.pairwise_cons] at h1 h2
    have hab : a = b := by
      rcases List.mem_cons.1 ((h a).1 (List.mem_cons_self ..)) with e | e
      · exact e
      · rcases List.mem_cons.1 ((h b).2 (List.mem_cons_self ..)) with e2 | e2
        · exact e2.symm
        · have := h1.1 b e2; have := h2.1 a e; omega
    subst hab
    congr 1
    refine sorted_ext h1.2 h2.2 fun x => ⟨fun hx => ?_, fun hx => ?_⟩
    · rcases List.mem_cons.1 ((h x).1 (List.mem_cons_of_mem _ hx)) with e | e
      · have := h1.1 x hx; omega
      · exact e
    · rcases List.mem_cons.1 ((h x).2 (List.mem_cons_of_mem _ hx)) with e | e
      · have := h2.1 x hx; omega
      · exact e
theorem getI {zs : List Int} {m : Nat} (h : m < zs.length) : zs.toArray[m]! = zs[m] := by
  rw [getElem!_pos zs.toArray m (by simpa using h)]; simp
theorem compact_inv {zs : List Int} (hs : zs.Pairwise (· ≤ ·)) : ∀ m, m ≤ zs.length → (Lib.compactUpTo zs.toArray m).Pairwise (· < ·) ∧ ∀ x, x ∈ Lib.compactUpTo zs.toArray m ↔ x ∈ zs.take m
  | 0, _ => by simp [Lib.compactUpTo]
  | m + 1, h => by
    obtain ⟨h1, h2⟩ := compact_inv hs m (by omega)
    have hm : m < zs.length := by omega
    rw [Lib.compactUpTo_succ, List.take_succ_eq_append_getElem hm, getI hm]
    have hle : ∀ x ∈ zs.take m, x ≤ zs[m] := fun x hx => by
      obtain ⟨i, hi, rfl⟩ := List.mem_iff_getElem.1 hx
      rw [List.getElem_take]
      simp at hi
      exact (List.pairwise_iff_getElem.1 hs) i m _ hm (by omega)
    by_cases hk : Lib.keeps zs.toArray m = true
    · rw [if_pos hk]
      refine ⟨?_, fun x => by rw [List.mem_append, List.mem_append, h2]⟩
      rw [List.pairwise_append]
      refine ⟨h1, by simp, fun x hx y hy => ?_⟩
      obtain rfl : y = zs[m] := by simpa using hy
      have hx2 := (h2 x).1 hx
      have hx3 := hle x hx2
      simp only [Lib.keeps, decide_eq_true_eq] at hk
      rcases hk with rfl | hk
      · simp at hx2
      · have hm1 : 0 < m := by
          rcases Nat.eq_zero_or_pos m with rfl | h0
          · simp at hx2
          · exact h0
        rw [getI hm, getI (by omega : m - 1 < zs.length)] at hk
        obtain ⟨i, hi, rfl⟩ := List.mem_iff_getElem.1 hx2
        rw [List.getElem_take] at hx3 ⊢
        simp at hi
        have h5 : zs[m - 1] ≤ zs[m] := (List.pairwise_iff_getElem.1 hs) (m - 1) m _ hm (by omega)
        have h4 : zs[i] ≤ zs[m - 1] := by
          by_cases e : i = m - 1
          · subst e; exact Int.le_refl _
          · exact (List.pairwise_iff_getElem.1 hs) i (m - 1) _ _ (by omega)
        have h6 : zs[m] ≠ zs[m - 1] := hk
        show zs[i] < zs[m]
        omega
    · rw [if_neg hk, List.append_nil]
      refine ⟨h1, fun x => ?_⟩
      rw [h2]
      have hk2 : ¬ (m = 0 ∨ zs.toArray[m]! ≠ zs.toArray[m - 1]!) := by simpa [Lib.keeps] using hk
      have hm1 : 0 < m := by
        rcases Nat.eq_zero_or_pos m with rfl | h0
        · exact absurd (.inl rfl) hk2
        · exact h0
      have he : zs.toArray[m]! = zs.toArray[m - 1]! := Decidable.byContradiction fun e => hk2 (.inr e)
      rw [getI hm, getI (by omega : m - 1 < zs.length)] at he
      have hin : zs[m] ∈ zs.take m := by
        rw [he, List.mem_iff_getElem]
        exact ⟨m - 1, by simp; omega, by simp⟩
      simp only [List.mem_append, List.mem_singleton]
      exact ⟨.inl, fun h => h.elim id fun e => e ▸ hin⟩
theorem whos_sorted (wd : Int) : (whos wd).Pairwise (· < ·) := by
  unfold whos
  rw [List.pairwise_map]
  exact List.pairwise_lt_range.imp fun h => by omega
/-- Who stands in a row of some lists. -/
def whoS (wd : Int) (T : List (List Int)) (row : Nat) : List Int := (whos wd).filter fun x => T.any fun a => a.getD row 0 == x
theorem whoF_eq {wd : Int} {T : List (List Int)} {row : Int} (hw : 0 ≤ wd) (hb : ∀ a ∈ T, -1 ≤ a.getD row.toNat 0 ∧ a.getD row.toNat 0 ≤ wd - 1) : whoF T row = whoS wd T row.toNat := by
  unfold whoF
  have hs : ((T.map fun a : List Int => a.getD row.toNat 0).mergeSort fun x y => decide (x ≤ y)).Pairwise (· ≤ ·) := by
    have := List.pairwise_mergeSort (le := fun x y : Int => decide (x ≤ y)) (fun a b c h1 h2 => by simp at *; omega) (fun a b => by simp; omega) (T.map fun a : List Int => a.getD row.toNat 0)
    exact this.imp fun h => by simpa using h
  obtain ⟨h1, h2⟩ := compact_inv hs _ (Nat.le_refl _)
  refine sorted_ext h1 ((whos_sorted wd).filter _) fun x => ?_
  rw [show Lib.compact ((T.map fun a : List Int => a.getD row.toNat 0).mergeSort fun x y => decide (x ≤ y)) = Lib.compactUpTo ((T.map fun a : List Int => a.getD row.toNat 0).mergeSort fun x y => decide (x ≤ y)).toArray ((T.map fun a : List Int => a.getD row.toNat 0).mergeSort fun x y => decide (x ≤ y)).length from rfl, h2, List.take_length, List.mem_mergeSort]
  unfold whoS
  simp only [List.mem_map, List.mem_filter, mem_whos hw, List.any_eq_true, beq_iff_eq]
  constructor
  · rintro ⟨a, ha, rfl⟩; exact ⟨hb a ha, a, ha, rfl⟩
  · rintro ⟨_, a, ha, e⟩; exact ⟨a, ha, e⟩
def f4 : Fld := ⟨4, 2, 0, 0, [⟨0, 0, 2, 2, 3⟩, ⟨1, 2, 3, 1, 2⟩]⟩
def f5 : Fld := ⟨4, 2, 0, 0, [⟨0, 0, 2, 2, 3⟩, ⟨1, 2, 3, 1, 2⟩, ⟨0, 0, 1, 2, 2⟩]⟩
def f6 : Fld := ⟨4, 2, 0, 0, [⟨0, 0, 2, 2, 3⟩, ⟨1, 2, 3, 1, 2⟩, ⟨1, 0, 1, 2, 2⟩]⟩
theorem who4 : whoF (truths f4 []) 3 = [0, 1] := by
  rw [whoF_eq (wd := 2) (by omega) (by decide +kernel)]
  decide +kernel
theorem awake_1000 : G_awake 1000 = some true := by
  unfold G_awake
  rw [bd (show G_four 1000 [] = some f4 from rfl), bd (show Q_Done 1000 f4 = some ([(2, 3), (1, 2)], 0) by decide +kernel), bd (show G_four 1000 [] = some f4 from rfl)]
  rw [bd (show Q_Who 1000 f4 3 = some ([0, 1], 0) by unfold Q_Who; rw [who4]; decide +kernel)]
  rw [bd (show G_two 1000 = some ⟨0, 0, 1, 2, 2⟩ from rfl), bd (show G_four 1000 [⟨0, 0, 1, 2, 2⟩] = some f5 from rfl), bd (show Q_Ask 1000 f5 0 = some ([2, 3], 0) by decide +kernel), bd (show G_four 1000 [] = some f4 from rfl)]
  rw [bd (show Q_Next 1000 f4 0 = some (0, 3, 0) by decide +kernel), bd (show G_wrong 1000 = some ⟨1, 0, 1, 2, 2⟩ from rfl), bd (show G_four 1000 [⟨1, 0, 1, 2, 2⟩] = some f6 from rfl), bd (show Q_First 1000 f6 = some (2, 0) by decide +kernel)]
  rw [bd (show G_wrong 1000 = some ⟨1, 0, 1, 2, 2⟩ from rfl), bd (show G_four 1000 [⟨1, 0, 1, 2, 2⟩] = some f6 from rfl), bd (show Q_Leave 1000 f6 = some ([0], 0) by decide +kernel)]
  decide +kernel
end Go.Proofs.Ythogdgkafaclaaa
end
section
namespace Go.Proofs.Ythogdgkafaclaaa
/-- The places of the bits that are set. -/
def bitsL (s : Nat) : List Int := ((List.range 8).filter fun x => s / 2 ^ x % 2 == 1).map fun x : Nat => (x : Int)
def lexB : List Int → List Int → Bool
  | a :: as1, b :: bs1 => if a = b then lexB as1 bs1 else decide (a < b)
  | [], _ :: _ => true
  | _, [] => false
/-- Shorter, or as1 long and before it. -/
def sh (a b : List Int) : Bool := decide (a.length < b.length) || (a.length == b.length && lexB a b)
theorem lexB_irr : ∀ a : List Int, lexB a a = false
  | [] => rfl
  | a :: as1 => by rw [lexB, if_pos rfl, lexB_irr as1]
theorem lexB_trans : ∀ a b c : List Int, lexB a b = true → lexB b c = true → lexB a c = true
  | [], b, [], h1, h2 => by cases b <;> cases h1; cases h2
  | [], b, c :: cs1, h1, h2 => rfl
  | a :: as1, [], c, h1, h2 => by cases h1
  | a :: as1, b :: bs1, [], h1, h2 => by cases h2
  | a :: as1, b :: bs1, c :: cs1, h1, h2 => by
    rw [lexB] at h1 h2 ⊢
    by_cases e : a = b
    · subst e
      rw [if_pos rfl] at h1
      by_cases e2 : a = c
      · subst e2
        rw [if_pos rfl] at h2 ⊢
        exact lexB_trans as1 bs1 cs1 h1 h2
      · rw [if_neg e2] at h2 ⊢; exact h2
    · rw [if_neg e, decide_eq_true_eq] at h1
      by_cases e2 : b = c
      · subst e2
        rw [if_neg e, decide_eq_true_eq]; exact h1
      · rw [if_neg e2, decide_eq_true_eq] at h2
        rw [if_neg (by omega), decide_eq_true_eq]; omega
theorem sh_iff {a b : List Int} : sh a b = true ↔ a.length < b.length ∨ (a.length = b.length ∧ lexB a b = true) := by simp [sh]
theorem sh_irr (a : List Int) : sh a a = false := by
  rw [Bool.eq_false_iff]; intro h
  rcases sh_iff.1 h with h | h
  · omega
  · rw [lexB_irr] at h; cases h.2
theorem sh_trans {a b c : List Int} (h : sh a b = true) (g : sh b c = true) : sh a c = true := by
  rw [sh_iff] at h g ⊢
  rcases h with h | h <;> rcases g with g | g
  · exact .inl (by omega)
  · exact .inl (by omega)
  · exact .inl (by omega)
  · exact .inr ⟨by omega, lexB_trans _ _ _ h.2 g.2⟩
theorem cand_in : ∀ n : Nat, n < 8 → ∀ s : Nat, s < 2 ^ n → bitsL s ∈ candAll (n : Int) (n + 1) := by decide +kernel
theorem cand_of : ∀ n : Nat, n < 8 → ∀ l ∈ candAll (n : Int) (n + 1), ∃ s : Nat, s < 2 ^ n ∧ bitsL s = l := by decide +kernel
theorem cand_sorted : ∀ n : Nat, n < 8 → (candAll (n : Int) (n + 1)).Pairwise fun a b => sh a b = true := by decide +kernel
theorem bits_len : ∀ s : Nat, (bitsL s).length ≤ 8 := fun s => by
  unfold bitsL
  rw [List.length_map]
  exact Nat.le_trans (List.length_filter_le _ _) (by simp)
theorem fnd_spec {p : List Int → Bool} : ∀ {L : List (List Int)} (cur : List Int), L.any p = true → ∃ A x B, L = A ++ x :: B ∧ p x = true ∧ (∀ a ∈ A, p a = false) ∧ fnd p cur L = x
  | [], cur, h => by cases h
  | c :: L, cur, h => by
    by_cases hc : p c = true
    · exact ⟨[], c, L, rfl, hc, by simp, by rw [fnd, if_pos hc]⟩
    · have hc' : p c = false := by simpa using hc
      rw [List.any_cons, hc', Bool.false_or] at h
      obtain ⟨A, x, B, h1, h2, h3, h4⟩ := fnd_spec c h
      refine ⟨c :: A, x, B, by rw [h1]; rfl, h2, ?_, by rw [fnd, if_neg hc]; exact h4⟩
      intro a ha
      rcases List.mem_cons.1 ha with rfl | ha
      · exact hc'
      · exact h3 a ha
/-- In turn, the reference takes a shorter list that passes. -/
def pickF (p : List Int → Bool) (cur : List Int) (s : Nat) : List Int := if (sh (bitsL s) cur && p (bitsL s)) = true then bitsL s else cur
theorem pick_inv {n : Nat} (hn : n < 8) {p : List Int → Bool} {c0 : List Int} (h0 : c0 ∈ candAll (n : Int) (n + 1)) (hp : p c0 = true) : ∀ k, k ≤ 2 ^ n →
    (List.range k).foldl (pickF p) c0 ∈ candAll (n : Int) (n + 1) ∧ p ((List.range k).foldl (pickF p) c0) = true ∧ ∀ s, s < k → p (bitsL s) = true → sh (bitsL s) ((List.range k).foldl (pickF p) c0) = false
  | 0, _ => ⟨h0, hp, fun s hs => by omega⟩
  | k + 1, hk => by
    obtain ⟨h1, h2, h3⟩ := pick_inv hn h0 hp k (by omega)
    rw [range_fold]
    generalize (List.range k).foldl (pickF p) c0 = cur at h1 h2 h3
    unfold pickF
    by_cases hc : (sh (bitsL k) cur && p (bitsL k)) = true
    · rw [if_pos hc]
      rw [Bool.and_eq_true] at hc
      refine ⟨cand_in n hn k (by omega), hc.2, fun s hs hps => ?_⟩
      rcases Nat.lt_or_ge s k with h | h
      · rw [Bool.eq_false_iff]
        intro hh
        have := h3 s h hps
        rw [sh_trans hh hc.1] at this
        cases this
      · obtain rfl : s = k := by omega
        exact sh_irr _
    · rw [if_neg hc]
      refine ⟨h1, h2, fun s hs hps => ?_⟩
      rcases Nat.lt_or_ge s k with h | h
      · exact h3 s h hps
      · obtain rfl : s = k := by omega
        rw [hps, Bool.and_true] at hc
        simpa using hc
theorem pick_fnd {n : Nat} (hn : n < 8) {p : List Int → Bool} {c0 : List Int} (h0 : c0 ∈ candAll (n : Int) (n + 1)) (hp : p c0 = true) (cur : List Int) : (List.range (2 ^ n)).foldl (pickF p) c0 = fnd p cur (candAll (n : Int) (n + 1)) := by
  obtain ⟨h1, h2, h3⟩ := pick_inv hn h0 hp (2 ^ n) (Nat.le_refl _)
  obtain ⟨A, x, B, g1, g2, g3, g4⟩ := fnd_spec (p := p) cur (List.any_eq_true.2 ⟨c0, h0, hp⟩)
  rw [g4]
  generalize (List.range (2 ^ n)).foldl (pickF p) c0 = c at h1 h2 h3
  have hs := cand_sorted n hn
  have hx : x ∈ candAll (n : Int) (n + 1) := by rw [g1]; simp
  obtain ⟨s, hs1, rfl⟩ := cand_of n hn x hx
  have h4 := h3 s hs1 g2
  rw [g1] at h1 hs
  rw [List.pairwise_append] at hs
  rcases List.mem_append.1 h1 with h | h
  · rw [g3 c h] at h2; cases h2
  · rcases List.mem_cons.1 h with h | h
    · exact h
    · have := (List.pairwise_cons.1 hs.2.1).1 c h
      rw [this] at h4; cases h4
theorem shortest_pick {n : Nat} (hn : n < 8) {p : List Int → Bool} {c0 : List Int} (h0 : c0 ∈ candAll (n : Int) (n + 1)) (hp : p c0 = true) : shortestL (n : Int) p = (List.range (2 ^ n)).foldl (pickF p) c0 := by
  unfold shortestL
  rw [show ((n : Int) + 1).toNat = n + 1 by omega, pick_fnd hn h0 hp]
end Go.Proofs.Ythogdgkafaclaaa
end
section
namespace Go.Proofs.Ythogdgkafaclaaa
theorem gd0 {l : List Int} {i : Nat} (h : i < l.length) : l[i] = l.getD i 0 := by simp [List.getElem?_eq_getElem h]
theorem mem_bits {s : Nat} {r : Int} : r ∈ bitsL s ↔ ∃ x : Nat, x < 8 ∧ s / 2 ^ x % 2 = 1 ∧ r = x := by
  unfold bitsL
  simp only [List.mem_map, List.mem_filter, List.mem_range, beq_iff_eq]
  constructor
  · rintro ⟨x, ⟨h1, h2⟩, rfl⟩; exact ⟨x, h1, h2, rfl⟩
  · rintro ⟨x, h1, h2, rfl⟩; exact ⟨x, ⟨h1, h2⟩, rfl⟩
end Go.Proofs.Ythogdgkafaclaaa
end
section
namespace Go.Proofs.Ythogdgkafaclaaa
theorem allAt_iff (l out : List Int) : ∀ (ts : List Tly) (i : Nat), allAt l out i ts = true ↔ ∀ k t, ts[k]? = some t → okAt l out (i + k) t = true
  | [], i => by simp [allAt]
  | s :: ts, i => by
    rw [allAt, Bool.and_eq_true, allAt_iff l out ts (i + 1)]
    constructor
    · rintro ⟨h1, h2⟩ k t hk
      cases k with
      | zero =>
        obtain rfl : s = t := by simpa using hk
        simpa using h1
      | succ k =>
        have := h2 k t (by simpa using hk)
        rw [show i + (k + 1) = i + 1 + k by omega]; exact this
    · intro h
      exact ⟨by simpa using h 0 s rfl, fun k t hk => by
        have := h (k + 1) t (by simpa using hk)
        rw [show i + 1 + k = i + (k + 1) by omega]; exact this⟩
/-- A tally is right in a list. -/
def rt (l : List Int) (t : Tly) : Bool := inR (tdid l t) t.lo t.hi
theorem mem_truthsO {f : Fld} (hc : check f = 0) {out a : List Int} : a ∈ truths f out ↔ ∃ l, alw f l = true ∧ (∀ (k : Nat) t, f.ts[k]? = some t → out.contains (k : Int) = true ∨ rt l t = true) ∧ a = pad l := by
  obtain ⟨hr, hw, _, ht, _⟩ := check_ok hc
  have key : ∀ l : List Int, (l.length : Int) = f.rows → (rightB f (pad l) out = true ↔ inR ((part l (-1) 0 l.length : Nat) : Int) f.lo f.hi = true ∧ ∀ (k : Nat) t, f.ts[k]? = some t → out.contains (k : Int) = true ∨ rt l t = true) := by
    intro l hl
    unfold rightB
    rw [Bool.and_eq_true, allAt_iff]
    have h3 : (pad l).take f.rows.toNat = l.take l.length := by
      unfold pad; rw [show f.rows.toNat = l.length by omega, List.take_append_of_le_length (Nat.le_refl _)]
    rw [h3]
    have hp : part l (-1) 0 l.length = cnt (-1) (l.take l.length) := by unfold part; rw [List.drop_zero]
    rw [hp, and_comm]
    refine and_congr Iff.rfl ⟨fun h k t hk => ?_, fun h k t hk => ?_⟩
    · have h2 := h k t hk
      have h4 := talOk_bd (ht t (List.mem_of_getElem? hk))
      unfold okAt at h2
      rw [Bool.or_eq_true, didK_part _ _ ⟨h4.2.1.1, h4.2.1.2.1⟩, tdid_pad f l t hl (ht t (List.mem_of_getElem? hk)), Nat.zero_add] at h2
      exact h2
    · have h2 := h k t hk
      have h4 := talOk_bd (ht t (List.mem_of_getElem? hk))
      unfold okAt
      rw [Bool.or_eq_true, didK_part _ _ ⟨h4.2.1.1, h4.2.1.2.1⟩, tdid_pad f l t hl (ht t (List.mem_of_getElem? hk)), Nat.zero_add]
      exact h2
  have hall : ∀ l : List Int, l.all (okWho f) = true ↔ ∀ x ∈ l, x ∈ whos f.wd := fun l => by
    rw [List.all_eq_true]
    refine ⟨fun h x hx => ?_, fun h x hx => ?_⟩
    · have := h x hx
      rw [okWho_in f x hw.1, inR_iff] at this
      exact (mem_whos (by omega)).2 (by omega)
    · rw [okWho_in f x hw.1, inR_iff]
      have := (mem_whos (by omega)).1 (h x hx)
      omega
  unfold truths
  rw [mem_enum]
  constructor
  · rintro ⟨t, h1, h2, h3, h4⟩
    rw [List.nil_append] at h3 h4
    have hl : (t.length : Int) = f.rows := by omega
    obtain ⟨h5, h6⟩ := (key t hl).1 h3
    refine ⟨t, ?_, h6, h4⟩
    unfold alw
    rw [(hall t).2 h2, h5]
    simp [hl]
  · rintro ⟨l, h1, h2, rfl⟩
    simp only [alw, Bool.and_eq_true, decide_eq_true_eq] at h1
    refine ⟨l, by omega, (hall l).1 h1.1, ?_, by simp⟩
    rw [List.nil_append]
    exact (key l h1.2.1).2 ⟨h1.2.2, h2⟩
theorem truths_ne {f : Fld} (hc : check f = 0) {out : List Int} : truths f out ≠ [] ↔ ∃ l, alw f l = true ∧ ∀ (k : Nat) t, f.ts[k]? = some t → out.contains (k : Int) = true ∨ rt l t = true := by
  constructor
  · intro h
    obtain ⟨a, ha⟩ := List.exists_mem_of_ne_nil _ h
    obtain ⟨l, h1, h2, _⟩ := (mem_truthsO hc).1 ha
    exact ⟨l, h1, h2⟩
  · rintro ⟨l, h1, h2⟩ e
    have := (mem_truthsO hc (out := out) (a := pad l)).2 ⟨l, h1, h2, rfl⟩
    rw [e] at this
    cases this
/-- The field with other tallies. -/
theorem check_sub {f : Fld} (hc : check f = 0) {ts : List Tly} (h5 : ts.length ≤ 5) (ht : ∀ t ∈ ts, talOk f t = true) : check { f with ts := ts } = 0 := by
  obtain ⟨hr, hw, h6, ht2, hl, hm⟩ := check_ok hc
  unfold check
  rw [if_neg, if_neg, if_neg]
  · show ¬ 2500 < many f; omega
  · simp only [bad, Bool.or_eq_true, decide_eq_true_eq, Bool.not_eq_true', not_or, Bool.not_eq_false, List.all_eq_true]
    exact ⟨by omega, by omega, hl, ht⟩
  · simp only [big, Bool.or_eq_true, decide_eq_true_eq, not_or]
    omega
/-- Some list is allowed. -/
theorem alw_some {f : Fld} (hc : check f = 0) : ∃ l, alw f l = true := by
  obtain ⟨hr, hw, h6, ht2, hl, hm⟩ := check_ok hc
  simp only [rngOk, Bool.and_eq_true, decide_eq_true_eq] at hl
  refine ⟨List.replicate f.lo.toNat (-1) ++ List.replicate (f.rows - f.lo).toNat 0, ?_⟩
  have h1 : part (List.replicate f.lo.toNat (-1) ++ List.replicate (f.rows - f.lo).toNat 0) (-1) 0 (List.replicate f.lo.toNat (-1 : Int) ++ List.replicate (f.rows - f.lo).toNat 0).length = f.lo.toNat := by
    unfold part cnt
    rw [List.drop_zero, List.take_length, List.countP_append, List.countP_replicate, List.countP_replicate]
    simp
  unfold alw
  rw [h1]
  simp only [Bool.and_eq_true, decide_eq_true_eq, List.all_eq_true, inR_iff, List.length_append, List.length_replicate]
  refine ⟨fun x hx => ?_, by omega, by omega⟩
  rw [okWho_in f x hw.1, inR_iff]
  rcases List.mem_append.1 hx with h | h
  · have := (List.mem_replicate.1 h).2; omega
  · have := (List.mem_replicate.1 h).2; omega
theorem shortest_spec {n : Nat} (hn : n < 8) {p : List Int → Bool} {s0 : Nat} (h0 : s0 < 2 ^ n) (hp : p (bitsL s0) = true) :
    ∃ s, s < 2 ^ n ∧ shortestL (n : Int) p = bitsL s ∧ p (bitsL s) = true ∧ ∀ s', s' < 2 ^ n → p (bitsL s') = true → sh (bitsL s') (bitsL s) = false := by
  rw [shortest_pick hn (cand_in n hn s0 h0) hp]
  obtain ⟨h1, h2, h3⟩ := pick_inv hn (cand_in n hn s0 h0) hp (2 ^ n) (Nat.le_refl _)
  obtain ⟨s, hs, he⟩ := cand_of n hn _ h1
  refine ⟨s, hs, he.symm, ?_, fun s' hs' hp' => ?_⟩
  · rw [he]; exact h2
  · rw [he]; exact h3 s' hs' hp'
theorem sh_len {a b : List Int} (h : sh a b = false) : b.length ≤ a.length := by
  rw [Bool.eq_false_iff] at h
  refine Decidable.byContradiction fun hh => h (sh_iff.2 (.inl (by omega)))
theorem bits_has {s x : Nat} (hx : x < 8) : (bitsL s).contains (x : Int) = (s / 2 ^ x % 2 == 1) := by
  rw [Bool.eq_iff_iff, List.contains_iff_mem, mem_bits, beq_iff_eq]
  constructor
  · rintro ⟨y, hy, h, e⟩
    obtain rfl : x = y := by omega
    exact h
  · intro h; exact ⟨x, hx, h, rfl⟩
end Go.Proofs.Ythogdgkafaclaaa
end
section
namespace Go.Proofs.Ythogdgkafaclaaa
/-- By so many questions c can be known of what is in S; g says what is answered. -/
def Qn (c : List Int → Int) (g : List Int → Nat → Int) (R : Nat) : Nat → (List Int → Prop) → Prop
  | 0, S => ∀ a b, S a → S b → c a = c b
  | m + 1, S => (∀ a b, S a → S b → c a = c b) ∨ ∃ r, r < R ∧ ∀ v, Qn c g R m (fun a => S a ∧ g a r = v)
section
variable {c : List Int → Int} {g : List Int → Nat → Int} {R : Nat} {S S' : List Int → Prop}
theorem Qn_all (hc : ∀ a b, S a → S b → (∀ r, r < R → g a r = g b r) → c a = c b) : Qn c g R R S := by
  have key : ∀ (k : Nat), k ≤ R → ∀ (S : List Int → Prop), (∀ a b, S a → S b → (∀ r, r < R → g a r = g b r) → c a = c b) → (∀ a b, S a → S b → ∀ r, k ≤ r → r < R → g a r = g b r) → Qn c g R k S := by
    intro k
    induction k with
    | zero => exact fun _ S h1 h2 a b ha hb => h1 a b ha hb fun r hr => h2 a b ha hb r (Nat.zero_le _) hr
    | succ k ih =>
      intro hk S h1 h2
      refine .inr ⟨k, by omega, fun v => ih (by omega) _ (fun a b ha hb => h1 a b ha.1 hb.1) fun a b ha hb r hr1 hr2 => ?_⟩
      rcases Nat.lt_or_ge k r with h | h
      · exact h2 a b ha.1 hb.1 r h hr2
      · obtain rfl : r = k := by omega
        rw [ha.2, hb.2]
  exact key R (Nat.le_refl _) S hc fun a b _ _ r h1 h2 => by omega
end
end Go.Proofs.Ythogdgkafaclaaa
end
section
namespace Go.Proofs.Ythogdgkafaclaaa
theorem tb (s i : Nat) : (s / 2 ^ i % 2 == 1) = s.testBit i := by rw [Nat.testBit_eq_decide_div_mod_eq]; rfl
/-- All lists, by their numbers. -/
def lists (f : Fld) : List (List Int) := (List.range (many f).toNat).map fun i : Nat => nthL (f.wd + 1) f.rows.toNat (i : Int)
/-- There is a truth without some tallies. -/
def posB (f : Fld) (out : List Int) : Bool := decide (truths f out ≠ [])
theorem posB_iff {f : Fld} (hc : check f = 0) {s : Nat} : posB f (bitsL s) = true ↔ ∃ l, alw f l = true ∧ ∀ (i : Nat) t, f.ts[i]? = some t → s.testBit i = true ∨ rt l t = true := by
  obtain ⟨hr, hw, h5, _⟩ := check_ok hc
  unfold posB
  rw [decide_eq_true_eq, truths_ne hc]
  refine exists_congr fun l => and_congr Iff.rfl ?_
  refine forall_congr' fun i => forall_congr' fun t => ⟨fun h hi => ?_, fun h hi => ?_⟩
  · obtain ⟨hlt, _⟩ := List.getElem?_eq_some_iff.1 hi
    have := h hi
    rw [bits_has (by omega), tb] at this; exact this
  · obtain ⟨hlt, _⟩ := List.getElem?_eq_some_iff.1 hi
    rw [bits_has (by omega), tb]; exact h hi
theorem posB_full {f : Fld} (hc : check f = 0) : posB f (bitsL (2 ^ f.ts.length - 1)) = true := by
  rw [posB_iff hc]
  obtain ⟨l, hl⟩ := alw_some hc
  refine ⟨l, hl, fun i t hi => ?_⟩
  obtain ⟨hlt, _⟩ := List.getElem?_eq_some_iff.1 hi
  exact .inl (by rw [Nat.testBit_two_pow_sub_one, dt hlt])
/-- The smallest set. -/
def leaveL (f : Fld) : List Int := shortestL (f.ts.length : Int) (posB f)
theorem leave_spec {f : Fld} (hc : check f = 0) : ∃ s, s < 2 ^ f.ts.length ∧ leaveL f = bitsL s ∧ posB f (bitsL s) = true ∧ ∀ s', s' < 2 ^ f.ts.length → posB f (bitsL s') = true → sh (bitsL s') (bitsL s) = false := by
  obtain ⟨hr, hw, h5, _⟩ := check_ok hc
  have h2 : 1 ≤ 2 ^ f.ts.length := Nat.one_le_two_pow
  exact shortest_spec (by omega) (s0 := 2 ^ f.ts.length - 1) (by omega) (posB_full hc)
theorem leaveL_len {f : Fld} (hc : check f = 0) : (leaveL f).length ≤ 8 := by
  obtain ⟨s, _, e, _⟩ := leave_spec hc
  rw [e]; exact bits_len s
theorem q_Leave (K : Nat) (f : Fld) : Q_Leave K f = some (if check f = 0 then (leaveL f, 0) else ([], check f)) := rfl
end Go.Proofs.Ythogdgkafaclaaa
end
section
namespace Go.Proofs.Ythogdgkafaclaaa
/-- The reference's lists: their numbers, and what they say. -/
abbrev cR (who : Int) : List Int → Int := fun a => ((part a who 0 a.length : Nat) : Int)
abbrev gR : List Int → Nat → Int := fun a r => a.getD r 0
section
variable {f : Fld} {T : List (List Int)} {who : Int}
/-- What the lists at hand are. -/
def OkT (f : Fld) (T : List (List Int)) : Prop := T.length ≤ 250 ∧ ∀ a ∈ T, (a.length : Int) = f.rows ∧ ∀ r, r < f.rows.toNat → -1 ≤ a.getD r 0 ∧ a.getD r 0 ≤ f.wd - 1
theorem cR_ext {a b : List Int} (ha : (a.length : Int) = f.rows) (hb : (b.length : Int) = f.rows) (h : ∀ r, r < f.rows.toNat → gR a r = gR b r) : cR who a = cR who b := by
  have : a = b := by
    refine List.ext_getElem (by omega) fun i h1 h2 => ?_
    rw [gd0 h1, gd0 h2]; exact h i (by omega)
  rw [this]
theorem OkT.all (h : OkT f T) : Qn (cR who) gR f.rows.toNat f.rows.toNat (· ∈ T) := Qn_all fun a b ha hb hh => cR_ext (h.2 a ha).1 (h.2 b hb).1 hh
end
end Go.Proofs.Ythogdgkafaclaaa
end
section
namespace Go.Proofs.Ythogdgkafaclaaa
theorem g_ready (f : Fld) : G_ready 1000 f = some (thin f && check f == 0) := by
  unfold G_ready
  rw [bd (g_Thin (Nat.le_refl _))]
  cases thin f with
  | false => rfl
  | true => rw [ct rfl, bd (g_fault (Nat.le_refl _))]; rfl
theorem cv8 {β : Type} {g : Unit → Option β} {x : Int} (h : 0 ≤ x ∧ x < 256) : (cvO .i64 x).bind g = g () := bd (by
  have : ∀ x : Nat, x < 256 → cvO .i64 (x : Int) = some () := by decide +kernel
  have h2 := this x.toNat (by omega)
  rwa [show ((x.toNat : Nat) : Int) = x by omega] at h2)
theorem refs_nil {f : Fld} (hc : check f = 0) : sureE f = if refs f = [] then 11 else 0 := by unfold sureE; rw [if_neg (by simp [hc])]
end Go.Proofs.Ythogdgkafaclaaa
end
section
namespace Go.Proofs.Ythogdgkafaclaaa
/-- The error of Done. -/
theorem q_Done (K : Nat) (f : Fld) : Q_Done K f = some (if sureE f = 0 then (donesTo f (truths f []) f.wd.toNat, 0) else ([], sureE f)) := by unfold Q_Done; rw [askE_true]
end Go.Proofs.Ythogdgkafaclaaa
end
section
namespace Go.Proofs.Ythogdgkafaclaaa
theorem mod_nat {x m : Int} (hm : 0 < m) : ∃ k : Nat, x % m = k ∧ (k : Int) < m := by
  have h1 := Int.emod_nonneg x (show m ≠ 0 by omega)
  have h2 := Int.emod_lt_of_pos x hm
  exact ⟨(x % m).toNat, by omega, by omega⟩
/-- Both ends are reached. -/
theorem didB_ends {f : Fld} (hc : check f = 0) (hn : refs f ≠ []) (who : Int) : (∃ a ∈ refs f, cR who a = (didB (refs f) who).1) ∧ (∃ a ∈ refs f, cR who a = (didB (refs f) who).2) ∧ ∀ a ∈ refs f, (didB (refs f) who).1 ≤ cR who a ∧ cR who a ≤ (didB (refs f) who).2 := by
  obtain ⟨hr, hw, _⟩ := check_ok hc
  obtain ⟨q1, q2, q3, q4, q5⟩ := foldl_mm (fun a => ((part a who 0 a.length : Nat) : Int)) (refs f) (1099511627776, -1099511627776)
  have hd : didB (refs f) who = (refs f).foldl (fun r a => (min r.1 ((part a who 0 a.length : Nat) : Int), max r.2 ((part a who 0 a.length : Nat) : Int))) (1099511627776, -1099511627776) := rfl
  rw [← hd] at q1 q2 q3 q4 q5
  obtain ⟨l0, hl0⟩ := List.exists_mem_of_ne_nil _ hn
  have b0 : ((part l0 who 0 l0.length : Nat) : Int) ≤ 7 := by
    have h1 := part_le l0 who 0 l0.length
    have h2 := (tru_alw ((mem_refs hc).1 hl0)).2.1
    omega
  have m0 := q3 l0 hl0
  refine ⟨?_, ?_, q3⟩
  · rcases q4 with h | ⟨a, ha, h⟩
    · simp only [] at h m0; omega
    · exact ⟨a, ha, h.symm⟩
  · rcases q5 with h | ⟨a, ha, h⟩
    · simp only [] at h m0; omega
    · exact ⟨a, ha, h.symm⟩
end Go.Proofs.Ythogdgkafaclaaa
end
section
namespace Go.Proofs.Ythogdgkafaclaaa
theorem tru_iff {f : Fld} {l : List Int} : tru f l = true ↔ alw f l = true ∧ ∀ t ∈ f.ts, rt l t = true := by
  unfold tru rt
  rw [Bool.and_eq_true, List.all_eq_true]
/-- Nothing need be left out where there is a truth. -/
theorem leave_nil {f : Fld} (hc : check f = 0) {l : List Int} (h : tru f l = true) : leaveL f = [] := by
  obtain ⟨s, hs, e, hp, hmin⟩ := leave_spec hc
  rw [tru_iff] at h
  have h0 : posB f (bitsL 0) = true := by
    rw [posB_iff hc]
    exact ⟨l, h.1, fun i t hi => .inr (h.2 t (List.mem_of_getElem? hi))⟩
  have := sh_len (hmin 0 Nat.one_le_two_pow h0)
  rw [e]
  have e0 : (bitsL 0).length = 0 := by decide
  exact List.eq_nil_of_length_eq_zero (by omega)
theorem alw_iff {f : Fld} (hw : 1 ≤ f.wd) {l : List Int} : alw f l = true ↔ (∀ x ∈ l, -1 ≤ x ∧ x ≤ f.wd - 1) ∧ (l.length : Int) = f.rows ∧ f.lo ≤ (part l (-1) 0 l.length : Nat) ∧ ((part l (-1) 0 l.length : Nat) : Int) ≤ f.hi := by
  unfold alw
  rw [Bool.and_eq_true, Bool.and_eq_true, decide_eq_true_eq, inR_iff, List.all_eq_true]
  refine and_congr ⟨fun h x hx => ?_, fun h x hx => ?_⟩ Iff.rfl
  · have := h x hx
    rwa [okWho_in f x hw, inR_iff] at this
  · rw [okWho_in f x hw, inR_iff]; exact h x hx
end Go.Proofs.Ythogdgkafaclaaa
end
section
namespace Go.Proofs.Ythogdgkafaclaaa
section
variable {f x : Fld} (hf : check f = 0) (hx : check x = 0)
include hf hx
theorem done_in (hn : refs x ≠ []) (hs : ∀ l ∈ refs x, l ∈ refs f) (who : Int) : (didB (refs f) who).1 ≤ (didB (refs x) who).1 ∧ (didB (refs x) who).2 ≤ (didB (refs f) who).2 := by
  obtain ⟨l0, hl0⟩ := List.exists_mem_of_ne_nil _ hn
  have hnf : refs f ≠ [] := List.ne_nil_of_mem (hs _ hl0)
  obtain ⟨⟨a1, ha1, e1⟩, ⟨a2, ha2, e2⟩, _⟩ := didB_ends hx hn who
  obtain ⟨_, _, h3⟩ := didB_ends hf hnf who
  have g1 := h3 _ (hs _ ha1)
  have g2 := h3 _ (hs _ ha2)
  exact ⟨by rw [← e1]; exact g1.1, by rw [← e2]; exact g2.2⟩
end
/-- The second one asks for less. -/
structure Wk (f x : Fld) : Prop where
  rows : x.rows = f.rows
  wd : x.wd = f.wd
  len : x.ts.length = f.ts.length
  al : ∀ l, alw f l = true → alw x l = true
  rts : ∀ (i : Nat) t', x.ts[i]? = some t' → ∃ t, f.ts[i]? = some t ∧ ∀ l : List Int, (l.length : Int) = f.rows → rt l t = true → rt l t' = true
section
variable {f x : Fld} (hf : check f = 0) (hx : check x = 0) (h : Wk f x)
include hf hx h
theorem leave_wk : (leaveL x).length ≤ (leaveL f).length := by
  obtain ⟨s, hs1, hs2, hs3, hs4⟩ := leave_spec hf
  obtain ⟨t, ht1, ht2, ht3, ht4⟩ := leave_spec hx
  rw [hs2, ht2]
  rw [h.len] at ht4
  refine sh_len (ht4 s hs1 ?_)
  rw [posB_iff hf] at hs3
  rw [posB_iff hx]
  obtain ⟨l, h1, h2⟩ := hs3
  have hl : (l.length : Int) = f.rows := by
    obtain ⟨hr, hw, _⟩ := check_ok hf
    exact ((alw_iff hw.1).1 h1).2.1
  refine ⟨l, h.al l h1, fun i t' hi => ?_⟩
  obtain ⟨t, hi2, h3⟩ := h.rts i t' hi
  exact (h2 i t hi2).imp id (h3 l hl)
theorem refs_wk : ∀ l ∈ refs f, l ∈ refs x := fun l hl => by
  rw [mem_refs hf, tru_iff] at hl
  rw [mem_refs hx, tru_iff]
  have hl2 : (l.length : Int) = f.rows := by
    obtain ⟨hr, hw, _⟩ := check_ok hf
    exact ((alw_iff hw.1).1 hl.1).2.1
  refine ⟨h.al l hl.1, fun t' ht' => ?_⟩
  obtain ⟨i, hi⟩ := List.mem_iff_getElem?.1 ht'
  obtain ⟨t, hi2, h3⟩ := h.rts i t' hi
  exact h3 l hl2 (hl.2 t (List.mem_of_getElem? hi2))
end
/-- Where there is a truth nothing need be left out, and the other way round. -/
theorem leave_zero {f : Fld} (hc : check f = 0) : (leaveL f).length = 0 ↔ refs f ≠ [] := by
  constructor
  · intro h
    obtain ⟨s, hs, e, hp, _⟩ := leave_spec hc
    rw [← e, List.eq_nil_of_length_eq_zero h] at hp
    unfold posB at hp
    rw [decide_eq_true_eq] at hp
    exact fun e2 => hp ((truths_nil hc).2 e2)
  · intro h
    obtain ⟨l, hl⟩ := List.exists_mem_of_ne_nil _ h
    rw [leave_nil hc ((mem_refs hc).1 hl)]; rfl
end Go.Proofs.Ythogdgkafaclaaa
end
section
namespace Go.Proofs.Ythogdgkafaclaaa
theorem g_inside {a b : Int × Int} : G_inside 1000 a b = some (decide (b.1 ≤ a.1) && decide (a.2 ≤ b.2)) := by
  unfold G_inside
  cases decide (b.1 ≤ a.1) <;> rfl
theorem dones_get {f : Fld} (hc : check f = 0) (hn : refs f ≠ []) {i : Nat} (h : i < (donesTo f (truths f []) f.wd.toNat).length) : (donesTo f (truths f []) f.wd.toNat)[i] = didB (refs f) (i : Int) := by
  rw [← doneOf_didB hc hn]; exact donesTo_get ..
end Go.Proofs.Ythogdgkafaclaaa
end
section
namespace Go.Proofs.Ythogdgkafaclaaa
theorem mod_bd {x m : Int} (hm : 0 < m) : 0 ≤ x % m ∧ x % m < m := ⟨Int.emod_nonneg x (by omega), Int.emod_lt_of_pos x hm⟩
end Go.Proofs.Ythogdgkafaclaaa
end
section
set_option linter.unusedVariables false
set_option linter.unusedSimpArgs false
namespace Go.Proofs.Ythogdgkafaclaaa
open Go.RowKit
def G_WeedWider_L71 (K_ : Nat) (r61 : (List (Int × Int)) × Int) (r65 : (List (Int × Int)) × Int) : Nat → Int → Option ((Bool) ⊕ (Unit))
  | 0, _ => none
  | m_ + 1, s71_18 => cond (decide (s71_18 < (r61.1.length : Int))) ((idx r61.1 s71_18).bind fun x74 => (idx r65.1 s71_18).bind fun x75 => (G_inside K_ x74 x75).bind fun r76 => cond (!r76) (some (.inl false)) ((i64 (s71_18 + 1)).bind fun _ => G_WeedWider_L71 K_ r61 r65 m_ (s71_18 + 1))) (some (.inr ()))
def G_WeedWider_L128 (K_ : Nat) (r118 : (List (Int × Int)) × Int) (r122 : (List (Int × Int)) × Int) : Nat → Int → Option ((Bool) ⊕ (Unit))
  | 0, _ => none
  | m_ + 1, s128_18 => cond (decide (s128_18 < (r118.1.length : Int))) ((idx r118.1 s128_18).bind fun x131 => (idx r122.1 s128_18).bind fun x132 => (G_inside K_ x131 x132).bind fun r133 => cond (!r133) (some (.inl false)) ((i64 (s128_18 + 1)).bind fun _ => G_WeedWider_L128 K_ r118 r122 m_ (s128_18 + 1))) (some (.inr ()))
def G_WeedWider (K_ : Nat) (p0 : Fld) (p1 : Int) (p2 : Int) : Option (Bool) :=
  (G_ready K_ p0).bind fun r2 => cond (!r2) ((ifo (G_awake K_ = some true)).bind fun _ => some (true)) ((ifo (((([] : List Tly).length + p0.ts.length : Nat) : Int) ≤ 140737488355328 / 40)).bind fun _ => (cvO .i64 p1).bind fun _ => (i64 (((([] : List Tly) ++ p0.ts).length : Int) + 1)).bind fun _ => (rem p1 (((([] : List Tly) ++ p0.ts).length : Int) + 1)).bind fun _ => cond (decide (0 < (p1 % (((([] : List Tly) ++ p0.ts).length : Int) + 1)))) ((i64 ((p1 % (((([] : List Tly) ++ p0.ts).length : Int) + 1)) - 1)).bind fun _ => (idx (([] : List Tly) ++ p0.ts) ((p1 % (((([] : List Tly) ++ p0.ts).length : Int) + 1)) - 1)).bind fun x21 => (cvO .i64 p2).bind fun _ => (rem p2 (3 : Int)).bind fun _ => (i64 (x21.lo - (p2 % 3))).bind fun _ => (cvO .i64 p2).bind fun _ => (quo p2 (3 : Int)).bind fun _ => (i64 (p2 / 3)).bind fun _ => (rem (p2 / 3) (3 : Int)).bind fun _ => (i64 (x21.hi + ((p2 / 3) % 3))).bind fun _ => (G_Field K_ p0).bind fun r45 => (Q_Leave K_ r45).bind fun r47 => (G_Field K_ (⟨p0.rows, p0.wd, p0.lo, p0.hi, ((([] : List Tly) ++ p0.ts).set ((p1 % (((([] : List Tly) ++ p0.ts).length : Int) + 1)) - 1).toNat (⟨x21.who, x21.fr, x21.to, max (0 : Int) (x21.lo - (p2 % 3)), x21.hi⟩ : Tly)).set ((p1 % (((([] : List Tly) ++ p0.ts).length : Int) + 1)) - 1).toNat (⟨x21.who, x21.fr, x21.to, max (0 : Int) (x21.lo - (p2 % 3)), min p0.rows (x21.hi + ((p2 / 3) % 3))⟩ : Tly)⟩ : Fld)).bind fun r49 => (Q_Leave K_ r49).bind fun r51 => cond (r47.2 != 0) (some (false)) (cond (r51.2 != 0) (some (false)) (cond (decide ((r47.1.length : Int) < (r51.1.length : Int))) (some (false)) (cond (decide (0 < (r47.1.length : Int))) ((ifo (G_awake K_ = some true)).bind fun _ => some (true)) ((G_Field K_ p0).bind fun r59 => (Q_Done K_ r59).bind fun r61 => (G_Field K_ (⟨p0.rows, p0.wd, p0.lo, p0.hi, ((([] : List Tly) ++ p0.ts).set ((p1 % (((([] : List Tly) ++ p0.ts).length : Int) + 1)) - 1).toNat (⟨x21.who, x21.fr, x21.to, max (0 : Int) (x21.lo - (p2 % 3)), x21.hi⟩ : Tly)).set ((p1 % (((([] : List Tly) ++ p0.ts).length : Int) + 1)) - 1).toNat (⟨x21.who, x21.fr, x21.to, max (0 : Int) (x21.lo - (p2 % 3)), min p0.rows (x21.hi + ((p2 / 3) % 3))⟩ : Tly)⟩ : Fld)).bind fun r63 => (Q_Done K_ r63).bind fun r65 => cond (r61.2 != 0) (some (false)) (cond (r65.2 != 0) (some (false)) (cond ((r61.1.length : Int) != p0.wd) (some (false)) (cond ((r65.1.length : Int) != (r61.1.length : Int)) (some (false)) ((G_WeedWider_L71 K_ r61 r65 K_ (0 : Int)).bind fun z => Sum.elim (fun q71 => some (q71)) (fun q71 => (ifo (G_awake K_ = some true)).bind fun _ => some (true)) z))))))))) ((cvO .i64 p2).bind fun _ => (rem p2 (3 : Int)).bind fun _ => (i64 (p0.lo - (p2 % 3))).bind fun _ => (cvO .i64 p2).bind fun _ => (quo p2 (3 : Int)).bind fun _ => (i64 (p2 / 3)).bind fun _ => (rem (p2 / 3) (3 : Int)).bind fun _ => (i64 (p0.hi + ((p2 / 3) % 3))).bind fun _ => (G_Field K_ p0).bind fun r102 => (Q_Leave K_ r102).bind fun r104 => (G_Field K_ (⟨p0.rows, p0.wd, max (0 : Int) (p0.lo - (p2 % 3)), min p0.rows (p0.hi + ((p2 / 3) % 3)), ([] : List Tly) ++ p0.ts⟩ : Fld)).bind fun r106 => (Q_Leave K_ r106).bind fun r108 => cond (r104.2 != 0) (some (false)) (cond (r108.2 != 0) (some (false)) (cond (decide ((r104.1.length : Int) < (r108.1.length : Int))) (some (false)) (cond (decide (0 < (r104.1.length : Int))) ((ifo (G_awake K_ = some true)).bind fun _ => some (true)) ((G_Field K_ p0).bind fun r116 => (Q_Done K_ r116).bind fun r118 => (G_Field K_ (⟨p0.rows, p0.wd, max (0 : Int) (p0.lo - (p2 % 3)), min p0.rows (p0.hi + ((p2 / 3) % 3)), ([] : List Tly) ++ p0.ts⟩ : Fld)).bind fun r120 => (Q_Done K_ r120).bind fun r122 => cond (r118.2 != 0) (some (false)) (cond (r122.2 != 0) (some (false)) (cond ((r118.1.length : Int) != p0.wd) (some (false)) (cond ((r122.1.length : Int) != (r118.1.length : Int)) (some (false)) ((G_WeedWider_L128 K_ r118 r122 K_ (0 : Int)).bind fun z => Sum.elim (fun q128 => some (q128)) (fun q128 => (ifo (G_awake K_ = some true)).bind fun _ => some (true)) z))))))))))
end Go.Proofs.Ythogdgkafaclaaa
end
section
namespace Go.Proofs.Ythogdgkafaclaaa
theorem l_Wider71 {A B : List (Int × Int)} {s t : Int} (hl : A.length = B.length) (hA : A.length ≤ 900) (h : ∀ i (h1 : i < A.length) (h2 : i < B.length), B[i].1 ≤ A[i].1 ∧ A[i].2 ≤ B[i].2) : ∀ (n m i : Nat), A.length = i + n → n < m → G_WeedWider_L71 1000 (A, s) (B, t) m (i : Int) = some (.inr ())
  | n, 0, i, _, hm => by omega
  | 0, m + 1, i, hn, hm => by
    unfold G_WeedWider_L71
    rw [cf (df (by simp only []; omega))]
  | n + 1, m + 1, i, hn, hm => by
    have e : ((i : Int) + 1) = ((i + 1 : Nat) : Int) := by omega
    have h1 : i < A.length := by omega
    have h2 : i < B.length := by omega
    unfold G_WeedWider_L71
    simp only []
    rw [ct (dt (by omega)), idxb h1, idxb h2, bd g_inside, dt (h i h1 h2).1, dt (h i h1 h2).2, Bool.and_true, nt, i64b (by omega) (by omega), e]
    exact l_Wider71 hl hA h n m (i + 1) (by omega) (by omega)
theorem l_Wider128 {A B : List (Int × Int)} {s t : Int} (hl : A.length = B.length) (hA : A.length ≤ 900) (h : ∀ i (h1 : i < A.length) (h2 : i < B.length), B[i].1 ≤ A[i].1 ∧ A[i].2 ≤ B[i].2) : ∀ (n m i : Nat), A.length = i + n → n < m → G_WeedWider_L128 1000 (A, s) (B, t) m (i : Int) = some (.inr ())
  | n, 0, i, _, hm => by omega
  | 0, m + 1, i, hn, hm => by
    unfold G_WeedWider_L128
    rw [cf (df (by simp only []; omega))]
  | n + 1, m + 1, i, hn, hm => by
    have e : ((i : Int) + 1) = ((i + 1 : Nat) : Int) := by omega
    have h1 : i < A.length := by omega
    have h2 : i < B.length := by omega
    unfold G_WeedWider_L128
    simp only []
    rw [ct (dt (by omega)), idxb h1, idxb h2, bd g_inside, dt (h i h1 h2).1, dt (h i h1 h2).2, Bool.and_true, nt, i64b (by omega) (by omega), e]
    exact l_Wider128 hl hA h n m (i + 1) (by omega) (by omega)
/-- What is so of the bounds of both. -/
theorem wider_key {f x : Fld} (hc : check f = 0) (hcx : check x = 0) (h : Wk f x) (hn : refs f ≠ []) : refs x ≠ [] ∧ (donesTo f (truths f []) f.wd.toNat).length = (donesTo x (truths x []) x.wd.toNat).length ∧ (∀ i (h1 : i < (donesTo f (truths f []) f.wd.toNat).length) (h2 : i < (donesTo x (truths x []) x.wd.toNat).length),
    (donesTo x (truths x []) x.wd.toNat)[i].1 ≤ (donesTo f (truths f []) f.wd.toNat)[i].1 ∧ (donesTo f (truths f []) f.wd.toNat)[i].2 ≤ (donesTo x (truths x []) x.wd.toNat)[i].2) := by
  have hsub := refs_wk hc hcx h
  have hnx : refs x ≠ [] := by
    obtain ⟨l, hl⟩ := List.exists_mem_of_ne_nil _ hn
    exact List.ne_nil_of_mem (hsub l hl)
  refine ⟨hnx, by rw [donesTo_len, donesTo_len, h.wd], fun i h1 h2 => ?_⟩
  rw [dones_get hc hn h1, dones_get hcx hnx h2]
  exact done_in hcx hc hn hsub _
theorem in_wk {n lo hi R p q : Int} (hn : 0 ≤ n ∧ n ≤ R) (h : inR n lo hi = true) (hp : 0 ≤ p) (hq : 0 ≤ q) : inR n (max 0 (lo - p)) (min R (hi + q)) = true := by
  rw [inR_iff] at *; omega
theorem rng_wk {f : Fld} {lo hi p q : Int} (h : rngOk f lo hi = true) (hp : 0 ≤ p) (hq : 0 ≤ q) : rngOk f (max 0 (lo - p)) (min f.rows (hi + q)) = true := by
  simp only [rngOk, Bool.and_eq_true, decide_eq_true_eq] at *; omega
theorem part_lenle (l : List Int) (who : Int) (fr n : Nat) : part l who fr n ≤ l.length := by
  unfold part
  refine Nat.le_trans (cnt_le _ _) ?_
  simp; omega
/-- A wider Left. -/
theorem wk_left {f : Fld} (hc : check f = 0) {p q : Int} (hp : 0 ≤ p) (hq : 0 ≤ q) : check { f with lo := max 0 (f.lo - p), hi := min f.rows (f.hi + q) } = 0 ∧ Wk f { f with lo := max 0 (f.lo - p), hi := min f.rows (f.hi + q) } := by
  obtain ⟨hr, hw, h6, ht2, hl, hm⟩ := check_ok hc
  constructor
  · unfold check
    rw [if_neg, if_neg, if_neg]
    · show ¬ 2500 < many f; omega
    · simp only [bad, Bool.or_eq_true, decide_eq_true_eq, Bool.not_eq_true', not_or, Bool.not_eq_false, List.all_eq_true]
      exact ⟨by omega, by omega, rng_wk hl hp hq, ht2⟩
    · simp only [big, Bool.or_eq_true, decide_eq_true_eq, not_or]
      omega
  · refine ⟨rfl, rfl, rfl, fun l h => ?_, fun i t' h => ⟨t', h, fun _ _ h => h⟩⟩
    unfold alw at *
    simp only [Bool.and_eq_true, decide_eq_true_eq] at h ⊢
    refine ⟨h.1, h.2.1, in_wk ⟨by omega, ?_⟩ h.2.2 hp hq⟩
    have := part_lenle l (-1) 0 l.length
    omega
/-- A wider Count. -/
theorem wk_count {f : Fld} (hc : check f = 0) {p q : Int} (hp : 0 ≤ p) (hq : 0 ≤ q) {k : Nat} (hk : k < f.ts.length) :
    check { f with ts := f.ts.set k { f.ts[k] with lo := max 0 (f.ts[k].lo - p), hi := min f.rows (f.ts[k].hi + q) } } = 0 ∧ Wk f { f with ts := f.ts.set k { f.ts[k] with lo := max 0 (f.ts[k].lo - p), hi := min f.rows (f.ts[k].hi + q) } } := by
  obtain ⟨hr, hw, h6, ht2, hl, hm⟩ := check_ok hc
  constructor
  · refine check_sub hc (by rw [List.length_set]; exact h6) fun t ht => ?_
    rcases List.mem_or_eq_of_mem_set ht with h | rfl
    · exact ht2 t h
    · have h := ht2 f.ts[k] (List.getElem_mem hk)
      unfold talOk at h ⊢
      rw [Bool.and_eq_true] at h ⊢
      exact ⟨h.1, rng_wk h.2 hp hq⟩
  · refine ⟨rfl, rfl, by rw [List.length_set], fun l h => h, fun i t' h => ?_⟩
    by_cases hik : k = i
    · subst hik
      have e : t' = { f.ts[k] with lo := max 0 (f.ts[k].lo - p), hi := min f.rows (f.ts[k].hi + q) } := by
        have := h
        rw [List.getElem?_set_self hk] at this
        exact (Option.some.inj this).symm
      refine ⟨f.ts[k], List.getElem?_eq_getElem hk, fun l hll hr' => ?_⟩
      subst e
      unfold rt at *
      refine in_wk ⟨?_, ?_⟩ hr' hp hq
      · show 0 ≤ tdid l f.ts[k]
        unfold tdid; omega
      · show tdid l f.ts[k] ≤ f.rows
        have := part_lenle l f.ts[k].who f.ts[k].fr.toNat (f.ts[k].to + 1 - f.ts[k].fr).toNat
        unfold tdid; omega
    · have h2 : f.ts[i]? = some t' := by
        have := h
        rwa [List.getElem?_set_ne hik] at this
      exact ⟨t', h2, fun _ _ h => h⟩
theorem weedWider_plain (f : Fld) (w b : Int) (hsz : f.ts.length * 40 ≤ 140737488351232) (hw0 : 0 ≤ w ∧ w < 256) (hb0 : 0 ≤ b ∧ b < 256) : G_WeedWider 1000 f w b = some true := by
  unfold G_WeedWider
  rw [bd (g_ready f)]
  cases hrd : (thin f && check f == 0) with
  | false => rw [nf, ifob awake_1000]
  | true =>
    rw [Bool.and_eq_true, beq_iff_eq] at hrd
    obtain ⟨ht, hc⟩ := hrd
    obtain ⟨hr, hw, h5, ht2, hl, hm⟩ := check_ok hc
    have hp := mod_bd (x := b) (m := 3) (by omega)
    have hq := mod_bd (x := b / 3) (m := 3) (by omega)
    have hb3 : 0 ≤ b / 3 ∧ b / 3 < 256 := by omega
    have hF := g_Field (K := 1000) (f := f) (Nat.le_refl _) (thin_len ht)
    have hl8 := leaveL_len hc
    rw [nt, List.nil_append, ifob (by simp only [List.length_nil]; omega), cv8 hw0, i64b (by omega) (by omega), remb hw0.1 (by omega)]
    obtain ⟨k, hk, hkl⟩ := mod_nat (x := w) (m := (f.ts.length : Int) + 1) (by omega)
    rw [hk]
    simp only [rngOk, Bool.and_eq_true, decide_eq_true_eq] at hl
    cases k with
    | zero =>
      obtain ⟨hcx, hwk⟩ := wk_left hc hp.1 hq.1
      obtain ⟨x, hx⟩ : ∃ x, x = ({ f with lo := max 0 (f.lo - b % 3), hi := min f.rows (f.hi + b / 3 % 3) } : Fld) := ⟨_, rfl⟩
      rw [← hx] at hcx hwk
      have hX := g_Field (K := 1000) (f := x) (Nat.le_refl _) (by rw [hwk.len]; exact thin_len ht)
      have hl8x := leaveL_len hcx
      have hle := leave_wk hc hcx hwk
      rw [cf (df (by simp)), cv8 hb0, remb hb0.1 (by omega), i64b (by omega) (by omega), cv8 hb0, quob hb0.1 (by omega), i64b (by omega) (by omega), remb hb3.1 (by omega), i64b (by omega) (by omega), bd hF, bd (q_Leave 1000 f), if_pos hc, ← hx, bd hX, bd (q_Leave 1000 x), if_pos hcx]
      simp only []
      rw [cf (by decide), cf (by decide), cf (df (by omega))]
      by_cases h0 : 0 < ((leaveL f).length : Int)
      · rw [ct (dt h0), ifob awake_1000]
      · have hn : refs f ≠ [] := (leave_zero hc).1 (by omega)
        obtain ⟨hnx, e1, e2⟩ := wider_key hc hcx hwk hn
        have hs : sureE f = 0 := by rw [refs_nil hc, if_neg hn]
        have hsx : sureE x = 0 := by rw [refs_nil hcx, if_neg hnx]
        have e3 : ((donesTo f (truths f []) f.wd.toNat).length : Int) = f.wd := by rw [donesTo_len]; omega
        rw [cf (df h0), bd hF, bd (q_Done 1000 f), if_pos hs, bd hX, bd (q_Done 1000 x), if_pos hsx]
        simp only []
        have h128 := l_Wider128 (A := donesTo f (truths f []) f.wd.toNat) (B := donesTo x (truths x []) x.wd.toNat) (s := 0) (t := 0) e1 (by omega) e2 (donesTo f (truths f []) f.wd.toNat).length 1000 0 (by omega) (by omega)
        rw [Int.natCast_zero] at h128
        rw [cf (by decide), cf (by decide), cf (by simp [e3]), cf (by simp [e1]), bd h128, Sum.elim_inr, ifob awake_1000]
    | succ k =>
      have hkl' : k < f.ts.length := by omega
      obtain ⟨hcx, hwk⟩ := wk_count hc hp.1 hq.1 hkl'
      obtain ⟨x, hx⟩ : ∃ x, x = ({ f with ts := f.ts.set k { f.ts[k] with lo := max 0 (f.ts[k].lo - b % 3), hi := min f.rows (f.ts[k].hi + b / 3 % 3) } } : Fld) := ⟨_, rfl⟩
      rw [← hx] at hcx hwk
      have hX := g_Field (K := 1000) (f := x) (Nat.le_refl _) (by rw [hwk.len]; exact thin_len ht)
      have hl8x := leaveL_len hcx
      have hle := leave_wk hc hcx hwk
      have htk := talOk_bd (ht2 f.ts[k] (List.getElem_mem hkl'))
      have hk1 : ((k + 1 : Nat) : Int) - 1 = (k : Int) := by omega
      rw [ct (dt (by omega)), hk1, i64b (by omega) (by omega), idxb hkl', cv8 hb0, remb hb0.1 (by omega), i64b (by omega) (by omega), cv8 hb0, quob hb0.1 (by omega), i64b (by omega) (by omega), remb hb3.1 (by omega), i64b (by omega) (by omega), bd hF, bd (q_Leave 1000 f), if_pos hc, Int.toNat_natCast, List.set_set, ← hx, bd hX, bd (q_Leave 1000 x), if_pos hcx]
      simp only []
      rw [cf (by decide), cf (by decide), cf (df (by omega))]
      by_cases h0 : 0 < ((leaveL f).length : Int)
      · rw [ct (dt h0), ifob awake_1000]
      · have hn : refs f ≠ [] := (leave_zero hc).1 (by omega)
        obtain ⟨hnx, e1, e2⟩ := wider_key hc hcx hwk hn
        have hs : sureE f = 0 := by rw [refs_nil hc, if_neg hn]
        have hsx : sureE x = 0 := by rw [refs_nil hcx, if_neg hnx]
        have e3 : ((donesTo f (truths f []) f.wd.toNat).length : Int) = f.wd := by rw [donesTo_len]; omega
        rw [cf (df h0), bd hF, bd (q_Done 1000 f), if_pos hs, bd hX, bd (q_Done 1000 x), if_pos hsx]
        simp only []
        have h71 := l_Wider71 (A := donesTo f (truths f []) f.wd.toNat) (B := donesTo x (truths x []) x.wd.toNat) (s := 0) (t := 0) e1 (by omega) e2 (donesTo f (truths f []) f.wd.toNat).length 1000 0 (by omega) (by omega)
        rw [Int.natCast_zero] at h71
        rw [cf (by decide), cf (by decide), cf (by simp [e3]), cf (by simp [e1]), bd h71, Sum.elim_inr, ifob awake_1000]
theorem weedWider_true (f : Fld) (w b : Int) (hsz : f.ts.length * 40 ≤ 140737488351232) (hw0 : 0 ≤ w ∧ w < 256) (hb0 : 0 ≤ b ∧ b < 256) : ∃ K, G_WeedWider K f w b = some true := ⟨1000, weedWider_plain f w b hsz hw0 hb0⟩
end Go.Proofs.Ythogdgkafaclaaa
end
section
set_option linter.unusedVariables false
set_option linter.unusedSimpArgs false
namespace Go.Proofs.Ythogdgkafaclaaa
open Go.RowKit
set_option maxRecDepth 100000
open AF
theorem mixedL10 : Try.prog.follows .mixedOrders = true := by kernel_rfl
attribute [local irreducible] Ex1 WL CC CW LV Ret ObOp Agg One Own
theorem a10 (K_ : Nat) (p0 : Fld) (p1 : Int) (p2 : Int) (A0_0 : Option Addr) (c0_0 : Nat) (Z : Nat → Prop) (w : World) (hS0_0 : Sl eTly w Z A0_0 c0_0 p0.ts) (hG : G_WeedWider K_ p0 p1 p2 = some true) :
    Ret Try.prog 10 #[.agg #[I p0.rows, I p0.wd, I p0.lo, I p0.hi, .slice A0_0 p0.ts.length c0_0], .int .u8 p1, .int .u8 p2] w (fun v w' => Ext w w' ∧ v = .bool true) := by
 unfold G_WeedWider at hG
 refine ret_of_cc (N := 150) Try.func10 rfl rfl (by simp) ?_
 intro fr0 ha hdf
 have hp_0 := sl_arg (i := 0) (v := .agg #[I p0.rows, I p0.wd, I p0.lo, I p0.hi, .slice A0_0 p0.ts.length c0_0]) ha rfl
 have hp_1 := sl_arg (i := 1) (v := .int .u8 p1) ha rfl
 have hp_2 := sl_arg (i := 2) (v := .int .u8 p2) ha rfl
 clear ha
 have hp0 := Hp.refl w
 have hS0_0_0 := hS0_0.mv (mv_start w)
 refine cc_seq <| cc_region <| we rfl (fun st => x_box (v := .agg #[I p0.rows, I p0.wd, I p0.lo, I p0.hi, .slice A0_0 p0.ts.length c0_0]) (cs := #[I p0.rows, I p0.wd, I p0.lo, I p0.hi, .slice A0_0 p0.ts.length c0_0]) (ee st hp_0) rfl) ?_
 rintro _ w1 ⟨b1, rfl, nb1⟩
 have hp1 : Hp w [some b1] w1 := hp0.new nb1.gr (Nat.le_of_eq nb1.b_eq.symm) (Nat.lt_of_lt_of_eq (Nat.lt_succ_self _) nb1.sz.symm)
 refine wa rfl (v := .bool false) rfl <| wl_end <| lv_next <| cc_seq <| cc_seq <| cc_region <| wd rfl (fun st => x_loadn (l := [I p0.rows, I p0.wd, I p0.lo, I p0.hi, .slice A0_0 p0.ts.length c0_0]) agg_26 (ee st rfl) nb1.bk rfl rfl) ?_
 have hS0_0_1 : Sl eTly w1 (ZZ Z w.heap.size [some b1]) A0_0 c0_0 p0.ts := (hS0_0_0.mv (mv_new nb1.gr (Nat.le_of_eq nb1.b_eq.symm)))
 replace hG := bind_some hG; obtain ⟨r2, hr2, hG⟩ := hG
 refine we rfl (fun st => x_call0 own_39 (ee st rfl) (am1 (ee st rfl)) (a39 K_ p0 A0_0 c0_0 ZA _ hS0_0_1.all r2 hr2)) ?_
 rintro _ w3 ⟨hx2, rfl⟩
 have hp2 : Hp w [some b1] w3 := hp1.ext hx2
 refine wd rfl (fun st => x_not (ee st rfl)) <| wl_end <| lv_next ?_
 rcases bool_cases (!r2) with hc4 | hc4
 ·replace hG := cond_t hG hc4
  have hc4_5 : r2 = false := by simpa using hc4
  refine cc_cond_t rfl hc4 <| cc_seq <| cc_region ?_
  replace hG := ifo_bind hG; obtain ⟨hw6, hG⟩ := hG
  refine we rfl (fun st => x_call0 own_21 (ee st rfl) am0 (a21 K_ ZA _ hw6)) ?_
  rintro _ w7 ⟨hx6, rfl⟩
  have hp3 : Hp w [some b1] w7 := hp2.ext hx6
  refine wa rfl (v := .bool true) rfl <| wl_end <| lv_next <| cc_ret <| lv_then_ret ?_
  have hr_ := Option.some.inj hG
  refine lv_ret1 rfl rfl ?_
  exact ⟨hp3.fin, congrArg Value.bool hr_⟩
 ·replace hG := cond_f hG hc4
  have hc4_8 : r2 = true := by simpa using hc4
  refine cc_cond_f rfl hc4 <| cc_skip <| lv_next <| cc_seq <| cc_region ?_
  have bk1_2 : Bk w3 b1 26 #[I p0.rows, I p0.wd, I p0.lo, I p0.hi, .slice A0_0 p0.ts.length c0_0] := (nb1.bk.ext hx2)
  refine wd rfl (fun st => x_loadn (l := [I p0.rows, I p0.wd, I p0.lo, I p0.hi, .slice A0_0 p0.ts.length c0_0]) agg_26 (ee st rfl) bk1_2 rfl rfl) <| we rfl (fun st => x_alloc (cs := #[I 0, I 0, I 0, I 0, .slice none 0 0]) zero_26 rfl) ?_
  rintro _ w9 ⟨b9, rfl, nb9⟩
  have hp4 : Hp w [some b9, some b1] w9 := hp2.new nb9.gr (Nat.le_of_eq nb9.b_eq.symm) (Nat.lt_of_lt_of_eq (Nat.lt_succ_self _) nb9.sz.symm)
  refine wl_ex0 rfl rfl (fun st => x_store (n := 5) (l := [I p0.rows, I p0.wd, I p0.lo, I p0.hi, .slice A0_0 p0.ts.length c0_0]) (cs' := #[I p0.rows, I p0.wd, I p0.lo, I p0.hi, .slice A0_0 p0.ts.length c0_0]) (ee st rfl) (ee st rfl) sz_26 nb9.bk rfl rfl (show 0 + 5 ≤ 5 by decide) (one_cells rfl) rfl) ?_
  rintro _ w10 sb10
  have hp5 : Hp w [some b9, some b1] w10 := hp4.gr sb10.gr (hp4.ge 0 rfl)
  refine wl_end <| lv_next <| cc_seq <| cc_region <| we rfl (fun st => x_buildSlice (e := 68) (vs := #[]) (cs := #[]) pm0 (by kernel_rfl)) ?_
  rintro _ w11 ⟨b11, rfl, nb11⟩
  have hp6 : Hp w [some b11, some b9, some b1] w11 := hp5.new nb11.gr (Nat.le_of_eq nb11.b_eq.symm) (Nat.lt_of_lt_of_eq (Nat.lt_succ_self _) nb11.sz.symm)
  refine wd rfl (fun st => x_fieldAddr (ee st rfl) (fz_26_3 _ _)) ?_
  have bk1_6 : Bk w11 b1 26 #[I p0.rows, I p0.wd, I p0.lo, I p0.hi, .slice A0_0 p0.ts.length c0_0] := (((bk1_2.ext nb9.gr).gr sb10.gr (hp4.ne 1 0 rfl rfl rfl)).ext nb11.gr)
  refine wd rfl (fun st => x_load1 (v := .slice A0_0 p0.ts.length c0_0) one_24 (ee st rfl) bk1_6 rfl) ?_
  have hR12 : OwnR eTly 68 w w11 (ZZ Z w.heap.size [some b11, some b9, some b1]) (some ⟨b11, 0, none⟩) 0 ([] : List Tly) := row_bk (css := []) nb11.bk (hp6.ge 0 rfl _ rfl) trivial rfl (by simp [maxLen])
  replace hG := ifo_bind hG; obtain ⟨hf13, hG⟩ := hG
  have hS0_0_6 : Sl eTly w11 (ZZ Z w.heap.size [some b11, some b9, some b1]) A0_0 c0_0 p0.ts := ((((hS0_0_1.mv (mv_ext hx2)).mv (mv_new nb9.gr (Nat.le_of_eq nb9.b_eq.symm))).mv (hp4.mv0 sb10.gr 0 rfl)).mv (mv_new nb11.gr (Nat.le_of_eq nb11.b_eq.symm)))
  refine we rfl (fun st => x_appS (ys := p0.ts) Try.underlying24 info_68 rfl rfl (by decide) (ee st rfl) rfl (ee st rfl) hR12 hS0_0_6 (by have := hf13; simp only [maxLen]; omega) (by have := hf13; omega) hp6.bl.size) ?_
  rintro _ w14 ⟨A14, c14, rfl, hg14, hy14, hO14⟩
  have hp7 : Hp w [ob A14, some b9, some b1] w14 := hp6.row hg14 0 rfl (hp6.ge 0 rfl) hy14
  have hR14 : OwnR eTly 68 w w14 (ZZ Z w.heap.size [ob A14, some b9, some b1]) A14 c14 (([] : List Tly) ++ p0.ts) := ownR_of hO14 (hp6.mvr hg14 0 rfl (fun k hk => (hy14 k hk).1))
  refine wd rfl (fun st => x_fieldAddr (ee st rfl) (fz_26_3 _ _)) ?_
  have bk9_7 : Bk w14 b9 26 #[I p0.rows, I p0.wd, I p0.lo, I p0.hi, .slice A0_0 p0.ts.length c0_0] := ((sb10.bk.ext nb11.gr).gr hg14 (hp6.ne 1 0 rfl rfl rfl))
  refine wl_ex0 rfl rfl (fun st => x_store (n := 1) (l := [.slice A14 ((([] : List Tly) ++ p0.ts).length) c14]) (cs' := #[I p0.rows, I p0.wd, I p0.lo, I p0.hi, .slice A14 ((([] : List Tly) ++ p0.ts).length) c14]) (ee st rfl) (ee st rfl) sz_24 bk9_7 rfl rfl (show 4 + 1 ≤ 5 by decide) (one_cells rfl) rfl) ?_
  rintro _ w15 sb15
  have hp8 : Hp w [ob A14, some b9, some b1] w15 := hp7.gr sb15.gr (hp7.ge 1 rfl)
  refine wl_end <| lv_next <| cc_seq <| cc_region <| wd rfl (fun st => x_fieldAddr (ee st rfl) (fz_26_2 _ _)) <| wa rfl (v := pt b9 2) rfl <| wl_end <| lv_next <| cc_seq <| cc_seq <| cc_region <| wm rfl (v := .int .u8 p1) hp_1 ?_
  replace hG := cvO_bind hG; obtain ⟨hf16, hG⟩ := hG
  refine wd rfl (fun st => x_conv (k := .i64) sm_5 Try.underlying3 (ee st rfl) hf16) <| wd rfl (fun st => x_fieldAddr (ee st rfl) (fz_26_3 _ _)) <| wd rfl (fun st => x_load1 (v := .slice A14 ((([] : List Tly) ++ p0.ts).length) c14) one_24 (ee st rfl) sb15.bk rfl) <| wd rfl (fun st => x_len Try.underlying24 (ee st rfl)) ?_
  replace hG := i64_bind hG; obtain ⟨hf17, hG⟩ := hG
  refine wd rfl (fun st => x_add (ee st rfl) (ee st rfl) hf17) ?_
  replace hG := rem_bind hG; obtain ⟨hf18, hG⟩ := hG
  refine wd rfl (fun st => x_rem (ee st rfl) (ee st rfl) hf18.1 hf18.2) <| wa rfl (v := I (p1 % (((([] : List Tly) ++ p0.ts).length : Int) + 1))) rfl <| wl_end <| lv_next <| cc_seq <| cc_region <| wm rfl (v := I (p1 % (((([] : List Tly) ++ p0.ts).length : Int) + 1))) rfl <| wd rfl (fun st => x_gtr (ee st rfl) (ee st rfl)) <| wl_end <| lv_next ?_
  rcases bool_cases (decide (0 < (p1 % (((([] : List Tly) ++ p0.ts).length : Int) + 1)))) with hc19 | hc19
  ·replace hG := cond_t hG hc19
   refine cc_cond_t rfl hc19 <| cc_region <| wd rfl (fun st => x_fieldAddr (ee st rfl) (fz_26_3 _ _)) <| wd rfl (fun st => x_load1 (v := .slice A14 ((([] : List Tly) ++ p0.ts).length) c14) one_24 (ee st rfl) sb15.bk rfl) <| wm rfl (v := I (p1 % (((([] : List Tly) ++ p0.ts).length : Int) + 1))) rfl ?_
   replace hG := i64_bind hG; obtain ⟨hf20, hG⟩ := hG
   refine wd rfl (fun st => x_sub (ee st rfl) (ee st rfl) hf20) ?_
   replace hG := idx_bind hG; obtain ⟨i21, x21, hi21, hx21, hl21, hG⟩ := hG
   have hR14_8 : OwnR eTly 68 w w15 (ZZ Z w.heap.size [ob A14, some b9, some b1]) A14 c14 (([] : List Tly) ++ p0.ts) := (hR14.gr sb15.gr (fun k hk => hp7.ne 0 1 rfl (congrArg some hk) rfl) (hp7.mv0 sb15.gr 1 rfl))
   obtain ⟨b21, o21, _, hA21, rfl, hz21⟩ := Sl.elem hR14_8.all (by decide) hx21
   refine wd rfl (fun st => x_indexAddrN (k := i21) Try.underlying24 sz_68 (ee st rfl) hA21 (ee st rfl) hi21 hl21) <| wd rfl (fun st => x_fieldAddr (ee st rfl) (fa_68_3 _ _ _)) <| wa rfl (v := pt b21 (o21 + i21 * 5 + 3)) rfl <| wl_end <| lv_next <| cc_seq ?_
   replace hG := cvO_bind hG; obtain ⟨hf31, hG⟩ := hG
   replace hG := rem_bind hG; obtain ⟨hf32, hG⟩ := hG
   replace hG := i64_bind hG; obtain ⟨hf33, hG⟩ := hG
   have bk1_8 : Bk w15 b1 26 #[I p0.rows, I p0.wd, I p0.lo, I p0.hi, .slice A0_0 p0.ts.length c0_0] := ((bk1_6.gr hg14 (hp6.ne 2 0 rfl rfl rfl)).gr sb15.gr (hp7.ne 2 1 rfl rfl rfl))
   replace hG := cvO_bind hG; obtain ⟨hf34, hG⟩ := hG
   replace hG := quo_bind hG; obtain ⟨hf35, hG⟩ := hG
   replace hG := i64_bind hG; obtain ⟨hf36, hG⟩ := hG
   replace hG := rem_bind hG; obtain ⟨hf37, hG⟩ := hG
   replace hG := i64_bind hG; obtain ⟨hf38, hG⟩ := hG
   have tn39 : ((p1 % (((([] : List Tly) ++ p0.ts).length : Int) + 1)) - 1).toNat = i21 := by rw [hi21, Int.toNat_natCast]
   refine cc_anyM 26 (fun ph _ w_ => T4 w15 (ob A14) (fun w_ => OwnR eTly 68 w w_ (ZZ Z w.heap.size [ob A14, some b9, some b1]) A14 c14 ((([] : List Tly) ++ p0.ts).set ((p1 % (((([] : List Tly) ++ p0.ts).length : Int) + 1)) - 1).toNat (⟨x21.who, x21.fr, x21.to, max (0 : Int) (x21.lo - (p2 % 3)), x21.hi⟩ : Tly))) ph w_) (fun _ => []) [25] [Kc (pt b21 (o21 + i21 * 5 + 3)), Kc (pt b21 (o21 + i21 * 5 + 3)), Kc (pt b21 (o21 + i21 * 5 + 3)), Kc (pt b21 (o21 + i21 * 5 + 3)), Kc (pt b21 (o21 + i21 * 5 + 3)), Kc (I x21.lo), Kc (.int .u8 p2), Kc (I p2), Kc (I (p2 % 3)), Kc (I (x21.lo - (p2 % 3))), Kc (I (max (0 : Int) (x21.lo - (p2 % 3)))), Kc (pt b1 0), Kc (I p0.rows), Kc (pt b21 (o21 + i21 * 5 + 3)), Kc (pt b21 (o21 + i21 * 5 + 3)), Kc (pt b21 (o21 + i21 * 5 + 4)), Kc (I x21.hi), Kc (.int .u8 p2), Kc (I p2), Kc (I (p2 / 3)), Kc (I ((p2 / 3) % 3)), Kc (I (x21.hi + ((p2 / 3) % 3))), Kc (I (min p0.rows (x21.hi + ((p2 / 3) % 3)))), Kc (pt b21 (o21 + i21 * 5 + 3)), Kc (pt b21 (o21 + i21 * 5 + 3)), Kt] mixedL10 rfl rfl (okD_nil _ _) (fun _ _ _ _ _ h g _ => T4_ext (fun _ _ h g => h.ext g (mv_ext g)) h g) (fun _ => ext_drew _)
       (obsN_cons (od rfl (fun _ => rfl) (fun K => x_move (v := pt b21 (o21 + i21 * 5 + 3)) (es (t := 8) (v := pt b21 (o21 + i21 * 5 + 3)) ((K.out 8 rfl).trans rfl))))
       (obsN_cons (od rfl (fun _ => rfl) (fun K => x_move (v := pt b21 (o21 + i21 * 5 + 3)) (es (t := 8) (v := pt b21 (o21 + i21 * 5 + 3)) ((K.out 8 rfl).trans rfl))))
       (obsN_cons (od rfl (fun _ => rfl) (fun K => x_move (v := pt b21 (o21 + i21 * 5 + 3)) (es (t := 8) (v := pt b21 (o21 + i21 * 5 + 3)) ((K.out 8 rfl).trans rfl))))
       (obsN_cons (od rfl (fun _ => rfl) (fun K => x_nilCheck (es (t := 47) (v := pt b21 (o21 + i21 * 5 + 3)) (K.dep 2 47 rfl rfl))))
       (obsN_cons (od rfl (fun _ => rfl) (fun K => x_fieldAddr (es (t := 48) (v := pt b21 (o21 + i21 * 5 + 3)) (K.dep 3 48 rfl rfl)) (fb_23_0_3 _ _ _)))
       (obsN_cons (od rfl (fun _ => rfl) (fun K => x_load_z (v := I x21.lo) one_3 (es (t := 49) (v := pt b21 (o21 + i21 * 5 + 3)) (K.dep 4 49 rfl rfl)) (hz21.mv (mv_ext (T4_zero K.phT (Nat.le_zero.1 (K.lat 0 25 _ rfl rfl rfl))))) rfl))
       (obsN_cons (od rfl (fun _ => rfl) (fun K => x_move (v := .int .u8 p2) (es (t := 2) (v := .int .u8 p2) ((K.out 2 rfl).trans hp_2))))
       (obsN_cons (od rfl (fun _ => rfl) (fun K => x_conv (k := .i64) sm_5 Try.underlying3 (es (t := 51) (v := .int .u8 p2) (K.dep 6 51 rfl rfl)) hf31))
       (obsN_cons (od rfl (fun _ => rfl) (fun K => x_rem (es (t := 52) (v := I p2) (K.dep 7 52 rfl rfl)) (ec (v := I 3)) hf32.1 hf32.2))
       (obsN_cons (od rfl (fun _ => rfl) (fun K => x_sub (es (t := 50) (v := I x21.lo) (K.dep 5 50 rfl rfl)) (es (t := 53) (v := I (p2 % 3)) (K.dep 8 53 rfl rfl)) hf33))
       (obsN_cons (od rfl (fun _ => rfl) (fun K => x_max (ec (v := I 0)) (es (t := 54) (v := I (x21.lo - (p2 % 3))) (K.dep 9 54 rfl rfl))))
       (obsN_cons (od rfl (fun _ => rfl) (fun K => x_fieldAddr (es (t := 3) (v := pt b1 0) ((K.out 3 rfl).trans rfl)) (fz_26_0 _ _)))
       (obsN_cons (od rfl (fun _ => rfl) (fun K => x_load1 (v := I p0.rows) one_3 (es (t := 56) (v := pt b1 0) (K.dep 11 56 rfl rfl)) (bk1_8.gr (T4_gr K.phT) (hp8.ne 2 0 rfl rfl rfl)) rfl))
       (obsN_cons (od rfl (fun _ => rfl) (fun K => x_move (v := pt b21 (o21 + i21 * 5 + 3)) (es (t := 8) (v := pt b21 (o21 + i21 * 5 + 3)) ((K.out 8 rfl).trans rfl))))
       (obsN_cons (od rfl (fun _ => rfl) (fun K => x_nilCheck (es (t := 58) (v := pt b21 (o21 + i21 * 5 + 3)) (K.dep 13 58 rfl rfl))))
       (obsN_cons (od rfl (fun _ => rfl) (fun K => x_fieldAddr (es (t := 59) (v := pt b21 (o21 + i21 * 5 + 3)) (K.dep 14 59 rfl rfl)) (fb_23_1_3 _ _ _)))
       (obsN_cons (od rfl (fun _ => rfl) (fun K => x_load_z (v := I x21.hi) one_3 (es (t := 60) (v := pt b21 (o21 + i21 * 5 + 4)) (K.dep 15 60 rfl rfl)) (hz21.mv (mv_ext (T4_zero K.phT (Nat.le_zero.1 (K.lat 0 25 _ rfl rfl rfl))))) rfl))
       (obsN_cons (od rfl (fun _ => rfl) (fun K => x_move (v := .int .u8 p2) (es (t := 2) (v := .int .u8 p2) ((K.out 2 rfl).trans hp_2))))
       (obsN_cons (od rfl (fun _ => rfl) (fun K => x_conv (k := .i64) sm_5 Try.underlying3 (es (t := 62) (v := .int .u8 p2) (K.dep 17 62 rfl rfl)) hf34))
       (obsN_cons (od rfl (fun _ => rfl) (fun K => x_quoN (es (t := 63) (v := I p2) (K.dep 18 63 rfl rfl)) (ec (v := I 3)) hf35.1 hf35.2 hf36))
       (obsN_cons (od rfl (fun _ => rfl) (fun K => x_rem (es (t := 64) (v := I (p2 / 3)) (K.dep 19 64 rfl rfl)) (ec (v := I 3)) hf37.1 hf37.2))
       (obsN_cons (od rfl (fun _ => rfl) (fun K => x_add (es (t := 61) (v := I x21.hi) (K.dep 16 61 rfl rfl)) (es (t := 65) (v := I ((p2 / 3) % 3)) (K.dep 20 65 rfl rfl)) hf38))
       (obsN_cons (od rfl (fun _ => rfl) (fun K => x_min (es (t := 57) (v := I p0.rows) (K.dep 12 57 rfl rfl)) (es (t := 66) (v := I (x21.hi + ((p2 / 3) % 3))) (K.dep 21 66 rfl rfl))))
       (obsN_cons (od rfl (fun _ => rfl) (fun K => x_nilCheck (es (t := 45) (v := pt b21 (o21 + i21 * 5 + 3)) (K.dep 0 45 rfl rfl))))
       (obsN_cons (od rfl (fun _ => rfl) (fun K => x_fieldAddr (es (t := 68) (v := pt b21 (o21 + i21 * 5 + 3)) (K.dep 23 68 rfl rfl)) (fb_23_0_3 _ _ _)))
       (obsN_cons (ob_spec rfl rfl (fun a' w' ph K => (x_storeR (n := 1) (k := i21) (off := 3) (z' := (⟨x21.who, x21.fr, x21.to, max (0 : Int) (x21.lo - (p2 % 3)), x21.hi⟩ : Tly)) (l := [I (max (0 : Int) (x21.lo - (p2 % 3)))]) (cs := [I x21.who, I x21.fr, I x21.to, I x21.lo, I x21.hi]) (cs' := [I x21.who, I x21.fr, I x21.to, I (max (0 : Int) (x21.lo - (p2 % 3))), I x21.hi]) (hR14_8.ext (T4_zero K.phT (K.spi 0 rfl)) (mv_ext (T4_zero K.phT (K.spi 0 rfl)))) hx21 hA21 rfl (es (t := 69) (v := pt b21 (o21 + i21 * 5 + 3)) (K.dep 24 69 rfl rfl)) (es (t := 55) (v := I (max (0 : Int) (x21.lo - (p2 % 3)))) (K.dep 10 55 rfl rfl)) sz_3 rfl rfl (fun _ h => h) rfl (show 3 + 1 ≤ 5 by decide) (one_cells rfl) rfl rfl).mono (fun v w'' ⟨hg, hO⟩ => ⟨trivial, skl_of ⟨fun _ _ _ h => h, fun _ _ _ h => h, fun _ _ _ h => h, fun _ _ _ h => h, fun _ _ _ h => h, fun _ _ _ h => h, fun _ _ _ h => h, fun _ _ _ h => h, fun _ _ _ h => h, fun _ _ _ h => h, fun _ _ _ h => h, fun _ _ _ h => h, fun _ _ _ h => h, fun _ _ _ h => h, fun _ _ _ h => h, fun _ _ _ h => h, fun _ _ _ h => h, fun _ _ _ h => h, fun _ _ _ h => h, fun _ _ _ h => h, fun _ _ _ h => h, fun _ _ _ h => h, fun _ _ _ h => h, fun _ _ _ h => h, fun _ _ _ h => h, fun h => absurd rfl h, trivial⟩, T4_up K.phT (K.spi 0 rfl) hg (by rw [show (([] : List Tly) ++ p0.ts).set ((p1 % (((([] : List Tly) ++ p0.ts).length : Int) + 1)) - 1).toNat (⟨x21.who, x21.fr, x21.to, max (0 : Int) (x21.lo - (p2 % 3)), x21.hi⟩ : Tly) = (([] : List Tly) ++ p0.ts).set i21 (⟨x21.who, x21.fr, x21.to, max (0 : Int) (x21.lo - (p2 % 3)), x21.hi⟩ : Tly) from congrArg (fun i_ => (([] : List Tly) ++ p0.ts).set i_ (⟨x21.who, x21.fr, x21.to, max (0 : Int) (x21.lo - (p2 % 3)), x21.hi⟩ : Tly)) tn39]; exact ownR_set hO ((hp8.ext (T4_zero K.phT (K.spi 0 rfl))).mv0 hg 0 rfl))⟩)))
       (obsN_nil _))))))))))))))))))))))))))) ?_
   intro w22
   rintro _ rfl _ rfl _ rfl _ rfl _ rfl _ rfl _ rfl _ rfl _ rfl _ rfl _ rfl _ rfl _ rfl _ rfl _ rfl _ rfl _ rfl _ rfl _ rfl _ rfl _ rfl _ rfl _ rfl _ rfl _ rfl ⟨hga22, hMa22⟩
   have hp9 : Hp w [ob A14, some b9, some b1] w22 := hp8.gr hga22 (hp8.ge 0 rfl)
   have hR40 : OwnR eTly 68 w w22 (ZZ Z w.heap.size [ob A14, some b9, some b1]) A14 c14 ((([] : List Tly) ++ p0.ts).set ((p1 % (((([] : List Tly) ++ p0.ts).length : Int) + 1)) - 1).toNat (⟨x21.who, x21.fr, x21.to, max (0 : Int) (x21.lo - (p2 % 3)), x21.hi⟩ : Tly)) := hMa22
   have hx40 : ((([] : List Tly) ++ p0.ts).set ((p1 % (((([] : List Tly) ++ p0.ts).length : Int) + 1)) - 1).toNat (⟨x21.who, x21.fr, x21.to, max (0 : Int) (x21.lo - (p2 % 3)), x21.hi⟩ : Tly))[i21]? = some (⟨x21.who, x21.fr, x21.to, max (0 : Int) (x21.lo - (p2 % 3)), x21.hi⟩ : Tly) := by rw [show (([] : List Tly) ++ p0.ts).set ((p1 % (((([] : List Tly) ++ p0.ts).length : Int) + 1)) - 1).toNat (⟨x21.who, x21.fr, x21.to, max (0 : Int) (x21.lo - (p2 % 3)), x21.hi⟩ : Tly) = (([] : List Tly) ++ p0.ts).set i21 (⟨x21.who, x21.fr, x21.to, max (0 : Int) (x21.lo - (p2 % 3)), x21.hi⟩ : Tly) from congrArg (fun i_ => (([] : List Tly) ++ p0.ts).set i_ (⟨x21.who, x21.fr, x21.to, max (0 : Int) (x21.lo - (p2 % 3)), x21.hi⟩ : Tly)) tn39]; exact List.getElem?_set_self hl21
   have hl40 : i21 < ((([] : List Tly) ++ p0.ts).set ((p1 % (((([] : List Tly) ++ p0.ts).length : Int) + 1)) - 1).toNat (⟨x21.who, x21.fr, x21.to, max (0 : Int) (x21.lo - (p2 % 3)), x21.hi⟩ : Tly)).length := by rw [List.length_set]; exact hl21
   have bk9_9 : Bk w22 b9 26 #[I p0.rows, I p0.wd, I p0.lo, I p0.hi, .slice A14 ((([] : List Tly) ++ p0.ts).length) c14] := (sb15.bk.gr hga22 (hp8.ne 1 0 rfl rfl rfl))
   have kl41 : Bk w22 b9 26 #[I p0.rows, I p0.wd, I p0.lo, I p0.hi, .slice A14 (((([] : List Tly) ++ p0.ts).set ((p1 % (((([] : List Tly) ++ p0.ts).length : Int) + 1)) - 1).toNat (⟨x21.who, x21.fr, x21.to, max (0 : Int) (x21.lo - (p2 % 3)), x21.hi⟩ : Tly)).length) c14] := by rw [List.length_set]; exact bk9_9
   refine wd rfl (fun st => x_nilCheck (ee st rfl)) <| wd rfl (fun st => x_fieldAddr (ee st rfl) (fb_23_1_3 _ _ _)) <| wl_ex0 rfl rfl (fun st => x_storeR (n := 1) (k := i21) (off := 4) (z' := (⟨x21.who, x21.fr, x21.to, max (0 : Int) (x21.lo - (p2 % 3)), min p0.rows (x21.hi + ((p2 / 3) % 3))⟩ : Tly)) (l := [I (min p0.rows (x21.hi + ((p2 / 3) % 3)))]) (cs := [I x21.who, I x21.fr, I x21.to, I (max (0 : Int) (x21.lo - (p2 % 3))), I x21.hi]) (cs' := [I x21.who, I x21.fr, I x21.to, I (max (0 : Int) (x21.lo - (p2 % 3))), I (min p0.rows (x21.hi + ((p2 / 3) % 3)))]) hR40 hx40 hA21 rfl (ee st rfl) (ee st rfl) sz_3 rfl rfl (fun _ h => h) rfl (show 4 + 1 ≤ 5 by decide) (one_cells rfl) rfl rfl) ?_
   rintro _ w42 ⟨hg42, hO42⟩
   have hp10 : Hp w [ob A14, some b9, some b1] w42 := hp9.gr hg42 (hp9.ge 0 rfl)
   have hR43 : OwnR eTly 68 w w42 (ZZ Z w.heap.size [ob A14, some b9, some b1]) A14 c14 (((([] : List Tly) ++ p0.ts).set ((p1 % (((([] : List Tly) ++ p0.ts).length : Int) + 1)) - 1).toNat (⟨x21.who, x21.fr, x21.to, max (0 : Int) (x21.lo - (p2 % 3)), x21.hi⟩ : Tly)).set ((p1 % (((([] : List Tly) ++ p0.ts).length : Int) + 1)) - 1).toNat (⟨x21.who, x21.fr, x21.to, max (0 : Int) (x21.lo - (p2 % 3)), min p0.rows (x21.hi + ((p2 / 3) % 3))⟩ : Tly)) := by rw [show ((([] : List Tly) ++ p0.ts).set ((p1 % (((([] : List Tly) ++ p0.ts).length : Int) + 1)) - 1).toNat (⟨x21.who, x21.fr, x21.to, max (0 : Int) (x21.lo - (p2 % 3)), x21.hi⟩ : Tly)).set ((p1 % (((([] : List Tly) ++ p0.ts).length : Int) + 1)) - 1).toNat (⟨x21.who, x21.fr, x21.to, max (0 : Int) (x21.lo - (p2 % 3)), min p0.rows (x21.hi + ((p2 / 3) % 3))⟩ : Tly) = ((([] : List Tly) ++ p0.ts).set ((p1 % (((([] : List Tly) ++ p0.ts).length : Int) + 1)) - 1).toNat (⟨x21.who, x21.fr, x21.to, max (0 : Int) (x21.lo - (p2 % 3)), x21.hi⟩ : Tly)).set i21 (⟨x21.who, x21.fr, x21.to, max (0 : Int) (x21.lo - (p2 % 3)), min p0.rows (x21.hi + ((p2 / 3) % 3))⟩ : Tly) from congrArg (fun i_ => ((([] : List Tly) ++ p0.ts).set ((p1 % (((([] : List Tly) ++ p0.ts).length : Int) + 1)) - 1).toNat (⟨x21.who, x21.fr, x21.to, max (0 : Int) (x21.lo - (p2 % 3)), x21.hi⟩ : Tly)).set i_ (⟨x21.who, x21.fr, x21.to, max (0 : Int) (x21.lo - (p2 % 3)), min p0.rows (x21.hi + ((p2 / 3) % 3))⟩ : Tly)) tn39]; exact ownR_set hO42 (hp9.mv0 hg42 0 rfl)
   have hx43 : (((([] : List Tly) ++ p0.ts).set ((p1 % (((([] : List Tly) ++ p0.ts).length : Int) + 1)) - 1).toNat (⟨x21.who, x21.fr, x21.to, max (0 : Int) (x21.lo - (p2 % 3)), x21.hi⟩ : Tly)).set ((p1 % (((([] : List Tly) ++ p0.ts).length : Int) + 1)) - 1).toNat (⟨x21.who, x21.fr, x21.to, max (0 : Int) (x21.lo - (p2 % 3)), min p0.rows (x21.hi + ((p2 / 3) % 3))⟩ : Tly))[i21]? = some (⟨x21.who, x21.fr, x21.to, max (0 : Int) (x21.lo - (p2 % 3)), min p0.rows (x21.hi + ((p2 / 3) % 3))⟩ : Tly) := by rw [show ((([] : List Tly) ++ p0.ts).set ((p1 % (((([] : List Tly) ++ p0.ts).length : Int) + 1)) - 1).toNat (⟨x21.who, x21.fr, x21.to, max (0 : Int) (x21.lo - (p2 % 3)), x21.hi⟩ : Tly)).set ((p1 % (((([] : List Tly) ++ p0.ts).length : Int) + 1)) - 1).toNat (⟨x21.who, x21.fr, x21.to, max (0 : Int) (x21.lo - (p2 % 3)), min p0.rows (x21.hi + ((p2 / 3) % 3))⟩ : Tly) = ((([] : List Tly) ++ p0.ts).set ((p1 % (((([] : List Tly) ++ p0.ts).length : Int) + 1)) - 1).toNat (⟨x21.who, x21.fr, x21.to, max (0 : Int) (x21.lo - (p2 % 3)), x21.hi⟩ : Tly)).set i21 (⟨x21.who, x21.fr, x21.to, max (0 : Int) (x21.lo - (p2 % 3)), min p0.rows (x21.hi + ((p2 / 3) % 3))⟩ : Tly) from congrArg (fun i_ => ((([] : List Tly) ++ p0.ts).set ((p1 % (((([] : List Tly) ++ p0.ts).length : Int) + 1)) - 1).toNat (⟨x21.who, x21.fr, x21.to, max (0 : Int) (x21.lo - (p2 % 3)), x21.hi⟩ : Tly)).set i_ (⟨x21.who, x21.fr, x21.to, max (0 : Int) (x21.lo - (p2 % 3)), min p0.rows (x21.hi + ((p2 / 3) % 3))⟩ : Tly)) tn39]; exact List.getElem?_set_self hl40
   have hl43 : i21 < (((([] : List Tly) ++ p0.ts).set ((p1 % (((([] : List Tly) ++ p0.ts).length : Int) + 1)) - 1).toNat (⟨x21.who, x21.fr, x21.to, max (0 : Int) (x21.lo - (p2 % 3)), x21.hi⟩ : Tly)).set ((p1 % (((([] : List Tly) ++ p0.ts).length : Int) + 1)) - 1).toNat (⟨x21.who, x21.fr, x21.to, max (0 : Int) (x21.lo - (p2 % 3)), min p0.rows (x21.hi + ((p2 / 3) % 3))⟩ : Tly)).length := by rw [List.length_set]; exact hl40
   have bk9_10 : Bk w42 b9 26 #[I p0.rows, I p0.wd, I p0.lo, I p0.hi, .slice A14 (((([] : List Tly) ++ p0.ts).set ((p1 % (((([] : List Tly) ++ p0.ts).length : Int) + 1)) - 1).toNat (⟨x21.who, x21.fr, x21.to, max (0 : Int) (x21.lo - (p2 % 3)), x21.hi⟩ : Tly)).length) c14] := (kl41.gr hg42 (hp9.ne 1 0 rfl rfl rfl))
   have kl44 : Bk w42 b9 26 #[I p0.rows, I p0.wd, I p0.lo, I p0.hi, .slice A14 ((((([] : List Tly) ++ p0.ts).set ((p1 % (((([] : List Tly) ++ p0.ts).length : Int) + 1)) - 1).toNat (⟨x21.who, x21.fr, x21.to, max (0 : Int) (x21.lo - (p2 % 3)), x21.hi⟩ : Tly)).set ((p1 % (((([] : List Tly) ++ p0.ts).length : Int) + 1)) - 1).toNat (⟨x21.who, x21.fr, x21.to, max (0 : Int) (x21.lo - (p2 % 3)), min p0.rows (x21.hi + ((p2 / 3) % 3))⟩ : Tly)).length) c14] := by rw [List.length_set]; exact bk9_10
   refine wl_end <| lv_next <| cc_seq <| cc_region ?_
   have bk1_10 : Bk w42 b1 26 #[I p0.rows, I p0.wd, I p0.lo, I p0.hi, .slice A0_0 p0.ts.length c0_0] := ((bk1_8.gr hga22 (hp8.ne 2 0 rfl rfl rfl)).gr hg42 (hp9.ne 2 0 rfl rfl rfl))
   refine wd rfl (fun st => x_loadn (l := [I p0.rows, I p0.wd, I p0.lo, I p0.hi, .slice A0_0 p0.ts.length c0_0]) agg_26 (ee st rfl) bk1_10 rfl rfl) ?_
   have hS0_0_10 : Sl eTly w42 (ZZ Z w.heap.size [ob A14, some b9, some b1]) A0_0 c0_0 p0.ts := ((((hS0_0_6.mv (hp6.mvr hg14 0 rfl (fun k hk => (hy14 k hk).1))).mv (hp7.mv0 sb15.gr 1 rfl)).mv (hp8.mv0 hga22 0 rfl)).mv (hp9.mv0 hg42 0 rfl))
   replace hG := bind_some hG; obtain ⟨r45, hr45, hG⟩ := hG
   refine we rfl (fun st => x_call0 own_23 (ee st rfl) (am1 (ee st rfl)) (a23 K_ p0 A0_0 c0_0 (ZZ Z w.heap.size [ob A14, some b9, some b1]) _ hS0_0_10 r45 hr45)) ?_
   rintro _ w46 ⟨hx45, ⟨_, rfl, ⟨A45_r0, c45_r0, rfl, hS45_r0⟩⟩⟩
   have hp11 : Hp w [ob A14, some b9, some b1] w46 := hp10.ext hx45
   have hS45_r0 := hS45_r0.mv (hp10.call (Nat.le_refl _))
   replace hG := bind_some hG; obtain ⟨r47, hr47, hG⟩ := hG
   refine we rfl (fun st => x_call0 own_35 (ee st rfl) (am1 (ee st rfl)) (a35 K_ r45 A45_r0 c45_r0 (ZZ Z w.heap.size [ob A14, some b9, some b1]) _ hS45_r0 r47 hr47)) ?_
   rintro _ w48 ⟨hx47, _, _, rfl, ⟨A47_ra, c47_ra, rfl, hS47_ra⟩, rfl⟩
   have hp12 : Hp w [ob A14, some b9, some b1] w48 := hp11.ext hx47
   have hS47_ra := hS47_ra.mv (hp11.call (Nat.le_refl _))
   refine wm rfl (v := .tuple #[.slice A47_ra r47.1.length c47_ra, I r47.2]) rfl <| wd rfl (fun st => x_extract (v := .slice A47_ra r47.1.length c47_ra) (ee st rfl) rfl) <| wd rfl (fun st => x_extract (v := I r47.2) (ee st rfl) rfl) <| wa rfl (v := .slice A47_ra r47.1.length c47_ra) rfl <| wa rfl (v := I r47.2) rfl <| wl_end <| lv_next <| cc_seq <| cc_region ?_
   have bk9_12 : Bk w48 b9 26 #[I p0.rows, I p0.wd, I p0.lo, I p0.hi, .slice A14 ((((([] : List Tly) ++ p0.ts).set ((p1 % (((([] : List Tly) ++ p0.ts).length : Int) + 1)) - 1).toNat (⟨x21.who, x21.fr, x21.to, max (0 : Int) (x21.lo - (p2 % 3)), x21.hi⟩ : Tly)).set ((p1 % (((([] : List Tly) ++ p0.ts).length : Int) + 1)) - 1).toNat (⟨x21.who, x21.fr, x21.to, max (0 : Int) (x21.lo - (p2 % 3)), min p0.rows (x21.hi + ((p2 / 3) % 3))⟩ : Tly)).length) c14] := ((kl44.ext hx45).ext hx47)
   refine wd rfl (fun st => x_loadn (l := [I p0.rows, I p0.wd, I p0.lo, I p0.hi, .slice A14 ((((([] : List Tly) ++ p0.ts).set ((p1 % (((([] : List Tly) ++ p0.ts).length : Int) + 1)) - 1).toNat (⟨x21.who, x21.fr, x21.to, max (0 : Int) (x21.lo - (p2 % 3)), x21.hi⟩ : Tly)).set ((p1 % (((([] : List Tly) ++ p0.ts).length : Int) + 1)) - 1).toNat (⟨x21.who, x21.fr, x21.to, max (0 : Int) (x21.lo - (p2 % 3)), min p0.rows (x21.hi + ((p2 / 3) % 3))⟩ : Tly)).length) c14]) agg_26 (ee st rfl) bk9_12 rfl rfl) ?_
   have hR43_12 : OwnR eTly 68 w w48 (ZZ Z w.heap.size [ob A14, some b9, some b1]) A14 c14 (((([] : List Tly) ++ p0.ts).set ((p1 % (((([] : List Tly) ++ p0.ts).length : Int) + 1)) - 1).toNat (⟨x21.who, x21.fr, x21.to, max (0 : Int) (x21.lo - (p2 % 3)), x21.hi⟩ : Tly)).set ((p1 % (((([] : List Tly) ++ p0.ts).length : Int) + 1)) - 1).toNat (⟨x21.who, x21.fr, x21.to, max (0 : Int) (x21.lo - (p2 % 3)), min p0.rows (x21.hi + ((p2 / 3) % 3))⟩ : Tly)) := ((hR43.ext hx45 (mv_ext hx45)).ext hx47 (mv_ext hx47))
   have hp13 : Hp w [some b9, some b1] w48 := hp12.erase 0
   have hR43_z : Sl eTly w48 (ZZ Z w.heap.size [some b9, some b1]) A14 c14 (((([] : List Tly) ++ p0.ts).set ((p1 % (((([] : List Tly) ++ p0.ts).length : Int) + 1)) - 1).toNat (⟨x21.who, x21.fr, x21.to, max (0 : Int) (x21.lo - (p2 % 3)), x21.hi⟩ : Tly)).set ((p1 % (((([] : List Tly) ++ p0.ts).length : Int) + 1)) - 1).toNat (⟨x21.who, x21.fr, x21.to, max (0 : Int) (x21.lo - (p2 % 3)), min p0.rows (x21.hi + ((p2 / 3) % 3))⟩ : Tly)) := hp12.frz 0 rfl hR43_12
   replace hG := bind_some hG; obtain ⟨r49, hr49, hG⟩ := hG
   refine we rfl (fun st => x_call0 own_23 (ee st rfl) (am1 (ee st rfl)) (a23 K_ (⟨p0.rows, p0.wd, p0.lo, p0.hi, ((([] : List Tly) ++ p0.ts).set ((p1 % (((([] : List Tly) ++ p0.ts).length : Int) + 1)) - 1).toNat (⟨x21.who, x21.fr, x21.to, max (0 : Int) (x21.lo - (p2 % 3)), x21.hi⟩ : Tly)).set ((p1 % (((([] : List Tly) ++ p0.ts).length : Int) + 1)) - 1).toNat (⟨x21.who, x21.fr, x21.to, max (0 : Int) (x21.lo - (p2 % 3)), min p0.rows (x21.hi + ((p2 / 3) % 3))⟩ : Tly)⟩ : Fld) A14 c14 (ZZ Z w.heap.size [some b9, some b1]) _ hR43_z r49 hr49)) ?_
   rintro _ w50 ⟨hx49, ⟨_, rfl, ⟨A49_r0, c49_r0, rfl, hS49_r0⟩⟩⟩
   have hp14 : Hp w [some b9, some b1] w50 := hp13.ext hx49
   have hS49_r0 := hS49_r0.mv (hp13.call (Nat.le_refl _))
   replace hG := bind_some hG; obtain ⟨r51, hr51, hG⟩ := hG
   refine we rfl (fun st => x_call0 own_35 (ee st rfl) (am1 (ee st rfl)) (a35 K_ r49 A49_r0 c49_r0 (ZZ Z w.heap.size [some b9, some b1]) _ hS49_r0 r51 hr51)) ?_
   rintro _ w52 ⟨hx51, _, _, rfl, ⟨A51_ra, c51_ra, rfl, hS51_ra⟩, rfl⟩
   have hp15 : Hp w [some b9, some b1] w52 := hp14.ext hx51
   have hS51_ra := hS51_ra.mv (hp14.call (Nat.le_refl _))
   refine wm rfl (v := .tuple #[.slice A51_ra r51.1.length c51_ra, I r51.2]) rfl <| wd rfl (fun st => x_extract (v := .slice A51_ra r51.1.length c51_ra) (ee st rfl) rfl) <| wd rfl (fun st => x_extract (v := I r51.2) (ee st rfl) rfl) <| wa rfl (v := .slice A51_ra r51.1.length c51_ra) rfl <| wa rfl (v := I r51.2) rfl <| wl_end <| lv_next <| cc_seq <| cc_seq <| cc_region <| wm rfl (v := I r47.2) rfl <| wd rfl (fun st => x_neq (ee st rfl) (ee st rfl)) <| wm rfl (v := .bool (r47.2 != 0)) rfl ?_
   rcases bool_cases (r47.2 != 0) with hc53 | hc53
   ·replace hG := cond_t hG hc53
    exact absurd (Option.some.inj hG) (by decide)
   ·replace hG := cond_f hG hc53
    refine wl_detg rfl rfl (guard_eq rfl hc53) rfl (by decide) (fun st => x_move (v := I r51.2) (ee st rfl)) <| wl_detg rfl rfl (guard_eq rfl hc53) rfl (by decide) (fun st => x_neq (ee st rfl) (ee st rfl)) <| wd rfl (fun st => x_pick_f (v := .bool (r51.2 != 0)) (ee st rfl) hc53 (ee st rfl)) <| wm rfl (v := .bool (r51.2 != 0)) rfl ?_
    rcases bool_cases (r51.2 != 0) with hc54 | hc54
    ·replace hG := cond_t hG hc54
     exact absurd (Option.some.inj hG) (by decide)
    ·replace hG := cond_f hG hc54
     refine wl_detg rfl rfl (guard_eq rfl hc54) rfl (by decide) (fun st => x_move (v := .slice A51_ra r51.1.length c51_ra) (ee st rfl)) <| wl_detg rfl rfl (guard_eq rfl hc54) rfl (by decide) (fun st => x_len Try.underlying43 (ee st rfl)) <| wl_detg rfl rfl (guard_eq rfl hc54) rfl (by decide) (fun st => x_move (v := .slice A47_ra r47.1.length c47_ra) (ee st rfl)) <| wl_detg rfl rfl (guard_eq rfl hc54) rfl (by decide) (fun st => x_len Try.underlying43 (ee st rfl)) <| wl_detg rfl rfl (guard_eq rfl hc54) rfl (by decide) (fun st => x_gtr (ee st rfl) (ee st rfl)) <| wd rfl (fun st => x_pick_f (v := .bool (decide ((r47.1.length : Int) < (r51.1.length : Int)))) (ee st rfl) hc54 (ee st rfl)) <| wl_end <| lv_next ?_
     rcases bool_cases (decide ((r47.1.length : Int) < (r51.1.length : Int))) with hc55 | hc55
     ·replace hG := cond_t hG hc55
      exact absurd (Option.some.inj hG) (by decide)
     ·replace hG := cond_f hG hc55
      refine cc_cond_f rfl hc55 <| cc_skip <| lv_next <| cc_seq <| cc_seq <| cc_region <| wm rfl (v := .slice A47_ra r47.1.length c47_ra) rfl <| wd rfl (fun st => x_len Try.underlying43 (ee st rfl)) <| wd rfl (fun st => x_gtr (ee st rfl) (ee st rfl)) <| wl_end <| lv_next ?_
      rcases bool_cases (decide (0 < (r47.1.length : Int))) with hc56 | hc56
      ·replace hG := cond_t hG hc56
       refine cc_cond_t rfl hc56 <| cc_seq <| cc_region ?_
       replace hG := ifo_bind hG; obtain ⟨hw57, hG⟩ := hG
       refine we rfl (fun st => x_call0 own_21 (ee st rfl) am0 (a21 K_ ZA _ hw57)) ?_
       rintro _ w58 ⟨hx57, rfl⟩
       have hp16 : Hp w [some b9, some b1] w58 := hp15.ext hx57
       refine wa rfl (v := .bool true) rfl <| wl_end <| lv_next <| cc_ret <| lv_then_ret ?_
       have hr_ := Option.some.inj hG
       refine lv_ret1 rfl rfl ?_
       exact ⟨hp16.fin, congrArg Value.bool hr_⟩
      ·replace hG := cond_f hG hc56
       refine cc_cond_f rfl hc56 <| cc_skip <| lv_next <| cc_seq <| cc_region ?_
       have bk1_15 : Bk w52 b1 26 #[I p0.rows, I p0.wd, I p0.lo, I p0.hi, .slice A0_0 p0.ts.length c0_0] := ((((bk1_10.ext hx45).ext hx47).ext hx49).ext hx51)
       refine wd rfl (fun st => x_loadn (l := [I p0.rows, I p0.wd, I p0.lo, I p0.hi, .slice A0_0 p0.ts.length c0_0]) agg_26 (ee st rfl) bk1_15 rfl rfl) ?_
       have hS0_0_15 : Sl eTly w52 (ZZ Z w.heap.size [some b9, some b1]) A0_0 c0_0 p0.ts := (((((hS0_0_10.mv (mv_ext hx45)).mv (mv_ext hx47)).mv (mv_erase 0)).mv (mv_ext hx49)).mv (mv_ext hx51))
       replace hG := bind_some hG; obtain ⟨r59, hr59, hG⟩ := hG
       refine we rfl (fun st => x_call0 own_23 (ee st rfl) (am1 (ee st rfl)) (a23 K_ p0 A0_0 c0_0 (ZZ Z w.heap.size [some b9, some b1]) _ hS0_0_15 r59 hr59)) ?_
       rintro _ w60 ⟨hx59, ⟨_, rfl, ⟨A59_r0, c59_r0, rfl, hS59_r0⟩⟩⟩
       have hp17 : Hp w [some b9, some b1] w60 := hp15.ext hx59
       have hS59_r0 := hS59_r0.mv (hp15.call (Nat.le_refl _))
       replace hG := bind_some hG; obtain ⟨r61, hr61, hG⟩ := hG
       refine we rfl (fun st => x_call0 own_22 (ee st rfl) (am1 (ee st rfl)) (a22 K_ r59 A59_r0 c59_r0 (ZZ Z w.heap.size [some b9, some b1]) _ hS59_r0 r61 hr61)) ?_
       rintro _ w62 ⟨hx61, _, _, rfl, ⟨A61_ra, c61_ra, rfl, hS61_ra⟩, rfl⟩
       have hp18 : Hp w [some b9, some b1] w62 := hp17.ext hx61
       have hS61_ra := hS61_ra.mv (hp17.call (Nat.le_refl _))
       refine wm rfl (v := .tuple #[.slice A61_ra r61.1.length c61_ra, I r61.2]) rfl <| wd rfl (fun st => x_extract (v := .slice A61_ra r61.1.length c61_ra) (ee st rfl) rfl) <| wd rfl (fun st => x_extract (v := I r61.2) (ee st rfl) rfl) <| wa rfl (v := .slice A61_ra r61.1.length c61_ra) rfl <| wa rfl (v := I r61.2) rfl <| wl_end <| lv_next <| cc_seq <| cc_region ?_
       have bk9_18 : Bk w62 b9 26 #[I p0.rows, I p0.wd, I p0.lo, I p0.hi, .slice A14 ((((([] : List Tly) ++ p0.ts).set ((p1 % (((([] : List Tly) ++ p0.ts).length : Int) + 1)) - 1).toNat (⟨x21.who, x21.fr, x21.to, max (0 : Int) (x21.lo - (p2 % 3)), x21.hi⟩ : Tly)).set ((p1 % (((([] : List Tly) ++ p0.ts).length : Int) + 1)) - 1).toNat (⟨x21.who, x21.fr, x21.to, max (0 : Int) (x21.lo - (p2 % 3)), min p0.rows (x21.hi + ((p2 / 3) % 3))⟩ : Tly)).length) c14] := ((((bk9_12.ext hx49).ext hx51).ext hx59).ext hx61)
       refine wd rfl (fun st => x_loadn (l := [I p0.rows, I p0.wd, I p0.lo, I p0.hi, .slice A14 ((((([] : List Tly) ++ p0.ts).set ((p1 % (((([] : List Tly) ++ p0.ts).length : Int) + 1)) - 1).toNat (⟨x21.who, x21.fr, x21.to, max (0 : Int) (x21.lo - (p2 % 3)), x21.hi⟩ : Tly)).set ((p1 % (((([] : List Tly) ++ p0.ts).length : Int) + 1)) - 1).toNat (⟨x21.who, x21.fr, x21.to, max (0 : Int) (x21.lo - (p2 % 3)), min p0.rows (x21.hi + ((p2 / 3) % 3))⟩ : Tly)).length) c14]) agg_26 (ee st rfl) bk9_18 rfl rfl) ?_
       have hR43_18 : Sl eTly w62 (ZZ Z w.heap.size [some b9, some b1]) A14 c14 (((([] : List Tly) ++ p0.ts).set ((p1 % (((([] : List Tly) ++ p0.ts).length : Int) + 1)) - 1).toNat (⟨x21.who, x21.fr, x21.to, max (0 : Int) (x21.lo - (p2 % 3)), x21.hi⟩ : Tly)).set ((p1 % (((([] : List Tly) ++ p0.ts).length : Int) + 1)) - 1).toNat (⟨x21.who, x21.fr, x21.to, max (0 : Int) (x21.lo - (p2 % 3)), min p0.rows (x21.hi + ((p2 / 3) % 3))⟩ : Tly)) := ((((hR43_z.mv (mv_ext hx49)).mv (mv_ext hx51)).mv (mv_ext hx59)).mv (mv_ext hx61))
       replace hG := bind_some hG; obtain ⟨r63, hr63, hG⟩ := hG
       refine we rfl (fun st => x_call0 own_23 (ee st rfl) (am1 (ee st rfl)) (a23 K_ (⟨p0.rows, p0.wd, p0.lo, p0.hi, ((([] : List Tly) ++ p0.ts).set ((p1 % (((([] : List Tly) ++ p0.ts).length : Int) + 1)) - 1).toNat (⟨x21.who, x21.fr, x21.to, max (0 : Int) (x21.lo - (p2 % 3)), x21.hi⟩ : Tly)).set ((p1 % (((([] : List Tly) ++ p0.ts).length : Int) + 1)) - 1).toNat (⟨x21.who, x21.fr, x21.to, max (0 : Int) (x21.lo - (p2 % 3)), min p0.rows (x21.hi + ((p2 / 3) % 3))⟩ : Tly)⟩ : Fld) A14 c14 (ZZ Z w.heap.size [some b9, some b1]) _ hR43_18 r63 hr63)) ?_
       rintro _ w64 ⟨hx63, ⟨_, rfl, ⟨A63_r0, c63_r0, rfl, hS63_r0⟩⟩⟩
       have hp19 : Hp w [some b9, some b1] w64 := hp18.ext hx63
       have hS63_r0 := hS63_r0.mv (hp18.call (Nat.le_refl _))
       replace hG := bind_some hG; obtain ⟨r65, hr65, hG⟩ := hG
       refine we rfl (fun st => x_call0 own_22 (ee st rfl) (am1 (ee st rfl)) (a22 K_ r63 A63_r0 c63_r0 (ZZ Z w.heap.size [some b9, some b1]) _ hS63_r0 r65 hr65)) ?_
       rintro _ w66 ⟨hx65, _, _, rfl, ⟨A65_ra, c65_ra, rfl, hS65_ra⟩, rfl⟩
       have hp20 : Hp w [some b9, some b1] w66 := hp19.ext hx65
       have hS65_ra := hS65_ra.mv (hp19.call (Nat.le_refl _))
       refine wm rfl (v := .tuple #[.slice A65_ra r65.1.length c65_ra, I r65.2]) rfl <| wd rfl (fun st => x_extract (v := .slice A65_ra r65.1.length c65_ra) (ee st rfl) rfl) <| wd rfl (fun st => x_extract (v := I r65.2) (ee st rfl) rfl) <| wa rfl (v := .slice A65_ra r65.1.length c65_ra) rfl <| wa rfl (v := I r65.2) rfl <| wl_end <| lv_next <| cc_seq <| cc_seq <| cc_region <| wm rfl (v := I r61.2) rfl <| wd rfl (fun st => x_neq (ee st rfl) (ee st rfl)) <| wm rfl (v := .bool (r61.2 != 0)) rfl ?_
       rcases bool_cases (r61.2 != 0) with hc67 | hc67
       ·replace hG := cond_t hG hc67
        exact absurd (Option.some.inj hG) (by decide)
       ·replace hG := cond_f hG hc67
        refine wl_detg rfl rfl (guard_eq rfl hc67) rfl (by decide) (fun st => x_move (v := I r65.2) (ee st rfl)) <| wl_detg rfl rfl (guard_eq rfl hc67) rfl (by decide) (fun st => x_neq (ee st rfl) (ee st rfl)) <| wd rfl (fun st => x_pick_f (v := .bool (r65.2 != 0)) (ee st rfl) hc67 (ee st rfl)) <| wm rfl (v := .bool (r65.2 != 0)) rfl ?_
        rcases bool_cases (r65.2 != 0) with hc68 | hc68
        ·replace hG := cond_t hG hc68
         exact absurd (Option.some.inj hG) (by decide)
        ·replace hG := cond_f hG hc68
         refine wl_detg rfl rfl (guard_eq rfl hc68) rfl (by decide) (fun st => x_move (v := .slice A61_ra r61.1.length c61_ra) (ee st rfl)) <| wl_detg rfl rfl (guard_eq rfl hc68) rfl (by decide) (fun st => x_len Try.underlying29 (ee st rfl)) <| wl_detg rfl rfl (guard_eq rfl hc68) rfl (by decide) (fun st => x_fieldAddr (ee st rfl) (fz_26_1 _ _)) ?_
         have bk1_20 : Bk w66 b1 26 #[I p0.rows, I p0.wd, I p0.lo, I p0.hi, .slice A0_0 p0.ts.length c0_0] := ((((bk1_15.ext hx59).ext hx61).ext hx63).ext hx65)
         refine wl_detg rfl rfl (guard_eq rfl hc68) rfl (by decide) (fun st => x_load1 (v := I p0.wd) one_3 (ee st rfl) bk1_20 rfl) <| wl_detg rfl rfl (guard_eq rfl hc68) rfl (by decide) (fun st => x_neq (ee st rfl) (ee st rfl)) <| wd rfl (fun st => x_pick_f (v := .bool ((r61.1.length : Int) != p0.wd)) (ee st rfl) hc68 (ee st rfl)) <| wm rfl (v := .bool ((r61.1.length : Int) != p0.wd)) rfl ?_
         rcases bool_cases ((r61.1.length : Int) != p0.wd) with hc69 | hc69
         ·replace hG := cond_t hG hc69
          exact absurd (Option.some.inj hG) (by decide)
         ·replace hG := cond_f hG hc69
          refine wl_detg rfl rfl (guard_eq rfl hc69) rfl (by decide) (fun st => x_move (v := .slice A65_ra r65.1.length c65_ra) (ee st rfl)) <| wl_detg rfl rfl (guard_eq rfl hc69) rfl (by decide) (fun st => x_len Try.underlying29 (ee st rfl)) <| wl_detg rfl rfl (guard_eq rfl hc69) rfl (by decide) (fun st => x_move (v := .slice A61_ra r61.1.length c61_ra) (ee st rfl)) <| wl_detg rfl rfl (guard_eq rfl hc69) rfl (by decide) (fun st => x_len Try.underlying29 (ee st rfl)) <| wl_detg rfl rfl (guard_eq rfl hc69) rfl (by decide) (fun st => x_neq (ee st rfl) (ee st rfl)) <| wd rfl (fun st => x_pick_f (v := .bool ((r65.1.length : Int) != (r61.1.length : Int))) (ee st rfl) hc69 (ee st rfl)) <| wl_end <| lv_next ?_
          rcases bool_cases ((r65.1.length : Int) != (r61.1.length : Int)) with hc70 | hc70
          ·replace hG := cond_t hG hc70
           exact absurd (Option.some.inj hG) (by decide)
          ·replace hG := cond_f hG hc70
           refine cc_cond_f rfl hc70 <| cc_skip <| lv_next <| cc_seq <| cc_seq <| cc_region <| wa rfl (v := I 0) rfl <| wl_end <| lv_next <| cc_block ?_
           replace hG := bind_some hG; obtain ⟨z71, hL71, hG⟩ := hG
           refine cc_join (fun e_ fr_ w_ => (e_ = .ret ∧ ∃ q71, z71 = .inl q71 ∧ fr_.tmps.size = 150 ∧ fr_.defers = [] ∧ sl fr_ 6 = .bool q71 ∧ Hp w [some b9, some b1] w_) ∨ (e_ = .exit 0 ∧ ∃ q71, z71 = .inr q71 ∧ fr_.tmps.size = 150 ∧ fr_.defers = [] ∧ Hp w [some b9, some b1] w_)) ?lp71 ?af71
           case lp71 =>
            clear hG
            refine cc_loop (fun (m_ : Nat) (fr_ : Act) (w_ : World) => ∃ s71_18, G_WeedWider_L71 K_ r61 r65 m_ s71_18 = some z71 ∧ fr_.tmps.size = 150 ∧ fr_.defers = [] ∧ sl fr_ 14 = .slice A61_ra r61.1.length c61_ra ∧ sl fr_ 16 = .slice A65_ra r65.1.length c65_ra ∧ sl fr_ 18 = I s71_18 ∧ Hp w [some b9, some b1] w_ ∧ Sl eR w_ (ZZ Z w.heap.size [some b9, some b1]) A61_ra c61_ra r61.1 ∧ Sl eR w_ (ZZ Z w.heap.size [some b9, some b1]) A65_ra c65_ra r65.1) K_ ?in71 ?rd71
            case in71 =>
             intro st
             have hS61_ra_20 : Sl eR w66 (ZZ Z w.heap.size [some b9, some b1]) A61_ra c61_ra r61.1 := ((hS61_ra.mv (mv_ext hx63)).mv (mv_ext hx65))
             exact ⟨(0 : Int), hL71, (puts_size _ _).trans st.sz, (puts_defers _ _).trans st.df, (sl_puts st 14).trans rfl, (sl_puts st 16).trans rfl, (sl_puts st 18).trans rfl, hp20, hS61_ra_20, hS65_ra⟩
            case rd71 =>
             rintro (_ | m_) fr71 w71r ⟨s71_18, hL71, hsz71, hdf71, hs71_14, hs71_16, hs71_18, hp21, f71_hS61_ra, f71_hS65_ra⟩
             ·exact absurd (show none = some _ from hL71) (by simp)
             rw [G_WeedWider_L71.eq_2] at hL71
             have hG := hL71; clear hL71
             refine round_cc (N := 150) hsz71 hdf71 <| cc_seq <| cc_seq <| cc_region <| wm rfl (v := I s71_18) hs71_18 <| wm rfl (v := .slice A61_ra r61.1.length c61_ra) hs71_14 <| wd rfl (fun st => x_len Try.underlying29 (ee st rfl)) <| wd rfl (fun st => x_lss (ee st rfl) (ee st rfl)) <| wl_end <| lv_next ?_
             rcases bool_cases (decide (s71_18 < (r61.1.length : Int))) with hc72 | hc72
             ·replace hG := cond_t hG hc72
              refine cc_cond_t rfl hc72 <| cc_skip <| lv_next <| cc_seq <| cc_block <| cc_seq ?_
              replace hG := idx_bind hG; obtain ⟨i74, x74, hi74, hx74, hl74, hG⟩ := hG
              obtain ⟨b74, o74, _, hA74, rfl, hz74⟩ := Sl.elem f71_hS61_ra (by decide) hx74
              replace hG := idx_bind hG; obtain ⟨i75, x75, hi75, hx75, hl75, hG⟩ := hG
              obtain ⟨b75, o75, _, hA75, rfl, hz75⟩ := Sl.elem f71_hS65_ra (by decide) hx75
              refine cc_anyM0 8 [Kc (.slice A61_ra r61.1.length c61_ra), Kc (I s71_18), Kc (pt b74 (o74 + i74 * 2)), Kc (.agg #[I x74.1, I x74.2]), Kc (.slice A65_ra r65.1.length c65_ra), Kc (I s71_18), Kc (pt b75 (o75 + i75 * 2)), Kc (.agg #[I x75.1, I x75.2])] mixedL10 rfl rfl
                  (obsN_cons (od rfl (fun _ => rfl) (fun K => x_move (v := .slice A61_ra r61.1.length c61_ra) (es (t := 14) (v := .slice A61_ra r61.1.length c61_ra) ((K.out 14 rfl).trans hs71_14))))
                  (obsN_cons (od rfl (fun _ => rfl) (fun K => x_move (v := I s71_18) (es (t := 18) (v := I s71_18) ((K.out 18 rfl).trans hs71_18))))
                  (obsN_cons (od rfl (fun _ => rfl) (fun K => x_indexAddrN (k := i74) Try.underlying29 sz_33 (es (t := 139) (v := .slice A61_ra r61.1.length c61_ra) (K.dep 0 139 rfl rfl)) hA74 (es (t := 140) (v := I s71_18) (K.dep 1 140 rfl rfl)) hi74 hl74))
                  (obsN_cons (od rfl (fun _ => rfl) (fun K => x_load_zn0 (l := [I x74.1, I x74.2]) agg_33 (es (t := 141) (v := pt b74 (o74 + i74 * 2)) (K.dep 2 141 rfl rfl)) (hz74.mv (mv_ext K.phT)) rfl rfl))
                  (obsN_cons (od rfl (fun _ => rfl) (fun K => x_move (v := .slice A65_ra r65.1.length c65_ra) (es (t := 16) (v := .slice A65_ra r65.1.length c65_ra) ((K.out 16 rfl).trans hs71_16))))
                  (obsN_cons (od rfl (fun _ => rfl) (fun K => x_move (v := I s71_18) (es (t := 18) (v := I s71_18) ((K.out 18 rfl).trans hs71_18))))
                  (obsN_cons (od rfl (fun _ => rfl) (fun K => x_indexAddrN (k := i75) Try.underlying29 sz_33 (es (t := 143) (v := .slice A65_ra r65.1.length c65_ra) (K.dep 4 143 rfl rfl)) hA75 (es (t := 144) (v := I s71_18) (K.dep 5 144 rfl rfl)) hi75 hl75))
                  (obsN_cons (od rfl (fun _ => rfl) (fun K => x_load_zn0 (l := [I x75.1, I x75.2]) agg_33 (es (t := 145) (v := pt b75 (o75 + i75 * 2)) (K.dep 6 145 rfl rfl)) (hz75.mv (mv_ext K.phT)) rfl rfl))
                  (obsN_nil _))))))))) ?_
              intro w73
              rintro _ rfl _ rfl _ rfl _ rfl _ rfl _ rfl _ rfl _ rfl hx73
              have hp22 : Hp w [some b9, some b1] w73 := hp21.ext hx73
              replace hG := bind_some hG; obtain ⟨r76, hr76, hG⟩ := hG
              refine we rfl (fun st => x_call0 own_44 (ee st rfl) (am2 (ee st rfl) (ee st rfl)) (a44 K_ x74 x75 ZA _ r76 hr76)) ?_
              rintro _ w77 ⟨hx76, rfl⟩
              have hp23 : Hp w [some b9, some b1] w77 := hp22.ext hx76
              refine wd rfl (fun st => x_not (ee st rfl)) <| wl_end <| lv_next ?_
              rcases bool_cases (!r76) with hc78 | hc78
              ·replace hG := cond_t hG hc78
               have hc78_79 : r76 = false := by simpa using hc78
               refine cc_cond_t rfl hc78 <| cc_seq <| cc_region <| wa rfl (v := .bool false) rfl <| wl_end <| lv_next <| cc_ret <| lv_block_ret <| lv_then_ret <| lv_then_ret ?_
               obtain rfl := Option.some.inj hG
               refine lv_to (fun st => ?_)
               exact .inl ⟨rfl, false, rfl, (puts_size _ _).trans st.sz, (puts_defers _ _).trans st.df, (sl_puts st 6).trans rfl, hp23⟩
              ·replace hG := cond_f hG hc78
               have hc78_80 : r76 = true := by simpa using hc78
               refine cc_cond_f rfl hc78 <| cc_skip <| lv_block <| lv_next <| cc_region <| wm rfl (v := I s71_18) hs71_18 ?_
               replace hG := i64_bind hG; obtain ⟨hf81, hG⟩ := hG
               refine wd rfl (fun st => x_add (ee st rfl) (ee st rfl) hf81) <| wa rfl (v := I (s71_18 + 1)) rfl <| wl_end ?_
               have hS61_ra_23 : Sl eR w77 (ZZ Z w.heap.size [some b9, some b1]) A61_ra c61_ra r61.1 := ((f71_hS61_ra.mv (mv_ext hx73)).mv (mv_ext hx76))
               have hS65_ra_23 : Sl eR w77 (ZZ Z w.heap.size [some b9, some b1]) A65_ra c65_ra r65.1 := ((f71_hS65_ra.mv (mv_ext hx73)).mv (mv_ext hx76))
               refine lv_round m_ (Nat.lt_succ_self _) (fun st => ?_)
               exact ⟨(s71_18 + 1), hG, (puts_size _ _).trans st.sz, (puts_defers _ _).trans st.df, (sl_puts st 14).trans hs71_14, (sl_puts st 16).trans hs71_16, (sl_puts st 18).trans rfl, hp23, hS61_ra_23, hS65_ra_23⟩
             ·replace hG := cond_f hG hc72
              refine cc_cond_f rfl hc72 <| cc_exit <| lv_then_exit <| lv_then_exit ?_
              obtain rfl := Option.some.inj hG
              refine lv_to (fun st => ?_)
              exact .inr ⟨rfl, (), rfl, (puts_size _ _).trans st.sz, (puts_defers _ _).trans st.df, hp21⟩
           case af71 =>
            rintro e_ fr71a w71a (⟨rfl, q71, rfl, hsz71a, hdf71a, hs71a_6, hp71a⟩ | ⟨rfl, q71, rfl, hsz71a, hdf71a, hp71a⟩)
            ·skip
             replace hG := inl_some hG
             refine lv_fr (X := X0) (N := 150) hsz71a hdf71a <| lv_block_ret <| lv_then_ret ?_
             have hr_ := Option.some.inj hG
             refine lv_ret1 rfl hs71a_6 ?_
             exact ⟨hp71a.fin, congrArg Value.bool hr_⟩
            ·skip
             replace hG := inr_some hG
             refine lv_fr (X := X0) (N := 150) hsz71a hdf71a <| lv_block_hit <| lv_next <| cc_seq <| cc_region ?_
             replace hG := ifo_bind hG; obtain ⟨hw82, hG⟩ := hG
             refine we rfl (fun st => x_call0 own_21 (ee st rfl) am0 (a21 K_ ZA _ hw82)) ?_
             rintro _ w83 ⟨hx82, rfl⟩
             have hp26 : Hp w [some b9, some b1] w83 := hp71a.ext hx82
             refine wa rfl (v := .bool true) rfl <| wl_end <| lv_next <| cc_ret ?_
             have hr_ := Option.some.inj hG
             refine lv_ret1 rfl rfl ?_
             exact ⟨hp26.fin, congrArg Value.bool hr_⟩
  ·replace hG := cond_f hG hc19
   refine cc_cond_f rfl hc19 <| cc_skip <| lv_next <| cc_seq ?_
   replace hG := cvO_bind hG; obtain ⟨hf93, hG⟩ := hG
   replace hG := rem_bind hG; obtain ⟨hf94, hG⟩ := hG
   replace hG := i64_bind hG; obtain ⟨hf95, hG⟩ := hG
   have bk1_8 : Bk w15 b1 26 #[I p0.rows, I p0.wd, I p0.lo, I p0.hi, .slice A0_0 p0.ts.length c0_0] := ((bk1_6.gr hg14 (hp6.ne 2 0 rfl rfl rfl)).gr sb15.gr (hp7.ne 2 1 rfl rfl rfl))
   replace hG := cvO_bind hG; obtain ⟨hf96, hG⟩ := hG
   replace hG := quo_bind hG; obtain ⟨hf97, hG⟩ := hG
   replace hG := i64_bind hG; obtain ⟨hf98, hG⟩ := hG
   replace hG := rem_bind hG; obtain ⟨hf99, hG⟩ := hG
   replace hG := i64_bind hG; obtain ⟨hf100, hG⟩ := hG
   refine cc_anyM 26 (fun ph _ w_ => T4 w15 (some b9) (fun w_ => Bk w_ b9 26 #[I p0.rows, I p0.wd, I (max (0 : Int) (p0.lo - (p2 % 3))), I p0.hi, .slice A14 ((([] : List Tly) ++ p0.ts).length) c14]) ph w_) (fun _ => []) [25] [Kc (pt b9 2), Kc (pt b9 2), Kc (pt b9 2), Kc (pt b9 2), Kc (pt b9 2), Kc (I p0.lo), Kc (.int .u8 p2), Kc (I p2), Kc (I (p2 % 3)), Kc (I (p0.lo - (p2 % 3))), Kc (I (max (0 : Int) (p0.lo - (p2 % 3)))), Kc (pt b1 0), Kc (I p0.rows), Kc (pt b9 2), Kc (pt b9 2), Kc (pt b9 3), Kc (I p0.hi), Kc (.int .u8 p2), Kc (I p2), Kc (I (p2 / 3)), Kc (I ((p2 / 3) % 3)), Kc (I (p0.hi + ((p2 / 3) % 3))), Kc (I (min p0.rows (p0.hi + ((p2 / 3) % 3)))), Kc (pt b9 2), Kc (pt b9 2), Kt] mixedL10 rfl rfl (okD_nil _ _) (fun _ _ _ _ _ h g _ => T4_ext (fun _ _ h g => h.ext g) h g) (fun _ => ext_drew _)
       (obsN_cons (od rfl (fun _ => rfl) (fun K => x_move (v := pt b9 2) (es (t := 8) (v := pt b9 2) ((K.out 8 rfl).trans rfl))))
       (obsN_cons (od rfl (fun _ => rfl) (fun K => x_move (v := pt b9 2) (es (t := 8) (v := pt b9 2) ((K.out 8 rfl).trans rfl))))
       (obsN_cons (od rfl (fun _ => rfl) (fun K => x_move (v := pt b9 2) (es (t := 8) (v := pt b9 2) ((K.out 8 rfl).trans rfl))))
       (obsN_cons (od rfl (fun _ => rfl) (fun K => x_nilCheck (es (t := 47) (v := pt b9 2) (K.dep 2 47 rfl rfl))))
       (obsN_cons (od rfl (fun _ => rfl) (fun K => x_fieldAddr (es (t := 48) (v := pt b9 2) (K.dep 3 48 rfl rfl)) (fl_23_0_2 _ _)))
       (obsN_cons (od rfl (fun _ => rfl) (fun K => x_load1 (v := I p0.lo) one_3 (es (t := 49) (v := pt b9 2) (K.dep 4 49 rfl rfl)) (sb15.bk.ext (T4_zero K.phT (Nat.le_zero.1 (K.lat 0 25 _ rfl rfl rfl)))) rfl))
       (obsN_cons (od rfl (fun _ => rfl) (fun K => x_move (v := .int .u8 p2) (es (t := 2) (v := .int .u8 p2) ((K.out 2 rfl).trans hp_2))))
       (obsN_cons (od rfl (fun _ => rfl) (fun K => x_conv (k := .i64) sm_5 Try.underlying3 (es (t := 51) (v := .int .u8 p2) (K.dep 6 51 rfl rfl)) hf93))
       (obsN_cons (od rfl (fun _ => rfl) (fun K => x_rem (es (t := 52) (v := I p2) (K.dep 7 52 rfl rfl)) (ec (v := I 3)) hf94.1 hf94.2))
       (obsN_cons (od rfl (fun _ => rfl) (fun K => x_sub (es (t := 50) (v := I p0.lo) (K.dep 5 50 rfl rfl)) (es (t := 53) (v := I (p2 % 3)) (K.dep 8 53 rfl rfl)) hf95))
       (obsN_cons (od rfl (fun _ => rfl) (fun K => x_max (ec (v := I 0)) (es (t := 54) (v := I (p0.lo - (p2 % 3))) (K.dep 9 54 rfl rfl))))
       (obsN_cons (od rfl (fun _ => rfl) (fun K => x_fieldAddr (es (t := 3) (v := pt b1 0) ((K.out 3 rfl).trans rfl)) (fz_26_0 _ _)))
       (obsN_cons (od rfl (fun _ => rfl) (fun K => x_load1 (v := I p0.rows) one_3 (es (t := 56) (v := pt b1 0) (K.dep 11 56 rfl rfl)) (bk1_8.gr (T4_gr K.phT) (hp8.ne 2 1 rfl rfl rfl)) rfl))
       (obsN_cons (od rfl (fun _ => rfl) (fun K => x_move (v := pt b9 2) (es (t := 8) (v := pt b9 2) ((K.out 8 rfl).trans rfl))))
       (obsN_cons (od rfl (fun _ => rfl) (fun K => x_nilCheck (es (t := 58) (v := pt b9 2) (K.dep 13 58 rfl rfl))))
       (obsN_cons (od rfl (fun _ => rfl) (fun K => x_fieldAddr (es (t := 59) (v := pt b9 2) (K.dep 14 59 rfl rfl)) (fl_23_1_2 _ _)))
       (obsN_cons (od rfl (fun _ => rfl) (fun K => x_load1 (v := I p0.hi) one_3 (es (t := 60) (v := pt b9 3) (K.dep 15 60 rfl rfl)) (sb15.bk.ext (T4_zero K.phT (Nat.le_zero.1 (K.lat 0 25 _ rfl rfl rfl)))) rfl))
       (obsN_cons (od rfl (fun _ => rfl) (fun K => x_move (v := .int .u8 p2) (es (t := 2) (v := .int .u8 p2) ((K.out 2 rfl).trans hp_2))))
       (obsN_cons (od rfl (fun _ => rfl) (fun K => x_conv (k := .i64) sm_5 Try.underlying3 (es (t := 62) (v := .int .u8 p2) (K.dep 17 62 rfl rfl)) hf96))
       (obsN_cons (od rfl (fun _ => rfl) (fun K => x_quoN (es (t := 63) (v := I p2) (K.dep 18 63 rfl rfl)) (ec (v := I 3)) hf97.1 hf97.2 hf98))
       (obsN_cons (od rfl (fun _ => rfl) (fun K => x_rem (es (t := 64) (v := I (p2 / 3)) (K.dep 19 64 rfl rfl)) (ec (v := I 3)) hf99.1 hf99.2))
       (obsN_cons (od rfl (fun _ => rfl) (fun K => x_add (es (t := 61) (v := I p0.hi) (K.dep 16 61 rfl rfl)) (es (t := 65) (v := I ((p2 / 3) % 3)) (K.dep 20 65 rfl rfl)) hf100))
       (obsN_cons (od rfl (fun _ => rfl) (fun K => x_min (es (t := 57) (v := I p0.rows) (K.dep 12 57 rfl rfl)) (es (t := 66) (v := I (p0.hi + ((p2 / 3) % 3))) (K.dep 21 66 rfl rfl))))
       (obsN_cons (od rfl (fun _ => rfl) (fun K => x_nilCheck (es (t := 45) (v := pt b9 2) (K.dep 0 45 rfl rfl))))
       (obsN_cons (od rfl (fun _ => rfl) (fun K => x_fieldAddr (es (t := 68) (v := pt b9 2) (K.dep 23 68 rfl rfl)) (fl_23_0_2 _ _)))
       (obsN_cons (ob_spec rfl rfl (fun a' w' ph K => (x_store (n := 1) (l := [I (max (0 : Int) (p0.lo - (p2 % 3)))]) (cs' := #[I p0.rows, I p0.wd, I (max (0 : Int) (p0.lo - (p2 % 3))), I p0.hi, .slice A14 ((([] : List Tly) ++ p0.ts).length) c14]) (es (t := 69) (v := pt b9 2) (K.dep 24 69 rfl rfl)) (es (t := 55) (v := I (max (0 : Int) (p0.lo - (p2 % 3)))) (K.dep 10 55 rfl rfl)) sz_3 (sb15.bk.ext (T4_zero K.phT (K.spi 0 rfl))) rfl rfl (show 2 + 1 ≤ 5 by decide) (one_cells rfl) rfl).mono (fun v w'' ⟨_, hM, hg⟩ => ⟨trivial, skl_of ⟨fun _ _ _ h => h, fun _ _ _ h => h, fun _ _ _ h => h, fun _ _ _ h => h, fun _ _ _ h => h, fun _ _ _ h => h, fun _ _ _ h => h, fun _ _ _ h => h, fun _ _ _ h => h, fun _ _ _ h => h, fun _ _ _ h => h, fun _ _ _ h => h, fun _ _ _ h => h, fun _ _ _ h => h, fun _ _ _ h => h, fun _ _ _ h => h, fun _ _ _ h => h, fun _ _ _ h => h, fun _ _ _ h => h, fun _ _ _ h => h, fun _ _ _ h => h, fun _ _ _ h => h, fun _ _ _ h => h, fun _ _ _ h => h, fun _ _ _ h => h, fun h => absurd rfl h, trivial⟩, T4_up K.phT (K.spi 0 rfl) hg (hM)⟩)))
       (obsN_nil _))))))))))))))))))))))))))) ?_
   intro w84
   rintro _ rfl _ rfl _ rfl _ rfl _ rfl _ rfl _ rfl _ rfl _ rfl _ rfl _ rfl _ rfl _ rfl _ rfl _ rfl _ rfl _ rfl _ rfl _ rfl _ rfl _ rfl _ rfl _ rfl _ rfl _ rfl ⟨hga84, hMa84⟩
   have hp27 : Hp w [ob A14, some b9, some b1] w84 := hp8.gr hga84 (hp8.ge 1 rfl)
   refine wd rfl (fun st => x_nilCheck (ee st rfl)) <| wd rfl (fun st => x_fieldAddr (ee st rfl) (fl_23_1_2 _ _)) <| wl_ex0 rfl rfl (fun st => x_store (n := 1) (l := [I (min p0.rows (p0.hi + ((p2 / 3) % 3)))]) (cs' := #[I p0.rows, I p0.wd, I (max (0 : Int) (p0.lo - (p2 % 3))), I (min p0.rows (p0.hi + ((p2 / 3) % 3))), .slice A14 ((([] : List Tly) ++ p0.ts).length) c14]) (ee st rfl) (ee st rfl) sz_3 hMa84 rfl rfl (show 3 + 1 ≤ 5 by decide) (one_cells rfl) rfl) ?_
   rintro _ w101 sb101
   have hp28 : Hp w [ob A14, some b9, some b1] w101 := hp27.gr sb101.gr (hp27.ge 1 rfl)
   refine wl_end <| lv_next <| cc_seq <| cc_region ?_
   have bk1_28 : Bk w101 b1 26 #[I p0.rows, I p0.wd, I p0.lo, I p0.hi, .slice A0_0 p0.ts.length c0_0] := ((bk1_8.gr hga84 (hp8.ne 2 1 rfl rfl rfl)).gr sb101.gr (hp27.ne 2 1 rfl rfl rfl))
   refine wd rfl (fun st => x_loadn (l := [I p0.rows, I p0.wd, I p0.lo, I p0.hi, .slice A0_0 p0.ts.length c0_0]) agg_26 (ee st rfl) bk1_28 rfl rfl) ?_
   have hS0_0_28 : Sl eTly w101 (ZZ Z w.heap.size [ob A14, some b9, some b1]) A0_0 c0_0 p0.ts := ((((hS0_0_6.mv (hp6.mvr hg14 0 rfl (fun k hk => (hy14 k hk).1))).mv (hp7.mv0 sb15.gr 1 rfl)).mv (hp8.mv0 hga84 1 rfl)).mv (hp27.mv0 sb101.gr 1 rfl))
   replace hG := bind_some hG; obtain ⟨r102, hr102, hG⟩ := hG
   refine we rfl (fun st => x_call0 own_23 (ee st rfl) (am1 (ee st rfl)) (a23 K_ p0 A0_0 c0_0 (ZZ Z w.heap.size [ob A14, some b9, some b1]) _ hS0_0_28 r102 hr102)) ?_
   rintro _ w103 ⟨hx102, ⟨_, rfl, ⟨A102_r0, c102_r0, rfl, hS102_r0⟩⟩⟩
   have hp29 : Hp w [ob A14, some b9, some b1] w103 := hp28.ext hx102
   have hS102_r0 := hS102_r0.mv (hp28.call (Nat.le_refl _))
   replace hG := bind_some hG; obtain ⟨r104, hr104, hG⟩ := hG
   refine we rfl (fun st => x_call0 own_35 (ee st rfl) (am1 (ee st rfl)) (a35 K_ r102 A102_r0 c102_r0 (ZZ Z w.heap.size [ob A14, some b9, some b1]) _ hS102_r0 r104 hr104)) ?_
   rintro _ w105 ⟨hx104, _, _, rfl, ⟨A104_ra, c104_ra, rfl, hS104_ra⟩, rfl⟩
   have hp30 : Hp w [ob A14, some b9, some b1] w105 := hp29.ext hx104
   have hS104_ra := hS104_ra.mv (hp29.call (Nat.le_refl _))
   refine wm rfl (v := .tuple #[.slice A104_ra r104.1.length c104_ra, I r104.2]) rfl <| wd rfl (fun st => x_extract (v := .slice A104_ra r104.1.length c104_ra) (ee st rfl) rfl) <| wd rfl (fun st => x_extract (v := I r104.2) (ee st rfl) rfl) <| wa rfl (v := .slice A104_ra r104.1.length c104_ra) rfl <| wa rfl (v := I r104.2) rfl <| wl_end <| lv_next <| cc_seq <| cc_region ?_
   have bk9_30 : Bk w105 b9 26 #[I p0.rows, I p0.wd, I (max (0 : Int) (p0.lo - (p2 % 3))), I (min p0.rows (p0.hi + ((p2 / 3) % 3))), .slice A14 ((([] : List Tly) ++ p0.ts).length) c14] := ((sb101.bk.ext hx102).ext hx104)
   refine wd rfl (fun st => x_loadn (l := [I p0.rows, I p0.wd, I (max (0 : Int) (p0.lo - (p2 % 3))), I (min p0.rows (p0.hi + ((p2 / 3) % 3))), .slice A14 ((([] : List Tly) ++ p0.ts).length) c14]) agg_26 (ee st rfl) bk9_30 rfl rfl) ?_
   have hR14_30 : OwnR eTly 68 w w105 (ZZ Z w.heap.size [ob A14, some b9, some b1]) A14 c14 (([] : List Tly) ++ p0.ts) := (((((hR14.gr sb15.gr (fun k hk => hp7.ne 0 1 rfl (congrArg some hk) rfl) (hp7.mv0 sb15.gr 1 rfl)).gr hga84 (fun k hk => hp8.ne 0 1 rfl (congrArg some hk) rfl) (hp8.mv0 hga84 1 rfl)).gr sb101.gr (fun k hk => hp27.ne 0 1 rfl (congrArg some hk) rfl) (hp27.mv0 sb101.gr 1 rfl)).ext hx102 (mv_ext hx102)).ext hx104 (mv_ext hx104))
   have hp31 : Hp w [some b9, some b1] w105 := hp30.erase 0
   have hR14_z : Sl eTly w105 (ZZ Z w.heap.size [some b9, some b1]) A14 c14 (([] : List Tly) ++ p0.ts) := hp30.frz 0 rfl hR14_30
   replace hG := bind_some hG; obtain ⟨r106, hr106, hG⟩ := hG
   refine we rfl (fun st => x_call0 own_23 (ee st rfl) (am1 (ee st rfl)) (a23 K_ (⟨p0.rows, p0.wd, max (0 : Int) (p0.lo - (p2 % 3)), min p0.rows (p0.hi + ((p2 / 3) % 3)), ([] : List Tly) ++ p0.ts⟩ : Fld) A14 c14 (ZZ Z w.heap.size [some b9, some b1]) _ hR14_z r106 hr106)) ?_
   rintro _ w107 ⟨hx106, ⟨_, rfl, ⟨A106_r0, c106_r0, rfl, hS106_r0⟩⟩⟩
   have hp32 : Hp w [some b9, some b1] w107 := hp31.ext hx106
   have hS106_r0 := hS106_r0.mv (hp31.call (Nat.le_refl _))
   replace hG := bind_some hG; obtain ⟨r108, hr108, hG⟩ := hG
   refine we rfl (fun st => x_call0 own_35 (ee st rfl) (am1 (ee st rfl)) (a35 K_ r106 A106_r0 c106_r0 (ZZ Z w.heap.size [some b9, some b1]) _ hS106_r0 r108 hr108)) ?_
   rintro _ w109 ⟨hx108, _, _, rfl, ⟨A108_ra, c108_ra, rfl, hS108_ra⟩, rfl⟩
   have hp33 : Hp w [some b9, some b1] w109 := hp32.ext hx108
   have hS108_ra := hS108_ra.mv (hp32.call (Nat.le_refl _))
   refine wm rfl (v := .tuple #[.slice A108_ra r108.1.length c108_ra, I r108.2]) rfl <| wd rfl (fun st => x_extract (v := .slice A108_ra r108.1.length c108_ra) (ee st rfl) rfl) <| wd rfl (fun st => x_extract (v := I r108.2) (ee st rfl) rfl) <| wa rfl (v := .slice A108_ra r108.1.length c108_ra) rfl <| wa rfl (v := I r108.2) rfl <| wl_end <| lv_next <| cc_seq <| cc_seq <| cc_region <| wm rfl (v := I r104.2) rfl <| wd rfl (fun st => x_neq (ee st rfl) (ee st rfl)) <| wm rfl (v := .bool (r104.2 != 0)) rfl ?_
   rcases bool_cases (r104.2 != 0) with hc110 | hc110
   ·replace hG := cond_t hG hc110
    exact absurd (Option.some.inj hG) (by decide)
   ·replace hG := cond_f hG hc110
    refine wl_detg rfl rfl (guard_eq rfl hc110) rfl (by decide) (fun st => x_move (v := I r108.2) (ee st rfl)) <| wl_detg rfl rfl (guard_eq rfl hc110) rfl (by decide) (fun st => x_neq (ee st rfl) (ee st rfl)) <| wd rfl (fun st => x_pick_f (v := .bool (r108.2 != 0)) (ee st rfl) hc110 (ee st rfl)) <| wm rfl (v := .bool (r108.2 != 0)) rfl ?_
    rcases bool_cases (r108.2 != 0) with hc111 | hc111
    ·replace hG := cond_t hG hc111
     exact absurd (Option.some.inj hG) (by decide)
    ·replace hG := cond_f hG hc111
     refine wl_detg rfl rfl (guard_eq rfl hc111) rfl (by decide) (fun st => x_move (v := .slice A108_ra r108.1.length c108_ra) (ee st rfl)) <| wl_detg rfl rfl (guard_eq rfl hc111) rfl (by decide) (fun st => x_len Try.underlying43 (ee st rfl)) <| wl_detg rfl rfl (guard_eq rfl hc111) rfl (by decide) (fun st => x_move (v := .slice A104_ra r104.1.length c104_ra) (ee st rfl)) <| wl_detg rfl rfl (guard_eq rfl hc111) rfl (by decide) (fun st => x_len Try.underlying43 (ee st rfl)) <| wl_detg rfl rfl (guard_eq rfl hc111) rfl (by decide) (fun st => x_gtr (ee st rfl) (ee st rfl)) <| wd rfl (fun st => x_pick_f (v := .bool (decide ((r104.1.length : Int) < (r108.1.length : Int)))) (ee st rfl) hc111 (ee st rfl)) <| wl_end <| lv_next ?_
     rcases bool_cases (decide ((r104.1.length : Int) < (r108.1.length : Int))) with hc112 | hc112
     ·replace hG := cond_t hG hc112
      exact absurd (Option.some.inj hG) (by decide)
     ·replace hG := cond_f hG hc112
      refine cc_cond_f rfl hc112 <| cc_skip <| lv_next <| cc_seq <| cc_seq <| cc_region <| wm rfl (v := .slice A104_ra r104.1.length c104_ra) rfl <| wd rfl (fun st => x_len Try.underlying43 (ee st rfl)) <| wd rfl (fun st => x_gtr (ee st rfl) (ee st rfl)) <| wl_end <| lv_next ?_
      rcases bool_cases (decide (0 < (r104.1.length : Int))) with hc113 | hc113
      ·replace hG := cond_t hG hc113
       refine cc_cond_t rfl hc113 <| cc_seq <| cc_region ?_
       replace hG := ifo_bind hG; obtain ⟨hw114, hG⟩ := hG
       refine we rfl (fun st => x_call0 own_21 (ee st rfl) am0 (a21 K_ ZA _ hw114)) ?_
       rintro _ w115 ⟨hx114, rfl⟩
       have hp34 : Hp w [some b9, some b1] w115 := hp33.ext hx114
       refine wa rfl (v := .bool true) rfl <| wl_end <| lv_next <| cc_ret <| lv_then_ret ?_
       have hr_ := Option.some.inj hG
       refine lv_ret1 rfl rfl ?_
       exact ⟨hp34.fin, congrArg Value.bool hr_⟩
      ·replace hG := cond_f hG hc113
       refine cc_cond_f rfl hc113 <| cc_skip <| lv_next <| cc_seq <| cc_region ?_
       have bk1_33 : Bk w109 b1 26 #[I p0.rows, I p0.wd, I p0.lo, I p0.hi, .slice A0_0 p0.ts.length c0_0] := ((((bk1_28.ext hx102).ext hx104).ext hx106).ext hx108)
       refine wd rfl (fun st => x_loadn (l := [I p0.rows, I p0.wd, I p0.lo, I p0.hi, .slice A0_0 p0.ts.length c0_0]) agg_26 (ee st rfl) bk1_33 rfl rfl) ?_
       have hS0_0_33 : Sl eTly w109 (ZZ Z w.heap.size [some b9, some b1]) A0_0 c0_0 p0.ts := (((((hS0_0_28.mv (mv_ext hx102)).mv (mv_ext hx104)).mv (mv_erase 0)).mv (mv_ext hx106)).mv (mv_ext hx108))
       replace hG := bind_some hG; obtain ⟨r116, hr116, hG⟩ := hG
       refine we rfl (fun st => x_call0 own_23 (ee st rfl) (am1 (ee st rfl)) (a23 K_ p0 A0_0 c0_0 (ZZ Z w.heap.size [some b9, some b1]) _ hS0_0_33 r116 hr116)) ?_
       rintro _ w117 ⟨hx116, ⟨_, rfl, ⟨A116_r0, c116_r0, rfl, hS116_r0⟩⟩⟩
       have hp35 : Hp w [some b9, some b1] w117 := hp33.ext hx116
       have hS116_r0 := hS116_r0.mv (hp33.call (Nat.le_refl _))
       replace hG := bind_some hG; obtain ⟨r118, hr118, hG⟩ := hG
       refine we rfl (fun st => x_call0 own_22 (ee st rfl) (am1 (ee st rfl)) (a22 K_ r116 A116_r0 c116_r0 (ZZ Z w.heap.size [some b9, some b1]) _ hS116_r0 r118 hr118)) ?_
       rintro _ w119 ⟨hx118, _, _, rfl, ⟨A118_ra, c118_ra, rfl, hS118_ra⟩, rfl⟩
       have hp36 : Hp w [some b9, some b1] w119 := hp35.ext hx118
       have hS118_ra := hS118_ra.mv (hp35.call (Nat.le_refl _))
       refine wm rfl (v := .tuple #[.slice A118_ra r118.1.length c118_ra, I r118.2]) rfl <| wd rfl (fun st => x_extract (v := .slice A118_ra r118.1.length c118_ra) (ee st rfl) rfl) <| wd rfl (fun st => x_extract (v := I r118.2) (ee st rfl) rfl) <| wa rfl (v := .slice A118_ra r118.1.length c118_ra) rfl <| wa rfl (v := I r118.2) rfl <| wl_end <| lv_next <| cc_seq <| cc_region ?_
       have bk9_36 : Bk w119 b9 26 #[I p0.rows, I p0.wd, I (max (0 : Int) (p0.lo - (p2 % 3))), I (min p0.rows (p0.hi + ((p2 / 3) % 3))), .slice A14 ((([] : List Tly) ++ p0.ts).length) c14] := ((((bk9_30.ext hx106).ext hx108).ext hx116).ext hx118)
       refine wd rfl (fun st => x_loadn (l := [I p0.rows, I p0.wd, I (max (0 : Int) (p0.lo - (p2 % 3))), I (min p0.rows (p0.hi + ((p2 / 3) % 3))), .slice A14 ((([] : List Tly) ++ p0.ts).length) c14]) agg_26 (ee st rfl) bk9_36 rfl rfl) ?_
       have hR14_36 : Sl eTly w119 (ZZ Z w.heap.size [some b9, some b1]) A14 c14 (([] : List Tly) ++ p0.ts) := ((((hR14_z.mv (mv_ext hx106)).mv (mv_ext hx108)).mv (mv_ext hx116)).mv (mv_ext hx118))
       replace hG := bind_some hG; obtain ⟨r120, hr120, hG⟩ := hG
       refine we rfl (fun st => x_call0 own_23 (ee st rfl) (am1 (ee st rfl)) (a23 K_ (⟨p0.rows, p0.wd, max (0 : Int) (p0.lo - (p2 % 3)), min p0.rows (p0.hi + ((p2 / 3) % 3)), ([] : List Tly) ++ p0.ts⟩ : Fld) A14 c14 (ZZ Z w.heap.size [some b9, some b1]) _ hR14_36 r120 hr120)) ?_
       rintro _ w121 ⟨hx120, ⟨_, rfl, ⟨A120_r0, c120_r0, rfl, hS120_r0⟩⟩⟩
       have hp37 : Hp w [some b9, some b1] w121 := hp36.ext hx120
       have hS120_r0 := hS120_r0.mv (hp36.call (Nat.le_refl _))
       replace hG := bind_some hG; obtain ⟨r122, hr122, hG⟩ := hG
       refine we rfl (fun st => x_call0 own_22 (ee st rfl) (am1 (ee st rfl)) (a22 K_ r120 A120_r0 c120_r0 (ZZ Z w.heap.size [some b9, some b1]) _ hS120_r0 r122 hr122)) ?_
       rintro _ w123 ⟨hx122, _, _, rfl, ⟨A122_ra, c122_ra, rfl, hS122_ra⟩, rfl⟩
       have hp38 : Hp w [some b9, some b1] w123 := hp37.ext hx122
       have hS122_ra := hS122_ra.mv (hp37.call (Nat.le_refl _))
       refine wm rfl (v := .tuple #[.slice A122_ra r122.1.length c122_ra, I r122.2]) rfl <| wd rfl (fun st => x_extract (v := .slice A122_ra r122.1.length c122_ra) (ee st rfl) rfl) <| wd rfl (fun st => x_extract (v := I r122.2) (ee st rfl) rfl) <| wa rfl (v := .slice A122_ra r122.1.length c122_ra) rfl <| wa rfl (v := I r122.2) rfl <| wl_end <| lv_next <| cc_seq <| cc_seq <| cc_region <| wm rfl (v := I r118.2) rfl <| wd rfl (fun st => x_neq (ee st rfl) (ee st rfl)) <| wm rfl (v := .bool (r118.2 != 0)) rfl ?_
       rcases bool_cases (r118.2 != 0) with hc124 | hc124
       ·replace hG := cond_t hG hc124
        exact absurd (Option.some.inj hG) (by decide)
       ·replace hG := cond_f hG hc124
        refine wl_detg rfl rfl (guard_eq rfl hc124) rfl (by decide) (fun st => x_move (v := I r122.2) (ee st rfl)) <| wl_detg rfl rfl (guard_eq rfl hc124) rfl (by decide) (fun st => x_neq (ee st rfl) (ee st rfl)) <| wd rfl (fun st => x_pick_f (v := .bool (r122.2 != 0)) (ee st rfl) hc124 (ee st rfl)) <| wm rfl (v := .bool (r122.2 != 0)) rfl ?_
        rcases bool_cases (r122.2 != 0) with hc125 | hc125
        ·replace hG := cond_t hG hc125
         exact absurd (Option.some.inj hG) (by decide)
        ·replace hG := cond_f hG hc125
         refine wl_detg rfl rfl (guard_eq rfl hc125) rfl (by decide) (fun st => x_move (v := .slice A118_ra r118.1.length c118_ra) (ee st rfl)) <| wl_detg rfl rfl (guard_eq rfl hc125) rfl (by decide) (fun st => x_len Try.underlying29 (ee st rfl)) <| wl_detg rfl rfl (guard_eq rfl hc125) rfl (by decide) (fun st => x_fieldAddr (ee st rfl) (fz_26_1 _ _)) ?_
         have bk1_38 : Bk w123 b1 26 #[I p0.rows, I p0.wd, I p0.lo, I p0.hi, .slice A0_0 p0.ts.length c0_0] := ((((bk1_33.ext hx116).ext hx118).ext hx120).ext hx122)
         refine wl_detg rfl rfl (guard_eq rfl hc125) rfl (by decide) (fun st => x_load1 (v := I p0.wd) one_3 (ee st rfl) bk1_38 rfl) <| wl_detg rfl rfl (guard_eq rfl hc125) rfl (by decide) (fun st => x_neq (ee st rfl) (ee st rfl)) <| wd rfl (fun st => x_pick_f (v := .bool ((r118.1.length : Int) != p0.wd)) (ee st rfl) hc125 (ee st rfl)) <| wm rfl (v := .bool ((r118.1.length : Int) != p0.wd)) rfl ?_
         rcases bool_cases ((r118.1.length : Int) != p0.wd) with hc126 | hc126
         ·replace hG := cond_t hG hc126
          exact absurd (Option.some.inj hG) (by decide)
         ·replace hG := cond_f hG hc126
          refine wl_detg rfl rfl (guard_eq rfl hc126) rfl (by decide) (fun st => x_move (v := .slice A122_ra r122.1.length c122_ra) (ee st rfl)) <| wl_detg rfl rfl (guard_eq rfl hc126) rfl (by decide) (fun st => x_len Try.underlying29 (ee st rfl)) <| wl_detg rfl rfl (guard_eq rfl hc126) rfl (by decide) (fun st => x_move (v := .slice A118_ra r118.1.length c118_ra) (ee st rfl)) <| wl_detg rfl rfl (guard_eq rfl hc126) rfl (by decide) (fun st => x_len Try.underlying29 (ee st rfl)) <| wl_detg rfl rfl (guard_eq rfl hc126) rfl (by decide) (fun st => x_neq (ee st rfl) (ee st rfl)) <| wd rfl (fun st => x_pick_f (v := .bool ((r122.1.length : Int) != (r118.1.length : Int))) (ee st rfl) hc126 (ee st rfl)) <| wl_end <| lv_next ?_
          rcases bool_cases ((r122.1.length : Int) != (r118.1.length : Int)) with hc127 | hc127
          ·replace hG := cond_t hG hc127
           exact absurd (Option.some.inj hG) (by decide)
          ·replace hG := cond_f hG hc127
           refine cc_cond_f rfl hc127 <| cc_skip <| lv_next <| cc_seq <| cc_seq <| cc_region <| wa rfl (v := I 0) rfl <| wl_end <| lv_next <| cc_block ?_
           replace hG := bind_some hG; obtain ⟨z128, hL128, hG⟩ := hG
           refine cc_join (fun e_ fr_ w_ => (e_ = .ret ∧ ∃ q128, z128 = .inl q128 ∧ fr_.tmps.size = 150 ∧ fr_.defers = [] ∧ sl fr_ 6 = .bool q128 ∧ Hp w [some b9, some b1] w_) ∨ (e_ = .exit 0 ∧ ∃ q128, z128 = .inr q128 ∧ fr_.tmps.size = 150 ∧ fr_.defers = [] ∧ Hp w [some b9, some b1] w_)) ?lp128 ?af128
           case lp128 =>
            clear hG
            refine cc_loop (fun (m_ : Nat) (fr_ : Act) (w_ : World) => ∃ s128_18, G_WeedWider_L128 K_ r118 r122 m_ s128_18 = some z128 ∧ fr_.tmps.size = 150 ∧ fr_.defers = [] ∧ sl fr_ 14 = .slice A118_ra r118.1.length c118_ra ∧ sl fr_ 16 = .slice A122_ra r122.1.length c122_ra ∧ sl fr_ 18 = I s128_18 ∧ Hp w [some b9, some b1] w_ ∧ Sl eR w_ (ZZ Z w.heap.size [some b9, some b1]) A118_ra c118_ra r118.1 ∧ Sl eR w_ (ZZ Z w.heap.size [some b9, some b1]) A122_ra c122_ra r122.1) K_ ?in128 ?rd128
            case in128 =>
             intro st
             have hS118_ra_38 : Sl eR w123 (ZZ Z w.heap.size [some b9, some b1]) A118_ra c118_ra r118.1 := ((hS118_ra.mv (mv_ext hx120)).mv (mv_ext hx122))
             exact ⟨(0 : Int), hL128, (puts_size _ _).trans st.sz, (puts_defers _ _).trans st.df, (sl_puts st 14).trans rfl, (sl_puts st 16).trans rfl, (sl_puts st 18).trans rfl, hp38, hS118_ra_38, hS122_ra⟩
            case rd128 =>
             rintro (_ | m_) fr128 w128r ⟨s128_18, hL128, hsz128, hdf128, hs128_14, hs128_16, hs128_18, hp39, f128_hS118_ra, f128_hS122_ra⟩
             ·exact absurd (show none = some _ from hL128) (by simp)
             rw [G_WeedWider_L128.eq_2] at hL128
             have hG := hL128; clear hL128
             refine round_cc (N := 150) hsz128 hdf128 <| cc_seq <| cc_seq <| cc_region <| wm rfl (v := I s128_18) hs128_18 <| wm rfl (v := .slice A118_ra r118.1.length c118_ra) hs128_14 <| wd rfl (fun st => x_len Try.underlying29 (ee st rfl)) <| wd rfl (fun st => x_lss (ee st rfl) (ee st rfl)) <| wl_end <| lv_next ?_
             rcases bool_cases (decide (s128_18 < (r118.1.length : Int))) with hc129 | hc129
             ·replace hG := cond_t hG hc129
              refine cc_cond_t rfl hc129 <| cc_skip <| lv_next <| cc_seq <| cc_block <| cc_seq ?_
              replace hG := idx_bind hG; obtain ⟨i131, x131, hi131, hx131, hl131, hG⟩ := hG
              obtain ⟨b131, o131, _, hA131, rfl, hz131⟩ := Sl.elem f128_hS118_ra (by decide) hx131
              replace hG := idx_bind hG; obtain ⟨i132, x132, hi132, hx132, hl132, hG⟩ := hG
              obtain ⟨b132, o132, _, hA132, rfl, hz132⟩ := Sl.elem f128_hS122_ra (by decide) hx132
              refine cc_anyM0 8 [Kc (.slice A118_ra r118.1.length c118_ra), Kc (I s128_18), Kc (pt b131 (o131 + i131 * 2)), Kc (.agg #[I x131.1, I x131.2]), Kc (.slice A122_ra r122.1.length c122_ra), Kc (I s128_18), Kc (pt b132 (o132 + i132 * 2)), Kc (.agg #[I x132.1, I x132.2])] mixedL10 rfl rfl
                  (obsN_cons (od rfl (fun _ => rfl) (fun K => x_move (v := .slice A118_ra r118.1.length c118_ra) (es (t := 14) (v := .slice A118_ra r118.1.length c118_ra) ((K.out 14 rfl).trans hs128_14))))
                  (obsN_cons (od rfl (fun _ => rfl) (fun K => x_move (v := I s128_18) (es (t := 18) (v := I s128_18) ((K.out 18 rfl).trans hs128_18))))
                  (obsN_cons (od rfl (fun _ => rfl) (fun K => x_indexAddrN (k := i131) Try.underlying29 sz_33 (es (t := 139) (v := .slice A118_ra r118.1.length c118_ra) (K.dep 0 139 rfl rfl)) hA131 (es (t := 140) (v := I s128_18) (K.dep 1 140 rfl rfl)) hi131 hl131))
                  (obsN_cons (od rfl (fun _ => rfl) (fun K => x_load_zn0 (l := [I x131.1, I x131.2]) agg_33 (es (t := 141) (v := pt b131 (o131 + i131 * 2)) (K.dep 2 141 rfl rfl)) (hz131.mv (mv_ext K.phT)) rfl rfl))
                  (obsN_cons (od rfl (fun _ => rfl) (fun K => x_move (v := .slice A122_ra r122.1.length c122_ra) (es (t := 16) (v := .slice A122_ra r122.1.length c122_ra) ((K.out 16 rfl).trans hs128_16))))
                  (obsN_cons (od rfl (fun _ => rfl) (fun K => x_move (v := I s128_18) (es (t := 18) (v := I s128_18) ((K.out 18 rfl).trans hs128_18))))
                  (obsN_cons (od rfl (fun _ => rfl) (fun K => x_indexAddrN (k := i132) Try.underlying29 sz_33 (es (t := 143) (v := .slice A122_ra r122.1.length c122_ra) (K.dep 4 143 rfl rfl)) hA132 (es (t := 144) (v := I s128_18) (K.dep 5 144 rfl rfl)) hi132 hl132))
                  (obsN_cons (od rfl (fun _ => rfl) (fun K => x_load_zn0 (l := [I x132.1, I x132.2]) agg_33 (es (t := 145) (v := pt b132 (o132 + i132 * 2)) (K.dep 6 145 rfl rfl)) (hz132.mv (mv_ext K.phT)) rfl rfl))
                  (obsN_nil _))))))))) ?_
              intro w130
              rintro _ rfl _ rfl _ rfl _ rfl _ rfl _ rfl _ rfl _ rfl hx130
              have hp40 : Hp w [some b9, some b1] w130 := hp39.ext hx130
              replace hG := bind_some hG; obtain ⟨r133, hr133, hG⟩ := hG
              refine we rfl (fun st => x_call0 own_44 (ee st rfl) (am2 (ee st rfl) (ee st rfl)) (a44 K_ x131 x132 ZA _ r133 hr133)) ?_
              rintro _ w134 ⟨hx133, rfl⟩
              have hp41 : Hp w [some b9, some b1] w134 := hp40.ext hx133
              refine wd rfl (fun st => x_not (ee st rfl)) <| wl_end <| lv_next ?_
              rcases bool_cases (!r133) with hc135 | hc135
              ·replace hG := cond_t hG hc135
               have hc135_136 : r133 = false := by simpa using hc135
               refine cc_cond_t rfl hc135 <| cc_seq <| cc_region <| wa rfl (v := .bool false) rfl <| wl_end <| lv_next <| cc_ret <| lv_block_ret <| lv_then_ret <| lv_then_ret ?_
               obtain rfl := Option.some.inj hG
               refine lv_to (fun st => ?_)
               exact .inl ⟨rfl, false, rfl, (puts_size _ _).trans st.sz, (puts_defers _ _).trans st.df, (sl_puts st 6).trans rfl, hp41⟩
              ·replace hG := cond_f hG hc135
               have hc135_137 : r133 = true := by simpa using hc135
               refine cc_cond_f rfl hc135 <| cc_skip <| lv_block <| lv_next <| cc_region <| wm rfl (v := I s128_18) hs128_18 ?_
               replace hG := i64_bind hG; obtain ⟨hf138, hG⟩ := hG
               refine wd rfl (fun st => x_add (ee st rfl) (ee st rfl) hf138) <| wa rfl (v := I (s128_18 + 1)) rfl <| wl_end ?_
               have hS118_ra_41 : Sl eR w134 (ZZ Z w.heap.size [some b9, some b1]) A118_ra c118_ra r118.1 := ((f128_hS118_ra.mv (mv_ext hx130)).mv (mv_ext hx133))
               have hS122_ra_41 : Sl eR w134 (ZZ Z w.heap.size [some b9, some b1]) A122_ra c122_ra r122.1 := ((f128_hS122_ra.mv (mv_ext hx130)).mv (mv_ext hx133))
               refine lv_round m_ (Nat.lt_succ_self _) (fun st => ?_)
               exact ⟨(s128_18 + 1), hG, (puts_size _ _).trans st.sz, (puts_defers _ _).trans st.df, (sl_puts st 14).trans hs128_14, (sl_puts st 16).trans hs128_16, (sl_puts st 18).trans rfl, hp41, hS118_ra_41, hS122_ra_41⟩
             ·replace hG := cond_f hG hc129
              refine cc_cond_f rfl hc129 <| cc_exit <| lv_then_exit <| lv_then_exit ?_
              obtain rfl := Option.some.inj hG
              refine lv_to (fun st => ?_)
              exact .inr ⟨rfl, (), rfl, (puts_size _ _).trans st.sz, (puts_defers _ _).trans st.df, hp39⟩
           case af128 =>
            rintro e_ fr128a w128a (⟨rfl, q128, rfl, hsz128a, hdf128a, hs128a_6, hp128a⟩ | ⟨rfl, q128, rfl, hsz128a, hdf128a, hp128a⟩)
            ·skip
             replace hG := inl_some hG
             refine lv_fr (X := X0) (N := 150) hsz128a hdf128a <| lv_block_ret <| lv_then_ret ?_
             have hr_ := Option.some.inj hG
             refine lv_ret1 rfl hs128a_6 ?_
             exact ⟨hp128a.fin, congrArg Value.bool hr_⟩
            ·skip
             replace hG := inr_some hG
             refine lv_fr (X := X0) (N := 150) hsz128a hdf128a <| lv_block_hit <| lv_next <| cc_seq <| cc_region ?_
             replace hG := ifo_bind hG; obtain ⟨hw139, hG⟩ := hG
             refine we rfl (fun st => x_call0 own_21 (ee st rfl) am0 (a21 K_ ZA _ hw139)) ?_
             rintro _ w140 ⟨hx139, rfl⟩
             have hp44 : Hp w [some b9, some b1] w140 := hp128a.ext hx139
             refine wa rfl (v := .bool true) rfl <| wl_end <| lv_next <| cc_ret ?_
             have hr_ := Option.some.inj hG
             refine lv_ret1 rfl rfl ?_
             exact ⟨hp44.fin, congrArg Value.bool hr_⟩
end Go.Proofs.Ythogdgkafaclaaa
end
section
namespace Go.Proofs.Ythogdgkafaclaaa
open Go.RowKit Go.ChangeShapes Go.WideShapes
theorem mapM_get {α β : Type} {g : α → Option β} : ∀ {l : List α} {r : List β}, l.mapM g = some r → ∀ (i : Nat) (x : α), l[i]? = some x → ∃ y, r[i]? = some y ∧ g x = some y
  | [], _, _, i, x, hx => by simp at hx
  | a :: l, r, h, i, x, hx => by
    rw [List.mapM_cons] at h
    obtain ⟨y, hy, h2⟩ := Option.bind_eq_some_iff.1 h
    obtain ⟨ys, hys, h3⟩ := Option.bind_eq_some_iff.1 h2
    obtain rfl : y :: ys = r := by simpa using h3
    cases i with
    | zero =>
      obtain rfl : a = x := by simpa using hx
      exact ⟨y, rfl, hy⟩
    | succ i => exact mapM_get hys i x (by simpa using hx)
theorem weightsAll_mem {H : Type} {P : Program} {e : TypeId} {d : DataW H} {n : Nat} (hn : n ∈ d.weights P e) : ∀ {l : List (DataW H)}, d ∈ l → n ∈ DataW.weightsAll P e l
  | [], h => by cases h
  | a :: l, h => by
    rw [DataW.weightsAll, List.mem_append]
    rcases List.mem_cons.1 h with rfl | h
    · exact .inl hn
    · exact .inr (weightsAll_mem hn h)
/-- No slice in it takes more bytes than the form lets in. -/
def Slim {H : Type} (P : Program) (t : TypeId) (d : DataW H) : Prop := ∀ n ∈ d.weights P t, n ≤ reachBytes
theorem slim_at {H : Type} {P : Program} {ts : List TypeId} {ds : List (DataW H)} (h : (DataW.weightsEach P ts ds).all (· ≤ reachBytes) = true) {j : Nat} {t : TypeId} {d : DataW H} (ht : ts[j]? = some t) (hd : ds[j]? = some d) : Slim P t d := fun n hn => by
  have := List.all_eq_true.1 h _ (DataW.weights_mem_each ht hd n hn)
  simpa using this
/-- A reading of this type is data of this kind. -/
def Opn {α : Type} (P : Program) (t : TypeId) (e : Enc α) (wf : α → Prop) : Prop :=
  ∀ (H : Type) (enc : TypeId × Value → H) (w : World) (sp : Nat → Bool) (fuel : Nat) (cs : List Value) (x : DataW H × List MemPlace), DataW.trod enc P w 0 sp true fuel t cs = some x → Slim P t x.1 → ∃ a, e.R w ZA cs a ∧ wf a
def wfI (k : IntKind) (n : Int) : Prop := (Lit.int k n).wf = true
section
variable {P : Program} {t : TypeId}
theorem opn_int {k : IntKind} (ht : P.underlying t = some (.int k)) : Opn P t (eInt k) (wfI k) := by
  intro H enc w sp fuel cs x h _
  obtain ⟨n, h1, _, h3⟩ := DataW.trod_int ht h
  exact ⟨n, h1, h3⟩
/-- A struct's fields. -/
theorem trod_fields {fs : Array Field} (ht : P.underlying t = some (.struct fs)) {H : Type} {enc : TypeId × Value → H} {w : World} {sp : Nat → Bool} {fuel : Nat} {cs : List Value} {x : DataW H × List MemPlace} (h : DataW.trod enc P w 0 sp true fuel t cs = some x) :
    cs.length = P.cellsOf t ∧ ∃ fuel', ∀ (i ft off : Nat), (fs[i]?).map (fun f => (f.type, f.offset)) = some (ft, off) → ∃ y, DataW.trod enc P w 0 sp true fuel' ft ((cs.drop off).take (P.cellsOf ft)) = some y ∧ (Slim P t x.1 → Slim P ft y.1) := by
  cases fuel with
  | zero => simp [DataW.trod] at h
  | succ fuel =>
    unfold DataW.trod at h
    simp only [ht] at h
    split at h
    · rename_i hl
      obtain ⟨xs, hx, rfl⟩ := Option.map_eq_some_iff.1 h
      refine ⟨hl, fuel, fun i ft off hf => ?_⟩
      obtain ⟨f, hf', he⟩ := Option.map_eq_some_iff.1 hf
      obtain ⟨e1, e2⟩ : f.type = ft ∧ f.offset = off := by simpa using he
      rw [← Array.getElem?_toList] at hf'
      obtain ⟨y, hy, hg⟩ := mapM_get hx i f hf'
      rw [e1, e2] at hg
      refine ⟨y, hg, fun hs n hn => hs n ?_⟩
      simp only [DataW.weights, ht]
      exact DataW.weights_mem_each (j := i) (t := ft) (d := y.1) (by rw [List.getElem?_map, hf']; simp [e1]) (by rw [List.getElem?_map, hy]; rfl) n hn
    · cases h
theorem cells_cell {w : World} {a : Addr} {n : Nat} {cs : List Value} (h : w.cells? 0 a n = some cs) : cs.length = n ∧ ∀ j u, cs[j]? = some u → w.cell? (a.add j) = some u := by
  unfold World.cells? at h
  rw [if_pos (Nat.zero_le _)] at h
  have hl := mapM_some_length h
  refine ⟨by simpa using hl, ?_⟩
  have key : ∀ (l : List Nat) (r : List Value), l.mapM (fun i => w.cell? (a.add i)) = some r → ∀ (j i : Nat) (u : Value), l[j]? = some i → r[j]? = some u → w.cell? (a.add i) = some u := by
    intro l
    induction l with
    | nil => intro r _ j i u hj; simp at hj
    | cons b l ih =>
      intro r h j i u hj hr
      rw [List.mapM_cons] at h
      obtain ⟨y, hy, h2⟩ := Option.bind_eq_some_iff.1 h
      obtain ⟨ys, hys, h3⟩ := Option.bind_eq_some_iff.1 h2
      obtain rfl : y :: ys = r := by simpa using h3
      cases j with
      | zero =>
        obtain rfl : b = i := by simpa using hj
        obtain rfl : y = u := by simpa using hr
        exact hy
      | succ j => exact ih ys hys j i u (by simpa using hj) (by simpa using hr)
  intro j u hj
  have hlt : j < n := by
    have := (List.getElem?_eq_some_iff.1 hj).1
    have h2 : cs.length = n := by simpa using hl
    omega
  exact key _ _ h j j u (by simp [hlt]) hj
theorem cell_none {w : World} {a : Addr} {u : Value} (h : w.cell? a = some u) : ∃ b o, a = ⟨b, o, none⟩ ∧ b < w.heap.size := by
  obtain ⟨b, o, pt⟩ := a
  cases pt with
  | none =>
    refine ⟨b, o, rfl, ?_⟩
    unfold World.cell? at h
    cases hq : w.heap[b]? with
    | none => simp [hq] at h
    | some o => exact (Array.getElem?_eq_some_iff.1 hq).1
  | some q =>
    unfold World.cell? at h
    cases hq : w.heap[b]? with
    | none => simp [hq] at h
    | some ob => cases ob <;> simp [hq] at h
theorem add_add {a : Addr} {k j : Nat} (h : k ≤ j) : (a.add k).add (j - k) = a.add j := by
  obtain ⟨b, o, pt⟩ := a
  cases pt with
  | none => rw [addr_add, addr_add, addr_add]; congr 1; omega
  | some q =>
    unfold Addr.add
    by_cases hj : j = 0
    · have : k = 0 := by omega
      subst this; subst hj; simp
    · by_cases hk : k = 0
      · subst hk; simp [hj]
      · by_cases hjk : j - k = 0
        · have : j = k := by omega
          subst this; simp [hk]
        · simp [hj, hk, hjk]; omega
/-- Slices of what can be read. -/
theorem opn_slice {α : Type} {e : TypeId} {ee : Enc α} {wf : α → Prop} (ht : P.underlying t = some (.slice e)) (hc : P.cellsOf e = ee.sz) (h0 : 0 < ee.sz) (ho : Opn P e ee wf) {b : Nat} (hby : P.bytesOf e = b) : Opn P t (eSl ee) (fun xs => xs.length * b ≤ 140737488351232 ∧ ∀ x ∈ xs, wf x) := by
  intro H enc w sp fuel cs x h hsl
  rcases Go.Deep.open_slice ht h with ⟨rfl, _⟩ | ⟨a, len, cap, m, n0, D, Pl, rfl, _, hlc, hcm, hm, hxe, hall⟩
  · exact ⟨[], ⟨none, 0, rfl, Sl.nil _ _ _⟩, by simp, by simp⟩
  · have hlm : len ≤ m := by rw [hm]; split <;> omega
    subst hxe
    have hroom : len * b ≤ 140737488351232 := by
      have := hsl ((((List.range len).map D).length + ((List.range (m - len)).map fun j => D (len + j)).length) * P.bytesOf e) (by simp [DataW.weights, ht])
      rw [hby] at this
      have h2 : len * b ≤ (((List.range len).map D).length + ((List.range (m - len)).map fun j => D (len + j)).length) * b := Nat.mul_le_mul_right _ (by simp)
      exact Nat.le_trans h2 this
    have hslim : ∀ i, i < len → Slim P e (D i) := fun i hi n hn => hsl n (by
      simp only [DataW.weights, ht]
      rw [List.mem_cons, List.mem_append]
      exact .inr (.inl (weightsAll_mem hn (List.mem_map.2 ⟨i, by simpa using hi, rfl⟩))))
    have key : ∀ n, n ≤ len → ∃ css xs, R2 ee w ZA css xs ∧ xs.length = n ∧ (∀ x ∈ xs, wf x) ∧ ∀ j u, css.flatten[j]? = some u → w.cell? (a.add j) = some u := by
      intro n
      induction n with
      | zero => exact fun _ => ⟨[], [], trivial, rfl, by simp, by simp⟩
      | succ n ih =>
        intro hn
        obtain ⟨css, xs, h1, h2, h3, h4⟩ := ih (by omega)
        obtain ⟨ds, hd, hy2⟩ := hall n (by omega)
        obtain ⟨z, hz, hwz⟩ := ho _ _ _ _ _ _ _ hy2 (hslim n (by omega))
        obtain ⟨hl, hcell⟩ := cells_cell hd
        refine ⟨css ++ [ds], xs ++ [z], h1.append ⟨hz, trivial⟩, by simp [h2], ?_, ?_⟩
        · intro x hx
          rcases List.mem_append.1 hx with hx | hx
          · exact h3 x hx
          · rw [List.mem_singleton.1 hx]; exact hwz
        · intro j u hj
          rw [List.flatten_append] at hj
          rcases Nat.lt_or_ge j css.flatten.length with hlt | hge
          · rw [List.getElem?_append_left hlt] at hj
            exact h4 j u hj
          · rw [List.getElem?_append_right hge] at hj
            have h5 := hcell (j - css.flatten.length) u (by simpa using hj)
            have hfl : css.flatten.length = n * ee.sz := by rw [h1.flen, h2]
            rw [hfl] at h5 hge
            rw [hc] at h5
            rw [add_add hge] at h5
            exact h5
    obtain ⟨css, xs, h1, h2, h3, h4⟩ := key len (Nat.le_refl _)
    refine ⟨xs, ⟨some a, cap, by rw [h2], by rw [h2]; exact hlc, (fun e => by cases e), css, h1, ?_⟩, by rw [h2]; exact hroom, h3⟩
    cases hf : css.flatten with
    | nil => exact .inl rfl
    | cons u us =>
      have hu := h4 0 u (by rw [hf]; rfl)
      obtain ⟨b, o, hab, hlt⟩ := cell_none hu
      have ha : a = ⟨b, o, none⟩ := by
        obtain ⟨b', o', pt⟩ := a
        cases pt <;> simp [Addr.add] at hab ⊢
        exact hab
      subst ha
      refine .inr ⟨b, o, rfl, trivial, hlt, fun j u hj => ?_⟩
      have := h4 j u (by rw [hf]; exact hj)
      rw [addr_add] at this
      exact this
end
section
variable {H : Type} {enc : TypeId × Value → H} {P : Program} {W W' : World}
theorem trodAll_carry {sp : Nat → Bool} : ∀ {ts : List TypeId} {vs : List Value} {ds : List (DataW H)} {ps : List MemPlace}, DataW.TrodAll enc P W 0 sp true ts vs ds ps → (∀ p ∈ ps, W.sameAt W' p) → DataW.TrodAll enc P W' 0 sp true ts vs ds ps
  | [], _, _, _, h, _ => by
    obtain ⟨rfl, rfl, rfl⟩ := trodAll_nil h
    exact rfl
  | _ :: _, _, _, _, h, hs => by
    obtain ⟨v, vs1, d, ds1, a, b, rfl, rfl, rfl, ⟨n, hn⟩, h2⟩ := trodAll_cons h
    exact ⟨a, b, ⟨n, DataW.trod_carry n _ _ _ hn fun p hp => hs p (List.mem_append_left _ hp)⟩, trodAll_carry h2 fun p hp => hs p (List.mem_append_right _ hp), rfl⟩
theorem args_read (K : Kids P (· < P.types.size)) (hz : ∀ t e, t < P.types.size → P.underlying t = some (.slice e) → 0 < P.cellsOf e) {ts : List TypeId} {vs : List Value} {ds : List (DataW H)} {ps : List MemPlace} (hT : ∀ t ∈ ts, t < P.types.size)
    (hA : DataW.TrodAll enc P W 0 (fun _ => true) true ts vs ds ps) (hb : Ext W W') (hlt : ∀ p ∈ ps, p.block < W.heap.size) (sp : Nat → Bool) (hs : ∀ p ∈ ps, sp p.block = true) : DataW.TrodAll enc P W' 0 sp true ts vs ds ps :=
  trodAll_carry (DataW.TrodAll.respare K hz hT hA hs) fun p hp => (below_of_ext hb).same (hlt p hp)
variable {α : Type} {e : Enc α} {wf : α → Prop} {t : TypeId} {b0 : Nat} {v : Value} {d : DataW H} {p : List MemPlace} {sp : Nat → Bool}
theorem val_agg {fs : Array Field} (ht : P.underlying t = some (.struct fs)) (ho : Opn P t e wf) (hv : Value.okWide P W .any b0 t v) (h : DataW.Trod enc P W 0 sp true t v d p) (hs : Slim P t d) : ∃ a cs, v = .agg cs.toArray ∧ e.R W ZA cs a ∧ wf a := by
  unfold Value.okWide at hv
  rw [ht] at hv
  obtain ⟨cs, rfl, _⟩ := hv
  obtain ⟨n, hn⟩ := h
  obtain ⟨a, h1, h2⟩ := ho _ _ _ _ _ _ _ hn hs
  exact ⟨a, cs.toList, by simp, h1, h2⟩
theorem val_int {k : IntKind} (ht : P.underlying t = some (.int k)) (hv : Value.okWide P W .any b0 t v) (h : DataW.Trod enc P W 0 sp true t v d p) : ∃ n, v = .int k n ∧ wfI k n := by
  obtain ⟨n, h1, _, _, h4⟩ := open_int ht hv h
  exact ⟨n, h1, h4⟩
/-- The row's end: the call has laid new blocks alone. -/
theorem post_of_ext {f : Func} {s : ChangeSpec} {apart fresh handsOn again : Bool} {args : Array Value} {v : Value} {ds gs : List (DataW H)} {before pa pv : List MemPlace}
    (hW : DataW.Whole enc P f.params.toList s.vars apart W args.toList ds gs before)
    (hres : ∀ (b : Nat) (sp : Nat → Bool) (hd : Bool), DataW.TrodAll enc P W' b sp hd f.resultTypes.toList (v.resultList f.resultTypes.size) (s.fn H (ds ++ gs)).results [])
    (hargs : ∀ sp : Nat → Bool, (∀ p ∈ before, sp p.block = true) → DataW.TrodAll enc P W' 0 sp true f.params.toList args.toList (s.fn H (ds ++ gs)).args pa)
    (hvars : ∀ sp : Nat → Bool, (∀ p ∈ before, sp p.block = true) → DataW.TrodVars enc P W' sp s.vars (s.fn H (ds ++ gs)).vars pv)
    (hps : before = pa ++ pv) (hx : Ext W W')
    (hok : ∀ (j : Nat) (t : TypeId) (r : Value), f.resultTypes[j]? = some t → (v.resultList f.resultTypes.size)[j]? = some r → Value.okWide P W' .any 0 t r) :
    s.post enc P f apart fresh handsOn again W args v W' := by
  have hb := below_of_ext hx
  have hlt : ∀ p ∈ before, p.block < W.heap.size := fun p hp => hW.lt p hp
  have hold : ∀ p ∈ before, (fun b => decide (b < W.heap.size)) p.block = true := fun p hp => by simpa using hlt p hp
  refine ⟨ds, gs, before, [], pa, pv, hW, hres _ _ _, hargs _ hold, hvars _ hold, World.keptBut_mono (fun p hp => ⟨hp, ?_⟩) (hb.frame (· ∈ before)), fun _ => ?_⟩
  · rw [hps, List.mem_append] at hp
    exact Or.inr hp
  · obtain ⟨_, _, _, _, _, hz, hn⟩ := hW
    refine ⟨hok, _, _, ([] ++ pa) ++ pv, ⟨[] ++ pa, pv, trodAll_append (hargs _ (fun _ _ => rfl)) (hres _ _ _), hvars _ (fun _ _ => rfl), rfl, ?_, ?_⟩, ?_⟩
    · intro b off hp
      have hin : MemPlace.cell b off ∈ before := by rw [hps]; simpa using hp
      rw [hb.frozen (hlt _ hin)]
      exact hz b off hin
    · intro ha
      have := hn ha
      rw [hps] at this
      simpa using this
    · intro p hp _
      rw [hps]
      simpa using hp
theorem ret_calls {f : FuncId} {args : Array Value} {w : World} {R : Value → World → Prop} (h : Ret P f args w R) : Calls P f args w (fun e w' => ∃ v, e = .returned v ∧ R v w') := h
end
end Go.Proofs.Ythogdgkafaclaaa
end
section
set_option linter.unusedVariables false
set_option linter.unusedSimpArgs false
namespace Go.Proofs.Ythogdgkafaclaaa
open Go.RowKit
open Go.RowKit Go.ChangeShapes Go.WideShapes
theorem len_2 : ∀ {cs : List Value}, cs.length = 2 → ∃ a0 a1, cs = [a0, a1]
  | [a0, a1], _ => ⟨a0, a1, rfl⟩
theorem len_5 : ∀ {cs : List Value}, cs.length = 5 → ∃ a0 a1 a2 a3 a4, cs = [a0, a1, a2, a3, a4]
  | [a0, a1, a2, a3, a4], _ => ⟨a0, a1, a2, a3, a4, rfl⟩
theorem opn_23 : Opn Try.prog 23 eR (fun x => (wfI .i64 x.1 ∧ wfI .i64 x.2)) := by
  intro H enc w sp fuel cs x h hz
  obtain ⟨hl, fuel', hf⟩ := trod_fields Try.underlying23 h
  have hc : Try.prog.cellsOf 23 = 2 := by kernel_rfl
  rw [hc] at hl
  have k3 : Try.prog.cellsOf 3 = 1 := by kernel_rfl
  obtain ⟨a0, a1, rfl⟩ := len_2 hl
  obtain ⟨y0, hy0, hz0⟩ := hf 0 3 0 rfl
  simp only [k3, List.drop_zero, List.drop_succ_cons, List.take_succ_cons, List.take_zero] at hy0
  obtain ⟨n0, h0, w0⟩ := (opn_int Try.underlying3) _ _ _ _ _ _ _ hy0 (hz0 hz)
  cases h0
  obtain ⟨y1, hy1, hz1⟩ := hf 1 3 1 rfl
  simp only [k3, List.drop_zero, List.drop_succ_cons, List.take_succ_cons, List.take_zero] at hy1
  obtain ⟨n1, h1, w1⟩ := (opn_int Try.underlying3) _ _ _ _ _ _ _ hy1 (hz1 hz)
  cases h1
  exact ⟨⟨n0, n1⟩, rfl, w0, w1⟩
theorem opn_68 : Opn Try.prog 68 eTly (fun x => (wfI .i64 x.who ∧ wfI .i64 x.fr ∧ wfI .i64 x.to ∧ (wfI .i64 ((⟨x.lo, x.hi⟩ : (Int × Int)).1) ∧ wfI .i64 ((⟨x.lo, x.hi⟩ : (Int × Int)).2)))) := by
  intro H enc w sp fuel cs x h hz
  obtain ⟨hl, fuel', hf⟩ := trod_fields Try.underlying68 h
  have hc : Try.prog.cellsOf 68 = 5 := by kernel_rfl
  rw [hc] at hl
  have k3 : Try.prog.cellsOf 3 = 1 := by kernel_rfl
  have k23 : Try.prog.cellsOf 23 = 2 := by kernel_rfl
  obtain ⟨a0, a1, a2, a3, a4, rfl⟩ := len_5 hl
  obtain ⟨y0, hy0, hz0⟩ := hf 0 3 0 rfl
  simp only [k3, List.drop_zero, List.drop_succ_cons, List.take_succ_cons, List.take_zero] at hy0
  obtain ⟨n0, h0, w0⟩ := (opn_int Try.underlying3) _ _ _ _ _ _ _ hy0 (hz0 hz)
  cases h0
  obtain ⟨y1, hy1, hz1⟩ := hf 1 3 1 rfl
  simp only [k3, List.drop_zero, List.drop_succ_cons, List.take_succ_cons, List.take_zero] at hy1
  obtain ⟨n1, h1, w1⟩ := (opn_int Try.underlying3) _ _ _ _ _ _ _ hy1 (hz1 hz)
  cases h1
  obtain ⟨y2, hy2, hz2⟩ := hf 2 3 2 rfl
  simp only [k3, List.drop_zero, List.drop_succ_cons, List.take_succ_cons, List.take_zero] at hy2
  obtain ⟨n2, h2, w2⟩ := (opn_int Try.underlying3) _ _ _ _ _ _ _ hy2 (hz2 hz)
  cases h2
  obtain ⟨y3, hy3, hz3⟩ := hf 3 23 3 rfl
  simp only [k23, List.drop_zero, List.drop_succ_cons, List.take_succ_cons, List.take_zero] at hy3
  obtain ⟨n3, h3, w3⟩ := opn_23 _ _ _ _ _ _ _ hy3 (hz3 hz)
  cases h3
  exact ⟨⟨n0, n1, n2, n3.1, n3.2⟩, rfl, w0, w1, w2, w3⟩
theorem opn_26 : Opn Try.prog 26 eFld (fun x => (wfI .i64 x.rows ∧ wfI .i64 x.wd ∧ (wfI .i64 ((⟨x.lo, x.hi⟩ : (Int × Int)).1) ∧ wfI .i64 ((⟨x.lo, x.hi⟩ : (Int × Int)).2)) ∧ (x.ts.length * 40 ≤ 140737488351232 ∧ ∀ y ∈ x.ts, (wfI .i64 y.who ∧ wfI .i64 y.fr ∧ wfI .i64 y.to ∧ (wfI .i64 ((⟨y.lo, y.hi⟩ : (Int × Int)).1) ∧ wfI .i64 ((⟨y.lo, y.hi⟩ : (Int × Int)).2)))))) := by
  intro H enc w sp fuel cs x h hz
  obtain ⟨hl, fuel', hf⟩ := trod_fields Try.underlying26 h
  have hc : Try.prog.cellsOf 26 = 5 := by kernel_rfl
  rw [hc] at hl
  have k3 : Try.prog.cellsOf 3 = 1 := by kernel_rfl
  have k23 : Try.prog.cellsOf 23 = 2 := by kernel_rfl
  have k24 : Try.prog.cellsOf 24 = 1 := by kernel_rfl
  obtain ⟨a0, a1, a2, a3, a4, rfl⟩ := len_5 hl
  obtain ⟨y0, hy0, hz0⟩ := hf 0 3 0 rfl
  simp only [k3, List.drop_zero, List.drop_succ_cons, List.take_succ_cons, List.take_zero] at hy0
  obtain ⟨n0, h0, w0⟩ := (opn_int Try.underlying3) _ _ _ _ _ _ _ hy0 (hz0 hz)
  cases h0
  obtain ⟨y1, hy1, hz1⟩ := hf 1 3 1 rfl
  simp only [k3, List.drop_zero, List.drop_succ_cons, List.take_succ_cons, List.take_zero] at hy1
  obtain ⟨n1, h1, w1⟩ := (opn_int Try.underlying3) _ _ _ _ _ _ _ hy1 (hz1 hz)
  cases h1
  obtain ⟨y2, hy2, hz2⟩ := hf 2 23 2 rfl
  simp only [k23, List.drop_zero, List.drop_succ_cons, List.take_succ_cons, List.take_zero] at hy2
  obtain ⟨n2, h2, w2⟩ := opn_23 _ _ _ _ _ _ _ hy2 (hz2 hz)
  cases h2
  obtain ⟨y3, hy3, hz3⟩ := hf 3 24 4 rfl
  simp only [k24, List.drop_zero, List.drop_succ_cons, List.take_succ_cons, List.take_zero] at hy3
  obtain ⟨n3, ⟨A3, c3, h3, s3⟩, w3⟩ := (opn_slice (b := 40) Try.underlying24 (by kernel_rfl) (by decide) opn_68 (by kernel_rfl)) _ _ _ _ _ _ _ hy3 (hz3 hz)
  cases h3
  exact ⟨⟨n0, n1, n2.1, n2.2, n3⟩, ⟨A3, c3, rfl, s3⟩, w0, w1, w2, w3⟩
theorem ownT : ownKnob Try.prog.godebug = none := by kernel_rfl
theorem kidsT : Kids Try.prog (· < Try.prog.types.size) := kids_rows (by kernel_rfl) (by kernel_rfl)
theorem fullT : ∀ t e, t < Try.prog.types.size → Try.prog.underlying t = some (.slice e) → 0 < Try.prog.cellsOf e := slices_full_of Try.prog (by kernel_rfl)
end Go.Proofs.Ythogdgkafaclaaa
end
section
namespace Go.Proofs.Ythogdgkafaclaaa
theorem wf8 {x : Int} (h : wfI .u8 x) : 0 ≤ x ∧ x < 256 := by
  have h2 : (decide (IntKind.u8.min ≤ x) && decide (x ≤ IntKind.u8.max)) = true := h
  rw [Bool.and_eq_true, decide_eq_true_eq, decide_eq_true_eq] at h2
  have e1 : IntKind.u8.min = 0 := by decide
  have e2 : IntKind.u8.max = 255 := by decide
  omega
end Go.Proofs.Ythogdgkafaclaaa
end
section
set_option linter.unusedVariables false
set_option linter.unusedSimpArgs false
namespace Go.Proofs.Ythogdgkafaclaaa
open Go.RowKit
open Go.RowKit Go.ChangeShapes Go.WideShapes Go.ChangeAt
theorem weedWider_row (f : Fld) (w r : Int) (h0 : (wfI .i64 f.rows ∧ wfI .i64 f.wd ∧ (wfI .i64 ((⟨f.lo, f.hi⟩ : (Int × Int)).1) ∧ wfI .i64 ((⟨f.lo, f.hi⟩ : (Int × Int)).2)) ∧ (f.ts.length * 40 ≤ 140737488351232 ∧ ∀ y ∈ f.ts, (wfI .i64 y.who ∧ wfI .i64 y.fr ∧ wfI .i64 y.to ∧ (wfI .i64 ((⟨y.lo, y.hi⟩ : (Int × Int)).1) ∧ wfI .i64 ((⟨y.lo, y.hi⟩ : (Int × Int)).2)))))) (h1 : wfI .u8 w) (h2 : wfI .u8 r) : ∃ K, G_WeedWider K f w r = some true := weedWider_true f w r h0.2.2.2.1 (wf8 h1) (wf8 h2)
set_option maxRecDepth 100000 in
theorem weedWider_lifted (os : Os) (started : os.Started) (H : Type) (enc : TypeId × Value → H) :
    ReturnsInHanded {} Try.checked os 10 .any (Rows.weedWiderSpec.pre6 enc Try.prog Try.f10 Rows.weedWiderRow.domain false) (Rows.weedWiderSpec.post enc Try.prog Try.f10 false true false false) := by
  refine returnsInHanded_of_change_sized (C := Try.checked) ownT started (by kernel_rfl) Try.func10
    (ChangeSpec.witness6 (enc := enc) (C := Try.checked) false ⟨#[], #[.agg #[.int .i64 0, .int .i64 0, .int .i64 0, .int .i64 0, .slice none 0 0], .int .u8 0, .int .u8 0], []⟩ 8 (by kernel_rfl) (by kernel_rfl) (by kernel_rfl) (by kernel_rfl)) ?_
  intro W base args ds gs before hval0 hW hcnd hsz _
  have hval : ∀ (j : Nat) t v, Try.f10.params[j]? = some t → args[j]? = some v → Value.okWide Try.prog W .any base t v := hval0
  have hW' := hW
  obtain ⟨p, q, hA0, hV, rfl, hfz, hnd⟩ := hW
  have hA : DataW.TrodAll enc Try.prog W 0 (fun _ => true) true Try.f10.params.toList args.toList ds p := hA0
  obtain ⟨rfl, rfl⟩ := trodVars_none hV
  simp only [List.append_nil] at hW'
  have hlt : ∀ x ∈ p, x.block < W.heap.size := fun x hx => by simpa using hW'.lt x hx
  have hAk := hA
  have hsz2 : (DataW.weightsEach Try.prog (Try.f10.params.toList ++ []) (ds ++ [])).all (· ≤ reachBytes) = true := hsz
  rw [Try.params10] at hA hval hsz2
  obtain ⟨v0, v1, v2, d0, d1, d2, p0, p1, p2, rfl, rfl, rfl, h0, h1, h2⟩ := trodAll_three hA
  obtain ⟨x0, cs0, hv0, ⟨A0_0, c0_0, rfl, s0_0⟩, w0⟩ := val_agg Try.underlying26 opn_26 (hval 0 26 v0 rfl rfl) h0 (slim_at (j := 0) hsz2 rfl rfl)
  obtain ⟨x1, hv1, w1⟩ := val_int Try.underlying5 (hval 1 5 v1 rfl rfl) h1
  obtain ⟨x2, hv2, w2⟩ := val_int Try.underlying5 (hval 2 5 v2 rfl rfl) h2
  subst hv0
  subst hv1
  subst hv2
  obtain ⟨K, hG⟩ := weedWider_row x0 x1 x2 w0 w1 w2
  refine (ret_calls (a10 K x0 x1 x2 A0_0 c0_0 ZA W s0_0 hG)).mono fun e W' ⟨v, he, hx, hv⟩ => ?_
  subst he
  subst hv
  exact ⟨_, rfl, post_of_ext (pa := (p0 ++ p1 ++ p2)) (pv := []) hW' (fun _ _ _ => trodAll_mk1 (shut_bool Try.underlying4 _)) (fun sp hs => args_read kidsT fullT (by rw [Try.params10]; decide) hAk hx hlt sp (fun x hx' => hs x (by simpa using hx'))) (fun _ _ => rfl) (by simp) hx (ok_one (by kernel_rfl) rfl (okWide_bool_mk Try.underlying4 _))⟩
theorem weedWider_holds : Rows.WeedWiderSaid :=
  OpenClaim.holds_of_wide 10 Try.f10 rfl rfl rfl rfl rfl rfl rfl ⟨rfl, rfl, rfl, rfl, rfl⟩ rfl rfl rfl rfl rfl (by kernel_rfl) Try.func10 (by kernel_rfl)
    (of_decide_eq_true (by kernel_rfl)) (by unfold Func.isWrapper; first | (rw [if_pos (by decide +kernel)]; kernel_rfl) | (rw [if_neg (by decide +kernel)]; exact ⟨rfl, rfl⟩))
    (fun os started H enc _ => weedWider_lifted os started H enc)
end Go.Proofs.Ythogdgkafaclaaa
end
