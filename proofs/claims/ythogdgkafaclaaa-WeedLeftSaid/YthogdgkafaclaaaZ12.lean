import Derived.Test.YthogdgkafaclaaaBD5
import Derived.ProofKit
import Derived.ChangeSame
import Derived.SizedLaws
import Derived.Deep.Slices
import Derived.Test.YthogdgkafaclaaaProg
import Derived.Test.YthogdgkafaclaaaRows
/-
  Proved: the law WeedLeft returns true for every argument that the row hands over, and leaves every argument as it was; no condition beside the row's own.
-/
set_option linter.all false
section
namespace Go.Proofs.Ythogdgkafaclaaa
theorem bd {α β : Type} {x : Option α} {a : α} {f : α → Option β} (h : x = some a) : x.bind f = f a := by rw [h]; rfl
theorem i64b {β : Type} {x : Int} {f : Int → Option β} (h0 : -9223372036854775808 ≤ x) (h1 : x ≤ 9223372036854775807) : (i64 x).bind f = f x := bd (i64_eq h0 h1)
theorem idxb {α β : Type} {xs : List α} {k : Nat} {f : α → Option β} (h : k < xs.length) : (idx xs (k : Int)).bind f = f xs[k] := bd (idx_eq h)
theorem ifob {β : Type} {p : Prop} [Decidable p] {f : Unit → Option β} (h : p) : (ifo p).bind f = f () := bd (if_pos h)
theorem remb {β : Type} {a b : Int} {f : Int → Option β} (h0 : 0 ≤ a) (h1 : 1 ≤ b) : (rem a b).bind f = f (a % b) := bd (if_pos ⟨h0, h1⟩)
theorem ct {α : Type} {b : Bool} {x y : α} (h : b = true) : cond b x y = x := by rw [h]; rfl
theorem cf {α : Type} {b : Bool} {x y : α} (h : b = false) : cond b x y = y := by rw [h]; rfl
theorem nt {α : Type} {x y : α} : cond (!true) x y = y := rfl
theorem nf {α : Type} {x y : α} : cond (!false) x y = x := rfl
theorem dt {p : Prop} [Decidable p] (h : p) : decide p = true := decide_eq_true h
theorem df {p : Prop} [Decidable p] (h : ¬ p) : decide p = false := decide_eq_false h
theorem g_In (K : Nat) (n a b : Int) : G_In K n a b = some (inR n a b) := by unfold G_In inR; cases decide (a ≤ n) <;> rfl
theorem g_Within (K : Nat) (f : Fld) (lo hi : Int) : G_Within K (⟨lo, hi⟩ : Int × Int) 0 f.rows = some (rngOk f lo hi) := by
  unfold G_Within rngOk
  simp only []
  cases decide ((0 : Int) ≤ lo) <;> cases decide (lo ≤ hi) <;> rfl
/-- How often somebody stands in a part of a list. -/
def part (l : List Int) (who : Int) (fr n : Nat) : Nat := cnt who ((l.drop fr).take n)
theorem l_Many (f : Fld) (hw : 0 ≤ f.wd) (hw3 : f.wd ≤ 3) (hr : f.rows ≤ 7) : ∀ (n m i : Nat) (s : Int), f.rows = i + n → n < m → 0 ≤ s → s * (f.wd + 1) ^ n ≤ 1000000 → G_Many_L2 f m s (i : Int) = some (s * (f.wd + 1) ^ n)
  | n, 0, i, s, h, hm, _, _ => by omega
  | 0, m + 1, i, s, h, hm, h0, h1 => by
    unfold G_Many_L2
    rw [cf (df (by omega))]
    simp
  | n + 1, m + 1, i, s, h, hm, h0, h1 => by
    unfold G_Many_L2
    have hp : 1 ≤ (f.wd + 1) ^ n := by
      have h9 : 0 < (f.wd + 1) ^ n := Int.pow_pos (by omega)
      omega
    have hs : s * (f.wd + 1) * (f.wd + 1) ^ n ≤ 1000000 := by
      rw [Int.mul_assoc]; rw [Int.pow_succ, Int.mul_comm ((f.wd + 1) ^ n)] at h1; exact h1
    have h2 : 0 ≤ s * (f.wd + 1) := Int.mul_nonneg h0 (by omega)
    have h3 : s * (f.wd + 1) ≤ 1000000 := by
      have h4 := Int.mul_le_mul_of_nonneg_left hp h2
      omega
    rw [ct (dt (by omega)), i64b (by omega) (by omega), i64b (by omega) (by omega), i64b (by omega) (by omega)]
    have e : ((i : Int) + 1) = ((i + 1 : Nat) : Int) := by omega
    rw [e, l_Many f hw hw3 hr n m (i + 1) (s * (f.wd + 1)) (by omega) (by omega) h2 hs]
    rw [Int.mul_assoc, Int.pow_succ, Int.mul_comm ((f.wd + 1) ^ n)]
theorem g_Many {K : Nat} {f : Fld} (hK : 1000 ≤ K) (hw : 0 ≤ f.wd) (hw3 : f.wd ≤ 3) (hr0 : 0 ≤ f.rows) (hr : f.rows ≤ 7) : G_Many K f = some (many f) := by
  unfold G_Many
  have h := (pow_bd7 (f.wd + 1) (by omega) (by omega) f.rows.toNat (by omega)).2
  have := l_Many f hw hw3 hr f.rows.toNat K 0 1 (by omega) (by omega) (by omega) (by omega)
  rw [Int.natCast_zero] at this
  rw [this]
  simp [many]
theorem talOk_ref (f : Fld) (t : Tly) : talOk f t = (inR t.who 0 (f.wd - 1) && (inR t.fr 0 (f.rows - 1) && (inR t.to t.fr (f.rows - 1) && rngOk f t.lo t.hi))) := by
  rw [Bool.eq_iff_iff]
  unfold talOk
  simp only [Bool.and_eq_true, inR_iff, decide_eq_true_eq]
  constructor
  · rintro ⟨⟨⟨⟨h1, h2⟩, h3⟩, h4⟩, h5⟩; exact ⟨h1, h2, ⟨h4, h3.2⟩, h5⟩
  · rintro ⟨h1, h2, ⟨h3, h4⟩, h5⟩; exact ⟨⟨⟨⟨h1, h2⟩, by omega, h4⟩, h3⟩, h5⟩
theorem l_Fault (K : Nat) (f : Fld) (hr : 1 ≤ f.rows ∧ f.rows ≤ 7) (hw : 1 ≤ f.wd ∧ f.wd ≤ 3) (hl : f.ts.length ≤ 1000000) : ∀ (n m i : Nat), f.ts.length = i + n → n < m → G_Fault_L12 K f m (i : Int) = some (if (f.ts.drop i).all (talOk f) = true then .inr () else .inl 1)
  | n, 0, i, h, hm => by omega
  | 0, m + 1, i, h, hm => by
    unfold G_Fault_L12
    rw [cf (df (by omega)), List.drop_eq_nil_of_le (by omega)]
    rfl
  | n + 1, m + 1, i, h, hm => by
    unfold G_Fault_L12
    have hi : i < f.ts.length := by omega
    rw [ct (dt (by omega)), idxb hi, i64b (by omega) (by omega), bd (g_In ..), List.drop_eq_getElem_cons hi, List.all_cons, talOk_ref]
    cases h1 : inR f.ts[i].who 0 (f.wd - 1) with
    | false => rfl
    | true =>
      rw [nt, i64b (by omega) (by omega), bd (g_In ..)]
      cases h2 : inR f.ts[i].fr 0 (f.rows - 1) with
      | false => rfl
      | true =>
        rw [nt, i64b (by omega) (by omega), bd (g_In ..)]
        cases h3 : inR f.ts[i].to f.ts[i].fr (f.rows - 1) with
        | false => rfl
        | true =>
          rw [nt, bd (g_Within ..)]
          cases h4 : rngOk f f.ts[i].lo f.ts[i].hi with
          | false => rfl
          | true =>
            have e : ((i : Int) + 1) = ((i + 1 : Nat) : Int) := by omega
            rw [nt, i64b (by omega) (by omega), e, l_Fault K f hr hw hl n m (i + 1) (by omega) (by omega)]
            rfl
theorem g_Fault {K : Nat} {f : Fld} (hK : 1000 ≤ K) : G_Fault K f = some (check f) := by
  unfold G_Fault check
  by_cases hb : big f = true
  · rw [if_pos hb]
    simp only [big, Bool.or_eq_true, decide_eq_true_eq] at hb
    by_cases h1 : 7 < f.rows
    · rw [ct (dt h1)]
    · rw [cf (df h1)]
      by_cases h2 : 3 < f.wd
      · rw [ct (dt h2)]
      · rw [cf (df h2), ct (dt (by omega))]
  · rw [if_neg hb]
    simp only [big, Bool.or_eq_true, decide_eq_true_eq, not_or] at hb
    rw [cf (df hb.1), cf (df hb.2.1), cf (df hb.2.2)]
    by_cases hr : f.rows < 1
    · rw [ct (dt hr), if_pos (by simp [bad, hr])]
    · by_cases hw : f.wd < 1
      · rw [cf (df hr), ct (dt hw), if_pos (by simp [bad, hw])]
      · rw [cf (df hr), cf (df hw), bd (g_Within ..)]
        have hbad : bad f = (!rngOk f f.lo f.hi || !f.ts.all (talOk f)) := by simp [bad, hr, hw]
        rw [hbad]
        cases h3 : rngOk f f.lo f.hi with
        | false => rfl
        | true =>
          have := l_Fault K f ⟨by omega, by omega⟩ ⟨by omega, by omega⟩ (by omega) f.ts.length K 0 (by omega) (by omega)
          rw [Int.natCast_zero] at this
          rw [nt, bd this, List.drop_zero]
          cases h4 : f.ts.all (talOk f) with
          | false => rfl
          | true =>
            rw [if_pos rfl, if_neg (by decide)]
            show (G_Many K f).bind _ = _
            rw [bd (g_Many hK (by omega) (by omega) (by omega) (by omega))]
            by_cases h5 : 2500 < many f
            · rw [ct (dt h5), if_pos h5]
            · rw [cf (df h5), if_neg h5]
theorem g_fault {K : Nat} {f : Fld} (hK : 1000 ≤ K) : G_fault K f = some (check f) := by unfold G_fault; rw [bd (g_Fault hK)]
/-- The fields that the laws go through. -/
def thin (f : Fld) : Bool := decide (f.ts.length ≤ 7) && (decide (check f ≠ 0) || decide (many f ≤ 250))
theorem g_Thin {K : Nat} {f : Fld} (hK : 1000 ≤ K) : G_Thin K f = some (thin f) := by
  unfold G_Thin thin
  by_cases h1 : f.ts.length ≤ 7
  · rw [ct (dt (by omega)), bd (g_Fault hK)]
    by_cases h2 : check f = 0
    · obtain ⟨hr, hw, _⟩ := check_ok h2
      rw [cf (by simp [h2]), bd (g_Many hK (by omega) (by omega) (by omega) (by omega))]
      simp [h1, h2]
    · rw [ct (by simp [h2])]
      simp [h1, h2]
  · rw [cf (df (by omega))]
    simp [h1]
theorem thin_len {f : Fld} (h : thin f = true) : f.ts.length ≤ 7 := by
  simp only [thin, Bool.and_eq_true, decide_eq_true_eq] at h; exact h.1
theorem g_to (K : Nat) (r : Int × Int) : G_to K r = some r := rfl
theorem l_Field (K : Nat) (f : Fld) (hl : f.ts.length ≤ 7) : ∀ (n m i : Nat), f.ts.length = i + n → n < m → G_Field_L7 K f m (i : Int) (f.ts.take i) = some f.ts
  | n, 0, i, h, hm => by omega
  | 0, m + 1, i, h, hm => by
    unfold G_Field_L7
    rw [cf (df (by omega)), List.take_of_length_le (by omega)]
  | n + 1, m + 1, i, h, hm => by
    unfold G_Field_L7
    have hi : i < f.ts.length := by omega
    have e : ((i : Int) + 1) = ((i + 1 : Nat) : Int) := by omega
    rw [ct (dt (by omega)), idxb hi, bd (g_to ..), ifob (by simp; omega), i64b (by omega) (by omega), e]
    have ht : f.ts.take i ++ [(⟨f.ts[i].who, f.ts[i].fr, f.ts[i].to, f.ts[i].lo, f.ts[i].hi⟩ : Tly)] = f.ts.take (i + 1) := (List.take_succ_eq_append_getElem hi).symm
    show G_Field_L7 K f m ((i + 1 : Nat) : Int) (f.ts.take i ++ [(⟨f.ts[i].who, f.ts[i].fr, f.ts[i].to, f.ts[i].lo, f.ts[i].hi⟩ : Tly)]) = _
    rw [ht, l_Field K f hl n m (i + 1) (by omega) (by omega)]
theorem g_Field {K : Nat} {f : Fld} (hK : 1000 ≤ K) (hl : f.ts.length ≤ 7) : G_Field K f = some f := by
  unfold G_Field
  have := l_Field K f hl f.ts.length K 0 (by omega) (by omega)
  rw [Int.natCast_zero, List.take_zero] at this
  rw [bd (g_to ..), bd this]
/-- All tallies but none. -/
theorem allAt_nil (l : List Int) : ∀ (ts : List Tly) (i : Nat), allAt l [] i ts = ts.all fun t => inR (didK l [t.who, t.fr, t.to]) t.lo t.hi
  | [], _ => rfl
  | t :: ts, i => by
    rw [allAt, allAt_nil l ts (i + 1), List.all_cons]
    rfl
/-- Somebody's rows in a tally's stretch. -/
def tdid (l : List Int) (t : Tly) : Int := (part l t.who t.fr.toNat (t.to + 1 - t.fr).toNat : Nat)
theorem didK_part (l : List Int) (t : Tly) (h : 0 ≤ t.fr ∧ t.fr ≤ t.to) : didK l [t.who, t.fr, t.to] = tdid l t := by
  unfold didK tdid part
  have : (t.to + 1).toNat - t.fr.toNat = (t.to + 1 - t.fr).toNat := by omega
  simp only [this]
theorem part_pad (l : List Int) (who : Int) (fr n : Nat) (h : fr + n ≤ l.length) : part (pad l) who fr n = part l who fr n := by
  unfold part pad
  rw [List.drop_append_of_le_length (by omega), List.take_append_of_le_length (by simp; omega)]
theorem tdid_pad (f : Fld) (l : List Int) (t : Tly) (hl : (l.length : Int) = f.rows) (h : talOk f t = true) : tdid (pad l) t = tdid l t := by
  have := talOk_bd h
  unfold tdid
  rw [part_pad _ _ _ _ (by omega)]
/-- What the reference calls allowed, and a truth. -/
def alw (f : Fld) (l : List Int) : Bool := l.all (okWho f) && (decide ((l.length : Int) = f.rows) && inR ((part l (-1) 0 l.length : Nat) : Int) f.lo f.hi)
def tru (f : Fld) (l : List Int) : Bool := alw f l && f.ts.all fun t => inR (tdid l t) t.lo t.hi
theorem okWho_in (f : Fld) (n : Int) (hw : 1 ≤ f.wd) : okWho f n = inR n (-1) (f.wd - 1) := by
  rw [Bool.eq_iff_iff]
  simp only [okWho, Bool.or_eq_true, beq_iff_eq, inR_iff]
  omega
end Go.Proofs.Ythogdgkafaclaaa
end
section
namespace Go.Proofs.Ythogdgkafaclaaa
/-- The i-th list of so many numbers. -/
def nthL (b : Int) : Nat → Int → List Int
  | 0, _ => []
  | n + 1, i => (i % b - 1) :: nthL b n (i / b)
theorem nthL_surj (b : Int) (hb : 1 ≤ b) : ∀ (l : List Int), (∀ x ∈ l, -1 ≤ x ∧ x ≤ b - 2) → ∃ i : Nat, (i : Int) < b ^ l.length ∧ nthL b l.length i = l
  | [], _ => ⟨0, by simp, rfl⟩
  | x :: l, h => by
    obtain ⟨i, hi, he⟩ := nthL_surj b hb l fun y hy => h y (List.mem_cons_of_mem _ hy)
    have hx := h x (List.mem_cons_self ..)
    have h0 : 0 ≤ (x + 1) + b * (i : Int) := by
      have : 0 ≤ b * (i : Int) := Int.mul_nonneg (by omega) (by omega)
      omega
    refine ⟨((x + 1) + b * (i : Int)).toNat, ?_, ?_⟩
    · have h2 : b ^ (l.length + 1) = b * b ^ l.length := by rw [Int.pow_succ, Int.mul_comm]
      rw [Int.toNat_of_nonneg h0, List.length_cons, h2]
      have h1 : b * ((i : Int) + 1) ≤ b * b ^ l.length := Int.mul_le_mul_of_nonneg_left (by omega) (by omega)
      rw [Int.mul_add, Int.mul_one] at h1
      omega
    · rw [Int.toNat_of_nonneg h0]
      simp only [List.length_cons, nthL]
      rw [Int.add_mul_emod_self_left, Int.add_mul_ediv_left _ _ (by omega), Int.emod_eq_of_lt (by omega) (by omega), Int.ediv_eq_zero_of_lt (by omega) (by omega), Int.zero_add, he]
      congr 1
      omega
/-- The reference's truths. -/
def refs (f : Fld) : List (List Int) := ((List.range (many f).toNat).map fun i : Nat => nthL (f.wd + 1) f.rows.toNat (i : Int)).filter (tru f)
theorem many_nn {f : Fld} (hc : check f = 0) : 0 ≤ many f := by
  obtain ⟨hr, hw, _⟩ := check_ok hc
  exact (pow_bd7 (f.wd + 1) (by omega) (by omega) f.rows.toNat (by omega)).1
theorem tru_alw {f : Fld} {l : List Int} (h : tru f l = true) : (∀ x ∈ l, okWho f x = true) ∧ (l.length : Int) = f.rows ∧ inR ((part l (-1) 0 l.length : Nat) : Int) f.lo f.hi = true := by
  simp only [tru, alw, Bool.and_eq_true, decide_eq_true_eq, List.all_eq_true] at h
  exact ⟨h.1.1, h.1.2.1, h.1.2.2⟩
theorem mem_refs {f : Fld} (hc : check f = 0) {l : List Int} : l ∈ refs f ↔ tru f l = true := by
  obtain ⟨hr, hw, _⟩ := check_ok hc
  unfold refs
  rw [List.mem_filter]
  constructor
  · exact fun h => h.2
  · intro h
    refine ⟨?_, h⟩
    obtain ⟨h1, h2, _⟩ := tru_alw h
    obtain ⟨i, hi, he⟩ := nthL_surj (f.wd + 1) (by omega) l fun x hx => by
      have := h1 x hx
      rw [okWho_in f x hw.1, inR_iff] at this
      omega
    have hl : f.rows.toNat = l.length := by omega
    rw [List.mem_map]
    refine ⟨i, ?_, by rw [hl]; exact he⟩
    have h0 := many_nn hc
    have hm : many f = (f.wd + 1) ^ l.length := by unfold many; rw [hl]
    rw [List.mem_range]
    omega
theorem mem_whos {wd x : Int} (hw : 0 ≤ wd) : x ∈ whos wd ↔ -1 ≤ x ∧ x ≤ wd - 1 := by
  simp only [whos, List.mem_map, List.mem_range]
  constructor
  · rintro ⟨j, hj, rfl⟩; omega
  · intro h; exact ⟨(x + 1).toNat, by omega, by omega⟩
theorem mem_enum (p : List Int → Bool) (wd : Int) : ∀ (k : Nat) (pre a : List Int), a ∈ enum p wd k pre ↔ ∃ t : List Int, t.length = k ∧ (∀ x ∈ t, x ∈ whos wd) ∧ p (pad (pre ++ t)) = true ∧ a = pad (pre ++ t)
  | 0, pre, a => by
    unfold enum
    constructor
    · intro h
      split at h
      · rename_i hp
        exact ⟨[], rfl, by simp, by simpa using hp, by simpa using h⟩
      · cases h
    · rintro ⟨t, ht, _, hp, rfl⟩
      obtain rfl := List.length_eq_zero_iff.1 ht
      rw [List.append_nil] at hp ⊢
      rw [if_pos hp]; simp
  | k + 1, pre, a => by
    simp only [enum, List.mem_flatMap]
    constructor
    · rintro ⟨x, hx, h⟩
      obtain ⟨t, h1, h2, h3, h4⟩ := (mem_enum p wd k _ a).1 h
      rw [List.append_assoc, List.singleton_append] at h3 h4
      exact ⟨x :: t, by simp [h1], by simpa using ⟨hx, h2⟩, h3, h4⟩
    · rintro ⟨t, h1, h2, h3, h4⟩
      cases t with
      | nil => simp at h1
      | cons x t =>
        refine ⟨x, h2 x (List.mem_cons_self ..), (mem_enum p wd k _ a).2 ⟨t, by simpa using h1, fun y hy => h2 y (List.mem_cons_of_mem _ hy), ?_, ?_⟩⟩
        · rw [List.append_assoc, List.singleton_append]; exact h3
        · rw [List.append_assoc, List.singleton_append]; exact h4
theorem all_congr {α : Type} {p q : α → Bool} : ∀ {l : List α}, (∀ x ∈ l, p x = q x) → l.all p = l.all q
  | [], _ => rfl
  | a :: l, h => by rw [List.all_cons, List.all_cons, h a (List.mem_cons_self ..), all_congr fun x hx => h x (List.mem_cons_of_mem _ hx)]
theorem right_tru {f : Fld} {l : List Int} (ht : ∀ t ∈ f.ts, talOk f t = true) (hl : (l.length : Int) = f.rows) : rightB f (pad l) [] = (f.ts.all (fun t => inR (tdid l t) t.lo t.hi) && inR ((part l (-1) 0 l.length : Nat) : Int) f.lo f.hi) := by
  unfold rightB
  rw [allAt_nil]
  congr 1
  · refine all_congr fun t h => ?_
    have h1 := talOk_bd (ht t h)
    rw [didK_part _ _ ⟨h1.2.1.1, h1.2.1.2.1⟩, tdid_pad f l t hl (ht t h)]
  · have h2 : f.rows.toNat = l.length := by omega
    have h3 : (pad l).take f.rows.toNat = l.take l.length := by
      unfold pad; rw [h2, List.take_append_of_le_length (Nat.le_refl _)]
    rw [h3]
    unfold part
    rw [List.drop_zero]
theorem mem_truths {f : Fld} (hc : check f = 0) {a : List Int} : a ∈ truths f [] ↔ ∃ l, l ∈ refs f ∧ a = pad l := by
  obtain ⟨hr, hw, _, ht, _⟩ := check_ok hc
  unfold truths
  rw [mem_enum]
  constructor
  · rintro ⟨t, h1, h2, h3, h4⟩
    rw [List.nil_append] at h3 h4
    refine ⟨t, (mem_refs hc).2 ?_, h4⟩
    have hl : (t.length : Int) = f.rows := by omega
    have h3' : rightB f (pad t) [] = true := h3
    rw [right_tru ht hl, Bool.and_eq_true] at h3'
    have h5 : t.all (okWho f) = true := by
      rw [List.all_eq_true]
      intro x hx
      rw [okWho_in f x hw.1, inR_iff]
      have := (mem_whos (by omega)).1 (h2 x hx)
      omega
    unfold tru alw
    rw [h5, h3'.1, h3'.2]
    simp [hl]
  · rintro ⟨l, h, rfl⟩
    have h1 := (mem_refs hc).1 h
    obtain ⟨h2, h3, h4⟩ := tru_alw h1
    refine ⟨l, by omega, fun x hx => ?_, ?_, by simp⟩
    · rw [mem_whos (by omega)]
      have := h2 x hx
      rw [okWho_in f x hw.1, inR_iff] at this
      omega
    · rw [List.nil_append]
      show rightB f (pad l) [] = true
      rw [right_tru ht h3, h4]
      simp only [tru, Bool.and_eq_true] at h1
      rw [h1.2]; rfl
theorem truths_nil {f : Fld} (hc : check f = 0) : truths f [] = [] ↔ refs f = [] := by
  constructor
  · intro h
    rw [List.eq_nil_iff_forall_not_mem] at h ⊢
    exact fun l hl => h (pad l) ((mem_truths hc).2 ⟨l, hl, rfl⟩)
  · intro h
    rw [List.eq_nil_iff_forall_not_mem] at h ⊢
    rintro a ha
    obtain ⟨l, hl, _⟩ := (mem_truths hc).1 ha
    exact h l hl
/-- The error that comes with a question. -/
def sureE (f : Fld) : Int := if check f ≠ 0 then check f else if refs f = [] then 11 else 0
theorem askE_true (f : Fld) : askE f true = sureE f := by
  unfold askE sureE
  by_cases hc : check f = 0
  · simp only [hc, ne_eq, not_true_eq_false, if_false]
    by_cases h : refs f = []
    · rw [if_neg (by decide), if_pos h, if_pos ((truths_nil hc).2 h)]
    · rw [if_neg (by decide), if_neg h, if_neg (fun e => h ((truths_nil hc).1 e))]
  · rw [if_pos hc, if_pos hc]
end Go.Proofs.Ythogdgkafaclaaa
end
section
namespace Go.Proofs.Ythogdgkafaclaaa
theorem sorted_ext : ∀ {l m : List Int}, l.Pairwise (· < ·) → m.Pairwise (· < ·) → (∀ x, x ∈ l ↔ x ∈ m) → l = m
  | [], [], _, _, _ => rfl
  | [], b :: m, _, _, h => by have := (h b).2 (List.mem_cons_self ..); cases this
  | a :: l, [], _, _, h => by have := (h a).1 (List.mem_cons_self ..); cases this
  | a :: l, b :: m, h1, h2, h => by
    rw [List.pairwise_cons] at h1 h2
    have hab : a = b := by
      rcases List.mem_cons.1 ((h a).1 (List.mem_cons_self ..)) with e | e
      · exact e
      · rcases List.mem_cons.1 ((h b).2 (List.mem_cons_self ..)) with e2 | e2
        · exact e2.symm
        · have := h1.1 b e2; have := h2.1 a e; omega
    subst hab
    congr 1
    refine sorted_ext h1.2 h2.2 fun x => ⟨fun hx => ?_, fun hx => ?_⟩
    · rcases List.mem_cons.1 ((h x).1 (List.mem_cons_of_mem _ hx)) with e | e
      · have := h1.1 x hx; omega
      · exact e
    · rcases List.mem_cons.1 ((h x).2 (List.mem_cons_of_mem _ hx)) with e | e
      · have := h2.1 x hx; omega
      · exact e
theorem getI {zs : List Int} {m : Nat} (h : m < zs.length) : zs.toArray[m]! = zs[m] := by
  rw [getElem!_pos zs.toArray m (by simpa using h)]; simp
theorem compact_inv {zs : List Int} (hs : zs.Pairwise (· ≤ ·)) : ∀ m, m ≤ zs.length → (Lib.compactUpTo zs.toArray m).Pairwise (· < ·) ∧ ∀ x, x ∈ Lib.compactUpTo zs.toArray m ↔ x ∈ zs.take m
  | 0, _ => by simp [Lib.compactUpTo]
  | m + 1, h => by
    obtain ⟨h1, h2⟩ := compact_inv hs m (by omega)
    have hm : m < zs.length := by omega
    rw [Lib.compactUpTo_succ, List.take_succ_eq_append_getElem hm, getI hm]
    have hle : ∀ x ∈ zs.take m, x ≤ zs[m] := fun x hx => by
      obtain ⟨i, hi, rfl⟩ := List.mem_iff_getElem.1 hx
      rw [List.getElem_take]
      simp at hi
      exact (List.pairwise_iff_getElem.1 hs) i m _ hm (by omega)
    by_cases hk : Lib.keeps zs.toArray m = true
    · rw [if_pos hk]
      refine ⟨?_, fun x => by rw [List.mem_append, List.mem_append, h2]⟩
      rw [List.pairwise_append]
      refine ⟨h1, by simp, fun x hx y hy => ?_⟩
      obtain rfl : y = zs[m] := by simpa using hy
      have hx2 := (h2 x).1 hx
      have hx3 := hle x hx2
      simp only [Lib.keeps, decide_eq_true_eq] at hk
      rcases hk with rfl | hk
      · simp at hx2
      · have hm1 : 0 < m := by
          rcases Nat.eq_zero_or_pos m with rfl | h0
          · simp at hx2
          · exact h0
        rw [getI hm, getI (by omega : m - 1 < zs.length)] at hk
        obtain ⟨i, hi, rfl⟩ := List.mem_iff_getElem.1 hx2
        rw [List.getElem_take] at hx3 ⊢
        simp at hi
        have h5 : zs[m - 1] ≤ zs[m] := (List.pairwise_iff_getElem.1 hs) (m - 1) m _ hm (by omega)
        have h4 : zs[i] ≤ zs[m - 1] := by
          by_cases e : i = m - 1
          · subst e; exact Int.le_refl _
          · exact (List.pairwise_iff_getElem.1 hs) i (m - 1) _ _ (by omega)
        have h6 : zs[m] ≠ zs[m - 1] := hk
        show zs[i] < zs[m]
        omega
    · rw [if_neg hk, List.append_nil]
      refine ⟨h1, fun x => ?_⟩
      rw [h2]
      have hk2 : ¬ (m = 0 ∨ zs.toArray[m]! ≠ zs.toArray[m - 1]!) := by simpa [Lib.keeps] using hk
      have hm1 : 0 < m := by
        rcases Nat.eq_zero_or_pos m with rfl | h0
        · exact absurd (.inl rfl) hk2
        · exact h0
      have he : zs.toArray[m]! = zs.toArray[m - 1]! := Decidable.byContradiction fun e => hk2 (.inr e)
      rw [getI hm, getI (by omega : m - 1 < zs.length)] at he
      have hin : zs[m] ∈ zs.take m := by
        rw [he, List.mem_iff_getElem]
        exact ⟨m - 1, by simp; omega, by simp⟩
      simp only [List.mem_append, List.mem_singleton]
      exact ⟨.inl, fun h => h.elim id fun e => e ▸ hin⟩
theorem whos_sorted (wd : Int) : (whos wd).Pairwise (· < ·) := by
  unfold whos
  rw [List.pairwise_map]
  exact List.pairwise_lt_range.imp fun h => by omega
/-- Who stands in a row of some lists. -/
def whoS (wd : Int) (T : List (List Int)) (row : Nat) : List Int := (whos wd).filter fun x => T.any fun a => a.getD row 0 == x
theorem whoF_eq {wd : Int} {T : List (List Int)} {row : Int} (hw : 0 ≤ wd) (hb : ∀ a ∈ T, -1 ≤ a.getD row.toNat 0 ∧ a.getD row.toNat 0 ≤ wd - 1) : whoF T row = whoS wd T row.toNat := by
  unfold whoF
  have hs : ((T.map fun a : List Int => a.getD row.toNat 0).mergeSort fun x y => decide (x ≤ y)).Pairwise (· ≤ ·) := by
    have := List.pairwise_mergeSort (le := fun x y : Int => decide (x ≤ y)) (fun a b c h1 h2 => by simp at *; omega) (fun a b => by simp; omega) (T.map fun a : List Int => a.getD row.toNat 0)
    exact this.imp fun h => by simpa using h
  obtain ⟨h1, h2⟩ := compact_inv hs _ (Nat.le_refl _)
  refine sorted_ext h1 ((whos_sorted wd).filter _) fun x => ?_
  rw [show Lib.compact ((T.map fun a : List Int => a.getD row.toNat 0).mergeSort fun x y => decide (x ≤ y)) = Lib.compactUpTo ((T.map fun a : List Int => a.getD row.toNat 0).mergeSort fun x y => decide (x ≤ y)).toArray ((T.map fun a : List Int => a.getD row.toNat 0).mergeSort fun x y => decide (x ≤ y)).length from rfl, h2, List.take_length, List.mem_mergeSort]
  unfold whoS
  simp only [List.mem_map, List.mem_filter, mem_whos hw, List.any_eq_true, beq_iff_eq]
  constructor
  · rintro ⟨a, ha, rfl⟩; exact ⟨hb a ha, a, ha, rfl⟩
  · rintro ⟨_, a, ha, e⟩; exact ⟨a, ha, e⟩
def f4 : Fld := ⟨4, 2, 0, 0, [⟨0, 0, 2, 2, 3⟩, ⟨1, 2, 3, 1, 2⟩]⟩
def f5 : Fld := ⟨4, 2, 0, 0, [⟨0, 0, 2, 2, 3⟩, ⟨1, 2, 3, 1, 2⟩, ⟨0, 0, 1, 2, 2⟩]⟩
def f6 : Fld := ⟨4, 2, 0, 0, [⟨0, 0, 2, 2, 3⟩, ⟨1, 2, 3, 1, 2⟩, ⟨1, 0, 1, 2, 2⟩]⟩
theorem who4 : whoF (truths f4 []) 3 = [0, 1] := by
  rw [whoF_eq (wd := 2) (by omega) (by decide +kernel)]
  decide +kernel
theorem awake_1000 : G_awake 1000 = some true := by
  unfold G_awake
  rw [bd (show G_four 1000 [] = some f4 from rfl), bd (show Q_Done 1000 f4 = some ([(2, 3), (1, 2)], 0) by decide +kernel), bd (show G_four 1000 [] = some f4 from rfl)]
  rw [bd (show Q_Who 1000 f4 3 = some ([0, 1], 0) by unfold Q_Who; rw [who4]; decide +kernel)]
  rw [bd (show G_two 1000 = some ⟨0, 0, 1, 2, 2⟩ from rfl), bd (show G_four 1000 [⟨0, 0, 1, 2, 2⟩] = some f5 from rfl), bd (show Q_Ask 1000 f5 0 = some ([2, 3], 0) by decide +kernel), bd (show G_four 1000 [] = some f4 from rfl)]
  rw [bd (show Q_Next 1000 f4 0 = some (0, 3, 0) by decide +kernel), bd (show G_wrong 1000 = some ⟨1, 0, 1, 2, 2⟩ from rfl), bd (show G_four 1000 [⟨1, 0, 1, 2, 2⟩] = some f6 from rfl), bd (show Q_First 1000 f6 = some (2, 0) by decide +kernel)]
  rw [bd (show G_wrong 1000 = some ⟨1, 0, 1, 2, 2⟩ from rfl), bd (show G_four 1000 [⟨1, 0, 1, 2, 2⟩] = some f6 from rfl), bd (show Q_Leave 1000 f6 = some ([0], 0) by decide +kernel)]
  decide +kernel
end Go.Proofs.Ythogdgkafaclaaa
end
section
namespace Go.Proofs.Ythogdgkafaclaaa
/-- The places of the bits that are set. -/
def bitsL (s : Nat) : List Int := ((List.range 8).filter fun x => s / 2 ^ x % 2 == 1).map fun x : Nat => (x : Int)
def lexB : List Int → List Int → Bool
  | a :: as1, b :: bs1 => if a = b then lexB as1 bs1 else decide (a < b)
  | [], _ :: _ => true
  | _, [] => false
/-- Shorter, or as1 long and before it. -/
def sh (a b : List Int) : Bool := decide (a.length < b.length) || (a.length == b.length && lexB a b)
theorem lexB_irr : ∀ a : List Int, lexB a a = false
  | [] => rfl
  | a :: as1 => by rw [lexB, if_pos rfl, lexB_irr as1]
theorem lexB_trans : ∀ a b c : List Int, lexB a b = true → lexB b c = true → lexB a c = true
  | [], b, [], h1, h2 => by cases b <;> cases h1; cases h2
  | [], b, c :: cs1, h1, h2 => rfl
  | a :: as1, [], c, h1, h2 => by cases h1
  | a :: as1, b :: bs1, [], h1, h2 => by cases h2
  | a :: as1, b :: bs1, c :: cs1, h1, h2 => by
    rw [lexB] at h1 h2 ⊢
    by_cases e : a = b
    · subst e
      rw [if_pos rfl] at h1
      by_cases e2 : a = c
      · subst e2
        rw [if_pos rfl] at h2 ⊢
        exact lexB_trans as1 bs1 cs1 h1 h2
      · rw [if_neg e2] at h2 ⊢; exact h2
    · rw [if_neg e, decide_eq_true_eq] at h1
      by_cases e2 : b = c
      · subst e2
        rw [if_neg e, decide_eq_true_eq]; exact h1
      · rw [if_neg e2, decide_eq_true_eq] at h2
        rw [if_neg (by omega), decide_eq_true_eq]; omega
theorem sh_iff {a b : List Int} : sh a b = true ↔ a.length < b.length ∨ (a.length = b.length ∧ lexB a b = true) := by simp [sh]
theorem sh_irr (a : List Int) : sh a a = false := by
  rw [Bool.eq_false_iff]; intro h
  rcases sh_iff.1 h with h | h
  · omega
  · rw [lexB_irr] at h; cases h.2
theorem sh_trans {a b c : List Int} (h : sh a b = true) (g : sh b c = true) : sh a c = true := by
  rw [sh_iff] at h g ⊢
  rcases h with h | h <;> rcases g with g | g
  · exact .inl (by omega)
  · exact .inl (by omega)
  · exact .inl (by omega)
  · exact .inr ⟨by omega, lexB_trans _ _ _ h.2 g.2⟩
theorem l_Before (a b : List Int) (ha : a.length ≤ 900) (hb : b.length ≤ 900) : ∀ (n m i : Nat), a.length = i + n → i ≤ b.length → n < m →
    (G_Before_L1 a b m (i : Int)).bind (fun z => Sum.elim (fun q1 => some q1) (fun _ => some (decide ((a.length : Int) < (b.length : Int)))) z) = some (lexB (a.drop i) (b.drop i))
  | n, 0, i, h, _, hm => by omega
  | 0, m + 1, i, h, hib, hm => by
    unfold G_Before_L1
    rw [cf (df (by omega)), List.drop_eq_nil_of_le (by omega : a.length ≤ i)]
    show some _ = _
    by_cases e : i < b.length
    · rw [List.drop_eq_getElem_cons e, dt (by omega)]; rfl
    · rw [List.drop_eq_nil_of_le (by omega : b.length ≤ i), df (by omega)]; rfl
  | n + 1, m + 1, i, h, hib, hm => by
    unfold G_Before_L1
    have hi : i < a.length := by omega
    have e : ((i : Int) + 1) = ((i + 1 : Nat) : Int) := by omega
    rw [ct (dt (by omega)), List.drop_eq_getElem_cons hi]
    by_cases hj : i < b.length
    · rw [ct (dt (by omega)), idxb hi, idxb hj, List.drop_eq_getElem_cons hj, lexB]
      by_cases he : a[i] = b[i]
      · rw [if_pos he, cf (by simp [he]), i64b (by omega) (by omega), e]
        exact l_Before a b ha hb n m (i + 1) (by omega) (by omega) (by omega)
      · rw [if_neg he, ct (by simp [he]), idxb hi, idxb hj]
        rfl
    · rw [cf (df (by omega)), List.drop_eq_nil_of_le (by omega : b.length ≤ i)]
      show some _ = _
      rw [df (by omega)]; rfl
theorem g_Before {K : Nat} (hK : 1000 ≤ K) {a b : List Int} (ha : a.length ≤ 900) (hb : b.length ≤ 900) : G_Before K a b = some (lexB a b) := by
  unfold G_Before
  have := l_Before a b ha hb a.length K 0 (by omega) (by omega) (by omega)
  rw [Int.natCast_zero, List.drop_zero, List.drop_zero] at this
  exact this
theorem g_Shorter {K : Nat} (hK : 1000 ≤ K) {a b : List Int} (ha : a.length ≤ 900) (hb : b.length ≤ 900) : G_Shorter K a b = some (sh a b) := by
  unfold G_Shorter sh
  by_cases h : a.length < b.length
  · rw [ct (dt (by omega)), dt h]; rfl
  · rw [cf (df (by omega)), df h, Bool.false_or]
    by_cases h2 : a.length = b.length
    · rw [ct (by simp [h2]), bd (g_Before hK ha hb)]
      simp [h2]
    · rw [cf (by simp; omega)]
      simp [h2]
theorem bits_all : ∀ s : Nat, s < 256 → G_Bits 1000 (s : Int) = some (bitsL s) := by decide +kernel
theorem cand_in : ∀ n : Nat, n < 8 → ∀ s : Nat, s < 2 ^ n → bitsL s ∈ candAll (n : Int) (n + 1) := by decide +kernel
theorem cand_of : ∀ n : Nat, n < 8 → ∀ l ∈ candAll (n : Int) (n + 1), ∃ s : Nat, s < 2 ^ n ∧ bitsL s = l := by decide +kernel
theorem cand_sorted : ∀ n : Nat, n < 8 → (candAll (n : Int) (n + 1)).Pairwise fun a b => sh a b = true := by decide +kernel
theorem bits_len : ∀ s : Nat, (bitsL s).length ≤ 8 := fun s => by
  unfold bitsL
  rw [List.length_map]
  exact Nat.le_trans (List.length_filter_le _ _) (by simp)
theorem fnd_spec {p : List Int → Bool} : ∀ {L : List (List Int)} (cur : List Int), L.any p = true → ∃ A x B, L = A ++ x :: B ∧ p x = true ∧ (∀ a ∈ A, p a = false) ∧ fnd p cur L = x
  | [], cur, h => by cases h
  | c :: L, cur, h => by
    by_cases hc : p c = true
    · exact ⟨[], c, L, rfl, hc, by simp, by rw [fnd, if_pos hc]⟩
    · have hc' : p c = false := by simpa using hc
      rw [List.any_cons, hc', Bool.false_or] at h
      obtain ⟨A, x, B, h1, h2, h3, h4⟩ := fnd_spec c h
      refine ⟨c :: A, x, B, by rw [h1]; rfl, h2, ?_, by rw [fnd, if_neg hc]; exact h4⟩
      intro a ha
      rcases List.mem_cons.1 ha with rfl | ha
      · exact hc'
      · exact h3 a ha
/-- In turn, the reference takes a shorter list that passes. -/
def pickF (p : List Int → Bool) (cur : List Int) (s : Nat) : List Int := if (sh (bitsL s) cur && p (bitsL s)) = true then bitsL s else cur
theorem pick_inv {n : Nat} (hn : n < 8) {p : List Int → Bool} {c0 : List Int} (h0 : c0 ∈ candAll (n : Int) (n + 1)) (hp : p c0 = true) : ∀ k, k ≤ 2 ^ n →
    (List.range k).foldl (pickF p) c0 ∈ candAll (n : Int) (n + 1) ∧ p ((List.range k).foldl (pickF p) c0) = true ∧ ∀ s, s < k → p (bitsL s) = true → sh (bitsL s) ((List.range k).foldl (pickF p) c0) = false
  | 0, _ => ⟨h0, hp, fun s hs => by omega⟩
  | k + 1, hk => by
    obtain ⟨h1, h2, h3⟩ := pick_inv hn h0 hp k (by omega)
    rw [range_fold]
    generalize (List.range k).foldl (pickF p) c0 = cur at h1 h2 h3
    unfold pickF
    by_cases hc : (sh (bitsL k) cur && p (bitsL k)) = true
    · rw [if_pos hc]
      rw [Bool.and_eq_true] at hc
      refine ⟨cand_in n hn k (by omega), hc.2, fun s hs hps => ?_⟩
      rcases Nat.lt_or_ge s k with h | h
      · rw [Bool.eq_false_iff]
        intro hh
        have := h3 s h hps
        rw [sh_trans hh hc.1] at this
        cases this
      · obtain rfl : s = k := by omega
        exact sh_irr _
    · rw [if_neg hc]
      refine ⟨h1, h2, fun s hs hps => ?_⟩
      rcases Nat.lt_or_ge s k with h | h
      · exact h3 s h hps
      · obtain rfl : s = k := by omega
        rw [hps, Bool.and_true] at hc
        simpa using hc
theorem pick_fnd {n : Nat} (hn : n < 8) {p : List Int → Bool} {c0 : List Int} (h0 : c0 ∈ candAll (n : Int) (n + 1)) (hp : p c0 = true) (cur : List Int) : (List.range (2 ^ n)).foldl (pickF p) c0 = fnd p cur (candAll (n : Int) (n + 1)) := by
  obtain ⟨h1, h2, h3⟩ := pick_inv hn h0 hp (2 ^ n) (Nat.le_refl _)
  obtain ⟨A, x, B, g1, g2, g3, g4⟩ := fnd_spec (p := p) cur (List.any_eq_true.2 ⟨c0, h0, hp⟩)
  rw [g4]
  generalize (List.range (2 ^ n)).foldl (pickF p) c0 = c at h1 h2 h3
  have hs := cand_sorted n hn
  have hx : x ∈ candAll (n : Int) (n + 1) := by rw [g1]; simp
  obtain ⟨s, hs1, rfl⟩ := cand_of n hn x hx
  have h4 := h3 s hs1 g2
  rw [g1] at h1 hs
  rw [List.pairwise_append] at hs
  rcases List.mem_append.1 h1 with h | h
  · rw [g3 c h] at h2; cases h2
  · rcases List.mem_cons.1 h with h | h
    · exact h
    · have := (List.pairwise_cons.1 hs.2.1).1 c h
      rw [this] at h4; cases h4
theorem shortest_pick {n : Nat} (hn : n < 8) {p : List Int → Bool} {c0 : List Int} (h0 : c0 ∈ candAll (n : Int) (n + 1)) (hp : p c0 = true) : shortestL (n : Int) p = (List.range (2 ^ n)).foldl (pickF p) c0 := by
  unfold shortestL
  rw [show ((n : Int) + 1).toNat = n + 1 by omega, pick_fnd hn h0 hp]
end Go.Proofs.Ythogdgkafaclaaa
end
section
namespace Go.Proofs.Ythogdgkafaclaaa
theorem cvU {β : Type} {f : Unit → Option β} {x : Nat} (h : x < 64) : (cvO .u64 (x : Int)).bind f = f () := bd (by
  have : ∀ x : Nat, x < 64 → cvO .u64 (x : Int) = some () := by decide +kernel
  exact this x h)
theorem shrb {β : Type} {f : Unit → Option β} {a : Int} {x : Nat} (h : x < 64) : (shrO a (x : Int)).bind f = f () := bd (if_pos ⟨by omega, by omega⟩)
theorem shr_nat (s x : Nat) : shrI (s : Int) (x : Int) = ((s / 2 ^ x : Nat) : Int) := by
  unfold shrI
  rw [show (x : Int).toNat = x by omega]
  simp
theorem shr_odd (s x : Nat) : shrI (s : Int) (x : Int) % 2 = ((s / 2 ^ x % 2 : Nat) : Int) := by rw [shr_nat]; simp
theorem gd0 {l : List Int} {i : Nat} (h : i < l.length) : l[i] = l.getD i 0 := by simp [List.getElem?_eq_getElem h]
theorem mem_bits {s : Nat} {r : Int} : r ∈ bitsL s ↔ ∃ x : Nat, x < 8 ∧ s / 2 ^ x % 2 = 1 ∧ r = x := by
  unfold bitsL
  simp only [List.mem_map, List.mem_filter, List.mem_range, beq_iff_eq]
  constructor
  · rintro ⟨x, ⟨h1, h2⟩, rfl⟩; exact ⟨x, h1, h2, rfl⟩
  · rintro ⟨x, h1, h2, rfl⟩; exact ⟨x, ⟨h1, h2⟩, rfl⟩
theorem bit_lt {s x k : Nat} (hs : s < 2 ^ k) (h : s / 2 ^ x % 2 = 1) : x < k := by
  refine Decidable.byContradiction fun hx => ?_
  have : s < 2 ^ x := Nat.lt_of_lt_of_le hs (Nat.pow_le_pow_right (by omega) (by omega))
  rw [Nat.div_eq_of_lt this] at h
  cases h
end Go.Proofs.Ythogdgkafaclaaa
end
section
namespace Go.Proofs.Ythogdgkafaclaaa
theorem allAt_iff (l out : List Int) : ∀ (ts : List Tly) (i : Nat), allAt l out i ts = true ↔ ∀ k t, ts[k]? = some t → okAt l out (i + k) t = true
  | [], i => by simp [allAt]
  | s :: ts, i => by
    rw [allAt, Bool.and_eq_true, allAt_iff l out ts (i + 1)]
    constructor
    · rintro ⟨h1, h2⟩ k t hk
      cases k with
      | zero =>
        obtain rfl : s = t := by simpa using hk
        simpa using h1
      | succ k =>
        have := h2 k t (by simpa using hk)
        rw [show i + (k + 1) = i + 1 + k by omega]; exact this
    · intro h
      exact ⟨by simpa using h 0 s rfl, fun k t hk => by
        have := h (k + 1) t (by simpa using hk)
        rw [show i + 1 + k = i + (k + 1) by omega]; exact this⟩
/-- A tally is right in a list. -/
def rt (l : List Int) (t : Tly) : Bool := inR (tdid l t) t.lo t.hi
theorem mem_truthsO {f : Fld} (hc : check f = 0) {out a : List Int} : a ∈ truths f out ↔ ∃ l, alw f l = true ∧ (∀ (k : Nat) t, f.ts[k]? = some t → out.contains (k : Int) = true ∨ rt l t = true) ∧ a = pad l := by
  obtain ⟨hr, hw, _, ht, _⟩ := check_ok hc
  have key : ∀ l : List Int, (l.length : Int) = f.rows → (rightB f (pad l) out = true ↔ inR ((part l (-1) 0 l.length : Nat) : Int) f.lo f.hi = true ∧ ∀ (k : Nat) t, f.ts[k]? = some t → out.contains (k : Int) = true ∨ rt l t = true) := by
    intro l hl
    unfold rightB
    rw [Bool.and_eq_true, allAt_iff]
    have h3 : (pad l).take f.rows.toNat = l.take l.length := by
      unfold pad; rw [show f.rows.toNat = l.length by omega, List.take_append_of_le_length (Nat.le_refl _)]
    rw [h3]
    have hp : part l (-1) 0 l.length = cnt (-1) (l.take l.length) := by unfold part; rw [List.drop_zero]
    rw [hp, and_comm]
    refine and_congr Iff.rfl ⟨fun h k t hk => ?_, fun h k t hk => ?_⟩
    · have h2 := h k t hk
      have h4 := talOk_bd (ht t (List.mem_of_getElem? hk))
      unfold okAt at h2
      rw [Bool.or_eq_true, didK_part _ _ ⟨h4.2.1.1, h4.2.1.2.1⟩, tdid_pad f l t hl (ht t (List.mem_of_getElem? hk)), Nat.zero_add] at h2
      exact h2
    · have h2 := h k t hk
      have h4 := talOk_bd (ht t (List.mem_of_getElem? hk))
      unfold okAt
      rw [Bool.or_eq_true, didK_part _ _ ⟨h4.2.1.1, h4.2.1.2.1⟩, tdid_pad f l t hl (ht t (List.mem_of_getElem? hk)), Nat.zero_add]
      exact h2
  have hall : ∀ l : List Int, l.all (okWho f) = true ↔ ∀ x ∈ l, x ∈ whos f.wd := fun l => by
    rw [List.all_eq_true]
    refine ⟨fun h x hx => ?_, fun h x hx => ?_⟩
    · have := h x hx
      rw [okWho_in f x hw.1, inR_iff] at this
      exact (mem_whos (by omega)).2 (by omega)
    · rw [okWho_in f x hw.1, inR_iff]
      have := (mem_whos (by omega)).1 (h x hx)
      omega
  unfold truths
  rw [mem_enum]
  constructor
  · rintro ⟨t, h1, h2, h3, h4⟩
    rw [List.nil_append] at h3 h4
    have hl : (t.length : Int) = f.rows := by omega
    obtain ⟨h5, h6⟩ := (key t hl).1 h3
    refine ⟨t, ?_, h6, h4⟩
    unfold alw
    rw [(hall t).2 h2, h5]
    simp [hl]
  · rintro ⟨l, h1, h2, rfl⟩
    simp only [alw, Bool.and_eq_true, decide_eq_true_eq] at h1
    refine ⟨l, by omega, (hall l).1 h1.1, ?_, by simp⟩
    rw [List.nil_append]
    exact (key l h1.2.1).2 ⟨h1.2.2, h2⟩
theorem truths_ne {f : Fld} (hc : check f = 0) {out : List Int} : truths f out ≠ [] ↔ ∃ l, alw f l = true ∧ ∀ (k : Nat) t, f.ts[k]? = some t → out.contains (k : Int) = true ∨ rt l t = true := by
  constructor
  · intro h
    obtain ⟨a, ha⟩ := List.exists_mem_of_ne_nil _ h
    obtain ⟨l, h1, h2, _⟩ := (mem_truthsO hc).1 ha
    exact ⟨l, h1, h2⟩
  · rintro ⟨l, h1, h2⟩ e
    have := (mem_truthsO hc (out := out) (a := pad l)).2 ⟨l, h1, h2, rfl⟩
    rw [e] at this
    cases this
/-- The field with other tallies. -/
theorem check_sub {f : Fld} (hc : check f = 0) {ts : List Tly} (h5 : ts.length ≤ 5) (ht : ∀ t ∈ ts, talOk f t = true) : check { f with ts := ts } = 0 := by
  obtain ⟨hr, hw, h6, ht2, hl, hm⟩ := check_ok hc
  unfold check
  rw [if_neg, if_neg, if_neg]
  · show ¬ 2500 < many f; omega
  · simp only [bad, Bool.or_eq_true, decide_eq_true_eq, Bool.not_eq_true', not_or, Bool.not_eq_false, List.all_eq_true]
    exact ⟨by omega, by omega, hl, ht⟩
  · simp only [big, Bool.or_eq_true, decide_eq_true_eq, not_or]
    omega
/-- Some list is allowed. -/
theorem alw_some {f : Fld} (hc : check f = 0) : ∃ l, alw f l = true := by
  obtain ⟨hr, hw, h6, ht2, hl, hm⟩ := check_ok hc
  simp only [rngOk, Bool.and_eq_true, decide_eq_true_eq] at hl
  refine ⟨List.replicate f.lo.toNat (-1) ++ List.replicate (f.rows - f.lo).toNat 0, ?_⟩
  have h1 : part (List.replicate f.lo.toNat (-1) ++ List.replicate (f.rows - f.lo).toNat 0) (-1) 0 (List.replicate f.lo.toNat (-1 : Int) ++ List.replicate (f.rows - f.lo).toNat 0).length = f.lo.toNat := by
    unfold part cnt
    rw [List.drop_zero, List.take_length, List.countP_append, List.countP_replicate, List.countP_replicate]
    simp
  unfold alw
  rw [h1]
  simp only [Bool.and_eq_true, decide_eq_true_eq, List.all_eq_true, inR_iff, List.length_append, List.length_replicate]
  refine ⟨fun x hx => ?_, by omega, by omega⟩
  rw [okWho_in f x hw.1, inR_iff]
  rcases List.mem_append.1 hx with h | h
  · have := (List.mem_replicate.1 h).2; omega
  · have := (List.mem_replicate.1 h).2; omega
theorem shortest_spec {n : Nat} (hn : n < 8) {p : List Int → Bool} {s0 : Nat} (h0 : s0 < 2 ^ n) (hp : p (bitsL s0) = true) :
    ∃ s, s < 2 ^ n ∧ shortestL (n : Int) p = bitsL s ∧ p (bitsL s) = true ∧ ∀ s', s' < 2 ^ n → p (bitsL s') = true → sh (bitsL s') (bitsL s) = false := by
  rw [shortest_pick hn (cand_in n hn s0 h0) hp]
  obtain ⟨h1, h2, h3⟩ := pick_inv hn (cand_in n hn s0 h0) hp (2 ^ n) (Nat.le_refl _)
  obtain ⟨s, hs, he⟩ := cand_of n hn _ h1
  refine ⟨s, hs, he.symm, ?_, fun s' hs' hp' => ?_⟩
  · rw [he]; exact h2
  · rw [he]; exact h3 s' hs' hp'
theorem bits_has {s x : Nat} (hx : x < 8) : (bitsL s).contains (x : Int) = (s / 2 ^ x % 2 == 1) := by
  rw [Bool.eq_iff_iff, List.contains_iff_mem, mem_bits, beq_iff_eq]
  constructor
  · rintro ⟨y, hy, h, e⟩
    obtain rfl : x = y := by omega
    exact h
  · intro h; exact ⟨x, hx, h, rfl⟩
end Go.Proofs.Ythogdgkafaclaaa
end
section
namespace Go.Proofs.Ythogdgkafaclaaa
/-- By so many questions c can be known of what is in S; g says what is answered. -/
def Qn (c : List Int → Int) (g : List Int → Nat → Int) (R : Nat) : Nat → (List Int → Prop) → Prop
  | 0, S => ∀ a b, S a → S b → c a = c b
  | m + 1, S => (∀ a b, S a → S b → c a = c b) ∨ ∃ r, r < R ∧ ∀ v, Qn c g R m (fun a => S a ∧ g a r = v)
section
variable {c : List Int → Int} {g : List Int → Nat → Int} {R : Nat} {S S' : List Int → Prop}
theorem Qn_all (hc : ∀ a b, S a → S b → (∀ r, r < R → g a r = g b r) → c a = c b) : Qn c g R R S := by
  have key : ∀ (k : Nat), k ≤ R → ∀ (S : List Int → Prop), (∀ a b, S a → S b → (∀ r, r < R → g a r = g b r) → c a = c b) → (∀ a b, S a → S b → ∀ r, k ≤ r → r < R → g a r = g b r) → Qn c g R k S := by
    intro k
    induction k with
    | zero => exact fun _ S h1 h2 a b ha hb => h1 a b ha hb fun r hr => h2 a b ha hb r (Nat.zero_le _) hr
    | succ k ih =>
      intro hk S h1 h2
      refine .inr ⟨k, by omega, fun v => ih (by omega) _ (fun a b ha hb => h1 a b ha.1 hb.1) fun a b ha hb r hr1 hr2 => ?_⟩
      rcases Nat.lt_or_ge k r with h | h
      · exact h2 a b ha.1 hb.1 r h hr2
      · obtain rfl : r = k := by omega
        rw [ha.2, hb.2]
  exact key R (Nat.le_refl _) S hc fun a b _ _ r h1 h2 => by omega
end
end Go.Proofs.Ythogdgkafaclaaa
end
section
namespace Go.Proofs.Ythogdgkafaclaaa
theorem bitb {β : Type} {f : Unit → Option β} {a b : Nat} (ha : a < 1000000) (hb : b < 1000000) : (bitO (a : Int) (b : Int)).bind f = f () := bd (if_pos ⟨⟨by omega, by omega⟩, by omega, by omega⟩)
theorem orN (a b : Nat) : orI (a : Int) (b : Int) = ((a ||| b : Nat) : Int) := by unfold orI; rw [Int.toNat_natCast, Int.toNat_natCast]
theorem andN (a b : Nat) : andI (a : Int) (b : Int) = ((a &&& b : Nat) : Int) := by unfold andI; rw [Int.toNat_natCast, Int.toNat_natCast]
theorem andNotN (a b : Nat) : andNotI (a : Int) (b : Int) = ((a ^^^ (a &&& b) : Nat) : Int) := by unfold andNotI; rw [Int.toNat_natCast, Int.toNat_natCast]
theorem tb (s i : Nat) : (s / 2 ^ i % 2 == 1) = s.testBit i := by rw [Nat.testBit_eq_decide_div_mod_eq]; rfl
def nT : Tly := ⟨0, 0, 0, 0, 0⟩
theorem gdT {ts : List Tly} {i : Nat} (h : i < ts.length) : ts[i] = ts.getD i nT := by simp [List.getElem?_eq_getElem h]
/-- Which tallies are right in a list, by bits. -/
def rbN (l : List Int) (ts : List Tly) : Nat → Nat
  | 0 => 0
  | i + 1 => if rt l (ts.getD i nT) = true then rbN l ts i ||| 2 ^ i else rbN l ts i
theorem rbN_lt (l : List Int) (ts : List Tly) : ∀ n, rbN l ts n < 2 ^ n
  | 0 => by simp [rbN]
  | n + 1 => by
    have h := rbN_lt l ts n
    have h2 : (2 : Nat) ^ n < 2 ^ (n + 1) := Nat.pow_lt_pow_right (by omega) (by omega)
    unfold rbN
    split
    · exact Nat.or_lt_two_pow (by omega) h2
    · omega
theorem rbN_bit (l : List Int) (ts : List Tly) : ∀ n x, x < n → (rbN l ts n).testBit x = rt l (ts.getD x nT)
  | 0, x, h => by omega
  | n + 1, x, h => by
    unfold rbN
    rcases Nat.lt_or_ge x n with h1 | h1
    · have ih := rbN_bit l ts n x h1
      split
      · rw [Nat.testBit_or, Nat.testBit_two_pow, ih, df (by omega), Bool.or_false]
      · exact ih
    · obtain rfl : x = n := by omega
      have h0 := Nat.testBit_lt_two_pow (rbN_lt l ts x)
      split
      · rename_i hr
        rw [Nat.testBit_or, Nat.testBit_two_pow, h0, hr, dt rfl]; rfl
      · rename_i hr
        rw [h0]; exact (Bool.eq_false_iff.2 hr).symm
theorem shl_all : ∀ r : Nat, r < 8 → shlO 1 (r : Int) = some () ∧ shlI 1 (r : Int) = ((2 ^ r : Nat) : Int) ∧ shlO 2 (r : Int) = some () ∧ shlI 2 (r : Int) - 1 = ((2 ^ (r + 1) - 1 : Nat) : Int) ∧ 2 ^ r ≤ 128 ∧ 2 ^ (r + 1) ≤ 256 ∧ 1 ≤ 2 ^ r := by decide +kernel
/-- All lists, by their numbers. -/
def lists (f : Fld) : List (List Int) := (List.range (many f).toNat).map fun i : Nat => nthL (f.wd + 1) f.rows.toNat (i : Int)
theorem mem_lists {f : Fld} (hc : check f = 0) {l : List Int} (h : alw f l = true) : l ∈ lists f := by
  obtain ⟨hr, hw, _⟩ := check_ok hc
  simp only [alw, Bool.and_eq_true, decide_eq_true_eq, List.all_eq_true] at h
  obtain ⟨i, hi, he⟩ := nthL_surj (f.wd + 1) (by omega) l fun x hx => by
    have := h.1 x hx
    rw [okWho_in f x hw.1, inR_iff] at this
    omega
  have hl : f.rows.toNat = l.length := by omega
  unfold lists
  rw [List.mem_map]
  refine ⟨i, ?_, by rw [hl]; exact he⟩
  have h0 := many_nn hc
  have hm : many f = (f.wd + 1) ^ l.length := by unfold many; rw [hl]
  rw [List.mem_range]
  omega
def allB (f : Fld) : List Nat := ((lists f).filter (alw f)).map fun l => rbN l f.ts f.ts.length
/-- Some tallies are right together. -/
def canB (f : Fld) (s : Nat) : Bool := (allB f).any fun x => x &&& s == s
theorem canB_iff {f : Fld} (hc : check f = 0) {s : Nat} (hs : s < 2 ^ f.ts.length) : canB f s = true ↔ ∃ l, alw f l = true ∧ ∀ (i : Nat) t, f.ts[i]? = some t → s.testBit i = false ∨ rt l t = true := by
  have key : ∀ l, (rbN l f.ts f.ts.length &&& s == s) = true ↔ ∀ (i : Nat) t, f.ts[i]? = some t → s.testBit i = false ∨ rt l t = true := fun l => by
    rw [beq_iff_eq]
    constructor
    · intro h i t hi
      obtain ⟨hlt, rfl⟩ := List.getElem?_eq_some_iff.1 hi
      have h1 := congrArg (Nat.testBit · i) h
      simp only [Nat.testBit_and, rbN_bit l f.ts _ i hlt, ← gdT hlt] at h1
      cases hb : s.testBit i with
      | false => exact .inl rfl
      | true => rw [hb, Bool.and_true] at h1; exact .inr h1
    · intro h
      refine Nat.eq_of_testBit_eq fun i => ?_
      rw [Nat.testBit_and]
      rcases Nat.lt_or_ge i f.ts.length with hi | hi
      · rw [rbN_bit l f.ts _ i hi, ← gdT hi]
        rcases h i _ (List.getElem?_eq_getElem hi) with h1 | h1
        · rw [h1, Bool.and_false]
        · rw [h1, Bool.true_and]
      · have : s.testBit i = false := Nat.testBit_lt_two_pow (Nat.lt_of_lt_of_le hs (Nat.pow_le_pow_right (by omega) hi))
        rw [this, Bool.and_false]
  unfold canB allB
  rw [List.any_map, List.any_eq_true]
  constructor
  · rintro ⟨l, hl, h⟩
    exact ⟨l, (List.mem_filter.1 hl).2, (key l).1 h⟩
  · rintro ⟨l, hl, h⟩
    exact ⟨l, List.mem_filter.2 ⟨mem_lists hc hl, hl⟩, (key l).2 h⟩
theorem g_Full {f : Fld} (h5 : f.ts.length ≤ 5) : G_Full 1000 f = some ((2 ^ f.ts.length - 1 : Nat) : Int) := by
  obtain ⟨s1, s2, s3, s4, s5, s6, s7⟩ := shl_all f.ts.length (by omega)
  unfold G_Full
  rw [cvU (by omega), bd s1, s2, i64b (by omega) (by omega)]
  congr 1; omega
/-- There is a truth without some tallies. -/
def posB (f : Fld) (out : List Int) : Bool := decide (truths f out ≠ [])
theorem posB_iff {f : Fld} (hc : check f = 0) {s : Nat} : posB f (bitsL s) = true ↔ ∃ l, alw f l = true ∧ ∀ (i : Nat) t, f.ts[i]? = some t → s.testBit i = true ∨ rt l t = true := by
  obtain ⟨hr, hw, h5, _⟩ := check_ok hc
  unfold posB
  rw [decide_eq_true_eq, truths_ne hc]
  refine exists_congr fun l => and_congr Iff.rfl ?_
  refine forall_congr' fun i => forall_congr' fun t => ⟨fun h hi => ?_, fun h hi => ?_⟩
  · obtain ⟨hlt, _⟩ := List.getElem?_eq_some_iff.1 hi
    have := h hi
    rw [bits_has (by omega), tb] at this; exact this
  · obtain ⟨hlt, _⟩ := List.getElem?_eq_some_iff.1 hi
    rw [bits_has (by omega), tb]; exact h hi
theorem posB_can {f : Fld} (hc : check f = 0) {s : Nat} : posB f (bitsL s) = canB f ((2 ^ f.ts.length - 1) ^^^ ((2 ^ f.ts.length - 1) &&& s)) := by
  have h2 : 1 ≤ 2 ^ f.ts.length := Nat.one_le_two_pow
  rw [Bool.eq_iff_iff, posB_iff hc, canB_iff hc (Nat.xor_lt_two_pow (by omega) (Nat.lt_of_le_of_lt Nat.and_le_left (by omega)))]
  refine exists_congr fun l => and_congr Iff.rfl (forall_congr' fun i => forall_congr' fun t => ⟨fun h hi => ?_, fun h hi => ?_⟩)
  · obtain ⟨hlt, _⟩ := List.getElem?_eq_some_iff.1 hi
    rw [Nat.testBit_xor, Nat.testBit_and, Nat.testBit_two_pow_sub_one, dt hlt, Bool.true_and, Bool.true_xor]
    rcases h hi with h1 | h1
    · exact .inl (by rw [h1]; rfl)
    · exact .inr h1
  · obtain ⟨hlt, _⟩ := List.getElem?_eq_some_iff.1 hi
    have := h hi
    rw [Nat.testBit_xor, Nat.testBit_and, Nat.testBit_two_pow_sub_one, dt hlt, Bool.true_and, Bool.true_xor] at this
    rcases this with h1 | h1
    · exact .inl (by simpa using h1)
    · exact .inr h1
theorem posB_full {f : Fld} (hc : check f = 0) : posB f (bitsL (2 ^ f.ts.length - 1)) = true := by
  rw [posB_iff hc]
  obtain ⟨l, hl⟩ := alw_some hc
  refine ⟨l, hl, fun i t hi => ?_⟩
  obtain ⟨hlt, _⟩ := List.getElem?_eq_some_iff.1 hi
  exact .inl (by rw [Nat.testBit_two_pow_sub_one, dt hlt])
/-- The smallest set. -/
def leaveL (f : Fld) : List Int := shortestL (f.ts.length : Int) (posB f)
theorem leave_spec {f : Fld} (hc : check f = 0) : ∃ s, s < 2 ^ f.ts.length ∧ leaveL f = bitsL s ∧ posB f (bitsL s) = true ∧ ∀ s', s' < 2 ^ f.ts.length → posB f (bitsL s') = true → sh (bitsL s') (bitsL s) = false := by
  obtain ⟨hr, hw, h5, _⟩ := check_ok hc
  have h2 : 1 ≤ 2 ^ f.ts.length := Nat.one_le_two_pow
  exact shortest_spec (by omega) (s0 := 2 ^ f.ts.length - 1) (by omega) (posB_full hc)
theorem q_Leave (K : Nat) (f : Fld) : Q_Leave K f = some (if check f = 0 then (leaveL f, 0) else ([], check f)) := rfl
end Go.Proofs.Ythogdgkafaclaaa
end
section
namespace Go.Proofs.Ythogdgkafaclaaa
/-- The reference's lists: their numbers, and what they say. -/
abbrev cR (who : Int) : List Int → Int := fun a => ((part a who 0 a.length : Nat) : Int)
abbrev gR : List Int → Nat → Int := fun a r => a.getD r 0
section
variable {f : Fld} {T : List (List Int)} {who : Int}
/-- What the lists at hand are. -/
def OkT (f : Fld) (T : List (List Int)) : Prop := T.length ≤ 250 ∧ ∀ a ∈ T, (a.length : Int) = f.rows ∧ ∀ r, r < f.rows.toNat → -1 ≤ a.getD r 0 ∧ a.getD r 0 ≤ f.wd - 1
theorem cR_ext {a b : List Int} (ha : (a.length : Int) = f.rows) (hb : (b.length : Int) = f.rows) (h : ∀ r, r < f.rows.toNat → gR a r = gR b r) : cR who a = cR who b := by
  have : a = b := by
    refine List.ext_getElem (by omega) fun i h1 h2 => ?_
    rw [gd0 h1, gd0 h2]; exact h i (by omega)
  rw [this]
theorem OkT.all (h : OkT f T) : Qn (cR who) gR f.rows.toNat f.rows.toNat (· ∈ T) := Qn_all fun a b ha hb hh => cR_ext (h.2 a ha).1 (h.2 b hb).1 hh
end
end Go.Proofs.Ythogdgkafaclaaa
end
section
namespace Go.Proofs.Ythogdgkafaclaaa
/-- The bits of some rows. -/
def orL (l : List Int) : Nat := l.foldl (fun s x => s ||| 2 ^ x.toNat) 0
theorem orL_lt {k : Nat} : ∀ (l : List Int) (z : Nat), z < 2 ^ k → (∀ x ∈ l, x.toNat < k) → l.foldl (fun s x => s ||| 2 ^ x.toNat) z < 2 ^ k
  | [], z, h, _ => h
  | r :: l, z, h, hl => by
    rw [List.foldl_cons]
    exact orL_lt l _ (Nat.or_lt_two_pow h (Nat.pow_lt_pow_right (by omega) (hl r (List.mem_cons_self ..)))) fun x hx => hl x (List.mem_cons_of_mem _ hx)
theorem bitsL_sorted (s : Nat) : (bitsL s).Pairwise (· < ·) := by
  unfold bitsL
  rw [List.pairwise_map]
  exact (List.pairwise_lt_range.filter _).imp fun h => by omega
theorem orL_bits {s : Nat} (hs : s < 256) : orL (bitsL s) = s := by
  have : ∀ s : Nat, s < 256 → orL (bitsL s) = s := by decide +kernel
  exact this s hs
theorem orL_take (l : List Int) {i : Nat} (hi : i < l.length) : orL (l.take (i + 1)) = orL (l.take i) ||| 2 ^ (l.getD i 0).toNat := by
  unfold orL
  rw [List.take_succ_eq_append_getElem hi, List.foldl_append, gd0 hi]; rfl
theorem g_ready (f : Fld) : G_ready 1000 f = some (thin f && check f == 0) := by
  unfold G_ready
  rw [bd (g_Thin (Nat.le_refl _))]
  cases thin f with
  | false => rfl
  | true => rw [ct rfl, bd (g_fault (Nat.le_refl _))]; rfl
theorem cv8 {β : Type} {g : Unit → Option β} {x : Int} (h : 0 ≤ x ∧ x < 256) : (cvO .i64 x).bind g = g () := bd (by
  have : ∀ x : Nat, x < 256 → cvO .i64 (x : Int) = some () := by decide +kernel
  have h2 := this x.toNat (by omega)
  rwa [show ((x.toNat : Nat) : Int) = x by omega] at h2)
theorem refs_nil {f : Fld} (hc : check f = 0) : sureE f = if refs f = [] then 11 else 0 := by unfold sureE; rw [if_neg (by simp [hc])]
end Go.Proofs.Ythogdgkafaclaaa
end
section
namespace Go.Proofs.Ythogdgkafaclaaa
/-- Some tallies, by bits. -/
def pickT (ts : List Tly) (s i n : Nat) : List Tly := (List.range' i n).filterMap fun x => if s.testBit x then ts[x]? else none
def someF (f : Fld) (s : Nat) : Fld := { f with ts := pickT f.ts s 0 f.ts.length }
theorem pickT_len (ts : List Tly) (s i n : Nat) : (pickT ts s i n).length ≤ n := by
  unfold pickT
  exact Nat.le_trans (List.length_filterMap_le _ _) (by simp)
theorem l_some (f : Fld) (s : Nat) (h5 : f.ts.length ≤ 7) : ∀ (n m i : Nat) (acc : List Tly), f.ts.length = i + n → n < m → acc.length ≤ i → G_some__L6 f (s : Int) m (i : Int) acc = some (acc ++ pickT f.ts s i n)
  | n, 0, i, acc, h, hm, _ => by omega
  | 0, m + 1, i, acc, h, hm, _ => by
    unfold G_some__L6
    rw [cf (df (by omega))]
    simp [pickT]
  | n + 1, m + 1, i, acc, h, hm, ha => by
    unfold G_some__L6
    have hi : i < f.ts.length := by omega
    have e : ((i : Int) + 1) = ((i + 1 : Nat) : Int) := by omega
    have h0 : 0 ≤ shrI (s : Int) (i : Int) := by rw [shr_nat]; exact Int.natCast_nonneg _
    have hp : pickT f.ts s i (n + 1) = (if s.testBit i then [f.ts[i]] else []) ++ pickT f.ts s (i + 1) n := by
      unfold pickT
      rw [List.range'_succ, List.filterMap_cons]
      cases s.testBit i <;> simp [List.getElem?_eq_getElem hi]
    rw [ct (dt (by omega)), cvU (by omega), shrb (by omega), remb h0 (by omega), shr_odd, hp]
    cases hb : s.testBit i with
    | true =>
      have : ((((s / 2 ^ i % 2 : Nat) : Int)) == 1) = true := by
        rw [← tb, beq_iff_eq] at hb
        rw [hb]; rfl
      rw [ct this, idxb hi, ifob (by simp; omega), i64b (by omega) (by omega), e, l_some f s h5 n m (i + 1) _ (by omega) (by omega) (by simp; omega)]
      simp
    | false =>
      have : ((((s / 2 ^ i % 2 : Nat) : Int)) == 1) = false := by
        rw [← tb] at hb
        rw [beq_eq_false_iff_ne] at hb ⊢
        omega
      rw [cf this, i64b (by omega) (by omega), e, l_some f s h5 n m (i + 1) acc (by omega) (by omega) (by omega)]
      simp
theorem g_some {f : Fld} (s : Nat) (h5 : f.ts.length ≤ 7) : G_some_ 1000 f (s : Int) = some (someF f s) := by
  unfold G_some_
  have := l_some f s h5 f.ts.length 1000 0 [] (by omega) (by omega) (by simp)
  rw [Int.natCast_zero, List.nil_append] at this
  rw [bd this]; rfl
theorem mem_pick {ts : List Tly} {s : Nat} {t : Tly} : t ∈ pickT ts s 0 ts.length ↔ ∃ i : Nat, s.testBit i = true ∧ ts[i]? = some t := by
  unfold pickT
  rw [List.mem_filterMap]
  constructor
  · rintro ⟨i, hi, h⟩
    cases hb : s.testBit i with
    | true => rw [hb] at h; exact ⟨i, hb, h⟩
    | false => rw [hb] at h; cases h
  · rintro ⟨i, hb, h⟩
    obtain ⟨hlt, _⟩ := List.getElem?_eq_some_iff.1 h
    exact ⟨i, by rw [List.mem_range'_1]; omega, by rw [hb]; exact h⟩
theorem check_some {f : Fld} (hc : check f = 0) (s : Nat) : check (someF f s) = 0 := by
  obtain ⟨hr, hw, h5, ht, _⟩ := check_ok hc
  refine check_sub hc (Nat.le_trans (pickT_len _ _ _ _) h5) fun t h => ?_
  obtain ⟨i, _, hi⟩ := mem_pick.1 h
  exact ht t (List.mem_of_getElem? hi)
theorem some_can {f : Fld} (hc : check f = 0) {s : Nat} (hs : s < 2 ^ f.ts.length) : truths (someF f s) [] ≠ [] ↔ canB f s = true := by
  rw [truths_ne (check_some hc s), canB_iff hc hs]
  refine exists_congr fun l => and_congr Iff.rfl ⟨fun h i t hi => ?_, fun h k t hk => ?_⟩
  · cases hb : s.testBit i with
    | false => exact .inl rfl
    | true =>
      obtain ⟨k, hk⟩ := List.mem_iff_getElem?.1 (mem_pick.2 ⟨i, hb, hi⟩)
      rcases h k t hk with h1 | h1
      · simp at h1
      · exact .inr h1
  · obtain ⟨i, hb, hi⟩ := mem_pick.1 (List.mem_of_getElem? hk)
    rcases h i t hi with h1 | h1
    · rw [hb] at h1; cases h1
    · exact .inr h1
/-- The error of Done. -/
theorem q_Done (K : Nat) (f : Fld) : Q_Done K f = some (if sureE f = 0 then (donesTo f (truths f []) f.wd.toNat, 0) else ([], sureE f)) := by unfold Q_Done; rw [askE_true]
theorem sureE_truths {f : Fld} (hc : check f = 0) : sureE f = if truths f [] = [] then 11 else 0 := by
  rw [refs_nil hc]
  by_cases h : refs f = []
  · rw [if_pos h, if_pos ((truths_nil hc).2 h)]
  · rw [if_neg h, if_neg fun e => h ((truths_nil hc).1 e)]
theorem sure_some {f : Fld} (hc : check f = 0) {s : Nat} (hs : s < 2 ^ f.ts.length) : sureE (someF f s) = if canB f s = true then 0 else 11 := by
  rw [sureE_truths (check_some hc s)]
  by_cases h : canB f s = true
  · rw [if_pos h, if_neg ((some_can hc hs).2 h)]
  · rw [if_neg h, if_pos (Decidable.byContradiction fun e => h ((some_can hc hs).1 e))]
end Go.Proofs.Ythogdgkafaclaaa
end
section
set_option linter.unusedVariables false
set_option linter.unusedSimpArgs false
namespace Go.Proofs.Ythogdgkafaclaaa
open Go.RowKit
def G_WeedLeft_L14 (K_ : Nat) (p0 : Fld) (r11 : (List Int) × Int) : Nat → Int → Int → Option ((Bool) ⊕ (Int))
  | 0, _, _ => none
  | m_ + 1, s14_7, s14_8 => cond (decide (s14_8 < (r11.1.length : Int))) ((idx r11.1 s14_8).bind fun x17 => (i64 ((p0.ts.length : Int) - 1)).bind fun _ => (G_In K_ x17 0 ((p0.ts.length : Int) - 1)).bind fun r19 => cond (!r19) (some (.inl false)) (cond (decide (0 < s14_8)) ((idx r11.1 s14_8).bind fun x24 => (i64 (s14_8 - 1)).bind fun _ => (idx r11.1 (s14_8 - 1)).bind fun x26 => cond (decide (x24 ≤ x26)) (some (.inl false)) ((idx r11.1 s14_8).bind fun x28 => (cvO .u64 x28).bind fun _ => (shlO (1 : Int) x28).bind fun _ => (bitO s14_7 (shlI (1 : Int) x28)).bind fun _ => (i64 (s14_8 + 1)).bind fun _ => G_WeedLeft_L14 K_ p0 r11 m_ (orI s14_7 (shlI (1 : Int) x28)) (s14_8 + 1))) ((idx r11.1 s14_8).bind fun x33 => (cvO .u64 x33).bind fun _ => (shlO (1 : Int) x33).bind fun _ => (bitO s14_7 (shlI (1 : Int) x33)).bind fun _ => (i64 (s14_8 + 1)).bind fun _ => G_WeedLeft_L14 K_ p0 r11 m_ (orI s14_7 (shlI (1 : Int) x33)) (s14_8 + 1)))) (some (.inr s14_7))
def G_WeedLeft (K_ : Nat) (p0 : Fld) (p1 : Int) : Option (Bool) :=
  (G_ready K_ p0).bind fun r2 => cond (!r2) ((ifo (G_awake K_ = some true)).bind fun _ => some (true)) ((G_Field K_ p0).bind fun r9 => (Q_Leave K_ r9).bind fun r11 => cond (r11.2 != 0) (some (false)) ((G_WeedLeft_L14 K_ p0 r11 K_ (0 : Int) (0 : Int)).bind fun z => Sum.elim (fun q14 => some (q14)) (fun q14 => (cvO .i64 p1).bind fun _ => (G_Full K_ p0).bind fun r39 => (bitO p1 r39).bind fun _ => (G_Full K_ p0).bind fun r43 => (bitO r43 q14).bind fun _ => (G_some_ K_ p0 (andNotI r43 q14)).bind fun r45 => (G_Field K_ r45).bind fun r46 => (Q_Done K_ r46).bind fun r47 => (G_Full K_ p0).bind fun r49 => (bitO r49 (andI p1 r39)).bind fun _ => (G_some_ K_ p0 (andNotI r49 (andI p1 r39))).bind fun r51 => (G_Field K_ r51).bind fun r52 => (Q_Done K_ r52).bind fun r53 => cond (r47.2 == 0) (cond (r53.2 == 11) ((ifo (G_awake K_ = some true)).bind fun _ => some (true)) (cond (r53.2 == 0) ((G_Bits K_ (andI p1 r39)).bind fun r59 => (G_Shorter K_ r59 r11.1).bind fun r61 => cond (!r61) ((ifo (G_awake K_ = some true)).bind fun _ => some (true)) (some (false))) (some (false)))) (some (false))) z))
end Go.Proofs.Ythogdgkafaclaaa
end
section
namespace Go.Proofs.Ythogdgkafaclaaa
/-- An increasing list of numbers below another one, as bits. -/
theorem l_Left14 {f : Fld} (h5 : f.ts.length ≤ 5) (l : List Int) (s : Int) (hl : l.length ≤ 8) (h1 : ∀ x ∈ l, 0 ≤ x ∧ x ≤ (f.ts.length : Int) - 1) (h2 : l.Pairwise (· < ·)) : ∀ (n m i : Nat), l.length = i + n → n < m →
    G_WeedLeft_L14 1000 f (l, s) m ((orL (l.take i) : Nat) : Int) (i : Int) = some (.inr ((orL l : Nat) : Int))
  | n, 0, i, h, hm => by omega
  | 0, m + 1, i, h, hm => by
    unfold G_WeedLeft_L14
    rw [cf (df (by simp only []; omega)), List.take_of_length_le (by omega)]
  | n + 1, m + 1, i, h, hm => by
    have hi : i < l.length := by omega
    have e : ((i : Int) + 1) = ((i + 1 : Nat) : Int) := by omega
    have hin := h1 _ (List.getElem_mem hi)
    obtain ⟨x, hx⟩ : ∃ x : Nat, l[i] = x := ⟨l[i].toNat, by omega⟩
    have hgx : l.getD i 0 = x := by rw [← gd0 hi]; exact hx
    obtain ⟨s1, s2, _, _, s5, _⟩ := shl_all x (by omega)
    have hlt7 : orL (l.take i) < 2 ^ 7 := orL_lt _ 0 (by decide) fun y hy => by
      have := h1 y (List.mem_of_mem_take hy)
      omega
    have hor : orL (l.take i) ||| 2 ^ x = orL (l.take (i + 1)) := by rw [orL_take l hi, hgx]; simp
    unfold G_WeedLeft_L14
    simp only []
    rw [ct (dt (by omega)), idxb hi, i64b (by omega) (by omega), bd (g_In ..), inR_iff.2 hin, nt]
    by_cases h0 : i = 0
    · subst h0
      rw [cf (by decide), idxb hi, hx, cvU (by omega), bd s1, s2, bitb (by omega) (by omega), i64b (by omega) (by omega), e, orN, hor]
      exact l_Left14 h5 l s hl h1 h2 n m (0 + 1) (by omega) (by omega)
    · have e2 : (i : Int) - 1 = ((i - 1 : Nat) : Int) := by omega
      have hlt : l[i - 1] < l[i] := (List.pairwise_iff_getElem.1 h2) (i - 1) i (by omega) hi (by omega)
      rw [ct (dt (by omega)), idxb hi, i64b (by omega) (by omega), e2, idxb (by omega : i - 1 < l.length), cf (df (by omega)), idxb hi, hx, cvU (by omega), bd s1, s2, bitb (by omega) (by omega), i64b (by omega) (by omega), e, orN, hor]
      exact l_Left14 h5 l s hl h1 h2 n m (i + 1) (by omega) (by omega)
theorem weedLeft_plain (f : Fld) (t : Int) (ht0 : 0 ≤ t ∧ t < 256) : G_WeedLeft 1000 f t = some true := by
  unfold G_WeedLeft
  rw [bd (g_ready f)]
  cases hrd : (thin f && check f == 0) with
  | false => rw [nf, ifob awake_1000]
  | true =>
    rw [Bool.and_eq_true, beq_iff_eq] at hrd
    obtain ⟨ht, hc⟩ := hrd
    obtain ⟨hr, hw, h5, _⟩ := check_ok hc
    obtain ⟨s, hs1, hs2, hs3, hs4⟩ := leave_spec hc
    have h2p : 1 ≤ 2 ^ f.ts.length := Nat.one_le_two_pow
    have hp32 : (2 : Nat) ^ f.ts.length ≤ 2 ^ 5 := Nat.pow_le_pow_right (by omega) h5
    have h14 := l_Left14 h5 (bitsL s) 0 (bits_len s) (fun x hx => by
      obtain ⟨y, _, hb, rfl⟩ := mem_bits.1 hx
      have := bit_lt hs1 hb
      omega) (bitsL_sorted s) (bitsL s).length 1000 0 (by omega) (by have := bits_len s; omega)
    rw [Int.natCast_zero, List.take_zero, orL_bits (by omega)] at h14
    have e0 : ((orL [] : Nat) : Int) = 0 := rfl
    rw [e0] at h14
    obtain ⟨t', rfl⟩ : ∃ t' : Nat, t = t' := ⟨t.toNat, by omega⟩
    rw [nt, bd (g_Field (Nat.le_refl _) (thin_len ht)), bd (q_Leave 1000 f), if_pos hc, hs2]
    simp only []
    have hand : t' &&& (2 ^ f.ts.length - 1) < 2 ^ f.ts.length := Nat.and_lt_two_pow _ (by omega)
    have hx1 : (2 ^ f.ts.length - 1) ^^^ ((2 ^ f.ts.length - 1) &&& s) < 2 ^ f.ts.length := Nat.xor_lt_two_pow (by omega) (Nat.lt_of_le_of_lt Nat.and_le_left (by omega))
    have hx2 : (2 ^ f.ts.length - 1) ^^^ ((2 ^ f.ts.length - 1) &&& (t' &&& (2 ^ f.ts.length - 1))) < 2 ^ f.ts.length := Nat.xor_lt_two_pow (by omega) (Nat.lt_of_le_of_lt Nat.and_le_left (by omega))
    have hq1 := pickT_len f.ts ((2 ^ f.ts.length - 1) ^^^ ((2 ^ f.ts.length - 1) &&& s)) 0 f.ts.length
    have hq2 := pickT_len f.ts ((2 ^ f.ts.length - 1) ^^^ ((2 ^ f.ts.length - 1) &&& (t' &&& (2 ^ f.ts.length - 1)))) 0 f.ts.length
    have g1 : sureE (someF f ((2 ^ f.ts.length - 1) ^^^ ((2 ^ f.ts.length - 1) &&& s))) = 0 := by rw [sure_some hc hx1, ← posB_can hc, if_pos hs3]
    rw [cf (by decide), bd h14, Sum.elim_inr, cv8 ht0, bd (g_Full h5), bitb (by omega) (by omega), andN, bd (g_Full h5), bitb (by omega) (by omega), andNotN, bd (g_some _ (by omega)), bd (g_Field (Nat.le_refl _) (show (someF f ((2 ^ f.ts.length - 1) ^^^ ((2 ^ f.ts.length - 1) &&& s))).ts.length ≤ 7 from Nat.le_trans hq1 (by omega))), bd (q_Done 1000 _), g1, if_pos rfl,
      bd (g_Full h5), bitb (by omega) (by omega), andNotN, bd (g_some _ (by omega)), bd (g_Field (Nat.le_refl _) (show (someF f ((2 ^ f.ts.length - 1) ^^^ ((2 ^ f.ts.length - 1) &&& (t' &&& (2 ^ f.ts.length - 1))))).ts.length ≤ 7 from Nat.le_trans hq2 (by omega))), bd (q_Done 1000 _), sure_some hc hx2, ← posB_can hc]
    simp only []
    rw [ct (by decide)]
    cases hp : posB f (bitsL (t' &&& (2 ^ f.ts.length - 1))) with
    | false => rw [if_neg (by decide), if_neg (by decide), ct (by decide), ifob awake_1000]
    | true =>
      have hsh := hs4 _ hand hp
      have b1 := bits_len s
      have b2 := bits_len (t' &&& (2 ^ f.ts.length - 1))
      rw [if_pos rfl, if_pos rfl, cf (by rfl), ct (by rfl), bd (bits_all _ (by omega)), bd (g_Shorter (Nat.le_refl _) (by omega) (by omega)), hsh, nf, ifob awake_1000]
theorem weedLeft_true (f : Fld) (t : Int) (ht0 : 0 ≤ t ∧ t < 256) : ∃ K, G_WeedLeft K f t = some true := ⟨1000, weedLeft_plain f t ht0⟩
end Go.Proofs.Ythogdgkafaclaaa
end
section
set_option linter.unusedVariables false
set_option linter.unusedSimpArgs false
namespace Go.Proofs.Ythogdgkafaclaaa
open Go.RowKit
set_option maxRecDepth 100000
open AF
theorem mixedL12 : Try.prog.follows .mixedOrders = true := by kernel_rfl
attribute [local irreducible] Ex1 WL CC CW LV Ret ObOp Agg One Own
theorem a12 (K_ : Nat) (p0 : Fld) (p1 : Int) (A0_0 : Option Addr) (c0_0 : Nat) (Z : Nat → Prop) (w : World) (hS0_0 : Sl eTly w Z A0_0 c0_0 p0.ts) (hG : G_WeedLeft K_ p0 p1 = some true) :
    Ret Try.prog 12 #[.agg #[I p0.rows, I p0.wd, I p0.lo, I p0.hi, .slice A0_0 p0.ts.length c0_0], .int .u8 p1] w (fun v w' => Ext w w' ∧ v = .bool true) := by
 unfold G_WeedLeft at hG
 refine ret_of_cc (N := 113) Try.func12 rfl rfl (by simp) ?_
 intro fr0 ha hdf
 have hp_0 := sl_arg (i := 0) (v := .agg #[I p0.rows, I p0.wd, I p0.lo, I p0.hi, .slice A0_0 p0.ts.length c0_0]) ha rfl
 have hp_1 := sl_arg (i := 1) (v := .int .u8 p1) ha rfl
 clear ha
 have hp0 := Hp.refl w
 have hS0_0_0 := hS0_0.mv (mv_start w)
 refine cc_seq <| cc_region <| we rfl (fun st => x_box (v := .agg #[I p0.rows, I p0.wd, I p0.lo, I p0.hi, .slice A0_0 p0.ts.length c0_0]) (cs := #[I p0.rows, I p0.wd, I p0.lo, I p0.hi, .slice A0_0 p0.ts.length c0_0]) (ee st hp_0) rfl) ?_
 rintro _ w1 ⟨b1, rfl, nb1⟩
 have hp1 : Hp w [some b1] w1 := hp0.new nb1.gr (Nat.le_of_eq nb1.b_eq.symm) (Nat.lt_of_lt_of_eq (Nat.lt_succ_self _) nb1.sz.symm)
 refine wa rfl (v := .bool false) rfl <| wl_end <| lv_next <| cc_seq <| cc_seq <| cc_region <| wd rfl (fun st => x_loadn (l := [I p0.rows, I p0.wd, I p0.lo, I p0.hi, .slice A0_0 p0.ts.length c0_0]) agg_26 (ee st rfl) nb1.bk rfl rfl) ?_
 have hS0_0_1 : Sl eTly w1 (ZZ Z w.heap.size [some b1]) A0_0 c0_0 p0.ts := (hS0_0_0.mv (mv_new nb1.gr (Nat.le_of_eq nb1.b_eq.symm)))
 replace hG := bind_some hG; obtain ⟨r2, hr2, hG⟩ := hG
 refine we rfl (fun st => x_call0 own_39 (ee st rfl) (am1 (ee st rfl)) (a39 K_ p0 A0_0 c0_0 ZA _ hS0_0_1.all r2 hr2)) ?_
 rintro _ w3 ⟨hx2, rfl⟩
 have hp2 : Hp w [some b1] w3 := hp1.ext hx2
 refine wd rfl (fun st => x_not (ee st rfl)) <| wl_end <| lv_next ?_
 rcases bool_cases (!r2) with hc4 | hc4
 ·replace hG := cond_t hG hc4
  have hc4_5 : r2 = false := by simpa using hc4
  refine cc_cond_t rfl hc4 <| cc_seq <| cc_region ?_
  replace hG := ifo_bind hG; obtain ⟨hw6, hG⟩ := hG
  refine we rfl (fun st => x_call0 own_21 (ee st rfl) am0 (a21 K_ ZA _ hw6)) ?_
  rintro _ w7 ⟨hx6, rfl⟩
  have hp3 : Hp w [some b1] w7 := hp2.ext hx6
  refine wa rfl (v := .bool true) rfl <| wl_end <| lv_next <| cc_ret <| lv_then_ret ?_
  have hr_ := Option.some.inj hG
  refine lv_ret1 rfl rfl ?_
  exact ⟨hp3.fin, congrArg Value.bool hr_⟩
 ·replace hG := cond_f hG hc4
  have hc4_8 : r2 = true := by simpa using hc4
  refine cc_cond_f rfl hc4 <| cc_skip <| lv_next <| cc_seq <| cc_region ?_
  have bk1_2 : Bk w3 b1 26 #[I p0.rows, I p0.wd, I p0.lo, I p0.hi, .slice A0_0 p0.ts.length c0_0] := (nb1.bk.ext hx2)
  refine wd rfl (fun st => x_loadn (l := [I p0.rows, I p0.wd, I p0.lo, I p0.hi, .slice A0_0 p0.ts.length c0_0]) agg_26 (ee st rfl) bk1_2 rfl rfl) ?_
  have hS0_0_2 : Sl eTly w3 (ZZ Z w.heap.size [some b1]) A0_0 c0_0 p0.ts := (hS0_0_1.mv (mv_ext hx2))
  replace hG := bind_some hG; obtain ⟨r9, hr9, hG⟩ := hG
  refine we rfl (fun st => x_call0 own_23 (ee st rfl) (am1 (ee st rfl)) (a23 K_ p0 A0_0 c0_0 (ZZ Z w.heap.size [some b1]) _ hS0_0_2 r9 hr9)) ?_
  rintro _ w10 ⟨hx9, ⟨_, rfl, ⟨A9_r0, c9_r0, rfl, hS9_r0⟩⟩⟩
  have hp4 : Hp w [some b1] w10 := hp2.ext hx9
  have hS9_r0 := hS9_r0.mv (hp2.call (Nat.le_refl _))
  replace hG := bind_some hG; obtain ⟨r11, hr11, hG⟩ := hG
  refine we rfl (fun st => x_call0 own_35 (ee st rfl) (am1 (ee st rfl)) (a35 K_ r9 A9_r0 c9_r0 (ZZ Z w.heap.size [some b1]) _ hS9_r0 r11 hr11)) ?_
  rintro _ w12 ⟨hx11, _, _, rfl, ⟨A11_ra, c11_ra, rfl, hS11_ra⟩, rfl⟩
  have hp5 : Hp w [some b1] w12 := hp4.ext hx11
  have hS11_ra := hS11_ra.mv (hp4.call (Nat.le_refl _))
  refine wm rfl (v := .tuple #[.slice A11_ra r11.1.length c11_ra, I r11.2]) rfl <| wd rfl (fun st => x_extract (v := .slice A11_ra r11.1.length c11_ra) (ee st rfl) rfl) <| wd rfl (fun st => x_extract (v := I r11.2) (ee st rfl) rfl) <| wa rfl (v := .slice A11_ra r11.1.length c11_ra) rfl <| wa rfl (v := I r11.2) rfl <| wl_end <| lv_next <| cc_seq <| cc_seq <| cc_region <| wm rfl (v := I r11.2) rfl <| wd rfl (fun st => x_neq (ee st rfl) (ee st rfl)) <| wl_end <| lv_next ?_
  rcases bool_cases (r11.2 != 0) with hc13 | hc13
  ·replace hG := cond_t hG hc13
   exact absurd (Option.some.inj hG) (by decide)
  ·replace hG := cond_f hG hc13
   refine cc_cond_f rfl hc13 <| cc_skip <| lv_next <| cc_seq <| cc_region <| wa rfl (v := I 0) rfl <| wl_end <| lv_next <| cc_seq <| cc_seq <| cc_region <| wa rfl (v := I 0) rfl <| wl_end <| lv_next <| cc_block ?_
   replace hG := bind_some hG; obtain ⟨z14, hL14, hG⟩ := hG
   refine cc_join (fun e_ fr_ w_ => (e_ = .ret ∧ ∃ q14, z14 = .inl q14 ∧ fr_.tmps.size = 113 ∧ fr_.defers = [] ∧ sl fr_ 4 = .bool q14 ∧ Hp w [some b1] w_) ∨ (e_ = .exit 0 ∧ ∃ q14, z14 = .inr q14 ∧ fr_.tmps.size = 113 ∧ fr_.defers = [] ∧ sl fr_ 1 = .int .u8 p1 ∧ sl fr_ 2 = pt b1 0 ∧ sl fr_ 5 = .slice A11_ra r11.1.length c11_ra ∧ sl fr_ 7 = I q14 ∧ Hp w [some b1] w_ ∧ Bk w_ b1 26 #[I p0.rows, I p0.wd, I p0.lo, I p0.hi, .slice A0_0 p0.ts.length c0_0] ∧ Sl eTly w_ (ZZ Z w.heap.size [some b1]) A0_0 c0_0 p0.ts ∧ Sl (eInt .i64) w_ (ZZ Z w.heap.size [some b1]) A11_ra c11_ra r11.1)) ?lp14 ?af14
   case lp14 =>
    clear hG
    refine cc_loop (fun (m_ : Nat) (fr_ : Act) (w_ : World) => ∃ s14_7, ∃ s14_8, G_WeedLeft_L14 K_ p0 r11 m_ s14_7 s14_8 = some z14 ∧ fr_.tmps.size = 113 ∧ fr_.defers = [] ∧ sl fr_ 1 = .int .u8 p1 ∧ sl fr_ 2 = pt b1 0 ∧ sl fr_ 5 = .slice A11_ra r11.1.length c11_ra ∧ sl fr_ 7 = I s14_7 ∧ sl fr_ 8 = I s14_8 ∧ Hp w [some b1] w_ ∧ Bk w_ b1 26 #[I p0.rows, I p0.wd, I p0.lo, I p0.hi, .slice A0_0 p0.ts.length c0_0] ∧ Sl eTly w_ (ZZ Z w.heap.size [some b1]) A0_0 c0_0 p0.ts ∧ Sl (eInt .i64) w_ (ZZ Z w.heap.size [some b1]) A11_ra c11_ra r11.1) K_ ?in14 ?rd14
    case in14 =>
     intro st
     have bk1_5 : Bk w12 b1 26 #[I p0.rows, I p0.wd, I p0.lo, I p0.hi, .slice A0_0 p0.ts.length c0_0] := ((bk1_2.ext hx9).ext hx11)
     have hS0_0_5 : Sl eTly w12 (ZZ Z w.heap.size [some b1]) A0_0 c0_0 p0.ts := ((hS0_0_2.mv (mv_ext hx9)).mv (mv_ext hx11))
     exact ⟨(0 : Int), (0 : Int), hL14, (puts_size _ _).trans st.sz, (puts_defers _ _).trans st.df, (sl_puts st 1).trans hp_1, (sl_puts st 2).trans rfl, (sl_puts st 5).trans rfl, (sl_puts st 7).trans rfl, (sl_puts st 8).trans rfl, hp5, bk1_5, hS0_0_5, hS11_ra⟩
    case rd14 =>
     rintro (_ | m_) fr14 w14r ⟨s14_7, s14_8, hL14, hsz14, hdf14, hs14_1, hs14_2, hs14_5, hs14_7, hs14_8, hp6, f14_bk1, f14_hS0_0, f14_hS11_ra⟩
     ·exact absurd (show none = some _ from hL14) (by simp)
     rw [G_WeedLeft_L14.eq_2] at hL14
     have hG := hL14; clear hL14
     refine round_cc (N := 113) hsz14 hdf14 <| cc_seq <| cc_seq <| cc_region <| wm rfl (v := I s14_8) hs14_8 <| wm rfl (v := .slice A11_ra r11.1.length c11_ra) hs14_5 <| wd rfl (fun st => x_len Try.underlying43 (ee st rfl)) <| wd rfl (fun st => x_lss (ee st rfl) (ee st rfl)) <| wl_end <| lv_next ?_
     rcases bool_cases (decide (s14_8 < (r11.1.length : Int))) with hc15 | hc15
     ·replace hG := cond_t hG hc15
      refine cc_cond_t rfl hc15 <| cc_skip <| lv_next <| cc_seq <| cc_block <| cc_seq <| cc_seq ?_
      replace hG := idx_bind hG; obtain ⟨i17, x17, hi17, hx17, hl17, hG⟩ := hG
      obtain ⟨b17, o17, _, hA17, rfl, hz17⟩ := Sl.elem1 f14_hS11_ra rfl hx17
      replace hG := i64_bind hG; obtain ⟨hf18, hG⟩ := hG
      replace hG := bind_some hG; obtain ⟨r19, hr19, hG⟩ := hG
      rcases bool_cases (!r19) with hc20 | hc20
      ·replace hG := cond_t hG hc20
       have hc20_21 : r19 = false := by simpa using hc20
       refine cc_anyM0 23 [Kc (.slice A11_ra r11.1.length c11_ra), Kc (I s14_8), Kc (pt b17 (o17 + i17)), Kc (I x17), Kc (pt b1 4), Kc (.slice A0_0 p0.ts.length c0_0), Kc (I (p0.ts.length : Int)), Kc (I ((p0.ts.length : Int) - 1)), Kc (.bool r19), Kc (.bool !r19), Kc (.bool !r19), Kc undef, Kc undef, Kc undef, Kc undef, Kc undef, Kc undef, Kc undef, Kc undef, Kc undef, Kc undef, Kc undef, Kc undef] mixedL12 rfl rfl
           (obsN_cons (od rfl (fun _ => rfl) (fun K => x_move (v := .slice A11_ra r11.1.length c11_ra) (es (t := 5) (v := .slice A11_ra r11.1.length c11_ra) ((K.out 5 rfl).trans hs14_5))))
           (obsN_cons (od rfl (fun _ => rfl) (fun K => x_move (v := I s14_8) (es (t := 8) (v := I s14_8) ((K.out 8 rfl).trans hs14_8))))
           (obsN_cons (od rfl (fun _ => rfl) (fun K => x_indexAddr1 (k := i17) Try.underlying43 sz_3 (es (t := 32) (v := .slice A11_ra r11.1.length c11_ra) (K.dep 0 32 rfl rfl)) hA17 (es (t := 33) (v := I s14_8) (K.dep 1 33 rfl rfl)) hi17 hl17))
           (obsN_cons (od rfl (fun _ => rfl) (fun K => x_load_z0 (v := I x17) one_3 (es (t := 34) (v := pt b17 (o17 + i17)) (K.dep 2 34 rfl rfl)) (hz17.mv (mv_ext K.phT)) rfl))
           (obsN_cons (od rfl (fun _ => rfl) (fun K => x_fieldAddr (es (t := 2) (v := pt b1 0) ((K.out 2 rfl).trans hs14_2)) (fz_26_3 _ _)))
           (obsN_cons (od rfl (fun _ => rfl) (fun K => x_load1 (v := .slice A0_0 p0.ts.length c0_0) one_24 (es (t := 36) (v := pt b1 4) (K.dep 4 36 rfl rfl)) (f14_bk1.ext K.phT) rfl))
           (obsN_cons (od rfl (fun _ => rfl) (fun K => x_len Try.underlying24 (es (t := 37) (v := .slice A0_0 p0.ts.length c0_0) (K.dep 5 37 rfl rfl))))
           (obsN_cons (od rfl (fun _ => rfl) (fun K => x_sub (es (t := 38) (v := I (p0.ts.length : Int)) (K.dep 6 38 rfl rfl)) (ec (v := I 1)) hf18))
           (obsN_cons (ob_ext rfl rfl (fun a' w' ph K => (x_call0 own_29 rfl (am3 (es (t := 35) (v := I x17) (K.dep 3 35 rfl rfl)) (ec (v := I 0)) (es (t := 39) (v := I ((p0.ts.length : Int) - 1)) (K.dep 7 39 rfl rfl))) (a29 K_ x17 0 ((p0.ts.length : Int) - 1) ZA _ r19 hr19)).mono (fun _ _ h => ⟨h.2, h.1⟩)))
           (obsN_cons (od rfl (fun _ => rfl) (fun K => x_not (es (t := 40) (v := .bool r19) (K.dep 8 40 rfl rfl))))
           (obsN_cons (od rfl (fun _ => rfl) (fun K => x_move (v := .bool !r19) (es (t := 41) (v := .bool !r19) (K.dep 9 41 rfl rfl))))
           (obsN_cons (ob_skip (c := true) rfl rfl rfl (by decide) (fun a' w' ph K => (guard_eq (show sl a' 42 = .bool !r19 from K.dep 10 42 rfl rfl) hc20)) (fun _ => rfl))
           (obsN_cons (ob_skip (c := true) rfl rfl rfl (by decide) (fun a' w' ph K => (guard_eq (show sl a' 42 = .bool !r19 from K.dep 10 42 rfl rfl) hc20)) (fun _ => rfl))
           (obsN_cons (ob_skip (c := true) rfl rfl rfl (by decide) (fun a' w' ph K => (guard_eq (show sl a' 42 = .bool !r19 from K.dep 10 42 rfl rfl) hc20)) (fun _ => rfl))
           (obsN_cons (ob_skip_u rfl rfl rfl (fun a' w' ph K => K.dep 13 45 rfl rfl) (fun _ => rfl))
           (obsN_cons (ob_skip_u rfl rfl rfl (fun a' w' ph K => K.dep 13 45 rfl rfl) (fun _ => rfl))
           (obsN_cons (ob_skip_u rfl rfl rfl (fun a' w' ph K => K.dep 13 45 rfl rfl) (fun _ => rfl))
           (obsN_cons (ob_skip_u rfl rfl rfl (fun a' w' ph K => K.dep 13 45 rfl rfl) (fun _ => rfl))
           (obsN_cons (ob_skip_u rfl rfl rfl (fun a' w' ph K => K.dep 13 45 rfl rfl) (fun _ => rfl))
           (obsN_cons (ob_skip_u rfl rfl rfl (fun a' w' ph K => K.dep 13 45 rfl rfl) (fun _ => rfl))
           (obsN_cons (ob_skip_u rfl rfl rfl (fun a' w' ph K => K.dep 13 45 rfl rfl) (fun _ => rfl))
           (obsN_cons (ob_skip_u rfl rfl rfl (fun a' w' ph K => K.dep 13 45 rfl rfl) (fun _ => rfl))
           (obsN_cons (ob_skip_u rfl rfl rfl (fun a' w' ph K => K.dep 13 45 rfl rfl) (fun _ => rfl))
           (obsN_nil _)))))))))))))))))))))))) ?_
       intro w16
       rintro _ rfl _ rfl _ rfl _ rfl _ rfl _ rfl _ rfl _ rfl _ rfl _ rfl _ rfl _ rfl _ rfl _ rfl _ rfl _ rfl _ rfl _ rfl _ rfl _ rfl _ rfl _ rfl _ rfl hx16
       have hp7 : Hp w [some b1] w16 := hp6.ext hx16
       refine wl_skip_u rfl rfl rfl rfl (by decide) <| wl_skip (c := true) rfl rfl (guard_eq rfl hc20) (by decide) rfl (by decide) <| wd rfl (fun st => x_pick_t (v := .bool true) (ee st rfl) hc20 (ee st rfl)) <| wl_end <| lv_next <| cc_cond_t rfl rfl <| cc_seq <| cc_region <| wa rfl (v := .bool false) rfl <| wl_end <| lv_next <| cc_ret <| lv_then_ret <| lv_block_ret <| lv_then_ret <| lv_then_ret ?_
       obtain rfl := Option.some.inj hG
       refine lv_to (fun st => ?_)
       exact .inl ⟨rfl, false, rfl, (puts_size _ _).trans st.sz, (puts_defers _ _).trans st.df, (sl_puts st 4).trans rfl, hp7⟩
      ·replace hG := cond_f hG hc20
       have hc20_22 : r19 = true := by simpa using hc20
       rcases bool_cases (decide (0 < s14_8)) with hc23 | hc23
       ·replace hG := cond_t hG hc23
        replace hG := idx_bind hG; obtain ⟨i24, x24, hi24, hx24, hl24, hG⟩ := hG
        obtain ⟨b24, o24, _, hA24, rfl, hz24⟩ := Sl.elem1 f14_hS11_ra rfl hx24
        replace hG := i64_bind hG; obtain ⟨hf25, hG⟩ := hG
        replace hG := idx_bind hG; obtain ⟨i26, x26, hi26, hx26, hl26, hG⟩ := hG
        obtain ⟨b26, o26, _, hA26, rfl, hz26⟩ := Sl.elem1 f14_hS11_ra rfl hx26
        refine cc_anyM0 23 [Kc (.slice A11_ra r11.1.length c11_ra), Kc (I s14_8), Kc (pt b17 (o17 + i17)), Kc (I x17), Kc (pt b1 4), Kc (.slice A0_0 p0.ts.length c0_0), Kc (I (p0.ts.length : Int)), Kc (I ((p0.ts.length : Int) - 1)), Kc (.bool r19), Kc (.bool !r19), Kc (.bool !r19), Kc (I s14_8), Kc (.bool (decide (0 < s14_8))), Kc (.bool (decide (0 < s14_8))), Kc (.slice A11_ra r11.1.length c11_ra), Kc (I s14_8), Kc (pt b24 (o24 + i24)), Kc (I x24), Kc (.slice A11_ra r11.1.length c11_ra), Kc (I s14_8), Kc (I (s14_8 - 1)), Kc (pt b26 (o26 + i26)), Kc (I x26)] mixedL12 rfl rfl
            (obsN_cons (od rfl (fun _ => rfl) (fun K => x_move (v := .slice A11_ra r11.1.length c11_ra) (es (t := 5) (v := .slice A11_ra r11.1.length c11_ra) ((K.out 5 rfl).trans hs14_5))))
            (obsN_cons (od rfl (fun _ => rfl) (fun K => x_move (v := I s14_8) (es (t := 8) (v := I s14_8) ((K.out 8 rfl).trans hs14_8))))
            (obsN_cons (od rfl (fun _ => rfl) (fun K => x_indexAddr1 (k := i17) Try.underlying43 sz_3 (es (t := 32) (v := .slice A11_ra r11.1.length c11_ra) (K.dep 0 32 rfl rfl)) hA17 (es (t := 33) (v := I s14_8) (K.dep 1 33 rfl rfl)) hi17 hl17))
            (obsN_cons (od rfl (fun _ => rfl) (fun K => x_load_z0 (v := I x17) one_3 (es (t := 34) (v := pt b17 (o17 + i17)) (K.dep 2 34 rfl rfl)) (hz17.mv (mv_ext K.phT)) rfl))
            (obsN_cons (od rfl (fun _ => rfl) (fun K => x_fieldAddr (es (t := 2) (v := pt b1 0) ((K.out 2 rfl).trans hs14_2)) (fz_26_3 _ _)))
            (obsN_cons (od rfl (fun _ => rfl) (fun K => x_load1 (v := .slice A0_0 p0.ts.length c0_0) one_24 (es (t := 36) (v := pt b1 4) (K.dep 4 36 rfl rfl)) (f14_bk1.ext K.phT) rfl))
            (obsN_cons (od rfl (fun _ => rfl) (fun K => x_len Try.underlying24 (es (t := 37) (v := .slice A0_0 p0.ts.length c0_0) (K.dep 5 37 rfl rfl))))
            (obsN_cons (od rfl (fun _ => rfl) (fun K => x_sub (es (t := 38) (v := I (p0.ts.length : Int)) (K.dep 6 38 rfl rfl)) (ec (v := I 1)) hf18))
            (obsN_cons (ob_ext rfl rfl (fun a' w' ph K => (x_call0 own_29 rfl (am3 (es (t := 35) (v := I x17) (K.dep 3 35 rfl rfl)) (ec (v := I 0)) (es (t := 39) (v := I ((p0.ts.length : Int) - 1)) (K.dep 7 39 rfl rfl))) (a29 K_ x17 0 ((p0.ts.length : Int) - 1) ZA _ r19 hr19)).mono (fun _ _ h => ⟨h.2, h.1⟩)))
            (obsN_cons (od rfl (fun _ => rfl) (fun K => x_not (es (t := 40) (v := .bool r19) (K.dep 8 40 rfl rfl))))
            (obsN_cons (od rfl (fun _ => rfl) (fun K => x_move (v := .bool !r19) (es (t := 41) (v := .bool !r19) (K.dep 9 41 rfl rfl))))
            (obsN_cons (ob_detg rfl rfl rfl (fun _ => rfl) (fun a' w' ph K => (guard_eq (show sl a' 42 = .bool !r19 from K.dep 10 42 rfl rfl) hc20)) (fun a' w' ph K => x_move (v := I s14_8) (es (t := 8) (v := I s14_8) ((K.out 8 rfl).trans hs14_8))))
            (obsN_cons (ob_detg rfl rfl rfl (fun _ => rfl) (fun a' w' ph K => (guard_eq (show sl a' 42 = .bool !r19 from K.dep 10 42 rfl rfl) hc20)) (fun a' w' ph K => x_gtr (es (t := 43) (v := I s14_8) (K.dep 11 43 rfl rfl)) (ec (v := I 0))))
            (obsN_cons (ob_detg rfl rfl rfl (fun _ => rfl) (fun a' w' ph K => (guard_eq (show sl a' 42 = .bool !r19 from K.dep 10 42 rfl rfl) hc20)) (fun a' w' ph K => x_move (v := .bool (decide (0 < s14_8))) (es (t := 44) (v := .bool (decide (0 < s14_8))) (K.dep 12 44 rfl rfl))))
            (obsN_cons (ob_detg rfl rfl rfl (fun _ => rfl) (fun a' w' ph K => (guard_eq (show sl a' 45 = .bool (decide (0 < s14_8)) from K.dep 13 45 rfl rfl) hc23)) (fun a' w' ph K => x_move (v := .slice A11_ra r11.1.length c11_ra) (es (t := 5) (v := .slice A11_ra r11.1.length c11_ra) ((K.out 5 rfl).trans hs14_5))))
            (obsN_cons (ob_detg rfl rfl rfl (fun _ => rfl) (fun a' w' ph K => (guard_eq (show sl a' 45 = .bool (decide (0 < s14_8)) from K.dep 13 45 rfl rfl) hc23)) (fun a' w' ph K => x_move (v := I s14_8) (es (t := 8) (v := I s14_8) ((K.out 8 rfl).trans hs14_8))))
            (obsN_cons (ob_detg rfl rfl rfl (fun _ => rfl) (fun a' w' ph K => (guard_eq (show sl a' 45 = .bool (decide (0 < s14_8)) from K.dep 13 45 rfl rfl) hc23)) (fun a' w' ph K => x_indexAddr1 (k := i24) Try.underlying43 sz_3 (es (t := 46) (v := .slice A11_ra r11.1.length c11_ra) (K.dep 14 46 rfl rfl)) hA24 (es (t := 47) (v := I s14_8) (K.dep 15 47 rfl rfl)) hi24 hl24))
            (obsN_cons (ob_detg rfl rfl rfl (fun _ => rfl) (fun a' w' ph K => (guard_eq (show sl a' 45 = .bool (decide (0 < s14_8)) from K.dep 13 45 rfl rfl) hc23)) (fun a' w' ph K => x_load_z0 (v := I x24) one_3 (es (t := 48) (v := pt b24 (o24 + i24)) (K.dep 16 48 rfl rfl)) (hz24.mv (mv_ext K.phT)) rfl))
            (obsN_cons (ob_detg rfl rfl rfl (fun _ => rfl) (fun a' w' ph K => (guard_eq (show sl a' 45 = .bool (decide (0 < s14_8)) from K.dep 13 45 rfl rfl) hc23)) (fun a' w' ph K => x_move (v := .slice A11_ra r11.1.length c11_ra) (es (t := 5) (v := .slice A11_ra r11.1.length c11_ra) ((K.out 5 rfl).trans hs14_5))))
            (obsN_cons (ob_detg rfl rfl rfl (fun _ => rfl) (fun a' w' ph K => (guard_eq (show sl a' 45 = .bool (decide (0 < s14_8)) from K.dep 13 45 rfl rfl) hc23)) (fun a' w' ph K => x_move (v := I s14_8) (es (t := 8) (v := I s14_8) ((K.out 8 rfl).trans hs14_8))))
            (obsN_cons (ob_detg rfl rfl rfl (fun _ => rfl) (fun a' w' ph K => (guard_eq (show sl a' 45 = .bool (decide (0 < s14_8)) from K.dep 13 45 rfl rfl) hc23)) (fun a' w' ph K => x_sub (es (t := 51) (v := I s14_8) (K.dep 19 51 rfl rfl)) (ec (v := I 1)) hf25))
            (obsN_cons (ob_detg rfl rfl rfl (fun _ => rfl) (fun a' w' ph K => (guard_eq (show sl a' 45 = .bool (decide (0 < s14_8)) from K.dep 13 45 rfl rfl) hc23)) (fun a' w' ph K => x_indexAddr1 (k := i26) Try.underlying43 sz_3 (es (t := 50) (v := .slice A11_ra r11.1.length c11_ra) (K.dep 18 50 rfl rfl)) hA26 (es (t := 52) (v := I (s14_8 - 1)) (K.dep 20 52 rfl rfl)) hi26 hl26))
            (obsN_cons (ob_detg rfl rfl rfl (fun _ => rfl) (fun a' w' ph K => (guard_eq (show sl a' 45 = .bool (decide (0 < s14_8)) from K.dep 13 45 rfl rfl) hc23)) (fun a' w' ph K => x_load_z0 (v := I x26) one_3 (es (t := 53) (v := pt b26 (o26 + i26)) (K.dep 21 53 rfl rfl)) (hz26.mv (mv_ext K.phT)) rfl))
            (obsN_nil _)))))))))))))))))))))))) ?_
        intro w16
        rintro _ rfl _ rfl _ rfl _ rfl _ rfl _ rfl _ rfl _ rfl _ rfl _ rfl _ rfl _ rfl _ rfl _ rfl _ rfl _ rfl _ rfl _ rfl _ rfl _ rfl _ rfl _ rfl _ rfl hx16
        have hp8 : Hp w [some b1] w16 := hp6.ext hx16
        refine wl_detg rfl rfl (guard_eq rfl hc23) rfl (by decide) (fun st => x_leq (ee st rfl) (ee st rfl)) <| wl_detg rfl rfl (guard_eq rfl hc20) rfl (by decide) (fun st => x_pick_t (v := .bool (decide (x24 ≤ x26))) (ee st rfl) hc23 (ee st rfl)) <| wd rfl (fun st => x_pick_f (v := .bool (decide (x24 ≤ x26))) (ee st rfl) hc20 (ee st rfl)) <| wl_end <| lv_next ?_
        rcases bool_cases (decide (x24 ≤ x26)) with hc27 | hc27
        ·replace hG := cond_t hG hc27
         refine cc_cond_t rfl hc27 <| cc_seq <| cc_region <| wa rfl (v := .bool false) rfl <| wl_end <| lv_next <| cc_ret <| lv_then_ret <| lv_block_ret <| lv_then_ret <| lv_then_ret ?_
         obtain rfl := Option.some.inj hG
         refine lv_to (fun st => ?_)
         exact .inl ⟨rfl, false, rfl, (puts_size _ _).trans st.sz, (puts_defers _ _).trans st.df, (sl_puts st 4).trans rfl, hp8⟩
        ·replace hG := cond_f hG hc27
         refine cc_cond_f rfl hc27 <| cc_skip <| lv_next <| cc_region <| wm rfl (v := I s14_7) hs14_7 <| wm rfl (v := .slice A11_ra r11.1.length c11_ra) hs14_5 <| wm rfl (v := I s14_8) hs14_8 ?_
         replace hG := idx_bind hG; obtain ⟨i28, x28, hi28, hx28, hl28, hG⟩ := hG
         have hS11_ra_8 : Sl (eInt .i64) w16 (ZZ Z w.heap.size [some b1]) A11_ra c11_ra r11.1 := (f14_hS11_ra.mv (mv_ext hx16))
         obtain ⟨b28, o28, _, hA28, rfl, hz28⟩ := Sl.elem1 hS11_ra_8 rfl hx28
         refine wd rfl (fun st => x_indexAddr1 (k := i28) Try.underlying43 sz_3 (ee st rfl) hA28 (ee st rfl) hi28 hl28) <| wd rfl (fun st => x_load_z0 (v := I x28) one_3 (ee st rfl) hz28 rfl) ?_
         replace hG := cvO_bind hG; obtain ⟨hf29, hG⟩ := hG
         refine wd rfl (fun st => x_conv (k := .u64) sm_3 Try.underlying63 (ee st rfl) hf29) ?_
         replace hG := shlO_bind hG; obtain ⟨hf30, hG⟩ := hG
         refine wd rfl (fun st => x_shl (ee st rfl) (ee st rfl) hf30) ?_
         replace hG := bitO_bind hG; obtain ⟨hf31, hG⟩ := hG
         refine wd rfl (fun st => x_or (ee st rfl) (ee st rfl) hf31) <| wa rfl (v := I (orI s14_7 (shlI (1 : Int) x28))) rfl <| wl_end <| lv_block <| lv_next <| cc_region <| wm rfl (v := I s14_8) hs14_8 ?_
         replace hG := i64_bind hG; obtain ⟨hf32, hG⟩ := hG
         refine wd rfl (fun st => x_add (ee st rfl) (ee st rfl) hf32) <| wa rfl (v := I (s14_8 + 1)) rfl <| wl_end ?_
         have bk1_8 : Bk w16 b1 26 #[I p0.rows, I p0.wd, I p0.lo, I p0.hi, .slice A0_0 p0.ts.length c0_0] := (f14_bk1.ext hx16)
         have hS0_0_8 : Sl eTly w16 (ZZ Z w.heap.size [some b1]) A0_0 c0_0 p0.ts := (f14_hS0_0.mv (mv_ext hx16))
         refine lv_round m_ (Nat.lt_succ_self _) (fun st => ?_)
         exact ⟨(orI s14_7 (shlI (1 : Int) x28)), (s14_8 + 1), hG, (puts_size _ _).trans st.sz, (puts_defers _ _).trans st.df, (sl_puts st 1).trans hs14_1, (sl_puts st 2).trans hs14_2, (sl_puts st 5).trans hs14_5, (sl_puts st 7).trans rfl, (sl_puts st 8).trans rfl, hp8, bk1_8, hS0_0_8, hS11_ra_8⟩
       ·replace hG := cond_f hG hc23
        refine cc_anyM0 23 [Kc (.slice A11_ra r11.1.length c11_ra), Kc (I s14_8), Kc (pt b17 (o17 + i17)), Kc (I x17), Kc (pt b1 4), Kc (.slice A0_0 p0.ts.length c0_0), Kc (I (p0.ts.length : Int)), Kc (I ((p0.ts.length : Int) - 1)), Kc (.bool r19), Kc (.bool !r19), Kc (.bool !r19), Kc (I s14_8), Kc (.bool (decide (0 < s14_8))), Kc (.bool (decide (0 < s14_8))), Kc undef, Kc undef, Kc undef, Kc undef, Kc undef, Kc undef, Kc undef, Kc undef, Kc undef] mixedL12 rfl rfl
            (obsN_cons (od rfl (fun _ => rfl) (fun K => x_move (v := .slice A11_ra r11.1.length c11_ra) (es (t := 5) (v := .slice A11_ra r11.1.length c11_ra) ((K.out 5 rfl).trans hs14_5))))
            (obsN_cons (od rfl (fun _ => rfl) (fun K => x_move (v := I s14_8) (es (t := 8) (v := I s14_8) ((K.out 8 rfl).trans hs14_8))))
            (obsN_cons (od rfl (fun _ => rfl) (fun K => x_indexAddr1 (k := i17) Try.underlying43 sz_3 (es (t := 32) (v := .slice A11_ra r11.1.length c11_ra) (K.dep 0 32 rfl rfl)) hA17 (es (t := 33) (v := I s14_8) (K.dep 1 33 rfl rfl)) hi17 hl17))
            (obsN_cons (od rfl (fun _ => rfl) (fun K => x_load_z0 (v := I x17) one_3 (es (t := 34) (v := pt b17 (o17 + i17)) (K.dep 2 34 rfl rfl)) (hz17.mv (mv_ext K.phT)) rfl))
            (obsN_cons (od rfl (fun _ => rfl) (fun K => x_fieldAddr (es (t := 2) (v := pt b1 0) ((K.out 2 rfl).trans hs14_2)) (fz_26_3 _ _)))
            (obsN_cons (od rfl (fun _ => rfl) (fun K => x_load1 (v := .slice A0_0 p0.ts.length c0_0) one_24 (es (t := 36) (v := pt b1 4) (K.dep 4 36 rfl rfl)) (f14_bk1.ext K.phT) rfl))
            (obsN_cons (od rfl (fun _ => rfl) (fun K => x_len Try.underlying24 (es (t := 37) (v := .slice A0_0 p0.ts.length c0_0) (K.dep 5 37 rfl rfl))))
            (obsN_cons (od rfl (fun _ => rfl) (fun K => x_sub (es (t := 38) (v := I (p0.ts.length : Int)) (K.dep 6 38 rfl rfl)) (ec (v := I 1)) hf18))
            (obsN_cons (ob_ext rfl rfl (fun a' w' ph K => (x_call0 own_29 rfl (am3 (es (t := 35) (v := I x17) (K.dep 3 35 rfl rfl)) (ec (v := I 0)) (es (t := 39) (v := I ((p0.ts.length : Int) - 1)) (K.dep 7 39 rfl rfl))) (a29 K_ x17 0 ((p0.ts.length : Int) - 1) ZA _ r19 hr19)).mono (fun _ _ h => ⟨h.2, h.1⟩)))
            (obsN_cons (od rfl (fun _ => rfl) (fun K => x_not (es (t := 40) (v := .bool r19) (K.dep 8 40 rfl rfl))))
            (obsN_cons (od rfl (fun _ => rfl) (fun K => x_move (v := .bool !r19) (es (t := 41) (v := .bool !r19) (K.dep 9 41 rfl rfl))))
            (obsN_cons (ob_detg rfl rfl rfl (fun _ => rfl) (fun a' w' ph K => (guard_eq (show sl a' 42 = .bool !r19 from K.dep 10 42 rfl rfl) hc20)) (fun a' w' ph K => x_move (v := I s14_8) (es (t := 8) (v := I s14_8) ((K.out 8 rfl).trans hs14_8))))
            (obsN_cons (ob_detg rfl rfl rfl (fun _ => rfl) (fun a' w' ph K => (guard_eq (show sl a' 42 = .bool !r19 from K.dep 10 42 rfl rfl) hc20)) (fun a' w' ph K => x_gtr (es (t := 43) (v := I s14_8) (K.dep 11 43 rfl rfl)) (ec (v := I 0))))
            (obsN_cons (ob_detg rfl rfl rfl (fun _ => rfl) (fun a' w' ph K => (guard_eq (show sl a' 42 = .bool !r19 from K.dep 10 42 rfl rfl) hc20)) (fun a' w' ph K => x_move (v := .bool (decide (0 < s14_8))) (es (t := 44) (v := .bool (decide (0 < s14_8))) (K.dep 12 44 rfl rfl))))
            (obsN_cons (ob_skip (c := false) rfl rfl rfl (by decide) (fun a' w' ph K => (guard_eq (show sl a' 45 = .bool (decide (0 < s14_8)) from K.dep 13 45 rfl rfl) hc23)) (fun _ => rfl))
            (obsN_cons (ob_skip (c := false) rfl rfl rfl (by decide) (fun a' w' ph K => (guard_eq (show sl a' 45 = .bool (decide (0 < s14_8)) from K.dep 13 45 rfl rfl) hc23)) (fun _ => rfl))
            (obsN_cons (ob_skip (c := false) rfl rfl rfl (by decide) (fun a' w' ph K => (guard_eq (show sl a' 45 = .bool (decide (0 < s14_8)) from K.dep 13 45 rfl rfl) hc23)) (fun _ => rfl))
            (obsN_cons (ob_skip (c := false) rfl rfl rfl (by decide) (fun a' w' ph K => (guard_eq (show sl a' 45 = .bool (decide (0 < s14_8)) from K.dep 13 45 rfl rfl) hc23)) (fun _ => rfl))
            (obsN_cons (ob_skip (c := false) rfl rfl rfl (by decide) (fun a' w' ph K => (guard_eq (show sl a' 45 = .bool (decide (0 < s14_8)) from K.dep 13 45 rfl rfl) hc23)) (fun _ => rfl))
            (obsN_cons (ob_skip (c := false) rfl rfl rfl (by decide) (fun a' w' ph K => (guard_eq (show sl a' 45 = .bool (decide (0 < s14_8)) from K.dep 13 45 rfl rfl) hc23)) (fun _ => rfl))
            (obsN_cons (ob_skip (c := false) rfl rfl rfl (by decide) (fun a' w' ph K => (guard_eq (show sl a' 45 = .bool (decide (0 < s14_8)) from K.dep 13 45 rfl rfl) hc23)) (fun _ => rfl))
            (obsN_cons (ob_skip (c := false) rfl rfl rfl (by decide) (fun a' w' ph K => (guard_eq (show sl a' 45 = .bool (decide (0 < s14_8)) from K.dep 13 45 rfl rfl) hc23)) (fun _ => rfl))
            (obsN_cons (ob_skip (c := false) rfl rfl rfl (by decide) (fun a' w' ph K => (guard_eq (show sl a' 45 = .bool (decide (0 < s14_8)) from K.dep 13 45 rfl rfl) hc23)) (fun _ => rfl))
            (obsN_nil _)))))))))))))))))))))))) ?_
        intro w16
        rintro _ rfl _ rfl _ rfl _ rfl _ rfl _ rfl _ rfl _ rfl _ rfl _ rfl _ rfl _ rfl _ rfl _ rfl _ rfl _ rfl _ rfl _ rfl _ rfl _ rfl _ rfl _ rfl _ rfl hx16
        have hp9 : Hp w [some b1] w16 := hp6.ext hx16
        refine wl_skip (c := false) rfl rfl (guard_eq rfl hc23) (by decide) rfl (by decide) <| wl_detg rfl rfl (guard_eq rfl hc20) rfl (by decide) (fun st => x_pick_f (v := .bool false) (ee st rfl) hc23 (ee st rfl)) <| wd rfl (fun st => x_pick_f (v := .bool false) (ee st rfl) hc20 (ee st rfl)) <| wl_end <| lv_next <| cc_cond_f rfl rfl <| cc_skip <| lv_next <| cc_region <| wm rfl (v := I s14_7) hs14_7 <| wm rfl (v := .slice A11_ra r11.1.length c11_ra) hs14_5 <| wm rfl (v := I s14_8) hs14_8 ?_
        replace hG := idx_bind hG; obtain ⟨i33, x33, hi33, hx33, hl33, hG⟩ := hG
        have hS11_ra_9 : Sl (eInt .i64) w16 (ZZ Z w.heap.size [some b1]) A11_ra c11_ra r11.1 := (f14_hS11_ra.mv (mv_ext hx16))
        obtain ⟨b33, o33, _, hA33, rfl, hz33⟩ := Sl.elem1 hS11_ra_9 rfl hx33
        refine wd rfl (fun st => x_indexAddr1 (k := i33) Try.underlying43 sz_3 (ee st rfl) hA33 (ee st rfl) hi33 hl33) <| wd rfl (fun st => x_load_z0 (v := I x33) one_3 (ee st rfl) hz33 rfl) ?_
        replace hG := cvO_bind hG; obtain ⟨hf34, hG⟩ := hG
        refine wd rfl (fun st => x_conv (k := .u64) sm_3 Try.underlying63 (ee st rfl) hf34) ?_
        replace hG := shlO_bind hG; obtain ⟨hf35, hG⟩ := hG
        refine wd rfl (fun st => x_shl (ee st rfl) (ee st rfl) hf35) ?_
        replace hG := bitO_bind hG; obtain ⟨hf36, hG⟩ := hG
        refine wd rfl (fun st => x_or (ee st rfl) (ee st rfl) hf36) <| wa rfl (v := I (orI s14_7 (shlI (1 : Int) x33))) rfl <| wl_end <| lv_block <| lv_next <| cc_region <| wm rfl (v := I s14_8) hs14_8 ?_
        replace hG := i64_bind hG; obtain ⟨hf37, hG⟩ := hG
        refine wd rfl (fun st => x_add (ee st rfl) (ee st rfl) hf37) <| wa rfl (v := I (s14_8 + 1)) rfl <| wl_end ?_
        have bk1_9 : Bk w16 b1 26 #[I p0.rows, I p0.wd, I p0.lo, I p0.hi, .slice A0_0 p0.ts.length c0_0] := (f14_bk1.ext hx16)
        have hS0_0_9 : Sl eTly w16 (ZZ Z w.heap.size [some b1]) A0_0 c0_0 p0.ts := (f14_hS0_0.mv (mv_ext hx16))
        refine lv_round m_ (Nat.lt_succ_self _) (fun st => ?_)
        exact ⟨(orI s14_7 (shlI (1 : Int) x33)), (s14_8 + 1), hG, (puts_size _ _).trans st.sz, (puts_defers _ _).trans st.df, (sl_puts st 1).trans hs14_1, (sl_puts st 2).trans hs14_2, (sl_puts st 5).trans hs14_5, (sl_puts st 7).trans rfl, (sl_puts st 8).trans rfl, hp9, bk1_9, hS0_0_9, hS11_ra_9⟩
     ·replace hG := cond_f hG hc15
      refine cc_cond_f rfl hc15 <| cc_exit <| lv_then_exit <| lv_then_exit ?_
      obtain rfl := Option.some.inj hG
      refine lv_to (fun st => ?_)
      exact .inr ⟨rfl, s14_7, rfl, (puts_size _ _).trans st.sz, (puts_defers _ _).trans st.df, (sl_puts st 1).trans hs14_1, (sl_puts st 2).trans hs14_2, (sl_puts st 5).trans hs14_5, (sl_puts st 7).trans hs14_7, hp6, f14_bk1, f14_hS0_0, f14_hS11_ra⟩
   case af14 =>
    rintro e_ fr14a w14a (⟨rfl, q14, rfl, hsz14a, hdf14a, hs14a_4, hp14a⟩ | ⟨rfl, q14, rfl, hsz14a, hdf14a, hs14a_1, hs14a_2, hs14a_5, hs14a_7, hp14a, g14_bk1, g14_hS0_0, g14_hS11_ra⟩)
    ·skip
     replace hG := inl_some hG
     refine lv_fr (X := X0) (N := 113) hsz14a hdf14a <| lv_block_ret <| lv_then_ret ?_
     have hr_ := Option.some.inj hG
     refine lv_ret1 rfl hs14a_4 ?_
     exact ⟨hp14a.fin, congrArg Value.bool hr_⟩
    ·skip
     replace hG := inr_some hG
     refine lv_fr (X := X0) (N := 113) hsz14a hdf14a <| lv_block_hit <| lv_next <| cc_seq <| cc_region <| wm rfl (v := .int .u8 p1) hs14a_1 ?_
     replace hG := cvO_bind hG; obtain ⟨hf38, hG⟩ := hG
     refine wd rfl (fun st => x_conv (k := .i64) sm_5 Try.underlying3 (ee st rfl) hf38) <| wd rfl (fun st => x_loadn (l := [I p0.rows, I p0.wd, I p0.lo, I p0.hi, .slice A0_0 p0.ts.length c0_0]) agg_26 (ee st hs14a_2) g14_bk1 rfl rfl) ?_
     replace hG := bind_some hG; obtain ⟨r39, hr39, hG⟩ := hG
     refine we rfl (fun st => x_call0 own_47 (ee st rfl) (am1 (ee st rfl)) (a47 K_ p0 A0_0 c0_0 ZA _ g14_hS0_0.all r39 hr39)) ?_
     rintro _ w40 ⟨hx39, rfl⟩
     have hp12 : Hp w [some b1] w40 := hp14a.ext hx39
     replace hG := bitO_bind hG; obtain ⟨hf41, hG⟩ := hG
     refine wd rfl (fun st => x_and (ee st rfl) (ee st rfl) hf41) <| wa rfl (v := I (andI p1 r39)) rfl <| wl_end <| lv_next <| cc_seq ?_
     have bk1_12 : Bk w40 b1 26 #[I p0.rows, I p0.wd, I p0.lo, I p0.hi, .slice A0_0 p0.ts.length c0_0] := (g14_bk1.ext hx39)
     have hS0_0_12 : Sl eTly w40 (ZZ Z w.heap.size [some b1]) A0_0 c0_0 p0.ts := (g14_hS0_0.mv (mv_ext hx39))
     replace hG := bind_some hG; obtain ⟨r43, hr43, hG⟩ := hG
     replace hG := bitO_bind hG; obtain ⟨hf44, hG⟩ := hG
     replace hG := bind_some hG; obtain ⟨r45, hr45, hG⟩ := hG
     replace hG := bind_some hG; obtain ⟨r46, hr46, hG⟩ := hG
     replace hG := bind_some hG; obtain ⟨r47, hr47, hG⟩ := hG
     refine cc_anyM0 12 [Kc (.agg #[I p0.rows, I p0.wd, I p0.lo, I p0.hi, .slice A0_0 p0.ts.length c0_0]), Kc (.agg #[I p0.rows, I p0.wd, I p0.lo, I p0.hi, .slice A0_0 p0.ts.length c0_0]), Kc (I r43), Kc (I q14), Kc (I (andNotI r43 q14)), Kv (vAgg eFld) (ZZ Z w.heap.size [some b1]) r45, Kv (vAgg eFld) (ZZ Z w.heap.size [some b1]) r46, Kv (vT2 (vSl eR) (vInt .i64)) (ZZ Z w.heap.size [some b1]) r47, Kv (vT2 (vSl eR) (vInt .i64)) (ZZ Z w.heap.size [some b1]) r47, Kv (vSl eR) (ZZ Z w.heap.size [some b1]) r47.1, Kc (I r47.2), Kv (vSl eR) (ZZ Z w.heap.size [some b1]) r47.1] mixedL12 rfl rfl
         (obsN_cons (od rfl (fun _ => rfl) (fun K => x_loadn (l := [I p0.rows, I p0.wd, I p0.lo, I p0.hi, .slice A0_0 p0.ts.length c0_0]) agg_26 (es (t := 2) (v := pt b1 0) ((K.out 2 rfl).trans hs14a_2)) (bk1_12.ext K.phT) rfl rfl))
         (obsN_cons (od rfl (fun _ => rfl) (fun K => x_loadn (l := [I p0.rows, I p0.wd, I p0.lo, I p0.hi, .slice A0_0 p0.ts.length c0_0]) agg_26 (es (t := 2) (v := pt b1 0) ((K.out 2 rfl).trans hs14a_2)) (bk1_12.ext K.phT) rfl rfl))
         (obsN_cons (ob_ext rfl rfl (fun a' w' ph K => (x_call0 own_47 rfl (am1 (es (t := 73) (v := .agg #[I p0.rows, I p0.wd, I p0.lo, I p0.hi, .slice A0_0 p0.ts.length c0_0]) (K.dep 1 73 rfl rfl))) (a47 K_ p0 A0_0 c0_0 ZA _ (hS0_0_12.mv (mv_ext K.phT)).all r43 hr43)).mono (fun _ _ h => ⟨h.2, h.1⟩)))
         (obsN_cons (od rfl (fun _ => rfl) (fun K => x_move (v := I q14) (es (t := 7) (v := I q14) ((K.out 7 rfl).trans hs14a_7))))
         (obsN_cons (od rfl (fun _ => rfl) (fun K => x_andNot (es (t := 74) (v := I r43) (K.dep 2 74 rfl rfl)) (es (t := 75) (v := I q14) (K.dep 3 75 rfl rfl)) hf44))
         (obsN_cons (ob_ext rfl rfl (fun a' w' ph K => (x_call0 own_46 rfl (am2 (es (t := 72) (v := .agg #[I p0.rows, I p0.wd, I p0.lo, I p0.hi, .slice A0_0 p0.ts.length c0_0]) (K.dep 0 72 rfl rfl)) (es (t := 76) (v := I (andNotI r43 q14)) (K.dep 4 76 rfl rfl))) (a46 K_ p0 (andNotI r43 q14) A0_0 c0_0 (ZZ Z w.heap.size [some b1]) _ (hS0_0_12.mv (mv_ext K.phT)) r45 hr45)).mono (fun _ _ h => ⟨(vAgg eFld).mv h.2 (hp12.call K.phT.size), h.1⟩)))
         (obsN_cons (ob_ext rfl rfl (fun a' w' ph K => by obtain ⟨_, e42_5, ⟨A45_r0, c45_r0, rfl, hS45_r0⟩⟩ := K.dep 5 77 rfl rfl; exact (x_call0 own_23 rfl (am1 (es (t := 77) (v := .agg #[I r45.rows, I r45.wd, I r45.lo, I r45.hi, .slice A45_r0 r45.ts.length c45_r0]) e42_5)) (a23 K_ r45 A45_r0 c45_r0 (ZZ Z w.heap.size [some b1]) _ hS45_r0 r46 hr46)).mono (fun _ _ h => ⟨(vAgg eFld).mv h.2 (hp12.call K.phT.size), h.1⟩)))
         (obsN_cons (ob_ext rfl rfl (fun a' w' ph K => by obtain ⟨_, e42_6, ⟨A46_r0, c46_r0, rfl, hS46_r0⟩⟩ := K.dep 6 78 rfl rfl; exact (x_call0 own_22 rfl (am1 (es (t := 78) (v := .agg #[I r46.rows, I r46.wd, I r46.lo, I r46.hi, .slice A46_r0 r46.ts.length c46_r0]) e42_6)) (a22 K_ r46 A46_r0 c46_r0 (ZZ Z w.heap.size [some b1]) _ hS46_r0 r47 hr47)).mono (fun _ _ h => ⟨(vT2 (vSl eR) (vInt .i64)).mv h.2 (hp12.call K.phT.size), h.1⟩)))
         (obsN_cons (ob_ext rfl rfl (fun a' w' ph K => (x_move (v := sl a' 79) rfl).mono (fun u w'' ⟨hu, hw⟩ => by subst hu; subst hw; exact ⟨K.dep 7 79 rfl rfl, Ext.refl _⟩)))
         (obsN_cons (ob_ext rfl rfl (fun a' w' ph K => by obtain ⟨_, _, e42_8, ⟨A47_ra, c47_ra, rfl, hS47_ra⟩, rfl⟩ := K.dep 8 71 rfl rfl; exact (x_extract (v := .slice A47_ra r47.1.length c47_ra) (es (t := 71) (v := .tuple #[.slice A47_ra r47.1.length c47_ra, I r47.2]) e42_8) rfl).mono (fun u w'' ⟨hu, hw⟩ => by subst hu; subst hw; exact ⟨⟨A47_ra, c47_ra, rfl, hS47_ra⟩, Ext.refl _⟩)))
         (obsN_cons (od rfl (fun _ => rfl) (fun K => by obtain ⟨_, _, e42_8, ⟨A47_ra, c47_ra, rfl, hS47_ra⟩, rfl⟩ := K.dep 8 71 rfl rfl; exact x_extract (v := I r47.2) (es (t := 71) (v := .tuple #[.slice A47_ra r47.1.length c47_ra, I r47.2]) e42_8) rfl))
         (obsN_cons (ob_ext rfl rfl (fun a' w' ph K => (x_assign (v := sl a' 80) rfl).mono (fun u w'' ⟨hu, hw⟩ => by subst hu; subst hw; exact ⟨K.dep 9 80 rfl rfl, Ext.refl _⟩)))
         (obsN_nil _))))))))))))) ?_
     intro w42
     rintro _ rfl _ rfl _ rfl _ rfl _ rfl _ ⟨_, rfl, ⟨A45_r0, c45_r0, rfl, hS45_r0⟩⟩ _ ⟨_, rfl, ⟨A46_r0, c46_r0, rfl, hS46_r0⟩⟩ _ _ _ _ _ _ _ rfl _ ⟨A47_ra, c47_ra, rfl, hS47_ra⟩ hx42
     have hp13 : Hp w [some b1] w42 := hp12.ext hx42
     refine wa rfl (v := I r47.2) rfl <| wl_end <| lv_next <| cc_seq ?_
     have bk1_13 : Bk w42 b1 26 #[I p0.rows, I p0.wd, I p0.lo, I p0.hi, .slice A0_0 p0.ts.length c0_0] := (bk1_12.ext hx42)
     have hS0_0_13 : Sl eTly w42 (ZZ Z w.heap.size [some b1]) A0_0 c0_0 p0.ts := (hS0_0_12.mv (mv_ext hx42))
     replace hG := bind_some hG; obtain ⟨r49, hr49, hG⟩ := hG
     replace hG := bitO_bind hG; obtain ⟨hf50, hG⟩ := hG
     replace hG := bind_some hG; obtain ⟨r51, hr51, hG⟩ := hG
     replace hG := bind_some hG; obtain ⟨r52, hr52, hG⟩ := hG
     replace hG := bind_some hG; obtain ⟨r53, hr53, hG⟩ := hG
     refine cc_anyM0 12 [Kc (.agg #[I p0.rows, I p0.wd, I p0.lo, I p0.hi, .slice A0_0 p0.ts.length c0_0]), Kc (.agg #[I p0.rows, I p0.wd, I p0.lo, I p0.hi, .slice A0_0 p0.ts.length c0_0]), Kc (I r49), Kc (I (andI p1 r39)), Kc (I (andNotI r49 (andI p1 r39))), Kv (vAgg eFld) (ZZ Z w.heap.size [some b1]) r51, Kv (vAgg eFld) (ZZ Z w.heap.size [some b1]) r52, Kv (vT2 (vSl eR) (vInt .i64)) (ZZ Z w.heap.size [some b1]) r53, Kv (vT2 (vSl eR) (vInt .i64)) (ZZ Z w.heap.size [some b1]) r53, Kv (vSl eR) (ZZ Z w.heap.size [some b1]) r53.1, Kc (I r53.2), Kv (vSl eR) (ZZ Z w.heap.size [some b1]) r53.1] mixedL12 rfl rfl
         (obsN_cons (od rfl (fun _ => rfl) (fun K => x_loadn (l := [I p0.rows, I p0.wd, I p0.lo, I p0.hi, .slice A0_0 p0.ts.length c0_0]) agg_26 (es (t := 2) (v := pt b1 0) ((K.out 2 rfl).trans hs14a_2)) (bk1_13.ext K.phT) rfl rfl))
         (obsN_cons (od rfl (fun _ => rfl) (fun K => x_loadn (l := [I p0.rows, I p0.wd, I p0.lo, I p0.hi, .slice A0_0 p0.ts.length c0_0]) agg_26 (es (t := 2) (v := pt b1 0) ((K.out 2 rfl).trans hs14a_2)) (bk1_13.ext K.phT) rfl rfl))
         (obsN_cons (ob_ext rfl rfl (fun a' w' ph K => (x_call0 own_47 rfl (am1 (es (t := 84) (v := .agg #[I p0.rows, I p0.wd, I p0.lo, I p0.hi, .slice A0_0 p0.ts.length c0_0]) (K.dep 1 84 rfl rfl))) (a47 K_ p0 A0_0 c0_0 ZA _ (hS0_0_13.mv (mv_ext K.phT)).all r49 hr49)).mono (fun _ _ h => ⟨h.2, h.1⟩)))
         (obsN_cons (od rfl (fun _ => rfl) (fun K => x_move (v := I (andI p1 r39)) (es (t := 9) (v := I (andI p1 r39)) ((K.out 9 rfl).trans rfl))))
         (obsN_cons (od rfl (fun _ => rfl) (fun K => x_andNot (es (t := 85) (v := I r49) (K.dep 2 85 rfl rfl)) (es (t := 86) (v := I (andI p1 r39)) (K.dep 3 86 rfl rfl)) hf50))
         (obsN_cons (ob_ext rfl rfl (fun a' w' ph K => (x_call0 own_46 rfl (am2 (es (t := 83) (v := .agg #[I p0.rows, I p0.wd, I p0.lo, I p0.hi, .slice A0_0 p0.ts.length c0_0]) (K.dep 0 83 rfl rfl)) (es (t := 87) (v := I (andNotI r49 (andI p1 r39))) (K.dep 4 87 rfl rfl))) (a46 K_ p0 (andNotI r49 (andI p1 r39)) A0_0 c0_0 (ZZ Z w.heap.size [some b1]) _ (hS0_0_13.mv (mv_ext K.phT)) r51 hr51)).mono (fun _ _ h => ⟨(vAgg eFld).mv h.2 (hp13.call K.phT.size), h.1⟩)))
         (obsN_cons (ob_ext rfl rfl (fun a' w' ph K => by obtain ⟨_, e48_5, ⟨A51_r0, c51_r0, rfl, hS51_r0⟩⟩ := K.dep 5 88 rfl rfl; exact (x_call0 own_23 rfl (am1 (es (t := 88) (v := .agg #[I r51.rows, I r51.wd, I r51.lo, I r51.hi, .slice A51_r0 r51.ts.length c51_r0]) e48_5)) (a23 K_ r51 A51_r0 c51_r0 (ZZ Z w.heap.size [some b1]) _ hS51_r0 r52 hr52)).mono (fun _ _ h => ⟨(vAgg eFld).mv h.2 (hp13.call K.phT.size), h.1⟩)))
         (obsN_cons (ob_ext rfl rfl (fun a' w' ph K => by obtain ⟨_, e48_6, ⟨A52_r0, c52_r0, rfl, hS52_r0⟩⟩ := K.dep 6 89 rfl rfl; exact (x_call0 own_22 rfl (am1 (es (t := 89) (v := .agg #[I r52.rows, I r52.wd, I r52.lo, I r52.hi, .slice A52_r0 r52.ts.length c52_r0]) e48_6)) (a22 K_ r52 A52_r0 c52_r0 (ZZ Z w.heap.size [some b1]) _ hS52_r0 r53 hr53)).mono (fun _ _ h => ⟨(vT2 (vSl eR) (vInt .i64)).mv h.2 (hp13.call K.phT.size), h.1⟩)))
         (obsN_cons (ob_ext rfl rfl (fun a' w' ph K => (x_move (v := sl a' 90) rfl).mono (fun u w'' ⟨hu, hw⟩ => by subst hu; subst hw; exact ⟨K.dep 7 90 rfl rfl, Ext.refl _⟩)))
         (obsN_cons (ob_ext rfl rfl (fun a' w' ph K => by obtain ⟨_, _, e48_8, ⟨A53_ra, c53_ra, rfl, hS53_ra⟩, rfl⟩ := K.dep 8 82 rfl rfl; exact (x_extract (v := .slice A53_ra r53.1.length c53_ra) (es (t := 82) (v := .tuple #[.slice A53_ra r53.1.length c53_ra, I r53.2]) e48_8) rfl).mono (fun u w'' ⟨hu, hw⟩ => by subst hu; subst hw; exact ⟨⟨A53_ra, c53_ra, rfl, hS53_ra⟩, Ext.refl _⟩)))
         (obsN_cons (od rfl (fun _ => rfl) (fun K => by obtain ⟨_, _, e48_8, ⟨A53_ra, c53_ra, rfl, hS53_ra⟩, rfl⟩ := K.dep 8 82 rfl rfl; exact x_extract (v := I r53.2) (es (t := 82) (v := .tuple #[.slice A53_ra r53.1.length c53_ra, I r53.2]) e48_8) rfl))
         (obsN_cons (ob_ext rfl rfl (fun a' w' ph K => (x_assign (v := sl a' 91) rfl).mono (fun u w'' ⟨hu, hw⟩ => by subst hu; subst hw; exact ⟨K.dep 9 91 rfl rfl, Ext.refl _⟩)))
         (obsN_nil _))))))))))))) ?_
     intro w48
     rintro _ rfl _ rfl _ rfl _ rfl _ rfl _ ⟨_, rfl, ⟨A51_r0, c51_r0, rfl, hS51_r0⟩⟩ _ ⟨_, rfl, ⟨A52_r0, c52_r0, rfl, hS52_r0⟩⟩ _ _ _ _ _ _ _ rfl _ ⟨A53_ra, c53_ra, rfl, hS53_ra⟩ hx48
     have hp14 : Hp w [some b1] w48 := hp13.ext hx48
     refine wa rfl (v := I r53.2) rfl <| wl_end <| lv_next <| cc_seq <| cc_region <| wm rfl (v := I r47.2) rfl <| wd rfl (fun st => x_eql (ee st rfl) (ee st rfl)) <| wm rfl (v := .bool (r47.2 == 0)) rfl ?_
     rcases bool_cases (r47.2 == 0) with hc54 | hc54
     ·replace hG := cond_t hG hc54
      refine wl_detg rfl rfl (guard_eq rfl hc54) rfl (by decide) (fun st => x_move (v := I r53.2) (ee st rfl)) <| wl_detg rfl rfl (guard_eq rfl hc54) rfl (by decide) (fun st => x_eql (ee st rfl) (ee st rfl)) <| wl_detg rfl rfl (guard_eq rfl hc54) rfl (by decide) (fun st => x_move (v := .bool (r53.2 == 11)) (ee st rfl)) ?_
      rcases bool_cases (r53.2 == 11) with hc55 | hc55
      ·replace hG := cond_t hG hc55
       refine wl_skip (c := true) rfl rfl (guard_eq rfl hc55) (by decide) rfl (by decide) <| wl_skip (c := true) rfl rfl (guard_eq rfl hc55) (by decide) rfl (by decide) <| wl_skip (c := true) rfl rfl (guard_eq rfl hc55) (by decide) rfl (by decide) <| wl_skip_u rfl rfl rfl rfl (by decide) <| wl_skip_u rfl rfl rfl rfl (by decide) <| wl_skip_u rfl rfl rfl rfl (by decide) <| wl_skip_u rfl rfl rfl rfl (by decide) <| wl_skip_u rfl rfl rfl rfl (by decide) <| wl_skip (c := true) rfl rfl (guard_eq rfl hc55) (by decide) rfl (by decide) <| wl_detg rfl rfl (guard_eq rfl hc54) rfl (by decide) (fun st => x_pick_t (v := .bool true) (ee st rfl) hc55 (ee st rfl)) <| wd rfl (fun st => x_pick_t (v := .bool true) (ee st rfl) hc54 (ee st rfl)) <| wm rfl (v := .bool true) rfl ?_
       replace hG := ifo_bind hG; obtain ⟨hw56, hG⟩ := hG
       refine wl_exg rfl rfl rfl rfl (by decide) (fun st => x_call0 own_21 (ee st rfl) am0 (a21 K_ ZA _ hw56)) ?_
       rintro _ w57 ⟨hx56, rfl⟩
       have hp15 : Hp w [some b1] w57 := hp14.ext hx56
       refine wd rfl (fun st => x_pick_t (v := .bool true) (ee st rfl) rfl (ee st rfl)) <| wa rfl (v := .bool true) rfl <| wl_end <| lv_next <| cc_ret ?_
       have hr_ := Option.some.inj hG
       refine lv_ret1 rfl rfl ?_
       exact ⟨hp15.fin, congrArg Value.bool hr_⟩
      ·replace hG := cond_f hG hc55
       refine wl_detg rfl rfl (guard_eq rfl hc55) rfl (by decide) (fun st => x_move (v := I r53.2) (ee st rfl)) <| wl_detg rfl rfl (guard_eq rfl hc55) rfl (by decide) (fun st => x_eql (ee st rfl) (ee st rfl)) <| wl_detg rfl rfl (guard_eq rfl hc55) rfl (by decide) (fun st => x_move (v := .bool (r53.2 == 0)) (ee st rfl)) ?_
       rcases bool_cases (r53.2 == 0) with hc58 | hc58
       ·replace hG := cond_t hG hc58
        refine wl_detg rfl rfl (guard_eq rfl hc58) rfl (by decide) (fun st => x_move (v := I (andI p1 r39)) (ee st rfl)) ?_
        replace hG := bind_some hG; obtain ⟨r59, hr59, hG⟩ := hG
        refine wl_exg rfl rfl (guard_eq rfl hc58) rfl (by decide) (fun st => x_call0 own_49 (ee st rfl) (am1 (ee st rfl)) (a49 K_ (andI p1 r39) (ZZ Z w.heap.size [some b1]) _ r59 hr59)) ?_
        rintro _ w60 ⟨hx59, ⟨A59_r, c59_r, rfl, hS59_r⟩⟩
        have hp16 : Hp w [some b1] w60 := hp14.ext hx59
        have hS59_r := hS59_r.mv (hp14.call (Nat.le_refl _))
        refine wl_detg rfl rfl (guard_eq rfl hc58) rfl (by decide) (fun st => x_move (v := .slice A11_ra r11.1.length c11_ra) (ee st hs14a_5)) ?_
        have hS11_ra_16 : Sl (eInt .i64) w60 (ZZ Z w.heap.size [some b1]) A11_ra c11_ra r11.1 := ((((g14_hS11_ra.mv (mv_ext hx39)).mv (mv_ext hx42)).mv (mv_ext hx48)).mv (mv_ext hx59))
        replace hG := bind_some hG; obtain ⟨r61, hr61, hG⟩ := hG
        refine wl_exg rfl rfl (guard_eq rfl hc58) rfl (by decide) (fun st => x_call0 own_48 (ee st rfl) (am2 (ee st rfl) (ee st rfl)) (a48 K_ r59 r11.1 A59_r c59_r A11_ra c11_ra ZA _ hS59_r.all hS11_ra_16.all r61 hr61)) ?_
        rintro _ w62 ⟨hx61, rfl⟩
        have hp17 : Hp w [some b1] w62 := hp16.ext hx61
        refine wl_detg rfl rfl (guard_eq rfl hc58) rfl (by decide) (fun st => x_not (ee st rfl)) <| wl_detg rfl rfl (guard_eq rfl hc55) rfl (by decide) (fun st => x_pick_t (v := .bool !r61) (ee st rfl) hc58 (ee st rfl)) <| wl_detg rfl rfl (guard_eq rfl hc54) rfl (by decide) (fun st => x_pick_f (v := .bool !r61) (ee st rfl) hc55 (ee st rfl)) <| wd rfl (fun st => x_pick_t (v := .bool !r61) (ee st rfl) hc54 (ee st rfl)) <| wm rfl (v := .bool !r61) rfl ?_
        rcases bool_cases (!r61) with hc63 | hc63
        ·replace hG := cond_t hG hc63
         have hc63_64 : r61 = false := by simpa using hc63
         replace hG := ifo_bind hG; obtain ⟨hw65, hG⟩ := hG
         refine wl_exg rfl rfl (guard_eq rfl hc63) rfl (by decide) (fun st => x_call0 own_21 (ee st rfl) am0 (a21 K_ ZA _ hw65)) ?_
         rintro _ w66 ⟨hx65, rfl⟩
         have hp18 : Hp w [some b1] w66 := hp17.ext hx65
         refine wd rfl (fun st => x_pick_t (v := .bool true) (ee st rfl) hc63 (ee st rfl)) <| wa rfl (v := .bool true) rfl <| wl_end <| lv_next <| cc_ret ?_
         have hr_ := Option.some.inj hG
         refine lv_ret1 rfl rfl ?_
         exact ⟨hp18.fin, congrArg Value.bool hr_⟩
        ·replace hG := cond_f hG hc63
         exact absurd (Option.some.inj hG) (by decide)
       ·replace hG := cond_f hG hc58
        exact absurd (Option.some.inj hG) (by decide)
     ·replace hG := cond_f hG hc54
      exact absurd (Option.some.inj hG) (by decide)
end Go.Proofs.Ythogdgkafaclaaa
end
section
namespace Go.Proofs.Ythogdgkafaclaaa
open Go.RowKit Go.ChangeShapes Go.WideShapes
theorem mapM_get {α β : Type} {g : α → Option β} : ∀ {l : List α} {r : List β}, l.mapM g = some r → ∀ (i : Nat) (x : α), l[i]? = some x → ∃ y, r[i]? = some y ∧ g x = some y
  | [], _, _, i, x, hx => by simp at hx
  | a :: l, r, h, i, x, hx => by
    rw [List.mapM_cons] at h
    obtain ⟨y, hy, h2⟩ := Option.bind_eq_some_iff.1 h
    obtain ⟨ys, hys, h3⟩ := Option.bind_eq_some_iff.1 h2
    obtain rfl : y :: ys = r := by simpa using h3
    cases i with
    | zero =>
      obtain rfl : a = x := by simpa using hx
      exact ⟨y, rfl, hy⟩
    | succ i => exact mapM_get hys i x (by simpa using hx)
theorem weightsAll_mem {H : Type} {P : Program} {e : TypeId} {d : DataW H} {n : Nat} (hn : n ∈ d.weights P e) : ∀ {l : List (DataW H)}, d ∈ l → n ∈ DataW.weightsAll P e l
  | [], h => by cases h
  | a :: l, h => by
    rw [DataW.weightsAll, List.mem_append]
    rcases List.mem_cons.1 h with rfl | h
    · exact .inl hn
    · exact .inr (weightsAll_mem hn h)
/-- No slice in it takes more bytes than the form lets in. -/
def Slim {H : Type} (P : Program) (t : TypeId) (d : DataW H) : Prop := ∀ n ∈ d.weights P t, n ≤ reachBytes
theorem slim_at {H : Type} {P : Program} {ts : List TypeId} {ds : List (DataW H)} (h : (DataW.weightsEach P ts ds).all (· ≤ reachBytes) = true) {j : Nat} {t : TypeId} {d : DataW H} (ht : ts[j]? = some t) (hd : ds[j]? = some d) : Slim P t d := fun n hn => by
  have := List.all_eq_true.1 h _ (DataW.weights_mem_each ht hd n hn)
  simpa using this
/-- A reading of this type is data of this kind. -/
def Opn {α : Type} (P : Program) (t : TypeId) (e : Enc α) (wf : α → Prop) : Prop :=
  ∀ (H : Type) (enc : TypeId × Value → H) (w : World) (sp : Nat → Bool) (fuel : Nat) (cs : List Value) (x : DataW H × List MemPlace), DataW.trod enc P w 0 sp true fuel t cs = some x → Slim P t x.1 → ∃ a, e.R w ZA cs a ∧ wf a
def wfI (k : IntKind) (n : Int) : Prop := (Lit.int k n).wf = true
section
variable {P : Program} {t : TypeId}
theorem opn_int {k : IntKind} (ht : P.underlying t = some (.int k)) : Opn P t (eInt k) (wfI k) := by
  intro H enc w sp fuel cs x h _
  obtain ⟨n, h1, _, h3⟩ := DataW.trod_int ht h
  exact ⟨n, h1, h3⟩
/-- A struct's fields. -/
theorem trod_fields {fs : Array Field} (ht : P.underlying t = some (.struct fs)) {H : Type} {enc : TypeId × Value → H} {w : World} {sp : Nat → Bool} {fuel : Nat} {cs : List Value} {x : DataW H × List MemPlace} (h : DataW.trod enc P w 0 sp true fuel t cs = some x) :
    cs.length = P.cellsOf t ∧ ∃ fuel', ∀ (i ft off : Nat), (fs[i]?).map (fun f => (f.type, f.offset)) = some (ft, off) → ∃ y, DataW.trod enc P w 0 sp true fuel' ft ((cs.drop off).take (P.cellsOf ft)) = some y ∧ (Slim P t x.1 → Slim P ft y.1) := by
  cases fuel with
  | zero => simp [DataW.trod] at h
  | succ fuel =>
    unfold DataW.trod at h
    simp only [ht] at h
    split at h
    · rename_i hl
      obtain ⟨xs, hx, rfl⟩ := Option.map_eq_some_iff.1 h
      refine ⟨hl, fuel, fun i ft off hf => ?_⟩
      obtain ⟨f, hf', he⟩ := Option.map_eq_some_iff.1 hf
      obtain ⟨e1, e2⟩ : f.type = ft ∧ f.offset = off := by simpa using he
      rw [← Array.getElem?_toList] at hf'
      obtain ⟨y, hy, hg⟩ := mapM_get hx i f hf'
      rw [e1, e2] at hg
      refine ⟨y, hg, fun hs n hn => hs n ?_⟩
      simp only [DataW.weights, ht]
      exact DataW.weights_mem_each (j := i) (t := ft) (d := y.1) (by rw [List.getElem?_map, hf']; simp [e1]) (by rw [List.getElem?_map, hy]; rfl) n hn
    · cases h
theorem cells_cell {w : World} {a : Addr} {n : Nat} {cs : List Value} (h : w.cells? 0 a n = some cs) : cs.length = n ∧ ∀ j u, cs[j]? = some u → w.cell? (a.add j) = some u := by
  unfold World.cells? at h
  rw [if_pos (Nat.zero_le _)] at h
  have hl := mapM_some_length h
  refine ⟨by simpa using hl, ?_⟩
  have key : ∀ (l : List Nat) (r : List Value), l.mapM (fun i => w.cell? (a.add i)) = some r → ∀ (j i : Nat) (u : Value), l[j]? = some i → r[j]? = some u → w.cell? (a.add i) = some u := by
    intro l
    induction l with
    | nil => intro r _ j i u hj; simp at hj
    | cons b l ih =>
      intro r h j i u hj hr
      rw [List.mapM_cons] at h
      obtain ⟨y, hy, h2⟩ := Option.bind_eq_some_iff.1 h
      obtain ⟨ys, hys, h3⟩ := Option.bind_eq_some_iff.1 h2
      obtain rfl : y :: ys = r := by simpa using h3
      cases j with
      | zero =>
        obtain rfl : b = i := by simpa using hj
        obtain rfl : y = u := by simpa using hr
        exact hy
      | succ j => exact ih ys hys j i u (by simpa using hj) (by simpa using hr)
  intro j u hj
  have hlt : j < n := by
    have := (List.getElem?_eq_some_iff.1 hj).1
    have h2 : cs.length = n := by simpa using hl
    omega
  exact key _ _ h j j u (by simp [hlt]) hj
theorem cell_none {w : World} {a : Addr} {u : Value} (h : w.cell? a = some u) : ∃ b o, a = ⟨b, o, none⟩ ∧ b < w.heap.size := by
  obtain ⟨b, o, pt⟩ := a
  cases pt with
  | none =>
    refine ⟨b, o, rfl, ?_⟩
    unfold World.cell? at h
    cases hq : w.heap[b]? with
    | none => simp [hq] at h
    | some o => exact (Array.getElem?_eq_some_iff.1 hq).1
  | some q =>
    unfold World.cell? at h
    cases hq : w.heap[b]? with
    | none => simp [hq] at h
    | some ob => cases ob <;> simp [hq] at h
theorem add_add {a : Addr} {k j : Nat} (h : k ≤ j) : (a.add k).add (j - k) = a.add j := by
  obtain ⟨b, o, pt⟩ := a
  cases pt with
  | none => rw [addr_add, addr_add, addr_add]; congr 1; omega
  | some q =>
    unfold Addr.add
    by_cases hj : j = 0
    · have : k = 0 := by omega
      subst this; subst hj; simp
    · by_cases hk : k = 0
      · subst hk; simp [hj]
      · by_cases hjk : j - k = 0
        · have : j = k := by omega
          subst this; simp [hk]
        · simp [hj, hk, hjk]; omega
/-- Slices of what can be read. -/
theorem opn_slice {α : Type} {e : TypeId} {ee : Enc α} {wf : α → Prop} (ht : P.underlying t = some (.slice e)) (hc : P.cellsOf e = ee.sz) (h0 : 0 < ee.sz) (ho : Opn P e ee wf) {b : Nat} (hby : P.bytesOf e = b) : Opn P t (eSl ee) (fun xs => xs.length * b ≤ 140737488351232 ∧ ∀ x ∈ xs, wf x) := by
  intro H enc w sp fuel cs x h hsl
  rcases Go.Deep.open_slice ht h with ⟨rfl, _⟩ | ⟨a, len, cap, m, n0, D, Pl, rfl, _, hlc, hcm, hm, hxe, hall⟩
  · exact ⟨[], ⟨none, 0, rfl, Sl.nil _ _ _⟩, by simp, by simp⟩
  · have hlm : len ≤ m := by rw [hm]; split <;> omega
    subst hxe
    have hroom : len * b ≤ 140737488351232 := by
      have := hsl ((((List.range len).map D).length + ((List.range (m - len)).map fun j => D (len + j)).length) * P.bytesOf e) (by simp [DataW.weights, ht])
      rw [hby] at this
      have h2 : len * b ≤ (((List.range len).map D).length + ((List.range (m - len)).map fun j => D (len + j)).length) * b := Nat.mul_le_mul_right _ (by simp)
      exact Nat.le_trans h2 this
    have hslim : ∀ i, i < len → Slim P e (D i) := fun i hi n hn => hsl n (by
      simp only [DataW.weights, ht]
      rw [List.mem_cons, List.mem_append]
      exact .inr (.inl (weightsAll_mem hn (List.mem_map.2 ⟨i, by simpa using hi, rfl⟩))))
    have key : ∀ n, n ≤ len → ∃ css xs, R2 ee w ZA css xs ∧ xs.length = n ∧ (∀ x ∈ xs, wf x) ∧ ∀ j u, css.flatten[j]? = some u → w.cell? (a.add j) = some u := by
      intro n
      induction n with
      | zero => exact fun _ => ⟨[], [], trivial, rfl, by simp, by simp⟩
      | succ n ih =>
        intro hn
        obtain ⟨css, xs, h1, h2, h3, h4⟩ := ih (by omega)
        obtain ⟨ds, hd, hy2⟩ := hall n (by omega)
        obtain ⟨z, hz, hwz⟩ := ho _ _ _ _ _ _ _ hy2 (hslim n (by omega))
        obtain ⟨hl, hcell⟩ := cells_cell hd
        refine ⟨css ++ [ds], xs ++ [z], h1.append ⟨hz, trivial⟩, by simp [h2], ?_, ?_⟩
        · intro x hx
          rcases List.mem_append.1 hx with hx | hx
          · exact h3 x hx
          · rw [List.mem_singleton.1 hx]; exact hwz
        · intro j u hj
          rw [List.flatten_append] at hj
          rcases Nat.lt_or_ge j css.flatten.length with hlt | hge
          · rw [List.getElem?_append_left hlt] at hj
            exact h4 j u hj
          · rw [List.getElem?_append_right hge] at hj
            have h5 := hcell (j - css.flatten.length) u (by simpa using hj)
            have hfl : css.flatten.length = n * ee.sz := by rw [h1.flen, h2]
            rw [hfl] at h5 hge
            rw [hc] at h5
            rw [add_add hge] at h5
            exact h5
    obtain ⟨css, xs, h1, h2, h3, h4⟩ := key len (Nat.le_refl _)
    refine ⟨xs, ⟨some a, cap, by rw [h2], by rw [h2]; exact hlc, (fun e => by cases e), css, h1, ?_⟩, by rw [h2]; exact hroom, h3⟩
    cases hf : css.flatten with
    | nil => exact .inl rfl
    | cons u us =>
      have hu := h4 0 u (by rw [hf]; rfl)
      obtain ⟨b, o, hab, hlt⟩ := cell_none hu
      have ha : a = ⟨b, o, none⟩ := by
        obtain ⟨b', o', pt⟩ := a
        cases pt <;> simp [Addr.add] at hab ⊢
        exact hab
      subst ha
      refine .inr ⟨b, o, rfl, trivial, hlt, fun j u hj => ?_⟩
      have := h4 j u (by rw [hf]; exact hj)
      rw [addr_add] at this
      exact this
end
section
variable {H : Type} {enc : TypeId × Value → H} {P : Program} {W W' : World}
theorem trodAll_carry {sp : Nat → Bool} : ∀ {ts : List TypeId} {vs : List Value} {ds : List (DataW H)} {ps : List MemPlace}, DataW.TrodAll enc P W 0 sp true ts vs ds ps → (∀ p ∈ ps, W.sameAt W' p) → DataW.TrodAll enc P W' 0 sp true ts vs ds ps
  | [], _, _, _, h, _ => by
    obtain ⟨rfl, rfl, rfl⟩ := trodAll_nil h
    exact rfl
  | _ :: _, _, _, _, h, hs => by
    obtain ⟨v, vs1, d, ds1, a, b, rfl, rfl, rfl, ⟨n, hn⟩, h2⟩ := trodAll_cons h
    exact ⟨a, b, ⟨n, DataW.trod_carry n _ _ _ hn fun p hp => hs p (List.mem_append_left _ hp)⟩, trodAll_carry h2 fun p hp => hs p (List.mem_append_right _ hp), rfl⟩
theorem args_read (K : Kids P (· < P.types.size)) (hz : ∀ t e, t < P.types.size → P.underlying t = some (.slice e) → 0 < P.cellsOf e) {ts : List TypeId} {vs : List Value} {ds : List (DataW H)} {ps : List MemPlace} (hT : ∀ t ∈ ts, t < P.types.size)
    (hA : DataW.TrodAll enc P W 0 (fun _ => true) true ts vs ds ps) (hb : Ext W W') (hlt : ∀ p ∈ ps, p.block < W.heap.size) (sp : Nat → Bool) (hs : ∀ p ∈ ps, sp p.block = true) : DataW.TrodAll enc P W' 0 sp true ts vs ds ps :=
  trodAll_carry (DataW.TrodAll.respare K hz hT hA hs) fun p hp => (below_of_ext hb).same (hlt p hp)
variable {α : Type} {e : Enc α} {wf : α → Prop} {t : TypeId} {b0 : Nat} {v : Value} {d : DataW H} {p : List MemPlace} {sp : Nat → Bool}
theorem val_agg {fs : Array Field} (ht : P.underlying t = some (.struct fs)) (ho : Opn P t e wf) (hv : Value.okWide P W .any b0 t v) (h : DataW.Trod enc P W 0 sp true t v d p) (hs : Slim P t d) : ∃ a cs, v = .agg cs.toArray ∧ e.R W ZA cs a ∧ wf a := by
  unfold Value.okWide at hv
  rw [ht] at hv
  obtain ⟨cs, rfl, _⟩ := hv
  obtain ⟨n, hn⟩ := h
  obtain ⟨a, h1, h2⟩ := ho _ _ _ _ _ _ _ hn hs
  exact ⟨a, cs.toList, by simp, h1, h2⟩
theorem val_int {k : IntKind} (ht : P.underlying t = some (.int k)) (hv : Value.okWide P W .any b0 t v) (h : DataW.Trod enc P W 0 sp true t v d p) : ∃ n, v = .int k n ∧ wfI k n := by
  obtain ⟨n, h1, _, _, h4⟩ := open_int ht hv h
  exact ⟨n, h1, h4⟩
/-- The row's end: the call has laid new blocks alone. -/
theorem post_of_ext {f : Func} {s : ChangeSpec} {apart fresh handsOn again : Bool} {args : Array Value} {v : Value} {ds gs : List (DataW H)} {before pa pv : List MemPlace}
    (hW : DataW.Whole enc P f.params.toList s.vars apart W args.toList ds gs before)
    (hres : ∀ (b : Nat) (sp : Nat → Bool) (hd : Bool), DataW.TrodAll enc P W' b sp hd f.resultTypes.toList (v.resultList f.resultTypes.size) (s.fn H (ds ++ gs)).results [])
    (hargs : ∀ sp : Nat → Bool, (∀ p ∈ before, sp p.block = true) → DataW.TrodAll enc P W' 0 sp true f.params.toList args.toList (s.fn H (ds ++ gs)).args pa)
    (hvars : ∀ sp : Nat → Bool, (∀ p ∈ before, sp p.block = true) → DataW.TrodVars enc P W' sp s.vars (s.fn H (ds ++ gs)).vars pv)
    (hps : before = pa ++ pv) (hx : Ext W W')
    (hok : ∀ (j : Nat) (t : TypeId) (r : Value), f.resultTypes[j]? = some t → (v.resultList f.resultTypes.size)[j]? = some r → Value.okWide P W' .any 0 t r) :
    s.post enc P f apart fresh handsOn again W args v W' := by
  have hb := below_of_ext hx
  have hlt : ∀ p ∈ before, p.block < W.heap.size := fun p hp => hW.lt p hp
  have hold : ∀ p ∈ before, (fun b => decide (b < W.heap.size)) p.block = true := fun p hp => by simpa using hlt p hp
  refine ⟨ds, gs, before, [], pa, pv, hW, hres _ _ _, hargs _ hold, hvars _ hold, World.keptBut_mono (fun p hp => ⟨hp, ?_⟩) (hb.frame (· ∈ before)), fun _ => ?_⟩
  · rw [hps, List.mem_append] at hp
    exact Or.inr hp
  · obtain ⟨_, _, _, _, _, hz, hn⟩ := hW
    refine ⟨hok, _, _, ([] ++ pa) ++ pv, ⟨[] ++ pa, pv, trodAll_append (hargs _ (fun _ _ => rfl)) (hres _ _ _), hvars _ (fun _ _ => rfl), rfl, ?_, ?_⟩, ?_⟩
    · intro b off hp
      have hin : MemPlace.cell b off ∈ before := by rw [hps]; simpa using hp
      rw [hb.frozen (hlt _ hin)]
      exact hz b off hin
    · intro ha
      have := hn ha
      rw [hps] at this
      simpa using this
    · intro p hp _
      rw [hps]
      simpa using hp
theorem ret_calls {f : FuncId} {args : Array Value} {w : World} {R : Value → World → Prop} (h : Ret P f args w R) : Calls P f args w (fun e w' => ∃ v, e = .returned v ∧ R v w') := h
end
end Go.Proofs.Ythogdgkafaclaaa
end
section
set_option linter.unusedVariables false
set_option linter.unusedSimpArgs false
namespace Go.Proofs.Ythogdgkafaclaaa
open Go.RowKit
open Go.RowKit Go.ChangeShapes Go.WideShapes
theorem len_2 : ∀ {cs : List Value}, cs.length = 2 → ∃ a0 a1, cs = [a0, a1]
  | [a0, a1], _ => ⟨a0, a1, rfl⟩
theorem len_5 : ∀ {cs : List Value}, cs.length = 5 → ∃ a0 a1 a2 a3 a4, cs = [a0, a1, a2, a3, a4]
  | [a0, a1, a2, a3, a4], _ => ⟨a0, a1, a2, a3, a4, rfl⟩
theorem opn_23 : Opn Try.prog 23 eR (fun x => (wfI .i64 x.1 ∧ wfI .i64 x.2)) := by
  intro H enc w sp fuel cs x h hz
  obtain ⟨hl, fuel', hf⟩ := trod_fields Try.underlying23 h
  have hc : Try.prog.cellsOf 23 = 2 := by kernel_rfl
  rw [hc] at hl
  have k3 : Try.prog.cellsOf 3 = 1 := by kernel_rfl
  obtain ⟨a0, a1, rfl⟩ := len_2 hl
  obtain ⟨y0, hy0, hz0⟩ := hf 0 3 0 rfl
  simp only [k3, List.drop_zero, List.drop_succ_cons, List.take_succ_cons, List.take_zero] at hy0
  obtain ⟨n0, h0, w0⟩ := (opn_int Try.underlying3) _ _ _ _ _ _ _ hy0 (hz0 hz)
  cases h0
  obtain ⟨y1, hy1, hz1⟩ := hf 1 3 1 rfl
  simp only [k3, List.drop_zero, List.drop_succ_cons, List.take_succ_cons, List.take_zero] at hy1
  obtain ⟨n1, h1, w1⟩ := (opn_int Try.underlying3) _ _ _ _ _ _ _ hy1 (hz1 hz)
  cases h1
  exact ⟨⟨n0, n1⟩, rfl, w0, w1⟩
theorem opn_68 : Opn Try.prog 68 eTly (fun x => (wfI .i64 x.who ∧ wfI .i64 x.fr ∧ wfI .i64 x.to ∧ (wfI .i64 ((⟨x.lo, x.hi⟩ : (Int × Int)).1) ∧ wfI .i64 ((⟨x.lo, x.hi⟩ : (Int × Int)).2)))) := by
  intro H enc w sp fuel cs x h hz
  obtain ⟨hl, fuel', hf⟩ := trod_fields Try.underlying68 h
  have hc : Try.prog.cellsOf 68 = 5 := by kernel_rfl
  rw [hc] at hl
  have k3 : Try.prog.cellsOf 3 = 1 := by kernel_rfl
  have k23 : Try.prog.cellsOf 23 = 2 := by kernel_rfl
  obtain ⟨a0, a1, a2, a3, a4, rfl⟩ := len_5 hl
  obtain ⟨y0, hy0, hz0⟩ := hf 0 3 0 rfl
  simp only [k3, List.drop_zero, List.drop_succ_cons, List.take_succ_cons, List.take_zero] at hy0
  obtain ⟨n0, h0, w0⟩ := (opn_int Try.underlying3) _ _ _ _ _ _ _ hy0 (hz0 hz)
  cases h0
  obtain ⟨y1, hy1, hz1⟩ := hf 1 3 1 rfl
  simp only [k3, List.drop_zero, List.drop_succ_cons, List.take_succ_cons, List.take_zero] at hy1
  obtain ⟨n1, h1, w1⟩ := (opn_int Try.underlying3) _ _ _ _ _ _ _ hy1 (hz1 hz)
  cases h1
  obtain ⟨y2, hy2, hz2⟩ := hf 2 3 2 rfl
  simp only [k3, List.drop_zero, List.drop_succ_cons, List.take_succ_cons, List.take_zero] at hy2
  obtain ⟨n2, h2, w2⟩ := (opn_int Try.underlying3) _ _ _ _ _ _ _ hy2 (hz2 hz)
  cases h2
  obtain ⟨y3, hy3, hz3⟩ := hf 3 23 3 rfl
  simp only [k23, List.drop_zero, List.drop_succ_cons, List.take_succ_cons, List.take_zero] at hy3
  obtain ⟨n3, h3, w3⟩ := opn_23 _ _ _ _ _ _ _ hy3 (hz3 hz)
  cases h3
  exact ⟨⟨n0, n1, n2, n3.1, n3.2⟩, rfl, w0, w1, w2, w3⟩
theorem opn_26 : Opn Try.prog 26 eFld (fun x => (wfI .i64 x.rows ∧ wfI .i64 x.wd ∧ (wfI .i64 ((⟨x.lo, x.hi⟩ : (Int × Int)).1) ∧ wfI .i64 ((⟨x.lo, x.hi⟩ : (Int × Int)).2)) ∧ (x.ts.length * 40 ≤ 140737488351232 ∧ ∀ y ∈ x.ts, (wfI .i64 y.who ∧ wfI .i64 y.fr ∧ wfI .i64 y.to ∧ (wfI .i64 ((⟨y.lo, y.hi⟩ : (Int × Int)).1) ∧ wfI .i64 ((⟨y.lo, y.hi⟩ : (Int × Int)).2)))))) := by
  intro H enc w sp fuel cs x h hz
  obtain ⟨hl, fuel', hf⟩ := trod_fields Try.underlying26 h
  have hc : Try.prog.cellsOf 26 = 5 := by kernel_rfl
  rw [hc] at hl
  have k3 : Try.prog.cellsOf 3 = 1 := by kernel_rfl
  have k23 : Try.prog.cellsOf 23 = 2 := by kernel_rfl
  have k24 : Try.prog.cellsOf 24 = 1 := by kernel_rfl
  obtain ⟨a0, a1, a2, a3, a4, rfl⟩ := len_5 hl
  obtain ⟨y0, hy0, hz0⟩ := hf 0 3 0 rfl
  simp only [k3, List.drop_zero, List.drop_succ_cons, List.take_succ_cons, List.take_zero] at hy0
  obtain ⟨n0, h0, w0⟩ := (opn_int Try.underlying3) _ _ _ _ _ _ _ hy0 (hz0 hz)
  cases h0
  obtain ⟨y1, hy1, hz1⟩ := hf 1 3 1 rfl
  simp only [k3, List.drop_zero, List.drop_succ_cons, List.take_succ_cons, List.take_zero] at hy1
  obtain ⟨n1, h1, w1⟩ := (opn_int Try.underlying3) _ _ _ _ _ _ _ hy1 (hz1 hz)
  cases h1
  obtain ⟨y2, hy2, hz2⟩ := hf 2 23 2 rfl
  simp only [k23, List.drop_zero, List.drop_succ_cons, List.take_succ_cons, List.take_zero] at hy2
  obtain ⟨n2, h2, w2⟩ := opn_23 _ _ _ _ _ _ _ hy2 (hz2 hz)
  cases h2
  obtain ⟨y3, hy3, hz3⟩ := hf 3 24 4 rfl
  simp only [k24, List.drop_zero, List.drop_succ_cons, List.take_succ_cons, List.take_zero] at hy3
  obtain ⟨n3, ⟨A3, c3, h3, s3⟩, w3⟩ := (opn_slice (b := 40) Try.underlying24 (by kernel_rfl) (by decide) opn_68 (by kernel_rfl)) _ _ _ _ _ _ _ hy3 (hz3 hz)
  cases h3
  exact ⟨⟨n0, n1, n2.1, n2.2, n3⟩, ⟨A3, c3, rfl, s3⟩, w0, w1, w2, w3⟩
theorem ownT : ownKnob Try.prog.godebug = none := by kernel_rfl
theorem kidsT : Kids Try.prog (· < Try.prog.types.size) := kids_rows (by kernel_rfl) (by kernel_rfl)
theorem fullT : ∀ t e, t < Try.prog.types.size → Try.prog.underlying t = some (.slice e) → 0 < Try.prog.cellsOf e := slices_full_of Try.prog (by kernel_rfl)
end Go.Proofs.Ythogdgkafaclaaa
end
section
namespace Go.Proofs.Ythogdgkafaclaaa
theorem wf8 {x : Int} (h : wfI .u8 x) : 0 ≤ x ∧ x < 256 := by
  have h2 : (decide (IntKind.u8.min ≤ x) && decide (x ≤ IntKind.u8.max)) = true := h
  rw [Bool.and_eq_true, decide_eq_true_eq, decide_eq_true_eq] at h2
  have e1 : IntKind.u8.min = 0 := by decide
  have e2 : IntKind.u8.max = 255 := by decide
  omega
end Go.Proofs.Ythogdgkafaclaaa
end
section
set_option linter.unusedVariables false
set_option linter.unusedSimpArgs false
namespace Go.Proofs.Ythogdgkafaclaaa
open Go.RowKit
open Go.RowKit Go.ChangeShapes Go.WideShapes Go.ChangeAt
theorem weedLeft_row (f : Fld) (t : Int) (h1 : wfI .u8 t) : ∃ K, G_WeedLeft K f t = some true := weedLeft_true f t (wf8 h1)
set_option maxRecDepth 100000 in
theorem weedLeft_lifted (os : Os) (started : os.Started) (H : Type) (enc : TypeId × Value → H) :
    ReturnsInHanded {} Try.checked os 12 .any (Rows.weedLeftSpec.pre6 enc Try.prog Try.f12 Rows.weedLeftRow.domain false) (Rows.weedLeftSpec.post enc Try.prog Try.f12 false true false false) := by
  refine returnsInHanded_of_change_sized (C := Try.checked) ownT started (by kernel_rfl) Try.func12
    (ChangeSpec.witness6 (enc := enc) (C := Try.checked) false ⟨#[], #[.agg #[.int .i64 0, .int .i64 0, .int .i64 0, .int .i64 0, .slice none 0 0], .int .u8 0], []⟩ 8 (by kernel_rfl) (by kernel_rfl) (by kernel_rfl) (by kernel_rfl)) ?_
  intro W base args ds gs before hval0 hW hcnd hsz _
  have hval : ∀ (j : Nat) t v, Try.f12.params[j]? = some t → args[j]? = some v → Value.okWide Try.prog W .any base t v := hval0
  have hW' := hW
  obtain ⟨p, q, hA0, hV, rfl, hfz, hnd⟩ := hW
  have hA : DataW.TrodAll enc Try.prog W 0 (fun _ => true) true Try.f12.params.toList args.toList ds p := hA0
  obtain ⟨rfl, rfl⟩ := trodVars_none hV
  simp only [List.append_nil] at hW'
  have hlt : ∀ x ∈ p, x.block < W.heap.size := fun x hx => by simpa using hW'.lt x hx
  have hAk := hA
  have hsz2 : (DataW.weightsEach Try.prog (Try.f12.params.toList ++ []) (ds ++ [])).all (· ≤ reachBytes) = true := hsz
  rw [Try.params12] at hA hval hsz2
  obtain ⟨v0, v1, d0, d1, p0, p1, rfl, rfl, rfl, h0, h1⟩ := trodAll_two hA
  obtain ⟨x0, cs0, hv0, ⟨A0_0, c0_0, rfl, s0_0⟩, w0⟩ := val_agg Try.underlying26 opn_26 (hval 0 26 v0 rfl rfl) h0 (slim_at (j := 0) hsz2 rfl rfl)
  obtain ⟨x1, hv1, w1⟩ := val_int Try.underlying5 (hval 1 5 v1 rfl rfl) h1
  subst hv0
  subst hv1
  obtain ⟨K, hG⟩ := weedLeft_row x0 x1 w1
  refine (ret_calls (a12 K x0 x1 A0_0 c0_0 ZA W s0_0 hG)).mono fun e W' ⟨v, he, hx, hv⟩ => ?_
  subst he
  subst hv
  exact ⟨_, rfl, post_of_ext (pa := (p0 ++ p1)) (pv := []) hW' (fun _ _ _ => trodAll_mk1 (shut_bool Try.underlying4 _)) (fun sp hs => args_read kidsT fullT (by rw [Try.params12]; decide) hAk hx hlt sp (fun x hx' => hs x (by simpa using hx'))) (fun _ _ => rfl) (by simp) hx (ok_one (by kernel_rfl) rfl (okWide_bool_mk Try.underlying4 _))⟩
theorem weedLeft_holds : Rows.WeedLeftSaid :=
  OpenClaim.holds_of_wide 12 Try.f12 rfl rfl rfl rfl rfl rfl rfl ⟨rfl, rfl, rfl, rfl, rfl⟩ rfl rfl rfl rfl rfl (by kernel_rfl) Try.func12 (by kernel_rfl)
    (of_decide_eq_true (by kernel_rfl)) (by unfold Func.isWrapper; first | (rw [if_pos (by decide +kernel)]; kernel_rfl) | (rw [if_neg (by decide +kernel)]; exact ⟨rfl, rfl⟩))
    (fun os started H enc _ => weedLeft_lifted os started H enc)
end Go.Proofs.Ythogdgkafaclaaa
end
