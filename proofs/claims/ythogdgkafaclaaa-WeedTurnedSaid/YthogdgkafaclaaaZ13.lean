import Derived.Test.YthogdgkafaclaaaBD5
import Derived.ProofKit
import Derived.ChangeSame
import Derived.SizedLaws
import Derived.Deep.Slices
import Derived.Test.YthogdgkafaclaaaProg
import Derived.Test.YthogdgkafaclaaaRows
/-
  Proved: the law WeedTurned returns true for every argument that the row hands over, and leaves every argument as it was; no condition beside the row's own.
-/
set_option linter.all false
section
namespace Go.Proofs.Ythogdgkafaclaaa
theorem bd {α β : Type} {x : Option α} {a : α} {f : α → Option β} (h : x = some a) : x.bind f = f a := by rw [h]; rfl
theorem i64b {β : Type} {x : Int} {f : Int → Option β} (h0 : -9223372036854775808 ≤ x) (h1 : x ≤ 9223372036854775807) : (i64 x).bind f = f x := bd (i64_eq h0 h1)
theorem idxb {α β : Type} {xs : List α} {k : Nat} {f : α → Option β} (h : k < xs.length) : (idx xs (k : Int)).bind f = f xs[k] := bd (idx_eq h)
theorem ifob {β : Type} {p : Prop} [Decidable p] {f : Unit → Option β} (h : p) : (ifo p).bind f = f () := bd (if_pos h)
theorem remb {β : Type} {a b : Int} {f : Int → Option β} (h0 : 0 ≤ a) (h1 : 1 ≤ b) : (rem a b).bind f = f (a % b) := bd (if_pos ⟨h0, h1⟩)
theorem ct {α : Type} {b : Bool} {x y : α} (h : b = true) : cond b x y = x := by rw [h]; rfl
theorem cf {α : Type} {b : Bool} {x y : α} (h : b = false) : cond b x y = y := by rw [h]; rfl
theorem nt {α : Type} {x y : α} : cond (!true) x y = y := rfl
theorem nf {α : Type} {x y : α} : cond (!false) x y = x := rfl
theorem dt {p : Prop} [Decidable p] (h : p) : decide p = true := decide_eq_true h
theorem df {p : Prop} [Decidable p] (h : ¬ p) : decide p = false := decide_eq_false h
theorem g_In (K : Nat) (n a b : Int) : G_In K n a b = some (inR n a b) := by unfold G_In inR; cases decide (a ≤ n) <;> rfl
theorem g_Within (K : Nat) (f : Fld) (lo hi : Int) : G_Within K (⟨lo, hi⟩ : Int × Int) 0 f.rows = some (rngOk f lo hi) := by
  unfold G_Within rngOk
  simp only []
  cases decide ((0 : Int) ≤ lo) <;> cases decide (lo ≤ hi) <;> rfl
/-- How often somebody stands in a part of a list. -/
def part (l : List Int) (who : Int) (fr n : Nat) : Nat := cnt who ((l.drop fr).take n)
theorem part_le (l : List Int) (who : Int) (fr n : Nat) : part l who fr n ≤ n := by
  unfold part cnt
  exact Nat.le_trans List.countP_le_length (by simp; omega)
theorem l_Many (f : Fld) (hw : 0 ≤ f.wd) (hw3 : f.wd ≤ 3) (hr : f.rows ≤ 7) : ∀ (n m i : Nat) (s : Int), f.rows = i + n → n < m → 0 ≤ s → s * (f.wd + 1) ^ n ≤ 1000000 → G_Many_L2 f m s (i : Int) = some (s * (f.wd + 1) ^ n)
  | n, 0, i, s, h, hm, _, _ => by omega
  | 0, m + 1, i, s, h, hm, h0, h1 => by
    unfold G_Many_L2
    rw [cf (df (by omega))]
    simp
  | n + 1, m + 1, i, s, h, hm, h0, h1 => by
    unfold G_Many_L2
    have hp : 1 ≤ (f.wd + 1) ^ n := by
      have h9 : 0 < (f.wd + 1) ^ n := Int.pow_pos (by omega)
      omega
    have hs : s * (f.wd + 1) * (f.wd + 1) ^ n ≤ 1000000 := by
      rw [Int.mul_assoc]; rw [Int.pow_succ, Int.mul_comm ((f.wd + 1) ^ n)] at h1; exact h1
    have h2 : 0 ≤ s * (f.wd + 1) := Int.mul_nonneg h0 (by omega)
    have h3 : s * (f.wd + 1) ≤ 1000000 := by
      have h4 := Int.mul_le_mul_of_nonneg_left hp h2
      omega
    rw [ct (dt (by omega)), i64b (by omega) (by omega), i64b (by omega) (by omega), i64b (by omega) (by omega)]
    have e : ((i : Int) + 1) = ((i + 1 : Nat) : Int) := by omega
    rw [e, l_Many f hw hw3 hr n m (i + 1) (s * (f.wd + 1)) (by omega) (by omega) h2 hs]
    rw [Int.mul_assoc, Int.pow_succ, Int.mul_comm ((f.wd + 1) ^ n)]
theorem g_Many {K : Nat} {f : Fld} (hK : 1000 ≤ K) (hw : 0 ≤ f.wd) (hw3 : f.wd ≤ 3) (hr0 : 0 ≤ f.rows) (hr : f.rows ≤ 7) : G_Many K f = some (many f) := by
  unfold G_Many
  have h := (pow_bd7 (f.wd + 1) (by omega) (by omega) f.rows.toNat (by omega)).2
  have := l_Many f hw hw3 hr f.rows.toNat K 0 1 (by omega) (by omega) (by omega) (by omega)
  rw [Int.natCast_zero] at this
  rw [this]
  simp [many]
theorem talOk_ref (f : Fld) (t : Tly) : talOk f t = (inR t.who 0 (f.wd - 1) && (inR t.fr 0 (f.rows - 1) && (inR t.to t.fr (f.rows - 1) && rngOk f t.lo t.hi))) := by
  rw [Bool.eq_iff_iff]
  unfold talOk
  simp only [Bool.and_eq_true, inR_iff, decide_eq_true_eq]
  constructor
  · rintro ⟨⟨⟨⟨h1, h2⟩, h3⟩, h4⟩, h5⟩; exact ⟨h1, h2, ⟨h4, h3.2⟩, h5⟩
  · rintro ⟨h1, h2, ⟨h3, h4⟩, h5⟩; exact ⟨⟨⟨⟨h1, h2⟩, by omega, h4⟩, h3⟩, h5⟩
theorem l_Fault (K : Nat) (f : Fld) (hr : 1 ≤ f.rows ∧ f.rows ≤ 7) (hw : 1 ≤ f.wd ∧ f.wd ≤ 3) (hl : f.ts.length ≤ 1000000) : ∀ (n m i : Nat), f.ts.length = i + n → n < m → G_Fault_L12 K f m (i : Int) = some (if (f.ts.drop i).all (talOk f) = true then .inr () else .inl 1)
  | n, 0, i, h, hm => by omega
  | 0, m + 1, i, h, hm => by
    unfold G_Fault_L12
    rw [cf (df (by omega)), List.drop_eq_nil_of_le (by omega)]
    rfl
  | n + 1, m + 1, i, h, hm => by
    unfold G_Fault_L12
    have hi : i < f.ts.length := by omega
    rw [ct (dt (by omega)), idxb hi, i64b (by omega) (by omega), bd (g_In ..), List.drop_eq_getElem_cons hi, List.all_cons, talOk_ref]
    cases h1 : inR f.ts[i].who 0 (f.wd - 1) with
    | false => rfl
    | true =>
      rw [nt, i64b (by omega) (by omega), bd (g_In ..)]
      cases h2 : inR f.ts[i].fr 0 (f.rows - 1) with
      | false => rfl
      | true =>
        rw [nt, i64b (by omega) (by omega), bd (g_In ..)]
        cases h3 : inR f.ts[i].to f.ts[i].fr (f.rows - 1) with
        | false => rfl
        | true =>
          rw [nt, bd (g_Within ..)]
          cases h4 : rngOk f f.ts[i].lo f.ts[i].hi with
          | false => rfl
          | true =>
            have e : ((i : Int) + 1) = ((i + 1 : Nat) : Int) := by omega
            rw [nt, i64b (by omega) (by omega), e, l_Fault K f hr hw hl n m (i + 1) (by omega) (by omega)]
            rfl
theorem g_Fault {K : Nat} {f : Fld} (hK : 1000 ≤ K) : G_Fault K f = some (check f) := by
  unfold G_Fault check
  by_cases hb : big f = true
  · rw [if_pos hb]
    simp only [big, Bool.or_eq_true, decide_eq_true_eq] at hb
    by_cases h1 : 7 < f.rows
    · rw [ct (dt h1)]
    · rw [cf (df h1)]
      by_cases h2 : 3 < f.wd
      · rw [ct (dt h2)]
      · rw [cf (df h2), ct (dt (by omega))]
  · rw [if_neg hb]
    simp only [big, Bool.or_eq_true, decide_eq_true_eq, not_or] at hb
    rw [cf (df hb.1), cf (df hb.2.1), cf (df hb.2.2)]
    by_cases hr : f.rows < 1
    · rw [ct (dt hr), if_pos (by simp [bad, hr])]
    · by_cases hw : f.wd < 1
      · rw [cf (df hr), ct (dt hw), if_pos (by simp [bad, hw])]
      · rw [cf (df hr), cf (df hw), bd (g_Within ..)]
        have hbad : bad f = (!rngOk f f.lo f.hi || !f.ts.all (talOk f)) := by simp [bad, hr, hw]
        rw [hbad]
        cases h3 : rngOk f f.lo f.hi with
        | false => rfl
        | true =>
          have := l_Fault K f ⟨by omega, by omega⟩ ⟨by omega, by omega⟩ (by omega) f.ts.length K 0 (by omega) (by omega)
          rw [Int.natCast_zero] at this
          rw [nt, bd this, List.drop_zero]
          cases h4 : f.ts.all (talOk f) with
          | false => rfl
          | true =>
            rw [if_pos rfl, if_neg (by decide)]
            show (G_Many K f).bind _ = _
            rw [bd (g_Many hK (by omega) (by omega) (by omega) (by omega))]
            by_cases h5 : 2500 < many f
            · rw [ct (dt h5), if_pos h5]
            · rw [cf (df h5), if_neg h5]
theorem g_fault {K : Nat} {f : Fld} (hK : 1000 ≤ K) : G_fault K f = some (check f) := by unfold G_fault; rw [bd (g_Fault hK)]
/-- The fields that the laws go through. -/
def thin (f : Fld) : Bool := decide (f.ts.length ≤ 7) && (decide (check f ≠ 0) || decide (many f ≤ 250))
theorem g_Thin {K : Nat} {f : Fld} (hK : 1000 ≤ K) : G_Thin K f = some (thin f) := by
  unfold G_Thin thin
  by_cases h1 : f.ts.length ≤ 7
  · rw [ct (dt (by omega)), bd (g_Fault hK)]
    by_cases h2 : check f = 0
    · obtain ⟨hr, hw, _⟩ := check_ok h2
      rw [cf (by simp [h2]), bd (g_Many hK (by omega) (by omega) (by omega) (by omega))]
      simp [h1, h2]
    · rw [ct (by simp [h2])]
      simp [h1, h2]
  · rw [cf (df (by omega))]
    simp [h1]
theorem thin_len {f : Fld} (h : thin f = true) : f.ts.length ≤ 7 := by
  simp only [thin, Bool.and_eq_true, decide_eq_true_eq] at h; exact h.1
theorem g_to (K : Nat) (r : Int × Int) : G_to K r = some r := rfl
theorem l_Field (K : Nat) (f : Fld) (hl : f.ts.length ≤ 7) : ∀ (n m i : Nat), f.ts.length = i + n → n < m → G_Field_L7 K f m (i : Int) (f.ts.take i) = some f.ts
  | n, 0, i, h, hm => by omega
  | 0, m + 1, i, h, hm => by
    unfold G_Field_L7
    rw [cf (df (by omega)), List.take_of_length_le (by omega)]
  | n + 1, m + 1, i, h, hm => by
    unfold G_Field_L7
    have hi : i < f.ts.length := by omega
    have e : ((i : Int) + 1) = ((i + 1 : Nat) : Int) := by omega
    rw [ct (dt (by omega)), idxb hi, bd (g_to ..), ifob (by simp; omega), i64b (by omega) (by omega), e]
    have ht : f.ts.take i ++ [(⟨f.ts[i].who, f.ts[i].fr, f.ts[i].to, f.ts[i].lo, f.ts[i].hi⟩ : Tly)] = f.ts.take (i + 1) := (List.take_succ_eq_append_getElem hi).symm
    show G_Field_L7 K f m ((i + 1 : Nat) : Int) (f.ts.take i ++ [(⟨f.ts[i].who, f.ts[i].fr, f.ts[i].to, f.ts[i].lo, f.ts[i].hi⟩ : Tly)]) = _
    rw [ht, l_Field K f hl n m (i + 1) (by omega) (by omega)]
theorem g_Field {K : Nat} {f : Fld} (hK : 1000 ≤ K) (hl : f.ts.length ≤ 7) : G_Field K f = some f := by
  unfold G_Field
  have := l_Field K f hl f.ts.length K 0 (by omega) (by omega)
  rw [Int.natCast_zero, List.take_zero] at this
  rw [bd (g_to ..), bd this]
/-- All tallies but none. -/
theorem allAt_nil (l : List Int) : ∀ (ts : List Tly) (i : Nat), allAt l [] i ts = ts.all fun t => inR (didK l [t.who, t.fr, t.to]) t.lo t.hi
  | [], _ => rfl
  | t :: ts, i => by
    rw [allAt, allAt_nil l ts (i + 1), List.all_cons]
    rfl
/-- Somebody's rows in a tally's stretch. -/
def tdid (l : List Int) (t : Tly) : Int := (part l t.who t.fr.toNat (t.to + 1 - t.fr).toNat : Nat)
theorem didK_part (l : List Int) (t : Tly) (h : 0 ≤ t.fr ∧ t.fr ≤ t.to) : didK l [t.who, t.fr, t.to] = tdid l t := by
  unfold didK tdid part
  have : (t.to + 1).toNat - t.fr.toNat = (t.to + 1 - t.fr).toNat := by omega
  simp only [this]
theorem part_pad (l : List Int) (who : Int) (fr n : Nat) (h : fr + n ≤ l.length) : part (pad l) who fr n = part l who fr n := by
  unfold part pad
  rw [List.drop_append_of_le_length (by omega), List.take_append_of_le_length (by simp; omega)]
theorem tdid_pad (f : Fld) (l : List Int) (t : Tly) (hl : (l.length : Int) = f.rows) (h : talOk f t = true) : tdid (pad l) t = tdid l t := by
  have := talOk_bd h
  unfold tdid
  rw [part_pad _ _ _ _ (by omega)]
/-- What the reference calls allowed, and a truth. -/
def alw (f : Fld) (l : List Int) : Bool := l.all (okWho f) && (decide ((l.length : Int) = f.rows) && inR ((part l (-1) 0 l.length : Nat) : Int) f.lo f.hi)
def tru (f : Fld) (l : List Int) : Bool := alw f l && f.ts.all fun t => inR (tdid l t) t.lo t.hi
theorem okWho_in (f : Fld) (n : Int) (hw : 1 ≤ f.wd) : okWho f n = inR n (-1) (f.wd - 1) := by
  rw [Bool.eq_iff_iff]
  simp only [okWho, Bool.or_eq_true, beq_iff_eq, inR_iff]
  omega
end Go.Proofs.Ythogdgkafaclaaa
end
section
namespace Go.Proofs.Ythogdgkafaclaaa
/-- The i-th list of so many numbers. -/
def nthL (b : Int) : Nat → Int → List Int
  | 0, _ => []
  | n + 1, i => (i % b - 1) :: nthL b n (i / b)
theorem nthL_surj (b : Int) (hb : 1 ≤ b) : ∀ (l : List Int), (∀ x ∈ l, -1 ≤ x ∧ x ≤ b - 2) → ∃ i : Nat, (i : Int) < b ^ l.length ∧ nthL b l.length i = l
  | [], _ => ⟨0, by simp, rfl⟩
  | x :: l, h => by
    obtain ⟨i, hi, he⟩ := nthL_surj b hb l fun y hy => h y (List.mem_cons_of_mem _ hy)
    have hx := h x (List.mem_cons_self ..)
    have h0 : 0 ≤ (x + 1) + b * (i : Int) := by
      have : 0 ≤ b * (i : Int) := Int.mul_nonneg (by omega) (by omega)
      omega
    refine ⟨((x + 1) + b * (i : Int)).toNat, ?_, ?_⟩
    · have h2 : b ^ (l.length + 1) = b * b ^ l.length := by rw [Int.pow_succ, Int.mul_comm]
      rw [Int.toNat_of_nonneg h0, List.length_cons, h2]
      have h1 : b * ((i : Int) + 1) ≤ b * b ^ l.length := Int.mul_le_mul_of_nonneg_left (by omega) (by omega)
      rw [Int.mul_add, Int.mul_one] at h1
      omega
    · rw [Int.toNat_of_nonneg h0]
      simp only [List.length_cons, nthL]
      rw [Int.add_mul_emod_self_left, Int.add_mul_ediv_left _ _ (by omega), Int.emod_eq_of_lt (by omega) (by omega), Int.ediv_eq_zero_of_lt (by omega) (by omega), Int.zero_add, he]
      congr 1
      omega
/-- The reference's truths. -/
def refs (f : Fld) : List (List Int) := ((List.range (many f).toNat).map fun i : Nat => nthL (f.wd + 1) f.rows.toNat (i : Int)).filter (tru f)
theorem many_nn {f : Fld} (hc : check f = 0) : 0 ≤ many f := by
  obtain ⟨hr, hw, _⟩ := check_ok hc
  exact (pow_bd7 (f.wd + 1) (by omega) (by omega) f.rows.toNat (by omega)).1
theorem tru_alw {f : Fld} {l : List Int} (h : tru f l = true) : (∀ x ∈ l, okWho f x = true) ∧ (l.length : Int) = f.rows ∧ inR ((part l (-1) 0 l.length : Nat) : Int) f.lo f.hi = true := by
  simp only [tru, alw, Bool.and_eq_true, decide_eq_true_eq, List.all_eq_true] at h
  exact ⟨h.1.1, h.1.2.1, h.1.2.2⟩
theorem mem_refs {f : Fld} (hc : check f = 0) {l : List Int} : l ∈ refs f ↔ tru f l = true := by
  obtain ⟨hr, hw, _⟩ := check_ok hc
  unfold refs
  rw [List.mem_filter]
  constructor
  · exact fun h => h.2
  · intro h
    refine ⟨?_, h⟩
    obtain ⟨h1, h2, _⟩ := tru_alw h
    obtain ⟨i, hi, he⟩ := nthL_surj (f.wd + 1) (by omega) l fun x hx => by
      have := h1 x hx
      rw [okWho_in f x hw.1, inR_iff] at this
      omega
    have hl : f.rows.toNat = l.length := by omega
    rw [List.mem_map]
    refine ⟨i, ?_, by rw [hl]; exact he⟩
    have h0 := many_nn hc
    have hm : many f = (f.wd + 1) ^ l.length := by unfold many; rw [hl]
    rw [List.mem_range]
    omega
theorem mem_whos {wd x : Int} (hw : 0 ≤ wd) : x ∈ whos wd ↔ -1 ≤ x ∧ x ≤ wd - 1 := by
  simp only [whos, List.mem_map, List.mem_range]
  constructor
  · rintro ⟨j, hj, rfl⟩; omega
  · intro h; exact ⟨(x + 1).toNat, by omega, by omega⟩
theorem mem_enum (p : List Int → Bool) (wd : Int) : ∀ (k : Nat) (pre a : List Int), a ∈ enum p wd k pre ↔ ∃ t : List Int, t.length = k ∧ (∀ x ∈ t, x ∈ whos wd) ∧ p (pad (pre ++ t)) = true ∧ a = pad (pre ++ t)
  | 0, pre, a => by
    unfold enum
    constructor
    · intro h
      split at h
      · rename_i hp
        exact ⟨[], rfl, by simp, by simpa using hp, by simpa using h⟩
      · cases h
    · rintro ⟨t, ht, _, hp, rfl⟩
      obtain rfl := List.length_eq_zero_iff.1 ht
      rw [List.append_nil] at hp ⊢
      rw [if_pos hp]; simp
  | k + 1, pre, a => by
    simp only [enum, List.mem_flatMap]
    constructor
    · rintro ⟨x, hx, h⟩
      obtain ⟨t, h1, h2, h3, h4⟩ := (mem_enum p wd k _ a).1 h
      rw [List.append_assoc, List.singleton_append] at h3 h4
      exact ⟨x :: t, by simp [h1], by simpa using ⟨hx, h2⟩, h3, h4⟩
    · rintro ⟨t, h1, h2, h3, h4⟩
      cases t with
      | nil => simp at h1
      | cons x t =>
        refine ⟨x, h2 x (List.mem_cons_self ..), (mem_enum p wd k _ a).2 ⟨t, by simpa using h1, fun y hy => h2 y (List.mem_cons_of_mem _ hy), ?_, ?_⟩⟩
        · rw [List.append_assoc, List.singleton_append]; exact h3
        · rw [List.append_assoc, List.singleton_append]; exact h4
theorem all_congr {α : Type} {p q : α → Bool} : ∀ {l : List α}, (∀ x ∈ l, p x = q x) → l.all p = l.all q
  | [], _ => rfl
  | a :: l, h => by rw [List.all_cons, List.all_cons, h a (List.mem_cons_self ..), all_congr fun x hx => h x (List.mem_cons_of_mem _ hx)]
theorem right_tru {f : Fld} {l : List Int} (ht : ∀ t ∈ f.ts, talOk f t = true) (hl : (l.length : Int) = f.rows) : rightB f (pad l) [] = (f.ts.all (fun t => inR (tdid l t) t.lo t.hi) && inR ((part l (-1) 0 l.length : Nat) : Int) f.lo f.hi) := by
  unfold rightB
  rw [allAt_nil]
  congr 1
  · refine all_congr fun t h => ?_
    have h1 := talOk_bd (ht t h)
    rw [didK_part _ _ ⟨h1.2.1.1, h1.2.1.2.1⟩, tdid_pad f l t hl (ht t h)]
  · have h2 : f.rows.toNat = l.length := by omega
    have h3 : (pad l).take f.rows.toNat = l.take l.length := by
      unfold pad; rw [h2, List.take_append_of_le_length (Nat.le_refl _)]
    rw [h3]
    unfold part
    rw [List.drop_zero]
theorem mem_truths {f : Fld} (hc : check f = 0) {a : List Int} : a ∈ truths f [] ↔ ∃ l, l ∈ refs f ∧ a = pad l := by
  obtain ⟨hr, hw, _, ht, _⟩ := check_ok hc
  unfold truths
  rw [mem_enum]
  constructor
  · rintro ⟨t, h1, h2, h3, h4⟩
    rw [List.nil_append] at h3 h4
    refine ⟨t, (mem_refs hc).2 ?_, h4⟩
    have hl : (t.length : Int) = f.rows := by omega
    have h3' : rightB f (pad t) [] = true := h3
    rw [right_tru ht hl, Bool.and_eq_true] at h3'
    have h5 : t.all (okWho f) = true := by
      rw [List.all_eq_true]
      intro x hx
      rw [okWho_in f x hw.1, inR_iff]
      have := (mem_whos (by omega)).1 (h2 x hx)
      omega
    unfold tru alw
    rw [h5, h3'.1, h3'.2]
    simp [hl]
  · rintro ⟨l, h, rfl⟩
    have h1 := (mem_refs hc).1 h
    obtain ⟨h2, h3, h4⟩ := tru_alw h1
    refine ⟨l, by omega, fun x hx => ?_, ?_, by simp⟩
    · rw [mem_whos (by omega)]
      have := h2 x hx
      rw [okWho_in f x hw.1, inR_iff] at this
      omega
    · rw [List.nil_append]
      show rightB f (pad l) [] = true
      rw [right_tru ht h3, h4]
      simp only [tru, Bool.and_eq_true] at h1
      rw [h1.2]; rfl
theorem truths_nil {f : Fld} (hc : check f = 0) : truths f [] = [] ↔ refs f = [] := by
  constructor
  · intro h
    rw [List.eq_nil_iff_forall_not_mem] at h ⊢
    exact fun l hl => h (pad l) ((mem_truths hc).2 ⟨l, hl, rfl⟩)
  · intro h
    rw [List.eq_nil_iff_forall_not_mem] at h ⊢
    rintro a ha
    obtain ⟨l, hl, _⟩ := (mem_truths hc).1 ha
    exact h l hl
/-- The error that comes with a question. -/
def sureE (f : Fld) : Int := if check f ≠ 0 then check f else if refs f = [] then 11 else 0
theorem askE_true (f : Fld) : askE f true = sureE f := by
  unfold askE sureE
  by_cases hc : check f = 0
  · simp only [hc, ne_eq, not_true_eq_false, if_false]
    by_cases h : refs f = []
    · rw [if_neg (by decide), if_pos h, if_pos ((truths_nil hc).2 h)]
    · rw [if_neg (by decide), if_neg h, if_neg (fun e => h ((truths_nil hc).1 e))]
  · rw [if_pos hc, if_pos hc]
theorem cntr_pad {f : Fld} {l : List Int} {who : Int} (hl : (l.length : Int) = f.rows) : cntr f (pad l) who = (part l who 0 l.length : Nat) := by
  unfold cntr part pad
  have h2 : f.rows.toNat = l.length := by omega
  rw [h2, List.take_append_of_le_length (Nat.le_refl _), List.drop_zero]
/-- A least and a greatest number, from a first one on. -/
theorem foldl_mm (g : List Int → Int) : ∀ (T : List (List Int)) (r : Int × Int),
    (T.foldl (fun r a => (min r.1 (g a), max r.2 (g a))) r).1 ≤ r.1 ∧ r.2 ≤ (T.foldl (fun r a => (min r.1 (g a), max r.2 (g a))) r).2 ∧
    (∀ a ∈ T, (T.foldl (fun r a => (min r.1 (g a), max r.2 (g a))) r).1 ≤ g a ∧ g a ≤ (T.foldl (fun r a => (min r.1 (g a), max r.2 (g a))) r).2) ∧
    ((T.foldl (fun r a => (min r.1 (g a), max r.2 (g a))) r).1 = r.1 ∨ ∃ a ∈ T, (T.foldl (fun r a => (min r.1 (g a), max r.2 (g a))) r).1 = g a) ∧
    ((T.foldl (fun r a => (min r.1 (g a), max r.2 (g a))) r).2 = r.2 ∨ ∃ a ∈ T, (T.foldl (fun r a => (min r.1 (g a), max r.2 (g a))) r).2 = g a)
  | [], r => ⟨Int.le_refl _, Int.le_refl _, by simp, .inl rfl, .inl rfl⟩
  | b :: T, r => by
    obtain ⟨h1, h2, h3, h4, h5⟩ := foldl_mm g T (min r.1 (g b), max r.2 (g b))
    rw [List.foldl_cons]
    simp only [] at h1 h2 h3 h4 h5
    refine ⟨by clear h4 h5; omega, by clear h4 h5; omega, ?_, ?_, ?_⟩
    · clear h4 h5
      intro a ha
      rcases List.mem_cons.1 ha with rfl | ha
      · exact ⟨by omega, by omega⟩
      · exact h3 a ha
    · clear h5
      rcases h4 with h4 | ⟨a, ha, h4⟩
      · by_cases h : r.1 ≤ g b
        · exact .inl (by omega)
        · exact .inr ⟨b, List.mem_cons_self .., by omega⟩
      · exact .inr ⟨a, List.mem_cons_of_mem _ ha, h4⟩
    · clear h4
      rcases h5 with h5 | ⟨a, ha, h5⟩
      · by_cases h : g b ≤ r.2
        · exact .inl (by omega)
        · exact .inr ⟨b, List.mem_cons_self .., by omega⟩
      · exact .inr ⟨a, List.mem_cons_of_mem _ ha, h5⟩
/-- The reference's bounds. -/
def didB (T : List (List Int)) (who : Int) : Int × Int := T.foldl (fun (r : Int × Int) (a : List Int) => (min r.1 (part a who 0 a.length : Nat), max r.2 (part a who 0 a.length : Nat))) (1099511627776, -1099511627776)
/-- Both say the same of the same truths. -/
theorem doneOf_didB {f : Fld} (hc : check f = 0) (hn : refs f ≠ []) (who : Int) : doneOf f (truths f []) who = didB (refs f) who := by
  obtain ⟨hr, hw, _⟩ := check_ok hc
  have hmin : ∀ (r : Int × Int) (a : List Int), rngS f who r a = (min r.1 (cntr f a who), max r.2 (cntr f a who)) := fun r a => rfl
  have hfold : doneOf f (truths f []) who = (truths f []).foldl (fun r a => (min r.1 (cntr f a who), max r.2 (cntr f a who))) (cntr f ((truths f []).headD []) who, cntr f ((truths f []).headD []) who) := rfl
  have hne : truths f [] ≠ [] := fun e => hn ((truths_nil hc).1 e)
  have hhd : (truths f []).headD [] ∈ truths f [] := by
    cases h : truths f [] with
    | nil => exact absurd h hne
    | cons a T => simp
  obtain ⟨p1, p2, p3, p4, p5⟩ := foldl_mm (fun a => cntr f a who) (truths f []) (cntr f ((truths f []).headD []) who, cntr f ((truths f []).headD []) who)
  obtain ⟨q1, q2, q3, q4, q5⟩ := foldl_mm (fun a => ((part a who 0 a.length : Nat) : Int)) (refs f) (1099511627776, -1099511627776)
  rw [← hfold] at p1 p2 p3 p4 p5
  have hd : didB (refs f) who = (refs f).foldl (fun r a => (min r.1 ((part a who 0 a.length : Nat) : Int), max r.2 ((part a who 0 a.length : Nat) : Int))) (1099511627776, -1099511627776) := rfl
  rw [← hd] at q1 q2 q3 q4 q5
  have hlen : ∀ l ∈ refs f, (l.length : Int) = f.rows := fun l hl => (tru_alw ((mem_refs hc).1 hl)).2.1
  -- each is met by the other
  have toP : ∀ l ∈ refs f, ∃ a ∈ truths f [], cntr f a who = ((part l who 0 l.length : Nat) : Int) := fun l hl => ⟨pad l, (mem_truths hc).2 ⟨l, hl, rfl⟩, cntr_pad (hlen l hl)⟩
  have toQ : ∀ a ∈ truths f [], ∃ l ∈ refs f, cntr f a who = ((part l who 0 l.length : Nat) : Int) := fun a ha => by
    obtain ⟨l, hl, rfl⟩ := (mem_truths hc).1 ha
    exact ⟨l, hl, cntr_pad (hlen l hl)⟩
  have bnd : ∀ l ∈ refs f, ((part l who 0 l.length : Nat) : Int) ≤ 7 := fun l hl => by
    have h1 := part_le l who 0 l.length
    have h2 := hlen l hl
    omega
  obtain ⟨l0, hl0⟩ : ∃ l, l ∈ refs f := by
    cases h : refs f with
    | nil => exact absurd h hn
    | cons a T => exact ⟨a, List.mem_cons_self ..⟩
  have b0 := bnd l0 hl0
  have m0 := q3 l0 hl0
  have P4 : ∃ a ∈ truths f [], (doneOf f (truths f []) who).1 = cntr f a who := by
    rcases p4 with h | h
    · exact ⟨_, hhd, h⟩
    · exact h
  have P5 : ∃ a ∈ truths f [], (doneOf f (truths f []) who).2 = cntr f a who := by
    rcases p5 with h | h
    · exact ⟨_, hhd, h⟩
    · exact h
  have Q4 : ∃ a ∈ refs f, (didB (refs f) who).1 = ((part a who 0 a.length : Nat) : Int) := by
    rcases q4 with h | h
    · simp only [] at h m0; omega
    · exact h
  have Q5 : ∃ a ∈ refs f, (didB (refs f) who).2 = ((part a who 0 a.length : Nat) : Int) := by
    rcases q5 with h | h
    · simp only [] at h m0; omega
    · exact h
  obtain ⟨a4, ha4, e4⟩ := P4
  obtain ⟨a5, ha5, e5⟩ := P5
  obtain ⟨l4, hl4, g4⟩ := Q4
  obtain ⟨l5, hl5, g5⟩ := Q5
  obtain ⟨x4, hx4, i4⟩ := toQ a4 ha4
  obtain ⟨x5, hx5, i5⟩ := toQ a5 ha5
  obtain ⟨y4, hy4, j4⟩ := toP l4 hl4
  obtain ⟨y5, hy5, j5⟩ := toP l5 hl5
  have u1 := (q3 x4 hx4).1
  have u2 := (q3 x5 hx5).2
  have u3 := (p3 y4 hy4).1
  have u4 := (p3 y5 hy5).2
  refine Prod.ext ?_ ?_ <;> omega
theorem donesTo_len (f : Fld) (T : List (List Int)) (k : Nat) : (donesTo f T k).length = k := by simp [donesTo]
theorem donesTo_get (f : Fld) (T : List (List Int)) (k i : Nat) (h : i < (donesTo f T k).length) : (donesTo f T k)[i] = doneOf f T (i : Int) := by simp [donesTo]
end Go.Proofs.Ythogdgkafaclaaa
end
section
namespace Go.Proofs.Ythogdgkafaclaaa
theorem sorted_ext : ∀ {l m : List Int}, l.Pairwise (· < ·) → m.Pairwise (· < ·) → (∀ x, x ∈ l ↔ x ∈ m) → l = m
  | [], [], _, _, _ => rfl
  | [], b :: m, _, _, h => by have := (h b).2 (List.mem_cons_self ..); cases this
  | a :: l, [], _, _, h => by have := (h a).1 (List.mem_cons_self ..); cases this
  | a :: l, b :: m, h1, h2, h => by
    rw [List.pairwise_cons] at h1 h2
    have hab : a = b := by
      rcases List.mem_cons.1 ((h a).1 (List.mem_cons_self ..)) with e | e
      · exact e
      · rcases List.mem_cons.1 ((h b).2 (List.mem_cons_self ..)) with e2 | e2
        · exact e2.symm
        · have := h1.1 b e2; have := h2.1 a e; omega
    subst hab
    congr 1
    refine sorted_ext h1.2 h2.2 fun x => ⟨fun hx => ?_, fun hx => ?_⟩
    · rcases List.mem_cons.1 ((h x).1 (List.mem_cons_of_mem _ hx)) with e | e
      · have := h1.1 x hx; omega
      · exact e
    · rcases List.mem_cons.1 ((h x).2 (List.mem_cons_of_mem _ hx)) with e | e
      · have := h2.1 x hx; omega
      · exact e
theorem getI {zs : List Int} {m : Nat} (h : m < zs.length) : zs.toArray[m]! = zs[m] := by
  rw [getElem!_pos zs.toArray m (by simpa using h)]; simp
theorem compact_inv {zs : List Int} (hs : zs.Pairwise (· ≤ ·)) : ∀ m, m ≤ zs.length → (Lib.compactUpTo zs.toArray m).Pairwise (· < ·) ∧ ∀ x, x ∈ Lib.compactUpTo zs.toArray m ↔ x ∈ zs.take m
  | 0, _ => by simp [Lib.compactUpTo]
  | m + 1, h => by
    obtain ⟨h1, h2⟩ := compact_inv hs m (by omega)
    have hm : m < zs.length := by omega
    rw [Lib.compactUpTo_succ, List.take_succ_eq_append_getElem hm, getI hm]
    have hle : ∀ x ∈ zs.take m, x ≤ zs[m] := fun x hx => by
      obtain ⟨i, hi, rfl⟩ := List.mem_iff_getElem.1 hx
      rw [List.getElem_take]
      simp at hi
      exact (List.pairwise_iff_getElem.1 hs) i m _ hm (by omega)
    by_cases hk : Lib.keeps zs.toArray m = true
    · rw [if_pos hk]
      refine ⟨?_, fun x => by rw [List.mem_append, List.mem_append, h2]⟩
      rw [List.pairwise_append]
      refine ⟨h1, by simp, fun x hx y hy => ?_⟩
      obtain rfl : y = zs[m] := by simpa using hy
      have hx2 := (h2 x).1 hx
      have hx3 := hle x hx2
      simp only [Lib.keeps, decide_eq_true_eq] at hk
      rcases hk with rfl | hk
      · simp at hx2
      · have hm1 : 0 < m := by
          rcases Nat.eq_zero_or_pos m with rfl | h0
          · simp at hx2
          · exact h0
        rw [getI hm, getI (by omega : m - 1 < zs.length)] at hk
        obtain ⟨i, hi, rfl⟩ := List.mem_iff_getElem.1 hx2
        rw [List.getElem_take] at hx3 ⊢
        simp at hi
        have h5 : zs[m - 1] ≤ zs[m] := (List.pairwise_iff_getElem.1 hs) (m - 1) m _ hm (by omega)
        have h4 : zs[i] ≤ zs[m - 1] := by
          by_cases e : i = m - 1
          · subst e; exact Int.le_refl _
          · exact (List.pairwise_iff_getElem.1 hs) i (m - 1) _ _ (by omega)
        have h6 : zs[m] ≠ zs[m - 1] := hk
        show zs[i] < zs[m]
        omega
    · rw [if_neg hk, List.append_nil]
      refine ⟨h1, fun x => ?_⟩
      rw [h2]
      have hk2 : ¬ (m = 0 ∨ zs.toArray[m]! ≠ zs.toArray[m - 1]!) := by simpa [Lib.keeps] using hk
      have hm1 : 0 < m := by
        rcases Nat.eq_zero_or_pos m with rfl | h0
        · exact absurd (.inl rfl) hk2
        · exact h0
      have he : zs.toArray[m]! = zs.toArray[m - 1]! := Decidable.byContradiction fun e => hk2 (.inr e)
      rw [getI hm, getI (by omega : m - 1 < zs.length)] at he
      have hin : zs[m] ∈ zs.take m := by
        rw [he, List.mem_iff_getElem]
        exact ⟨m - 1, by simp; omega, by simp⟩
      simp only [List.mem_append, List.mem_singleton]
      exact ⟨.inl, fun h => h.elim id fun e => e ▸ hin⟩
theorem whos_sorted (wd : Int) : (whos wd).Pairwise (· < ·) := by
  unfold whos
  rw [List.pairwise_map]
  exact List.pairwise_lt_range.imp fun h => by omega
/-- Who stands in a row of some lists. -/
def whoS (wd : Int) (T : List (List Int)) (row : Nat) : List Int := (whos wd).filter fun x => T.any fun a => a.getD row 0 == x
theorem whoF_eq {wd : Int} {T : List (List Int)} {row : Int} (hw : 0 ≤ wd) (hb : ∀ a ∈ T, -1 ≤ a.getD row.toNat 0 ∧ a.getD row.toNat 0 ≤ wd - 1) : whoF T row = whoS wd T row.toNat := by
  unfold whoF
  have hs : ((T.map fun a : List Int => a.getD row.toNat 0).mergeSort fun x y => decide (x ≤ y)).Pairwise (· ≤ ·) := by
    have := List.pairwise_mergeSort (le := fun x y : Int => decide (x ≤ y)) (fun a b c h1 h2 => by simp at *; omega) (fun a b => by simp; omega) (T.map fun a : List Int => a.getD row.toNat 0)
    exact this.imp fun h => by simpa using h
  obtain ⟨h1, h2⟩ := compact_inv hs _ (Nat.le_refl _)
  refine sorted_ext h1 ((whos_sorted wd).filter _) fun x => ?_
  rw [show Lib.compact ((T.map fun a : List Int => a.getD row.toNat 0).mergeSort fun x y => decide (x ≤ y)) = Lib.compactUpTo ((T.map fun a : List Int => a.getD row.toNat 0).mergeSort fun x y => decide (x ≤ y)).toArray ((T.map fun a : List Int => a.getD row.toNat 0).mergeSort fun x y => decide (x ≤ y)).length from rfl, h2, List.take_length, List.mem_mergeSort]
  unfold whoS
  simp only [List.mem_map, List.mem_filter, mem_whos hw, List.any_eq_true, beq_iff_eq]
  constructor
  · rintro ⟨a, ha, rfl⟩; exact ⟨hb a ha, a, ha, rfl⟩
  · rintro ⟨_, a, ha, e⟩; exact ⟨a, ha, e⟩
def f4 : Fld := ⟨4, 2, 0, 0, [⟨0, 0, 2, 2, 3⟩, ⟨1, 2, 3, 1, 2⟩]⟩
def f5 : Fld := ⟨4, 2, 0, 0, [⟨0, 0, 2, 2, 3⟩, ⟨1, 2, 3, 1, 2⟩, ⟨0, 0, 1, 2, 2⟩]⟩
def f6 : Fld := ⟨4, 2, 0, 0, [⟨0, 0, 2, 2, 3⟩, ⟨1, 2, 3, 1, 2⟩, ⟨1, 0, 1, 2, 2⟩]⟩
theorem who4 : whoF (truths f4 []) 3 = [0, 1] := by
  rw [whoF_eq (wd := 2) (by omega) (by decide +kernel)]
  decide +kernel
theorem awake_1000 : G_awake 1000 = some true := by
  unfold G_awake
  rw [bd (show G_four 1000 [] = some f4 from rfl), bd (show Q_Done 1000 f4 = some ([(2, 3), (1, 2)], 0) by decide +kernel), bd (show G_four 1000 [] = some f4 from rfl)]
  rw [bd (show Q_Who 1000 f4 3 = some ([0, 1], 0) by unfold Q_Who; rw [who4]; decide +kernel)]
  rw [bd (show G_two 1000 = some ⟨0, 0, 1, 2, 2⟩ from rfl), bd (show G_four 1000 [⟨0, 0, 1, 2, 2⟩] = some f5 from rfl), bd (show Q_Ask 1000 f5 0 = some ([2, 3], 0) by decide +kernel), bd (show G_four 1000 [] = some f4 from rfl)]
  rw [bd (show Q_Next 1000 f4 0 = some (0, 3, 0) by decide +kernel), bd (show G_wrong 1000 = some ⟨1, 0, 1, 2, 2⟩ from rfl), bd (show G_four 1000 [⟨1, 0, 1, 2, 2⟩] = some f6 from rfl), bd (show Q_First 1000 f6 = some (2, 0) by decide +kernel)]
  rw [bd (show G_wrong 1000 = some ⟨1, 0, 1, 2, 2⟩ from rfl), bd (show G_four 1000 [⟨1, 0, 1, 2, 2⟩] = some f6 from rfl), bd (show Q_Leave 1000 f6 = some ([0], 0) by decide +kernel)]
  decide +kernel
end Go.Proofs.Ythogdgkafaclaaa
end
section
namespace Go.Proofs.Ythogdgkafaclaaa
/-- The places of the bits that are set. -/
def bitsL (s : Nat) : List Int := ((List.range 8).filter fun x => s / 2 ^ x % 2 == 1).map fun x : Nat => (x : Int)
def lexB : List Int → List Int → Bool
  | a :: as1, b :: bs1 => if a = b then lexB as1 bs1 else decide (a < b)
  | [], _ :: _ => true
  | _, [] => false
/-- Shorter, or as1 long and before it. -/
def sh (a b : List Int) : Bool := decide (a.length < b.length) || (a.length == b.length && lexB a b)
theorem lexB_irr : ∀ a : List Int, lexB a a = false
  | [] => rfl
  | a :: as1 => by rw [lexB, if_pos rfl, lexB_irr as1]
theorem lexB_trans : ∀ a b c : List Int, lexB a b = true → lexB b c = true → lexB a c = true
  | [], b, [], h1, h2 => by cases b <;> cases h1; cases h2
  | [], b, c :: cs1, h1, h2 => rfl
  | a :: as1, [], c, h1, h2 => by cases h1
  | a :: as1, b :: bs1, [], h1, h2 => by cases h2
  | a :: as1, b :: bs1, c :: cs1, h1, h2 => by
    rw [lexB] at h1 h2 ⊢
    by_cases e : a = b
    · subst e
      rw [if_pos rfl] at h1
      by_cases e2 : a = c
      · subst e2
        rw [if_pos rfl] at h2 ⊢
        exact lexB_trans as1 bs1 cs1 h1 h2
      · rw [if_neg e2] at h2 ⊢; exact h2
    · rw [if_neg e, decide_eq_true_eq] at h1
      by_cases e2 : b = c
      · subst e2
        rw [if_neg e, decide_eq_true_eq]; exact h1
      · rw [if_neg e2, decide_eq_true_eq] at h2
        rw [if_neg (by omega), decide_eq_true_eq]; omega
theorem sh_iff {a b : List Int} : sh a b = true ↔ a.length < b.length ∨ (a.length = b.length ∧ lexB a b = true) := by simp [sh]
theorem sh_irr (a : List Int) : sh a a = false := by
  rw [Bool.eq_false_iff]; intro h
  rcases sh_iff.1 h with h | h
  · omega
  · rw [lexB_irr] at h; cases h.2
theorem sh_trans {a b c : List Int} (h : sh a b = true) (g : sh b c = true) : sh a c = true := by
  rw [sh_iff] at h g ⊢
  rcases h with h | h <;> rcases g with g | g
  · exact .inl (by omega)
  · exact .inl (by omega)
  · exact .inl (by omega)
  · exact .inr ⟨by omega, lexB_trans _ _ _ h.2 g.2⟩
theorem cand_in : ∀ n : Nat, n < 8 → ∀ s : Nat, s < 2 ^ n → bitsL s ∈ candAll (n : Int) (n + 1) := by decide +kernel
theorem cand_of : ∀ n : Nat, n < 8 → ∀ l ∈ candAll (n : Int) (n + 1), ∃ s : Nat, s < 2 ^ n ∧ bitsL s = l := by decide +kernel
theorem cand_sorted : ∀ n : Nat, n < 8 → (candAll (n : Int) (n + 1)).Pairwise fun a b => sh a b = true := by decide +kernel
theorem fnd_spec {p : List Int → Bool} : ∀ {L : List (List Int)} (cur : List Int), L.any p = true → ∃ A x B, L = A ++ x :: B ∧ p x = true ∧ (∀ a ∈ A, p a = false) ∧ fnd p cur L = x
  | [], cur, h => by cases h
  | c :: L, cur, h => by
    by_cases hc : p c = true
    · exact ⟨[], c, L, rfl, hc, by simp, by rw [fnd, if_pos hc]⟩
    · have hc' : p c = false := by simpa using hc
      rw [List.any_cons, hc', Bool.false_or] at h
      obtain ⟨A, x, B, h1, h2, h3, h4⟩ := fnd_spec c h
      refine ⟨c :: A, x, B, by rw [h1]; rfl, h2, ?_, by rw [fnd, if_neg hc]; exact h4⟩
      intro a ha
      rcases List.mem_cons.1 ha with rfl | ha
      · exact hc'
      · exact h3 a ha
/-- In turn, the reference takes a shorter list that passes. -/
def pickF (p : List Int → Bool) (cur : List Int) (s : Nat) : List Int := if (sh (bitsL s) cur && p (bitsL s)) = true then bitsL s else cur
theorem pick_inv {n : Nat} (hn : n < 8) {p : List Int → Bool} {c0 : List Int} (h0 : c0 ∈ candAll (n : Int) (n + 1)) (hp : p c0 = true) : ∀ k, k ≤ 2 ^ n →
    (List.range k).foldl (pickF p) c0 ∈ candAll (n : Int) (n + 1) ∧ p ((List.range k).foldl (pickF p) c0) = true ∧ ∀ s, s < k → p (bitsL s) = true → sh (bitsL s) ((List.range k).foldl (pickF p) c0) = false
  | 0, _ => ⟨h0, hp, fun s hs => by omega⟩
  | k + 1, hk => by
    obtain ⟨h1, h2, h3⟩ := pick_inv hn h0 hp k (by omega)
    rw [range_fold]
    generalize (List.range k).foldl (pickF p) c0 = cur at h1 h2 h3
    unfold pickF
    by_cases hc : (sh (bitsL k) cur && p (bitsL k)) = true
    · rw [if_pos hc]
      rw [Bool.and_eq_true] at hc
      refine ⟨cand_in n hn k (by omega), hc.2, fun s hs hps => ?_⟩
      rcases Nat.lt_or_ge s k with h | h
      · rw [Bool.eq_false_iff]
        intro hh
        have := h3 s h hps
        rw [sh_trans hh hc.1] at this
        cases this
      · obtain rfl : s = k := by omega
        exact sh_irr _
    · rw [if_neg hc]
      refine ⟨h1, h2, fun s hs hps => ?_⟩
      rcases Nat.lt_or_ge s k with h | h
      · exact h3 s h hps
      · obtain rfl : s = k := by omega
        rw [hps, Bool.and_true] at hc
        simpa using hc
theorem pick_fnd {n : Nat} (hn : n < 8) {p : List Int → Bool} {c0 : List Int} (h0 : c0 ∈ candAll (n : Int) (n + 1)) (hp : p c0 = true) (cur : List Int) : (List.range (2 ^ n)).foldl (pickF p) c0 = fnd p cur (candAll (n : Int) (n + 1)) := by
  obtain ⟨h1, h2, h3⟩ := pick_inv hn h0 hp (2 ^ n) (Nat.le_refl _)
  obtain ⟨A, x, B, g1, g2, g3, g4⟩ := fnd_spec (p := p) cur (List.any_eq_true.2 ⟨c0, h0, hp⟩)
  rw [g4]
  generalize (List.range (2 ^ n)).foldl (pickF p) c0 = c at h1 h2 h3
  have hs := cand_sorted n hn
  have hx : x ∈ candAll (n : Int) (n + 1) := by rw [g1]; simp
  obtain ⟨s, hs1, rfl⟩ := cand_of n hn x hx
  have h4 := h3 s hs1 g2
  rw [g1] at h1 hs
  rw [List.pairwise_append] at hs
  rcases List.mem_append.1 h1 with h | h
  · rw [g3 c h] at h2; cases h2
  · rcases List.mem_cons.1 h with h | h
    · exact h
    · have := (List.pairwise_cons.1 hs.2.1).1 c h
      rw [this] at h4; cases h4
theorem shortest_pick {n : Nat} (hn : n < 8) {p : List Int → Bool} {c0 : List Int} (h0 : c0 ∈ candAll (n : Int) (n + 1)) (hp : p c0 = true) : shortestL (n : Int) p = (List.range (2 ^ n)).foldl (pickF p) c0 := by
  unfold shortestL
  rw [show ((n : Int) + 1).toNat = n + 1 by omega, pick_fnd hn h0 hp]
end Go.Proofs.Ythogdgkafaclaaa
end
section
namespace Go.Proofs.Ythogdgkafaclaaa
/-- Two lists say the same of the rows that are asked about. -/
def alike (s : Nat) (fr n : Nat) (a b : List Int) : Bool := (List.range' fr n).all fun x => s / 2 ^ x % 2 == 0 || a.getD x 0 == b.getD x 0
theorem gd {T : List (List Int)} {i : Nat} (h : i < T.length) : T[i] = T.getD i [] := by simp [List.getElem?_eq_getElem h]
theorem gd0 {l : List Int} {i : Nat} (h : i < l.length) : l[i] = l.getD i 0 := by simp [List.getElem?_eq_getElem h]
/-- Two lists differ in somebody's number, and say the same. -/
def clash (T : List (List Int)) (who : Int) (s k i j : Nat) : Bool := ((part (T.getD i []) who 0 k : Nat) : Int) != ((part (T.getD j []) who 0 k : Nat) : Int) && alike s 0 k (T.getD i []) (T.getD j [])
/-- The reference's word whether some rows settle somebody's number. -/
def setR (T : List (List Int)) (who : Int) (k s : Nat) : Bool := !((List.range T.length).any fun i => (List.range i).any (clash T who s k i))
theorem alike_iff {s k : Nat} {a b : List Int} : alike s 0 k a b = true ↔ ∀ x, x < k → s / 2 ^ x % 2 = 0 ∨ a.getD x 0 = b.getD x 0 := by
  unfold alike
  rw [← List.range_eq_range']
  simp [List.all_eq_true]
theorem alike_comm (s k : Nat) (a b : List Int) : alike s 0 k a b = alike s 0 k b a := by
  rw [Bool.eq_iff_iff, alike_iff, alike_iff]
  exact ⟨fun h x hx => (h x hx).imp id Eq.symm, fun h x hx => (h x hx).imp id Eq.symm⟩
theorem setR_iff {T : List (List Int)} {who : Int} {k s : Nat} : setR T who k s = true ↔ ∀ a ∈ T, ∀ b ∈ T, alike s 0 k a b = true → part a who 0 k = part b who 0 k := by
  unfold setR
  rw [Bool.not_eq_true', Bool.eq_false_iff]
  constructor
  · intro h a ha b hb hab
    refine Decidable.byContradiction fun hne => h ?_
    obtain ⟨i, hi, rfl⟩ := List.mem_iff_getElem.1 ha
    obtain ⟨j, hj, rfl⟩ := List.mem_iff_getElem.1 hb
    have hij : i ≠ j := by rintro rfl; exact hne rfl
    rw [List.any_eq_true]
    rcases Nat.lt_or_gt_of_ne hij with hlt | hlt
    · refine ⟨j, by simpa using hj, List.any_eq_true.2 ⟨i, by simpa using hlt, ?_⟩⟩
      unfold clash
      rw [← gd hi, ← gd hj, alike_comm, hab, Bool.and_true]
      simp only [bne_iff_ne, ne_eq]
      omega
    · refine ⟨i, by simpa using hi, List.any_eq_true.2 ⟨j, by simpa using hlt, ?_⟩⟩
      unfold clash
      rw [← gd hi, ← gd hj, hab, Bool.and_true]
      simp only [bne_iff_ne, ne_eq]
      omega
  · intro h hc
    rw [List.any_eq_true] at hc
    obtain ⟨i, hi, hc⟩ := hc
    rw [List.any_eq_true] at hc
    obtain ⟨j, hj, hc⟩ := hc
    have hi : i < T.length := by simpa using hi
    have hj : j < i := by simpa using hj
    unfold clash at hc
    rw [← gd hi, ← gd (by omega : j < T.length), Bool.and_eq_true] at hc
    have := h _ (List.getElem_mem hi) _ (List.getElem_mem (by omega : j < T.length)) hc.2
    simp [this] at hc
theorem foldl_set_get (a : List Int) (i : Nat) (hi : i < 7) : ∀ (l z : List Int), z.length = 7 → (l.foldl (fun key r => key.set r.toNat (a.getD r.toNat 0)) z).getD i 0 = if l.any (fun r => r.toNat == i) = true then a.getD i 0 else z.getD i 0
  | [], z, _ => rfl
  | r :: l, z, hz => by
    rw [List.foldl_cons, foldl_set_get a i hi l _ (by simpa using hz), List.any_cons]
    by_cases h : l.any (fun r => r.toNat == i) = true
    · rw [if_pos h, if_pos (by simp [h])]
    · rw [if_neg h]
      by_cases hr : r.toNat = i
      · rw [if_pos (by simp [hr]), hr, getD_set_eq (by omega)]
      · rw [if_neg (by simp [hr]; simpa using h), getD_set_ne2 (Ne.symm hr)]
theorem keyOf_get (rows a : List Int) {i : Nat} (hi : i < 7) : (keyOf rows a).getD i 0 = if rows.any (fun r => r.toNat == i) = true then a.getD i 0 else 0 := by
  unfold keyOf
  rw [foldl_set_get a i hi rows _ (by simp)]
  congr 1
  have : ∀ i, i < 7 → (List.replicate 7 (0 : Int)).getD i 0 = 0 := by decide
  exact this i hi
theorem keyOf_eq {rows a b : List Int} (h : ∀ r ∈ rows, 0 ≤ r ∧ r ≤ 6) : keyOf rows a = keyOf rows b ↔ ∀ r ∈ rows, a.getD r.toNat 0 = b.getD r.toNat 0 := by
  constructor
  · intro e r hr
    have hr7 := h r hr
    have h1 := keyOf_get rows a (i := r.toNat) (by omega)
    have h2 := keyOf_get rows b (i := r.toNat) (by omega)
    have ha : rows.any (fun x => x.toNat == r.toNat) = true := List.any_eq_true.2 ⟨r, hr, by simp⟩
    rw [if_pos ha] at h1 h2
    rw [← h1, ← h2, e]
  · intro e
    refine List.ext_getElem (by rw [keyOf_len, keyOf_len]) fun i h1 h2 => ?_
    have hi : i < 7 := by rw [keyOf_len] at h1; exact h1
    rw [gd0 h1, gd0 h2, keyOf_get rows a hi, keyOf_get rows b hi]
    by_cases hc : rows.any (fun r => r.toNat == i) = true
    · rw [if_pos hc, if_pos hc]
      obtain ⟨r, hr, hri⟩ := List.any_eq_true.1 hc
      have := e r hr
      have hri : r.toNat = i := by simpa using hri
      rw [hri] at this
      exact this
    · rw [if_neg hc, if_neg hc]
theorem mem_bits {s : Nat} {r : Int} : r ∈ bitsL s ↔ ∃ x : Nat, x < 8 ∧ s / 2 ^ x % 2 = 1 ∧ r = x := by
  unfold bitsL
  simp only [List.mem_map, List.mem_filter, List.mem_range, beq_iff_eq]
  constructor
  · rintro ⟨x, ⟨h1, h2⟩, rfl⟩; exact ⟨x, h1, h2, rfl⟩
  · rintro ⟨x, h1, h2, rfl⟩; exact ⟨x, ⟨h1, h2⟩, rfl⟩
theorem bit_lt {s x k : Nat} (hs : s < 2 ^ k) (h : s / 2 ^ x % 2 = 1) : x < k := by
  refine Decidable.byContradiction fun hx => ?_
  have : s < 2 ^ x := Nat.lt_of_lt_of_le hs (Nat.pow_le_pow_right (by omega) (by omega))
  rw [Nat.div_eq_of_lt this] at h
  cases h
/-- Both say the same. -/
theorem settles_refs {f : Fld} (hc : check f = 0) (who : Int) {s : Nat} (hs : s < 2 ^ f.rows.toNat) : settlesB f (truths f []) who (bitsL s) = setR (refs f) who f.rows.toNat s := by
  obtain ⟨hr2, hw, _⟩ := check_ok hc
  have hlen : ∀ l ∈ refs f, (l.length : Int) = f.rows := fun l hl => (tru_alw ((mem_refs hc).1 hl)).2.1
  have hb : ∀ r ∈ bitsL s, 0 ≤ r ∧ r ≤ 6 := fun r hr => by
    obtain ⟨x, _, h2, rfl⟩ := mem_bits.1 hr
    have := bit_lt hs h2
    omega
  have hal : ∀ a ∈ refs f, ∀ b ∈ refs f, (keyOf (bitsL s) (pad a) = keyOf (bitsL s) (pad b) ↔ alike s 0 f.rows.toNat a b = true) := fun a ha b hb2 => by
    have h1 := hlen a ha
    have h2 := hlen b hb2
    rw [keyOf_eq hb, alike_iff]
    constructor
    · intro h x hx
      rcases Nat.mod_two_eq_zero_or_one (s / 2 ^ x) with h0 | h0
      · exact .inl h0
      · have := h (x : Int) (mem_bits.2 ⟨x, by omega, h0, rfl⟩)
        rw [show (x : Int).toNat = x by omega] at this
        unfold pad at this
        rw [getD_app (by omega), getD_app (by omega)] at this
        exact .inr this
    · intro h r hr
      obtain ⟨x, _, h0, rfl⟩ := mem_bits.1 hr
      have hx := bit_lt hs h0
      rw [show (x : Int).toNat = x by omega]
      unfold pad
      rw [getD_app (by omega), getD_app (by omega)]
      rcases h x hx with h | h
      · omega
      · exact h
  have hpt : ∀ a ∈ refs f, cntr f (pad a) who = ((part a who 0 f.rows.toNat : Nat) : Int) := fun a ha => by
    have h1 := hlen a ha
    rw [cntr_pad h1, show a.length = f.rows.toNat by omega]
  rw [Bool.eq_iff_iff, settles_iff, setR_iff]
  constructor
  · intro h a ha b hb2 hab
    have := h (pad a) ((mem_truths hc).2 ⟨a, ha, rfl⟩) (pad b) ((mem_truths hc).2 ⟨b, hb2, rfl⟩) ((hal a ha b hb2).2 hab)
    rw [hpt a ha, hpt b hb2] at this
    omega
  · intro h a ha b hb2 hab
    obtain ⟨x, hx, rfl⟩ := (mem_truths hc).1 ha
    obtain ⟨y, hy, rfl⟩ := (mem_truths hc).1 hb2
    rw [hpt x hx, hpt y hy]
    have := h x hx y hy ((hal x hx y hy).1 hab)
    omega
end Go.Proofs.Ythogdgkafaclaaa
end
section
namespace Go.Proofs.Ythogdgkafaclaaa
theorem full_all : ∀ r : Nat, r < 8 → ∀ x : Nat, x < r → (2 ^ r - 1) / 2 ^ x % 2 = 1 := by decide +kernel
theorem settles_full {f : Fld} (hc : check f = 0) (who : Int) : setR (refs f) who f.rows.toNat (2 ^ f.rows.toNat - 1) = true := by
  obtain ⟨hr2, hw, _⟩ := check_ok hc
  rw [setR_iff]
  intro a ha b hb hab
  have h1 := (tru_alw ((mem_refs hc).1 ha)).2.1
  have h2 := (tru_alw ((mem_refs hc).1 hb)).2.1
  rw [alike_iff] at hab
  have : a = b := by
    refine List.ext_getElem (by omega) fun i g1 g2 => ?_
    rw [gd0 g1, gd0 g2]
    rcases hab i (by omega) with h | h
    · rw [full_all f.rows.toNat (by omega) i (by omega)] at h; cases h
    · exact h
  rw [this]
end Go.Proofs.Ythogdgkafaclaaa
end
section
namespace Go.Proofs.Ythogdgkafaclaaa
theorem allAt_iff (l out : List Int) : ∀ (ts : List Tly) (i : Nat), allAt l out i ts = true ↔ ∀ k t, ts[k]? = some t → okAt l out (i + k) t = true
  | [], i => by simp [allAt]
  | s :: ts, i => by
    rw [allAt, Bool.and_eq_true, allAt_iff l out ts (i + 1)]
    constructor
    · rintro ⟨h1, h2⟩ k t hk
      cases k with
      | zero =>
        obtain rfl : s = t := by simpa using hk
        simpa using h1
      | succ k =>
        have := h2 k t (by simpa using hk)
        rw [show i + (k + 1) = i + 1 + k by omega]; exact this
    · intro h
      exact ⟨by simpa using h 0 s rfl, fun k t hk => by
        have := h (k + 1) t (by simpa using hk)
        rw [show i + 1 + k = i + (k + 1) by omega]; exact this⟩
/-- A tally is right in a list. -/
def rt (l : List Int) (t : Tly) : Bool := inR (tdid l t) t.lo t.hi
theorem mem_truthsO {f : Fld} (hc : check f = 0) {out a : List Int} : a ∈ truths f out ↔ ∃ l, alw f l = true ∧ (∀ (k : Nat) t, f.ts[k]? = some t → out.contains (k : Int) = true ∨ rt l t = true) ∧ a = pad l := by
  obtain ⟨hr, hw, _, ht, _⟩ := check_ok hc
  have key : ∀ l : List Int, (l.length : Int) = f.rows → (rightB f (pad l) out = true ↔ inR ((part l (-1) 0 l.length : Nat) : Int) f.lo f.hi = true ∧ ∀ (k : Nat) t, f.ts[k]? = some t → out.contains (k : Int) = true ∨ rt l t = true) := by
    intro l hl
    unfold rightB
    rw [Bool.and_eq_true, allAt_iff]
    have h3 : (pad l).take f.rows.toNat = l.take l.length := by
      unfold pad; rw [show f.rows.toNat = l.length by omega, List.take_append_of_le_length (Nat.le_refl _)]
    rw [h3]
    have hp : part l (-1) 0 l.length = cnt (-1) (l.take l.length) := by unfold part; rw [List.drop_zero]
    rw [hp, and_comm]
    refine and_congr Iff.rfl ⟨fun h k t hk => ?_, fun h k t hk => ?_⟩
    · have h2 := h k t hk
      have h4 := talOk_bd (ht t (List.mem_of_getElem? hk))
      unfold okAt at h2
      rw [Bool.or_eq_true, didK_part _ _ ⟨h4.2.1.1, h4.2.1.2.1⟩, tdid_pad f l t hl (ht t (List.mem_of_getElem? hk)), Nat.zero_add] at h2
      exact h2
    · have h2 := h k t hk
      have h4 := talOk_bd (ht t (List.mem_of_getElem? hk))
      unfold okAt
      rw [Bool.or_eq_true, didK_part _ _ ⟨h4.2.1.1, h4.2.1.2.1⟩, tdid_pad f l t hl (ht t (List.mem_of_getElem? hk)), Nat.zero_add]
      exact h2
  have hall : ∀ l : List Int, l.all (okWho f) = true ↔ ∀ x ∈ l, x ∈ whos f.wd := fun l => by
    rw [List.all_eq_true]
    refine ⟨fun h x hx => ?_, fun h x hx => ?_⟩
    · have := h x hx
      rw [okWho_in f x hw.1, inR_iff] at this
      exact (mem_whos (by omega)).2 (by omega)
    · rw [okWho_in f x hw.1, inR_iff]
      have := (mem_whos (by omega)).1 (h x hx)
      omega
  unfold truths
  rw [mem_enum]
  constructor
  · rintro ⟨t, h1, h2, h3, h4⟩
    rw [List.nil_append] at h3 h4
    have hl : (t.length : Int) = f.rows := by omega
    obtain ⟨h5, h6⟩ := (key t hl).1 h3
    refine ⟨t, ?_, h6, h4⟩
    unfold alw
    rw [(hall t).2 h2, h5]
    simp [hl]
  · rintro ⟨l, h1, h2, rfl⟩
    simp only [alw, Bool.and_eq_true, decide_eq_true_eq] at h1
    refine ⟨l, by omega, (hall l).1 h1.1, ?_, by simp⟩
    rw [List.nil_append]
    exact (key l h1.2.1).2 ⟨h1.2.2, h2⟩
theorem truths_ne {f : Fld} (hc : check f = 0) {out : List Int} : truths f out ≠ [] ↔ ∃ l, alw f l = true ∧ ∀ (k : Nat) t, f.ts[k]? = some t → out.contains (k : Int) = true ∨ rt l t = true := by
  constructor
  · intro h
    obtain ⟨a, ha⟩ := List.exists_mem_of_ne_nil _ h
    obtain ⟨l, h1, h2, _⟩ := (mem_truthsO hc).1 ha
    exact ⟨l, h1, h2⟩
  · rintro ⟨l, h1, h2⟩ e
    have := (mem_truthsO hc (out := out) (a := pad l)).2 ⟨l, h1, h2, rfl⟩
    rw [e] at this
    cases this
/-- The field with other tallies. -/
theorem check_sub {f : Fld} (hc : check f = 0) {ts : List Tly} (h5 : ts.length ≤ 5) (ht : ∀ t ∈ ts, talOk f t = true) : check { f with ts := ts } = 0 := by
  obtain ⟨hr, hw, h6, ht2, hl, hm⟩ := check_ok hc
  unfold check
  rw [if_neg, if_neg, if_neg]
  · show ¬ 2500 < many f; omega
  · simp only [bad, Bool.or_eq_true, decide_eq_true_eq, Bool.not_eq_true', not_or, Bool.not_eq_false, List.all_eq_true]
    exact ⟨by omega, by omega, hl, ht⟩
  · simp only [big, Bool.or_eq_true, decide_eq_true_eq, not_or]
    omega
/-- Some list is allowed. -/
theorem alw_some {f : Fld} (hc : check f = 0) : ∃ l, alw f l = true := by
  obtain ⟨hr, hw, h6, ht2, hl, hm⟩ := check_ok hc
  simp only [rngOk, Bool.and_eq_true, decide_eq_true_eq] at hl
  refine ⟨List.replicate f.lo.toNat (-1) ++ List.replicate (f.rows - f.lo).toNat 0, ?_⟩
  have h1 : part (List.replicate f.lo.toNat (-1) ++ List.replicate (f.rows - f.lo).toNat 0) (-1) 0 (List.replicate f.lo.toNat (-1 : Int) ++ List.replicate (f.rows - f.lo).toNat 0).length = f.lo.toNat := by
    unfold part cnt
    rw [List.drop_zero, List.take_length, List.countP_append, List.countP_replicate, List.countP_replicate]
    simp
  unfold alw
  rw [h1]
  simp only [Bool.and_eq_true, decide_eq_true_eq, List.all_eq_true, inR_iff, List.length_append, List.length_replicate]
  refine ⟨fun x hx => ?_, by omega, by omega⟩
  rw [okWho_in f x hw.1, inR_iff]
  rcases List.mem_append.1 hx with h | h
  · have := (List.mem_replicate.1 h).2; omega
  · have := (List.mem_replicate.1 h).2; omega
theorem shortest_spec {n : Nat} (hn : n < 8) {p : List Int → Bool} {s0 : Nat} (h0 : s0 < 2 ^ n) (hp : p (bitsL s0) = true) :
    ∃ s, s < 2 ^ n ∧ shortestL (n : Int) p = bitsL s ∧ p (bitsL s) = true ∧ ∀ s', s' < 2 ^ n → p (bitsL s') = true → sh (bitsL s') (bitsL s) = false := by
  rw [shortest_pick hn (cand_in n hn s0 h0) hp]
  obtain ⟨h1, h2, h3⟩ := pick_inv hn (cand_in n hn s0 h0) hp (2 ^ n) (Nat.le_refl _)
  obtain ⟨s, hs, he⟩ := cand_of n hn _ h1
  refine ⟨s, hs, he.symm, ?_, fun s' hs' hp' => ?_⟩
  · rw [he]; exact h2
  · rw [he]; exact h3 s' hs' hp'
theorem sh_len {a b : List Int} (h : sh a b = false) : b.length ≤ a.length := by
  rw [Bool.eq_false_iff] at h
  refine Decidable.byContradiction fun hh => h (sh_iff.2 (.inl (by omega)))
theorem bits_has {s x : Nat} (hx : x < 8) : (bitsL s).contains (x : Int) = (s / 2 ^ x % 2 == 1) := by
  rw [Bool.eq_iff_iff, List.contains_iff_mem, mem_bits, beq_iff_eq]
  constructor
  · rintro ⟨y, hy, h, e⟩
    obtain rfl : x = y := by omega
    exact h
  · intro h; exact ⟨x, hx, h, rfl⟩
end Go.Proofs.Ythogdgkafaclaaa
end
section
namespace Go.Proofs.Ythogdgkafaclaaa
/-- By so many questions c can be known of what is in S; g says what is answered. -/
def Qn (c : List Int → Int) (g : List Int → Nat → Int) (R : Nat) : Nat → (List Int → Prop) → Prop
  | 0, S => ∀ a b, S a → S b → c a = c b
  | m + 1, S => (∀ a b, S a → S b → c a = c b) ∨ ∃ r, r < R ∧ ∀ v, Qn c g R m (fun a => S a ∧ g a r = v)
section
variable {c : List Int → Int} {g : List Int → Nat → Int} {R : Nat} {S S' : List Int → Prop}
theorem Qn_all (hc : ∀ a b, S a → S b → (∀ r, r < R → g a r = g b r) → c a = c b) : Qn c g R R S := by
  have key : ∀ (k : Nat), k ≤ R → ∀ (S : List Int → Prop), (∀ a b, S a → S b → (∀ r, r < R → g a r = g b r) → c a = c b) → (∀ a b, S a → S b → ∀ r, k ≤ r → r < R → g a r = g b r) → Qn c g R k S := by
    intro k
    induction k with
    | zero => exact fun _ S h1 h2 a b ha hb => h1 a b ha hb fun r hr => h2 a b ha hb r (Nat.zero_le _) hr
    | succ k ih =>
      intro hk S h1 h2
      refine .inr ⟨k, by omega, fun v => ih (by omega) _ (fun a b ha hb => h1 a b ha.1 hb.1) fun a b ha hb r hr1 hr2 => ?_⟩
      rcases Nat.lt_or_ge k r with h | h
      · exact h2 a b ha.1 hb.1 r h hr2
      · obtain rfl : r = k := by omega
        rw [ha.2, hb.2]
  exact key R (Nat.le_refl _) S hc fun a b _ _ r h1 h2 => by omega
end
end Go.Proofs.Ythogdgkafaclaaa
end
section
namespace Go.Proofs.Ythogdgkafaclaaa
theorem tb (s i : Nat) : (s / 2 ^ i % 2 == 1) = s.testBit i := by rw [Nat.testBit_eq_decide_div_mod_eq]; rfl
/-- All lists, by their numbers. -/
def lists (f : Fld) : List (List Int) := (List.range (many f).toNat).map fun i : Nat => nthL (f.wd + 1) f.rows.toNat (i : Int)
/-- There is a truth without some tallies. -/
def posB (f : Fld) (out : List Int) : Bool := decide (truths f out ≠ [])
theorem posB_iff {f : Fld} (hc : check f = 0) {s : Nat} : posB f (bitsL s) = true ↔ ∃ l, alw f l = true ∧ ∀ (i : Nat) t, f.ts[i]? = some t → s.testBit i = true ∨ rt l t = true := by
  obtain ⟨hr, hw, h5, _⟩ := check_ok hc
  unfold posB
  rw [decide_eq_true_eq, truths_ne hc]
  refine exists_congr fun l => and_congr Iff.rfl ?_
  refine forall_congr' fun i => forall_congr' fun t => ⟨fun h hi => ?_, fun h hi => ?_⟩
  · obtain ⟨hlt, _⟩ := List.getElem?_eq_some_iff.1 hi
    have := h hi
    rw [bits_has (by omega), tb] at this; exact this
  · obtain ⟨hlt, _⟩ := List.getElem?_eq_some_iff.1 hi
    rw [bits_has (by omega), tb]; exact h hi
theorem posB_full {f : Fld} (hc : check f = 0) : posB f (bitsL (2 ^ f.ts.length - 1)) = true := by
  rw [posB_iff hc]
  obtain ⟨l, hl⟩ := alw_some hc
  refine ⟨l, hl, fun i t hi => ?_⟩
  obtain ⟨hlt, _⟩ := List.getElem?_eq_some_iff.1 hi
  exact .inl (by rw [Nat.testBit_two_pow_sub_one, dt hlt])
/-- The smallest set. -/
def leaveL (f : Fld) : List Int := shortestL (f.ts.length : Int) (posB f)
theorem leave_spec {f : Fld} (hc : check f = 0) : ∃ s, s < 2 ^ f.ts.length ∧ leaveL f = bitsL s ∧ posB f (bitsL s) = true ∧ ∀ s', s' < 2 ^ f.ts.length → posB f (bitsL s') = true → sh (bitsL s') (bitsL s) = false := by
  obtain ⟨hr, hw, h5, _⟩ := check_ok hc
  have h2 : 1 ≤ 2 ^ f.ts.length := Nat.one_le_two_pow
  exact shortest_spec (by omega) (s0 := 2 ^ f.ts.length - 1) (by omega) (posB_full hc)
theorem q_Leave (K : Nat) (f : Fld) : Q_Leave K f = some (if check f = 0 then (leaveL f, 0) else ([], check f)) := rfl
end Go.Proofs.Ythogdgkafaclaaa
end
section
namespace Go.Proofs.Ythogdgkafaclaaa
/-- The reference's lists: their numbers, and what they say. -/
abbrev cR (who : Int) : List Int → Int := fun a => ((part a who 0 a.length : Nat) : Int)
abbrev gR : List Int → Nat → Int := fun a r => a.getD r 0
section
variable {f : Fld} {T : List (List Int)} {who : Int}
/-- What the lists at hand are. -/
def OkT (f : Fld) (T : List (List Int)) : Prop := T.length ≤ 250 ∧ ∀ a ∈ T, (a.length : Int) = f.rows ∧ ∀ r, r < f.rows.toNat → -1 ≤ a.getD r 0 ∧ a.getD r 0 ≤ f.wd - 1
theorem cR_ext {a b : List Int} (ha : (a.length : Int) = f.rows) (hb : (b.length : Int) = f.rows) (h : ∀ r, r < f.rows.toNat → gR a r = gR b r) : cR who a = cR who b := by
  have : a = b := by
    refine List.ext_getElem (by omega) fun i h1 h2 => ?_
    rw [gd0 h1, gd0 h2]; exact h i (by omega)
  rw [this]
theorem OkT.all (h : OkT f T) : Qn (cR who) gR f.rows.toNat f.rows.toNat (· ∈ T) := Qn_all fun a b ha hb hh => cR_ext (h.2 a ha).1 (h.2 b hb).1 hh
end
end Go.Proofs.Ythogdgkafaclaaa
end
section
namespace Go.Proofs.Ythogdgkafaclaaa
/-- The fewest rows. -/
def askL (f : Fld) (n : Int) : List Int := shortestL f.rows (fun rows => settlesB f (truths f []) n rows)
theorem ask_spec {f : Fld} (hc : check f = 0) (n : Int) : ∃ s, s < 2 ^ f.rows.toNat ∧ askL f n = bitsL s ∧ setR (refs f) n f.rows.toNat s = true ∧ ∀ s', s' < 2 ^ f.rows.toNat → setR (refs f) n f.rows.toNat s' = true → sh (bitsL s') (bitsL s) = false := by
  obtain ⟨hr, hw, _⟩ := check_ok hc
  have h1 := settles_full hc n
  have h2 : 1 ≤ 2 ^ f.rows.toNat := Nat.one_le_two_pow
  rw [← settles_refs hc n (by omega)] at h1
  obtain ⟨s, hs, e, hp, hmin⟩ := shortest_spec (n := f.rows.toNat) (by omega) (p := fun rows => settlesB f (truths f []) n rows) (s0 := 2 ^ f.rows.toNat - 1) (by omega) h1
  refine ⟨s, hs, ?_, by rw [← settles_refs hc n hs]; exact hp, fun s' hs' hp' => hmin s' hs' (by rw [← settles_refs hc n hs'] at hp'; exact hp')⟩
  unfold askL
  rw [show f.rows = (f.rows.toNat : Int) by omega]; exact e
theorem q_Ask (K : Nat) (f : Fld) (n : Int) : Q_Ask K f n = some (if askE f (whoB f n) = 0 then (askL f n, 0) else ([], askE f (whoB f n))) := rfl
theorem g_ready (f : Fld) : G_ready 1000 f = some (thin f && check f == 0) := by
  unfold G_ready
  rw [bd (g_Thin (Nat.le_refl _))]
  cases thin f with
  | false => rfl
  | true => rw [ct rfl, bd (g_fault (Nat.le_refl _))]; rfl
theorem cv8 {β : Type} {g : Unit → Option β} {x : Int} (h : 0 ≤ x ∧ x < 256) : (cvO .i64 x).bind g = g () := bd (by
  have : ∀ x : Nat, x < 256 → cvO .i64 (x : Int) = some () := by decide +kernel
  have h2 := this x.toNat (by omega)
  rwa [show ((x.toNat : Nat) : Int) = x by omega] at h2)
theorem refs_nil {f : Fld} (hc : check f = 0) : sureE f = if refs f = [] then 11 else 0 := by unfold sureE; rw [if_neg (by simp [hc])]
end Go.Proofs.Ythogdgkafaclaaa
end
section
namespace Go.Proofs.Ythogdgkafaclaaa
/-- The error of Done. -/
theorem q_Done (K : Nat) (f : Fld) : Q_Done K f = some (if sureE f = 0 then (donesTo f (truths f []) f.wd.toNat, 0) else ([], sureE f)) := by unfold Q_Done; rw [askE_true]
end Go.Proofs.Ythogdgkafaclaaa
end
section
namespace Go.Proofs.Ythogdgkafaclaaa
theorem mod_nat {x m : Int} (hm : 0 < m) : ∃ k : Nat, x % m = k ∧ (k : Int) < m := by
  have h1 := Int.emod_nonneg x (show m ≠ 0 by omega)
  have h2 := Int.emod_lt_of_pos x hm
  exact ⟨(x % m).toNat, by omega, by omega⟩
/-- Both ends are reached. -/
theorem didB_ends {f : Fld} (hc : check f = 0) (hn : refs f ≠ []) (who : Int) : (∃ a ∈ refs f, cR who a = (didB (refs f) who).1) ∧ (∃ a ∈ refs f, cR who a = (didB (refs f) who).2) ∧ ∀ a ∈ refs f, (didB (refs f) who).1 ≤ cR who a ∧ cR who a ≤ (didB (refs f) who).2 := by
  obtain ⟨hr, hw, _⟩ := check_ok hc
  obtain ⟨q1, q2, q3, q4, q5⟩ := foldl_mm (fun a => ((part a who 0 a.length : Nat) : Int)) (refs f) (1099511627776, -1099511627776)
  have hd : didB (refs f) who = (refs f).foldl (fun r a => (min r.1 ((part a who 0 a.length : Nat) : Int), max r.2 ((part a who 0 a.length : Nat) : Int))) (1099511627776, -1099511627776) := rfl
  rw [← hd] at q1 q2 q3 q4 q5
  obtain ⟨l0, hl0⟩ := List.exists_mem_of_ne_nil _ hn
  have b0 : ((part l0 who 0 l0.length : Nat) : Int) ≤ 7 := by
    have h1 := part_le l0 who 0 l0.length
    have h2 := (tru_alw ((mem_refs hc).1 hl0)).2.1
    omega
  have m0 := q3 l0 hl0
  refine ⟨?_, ?_, q3⟩
  · rcases q4 with h | ⟨a, ha, h⟩
    · simp only [] at h m0; omega
    · exact ⟨a, ha, h.symm⟩
  · rcases q5 with h | ⟨a, ha, h⟩
    · simp only [] at h m0; omega
    · exact ⟨a, ha, h.symm⟩
end Go.Proofs.Ythogdgkafaclaaa
end
section
namespace Go.Proofs.Ythogdgkafaclaaa
theorem tru_iff {f : Fld} {l : List Int} : tru f l = true ↔ alw f l = true ∧ ∀ t ∈ f.ts, rt l t = true := by
  unfold tru rt
  rw [Bool.and_eq_true, List.all_eq_true]
theorem alw_iff {f : Fld} (hw : 1 ≤ f.wd) {l : List Int} : alw f l = true ↔ (∀ x ∈ l, -1 ≤ x ∧ x ≤ f.wd - 1) ∧ (l.length : Int) = f.rows ∧ f.lo ≤ (part l (-1) 0 l.length : Nat) ∧ ((part l (-1) 0 l.length : Nat) : Int) ≤ f.hi := by
  unfold alw
  rw [Bool.and_eq_true, Bool.and_eq_true, decide_eq_true_eq, inR_iff, List.all_eq_true]
  refine and_congr ⟨fun h x hx => ?_, fun h x hx => ?_⟩ Iff.rfl
  · have := h x hx
    rwa [okWho_in f x hw, inR_iff] at this
  · rw [okWho_in f x hw, inR_iff]; exact h x hx
end Go.Proofs.Ythogdgkafaclaaa
end
section
namespace Go.Proofs.Ythogdgkafaclaaa
section
variable {f x : Fld} (hf : check f = 0) (hx : check x = 0)
include hf hx
end
/-- The second one asks for less. -/
structure Wk (f x : Fld) : Prop where
  rows : x.rows = f.rows
  wd : x.wd = f.wd
  len : x.ts.length = f.ts.length
  al : ∀ l, alw f l = true → alw x l = true
  rts : ∀ (i : Nat) t', x.ts[i]? = some t' → ∃ t, f.ts[i]? = some t ∧ ∀ l : List Int, (l.length : Int) = f.rows → rt l t = true → rt l t' = true
section
variable {f x : Fld} (hf : check f = 0) (hx : check x = 0) (h : Wk f x)
include hf hx h
end
end Go.Proofs.Ythogdgkafaclaaa
end
section
namespace Go.Proofs.Ythogdgkafaclaaa
theorem done_map {f x : Fld} (hf : check f = 0) (hx : check x = 0) {c d : Int} (h1 : ∀ l ∈ refs f, ∃ l' ∈ refs x, cR d l' = cR c l) (h2 : ∀ l ∈ refs x, ∃ l' ∈ refs f, cR c l' = cR d l) (hn : refs f ≠ []) : didB (refs f) c = didB (refs x) d := by
  have hnx : refs x ≠ [] := by
    obtain ⟨l, hl⟩ := List.exists_mem_of_ne_nil _ hn
    obtain ⟨l', hl', _⟩ := h1 l hl
    exact List.ne_nil_of_mem hl'
  obtain ⟨⟨a1, ha1, e1⟩, ⟨a2, ha2, e2⟩, h3⟩ := didB_ends hf hn c
  obtain ⟨⟨b1, hb1, g1⟩, ⟨b2, hb2, g2⟩, h4⟩ := didB_ends hx hnx d
  obtain ⟨x1, hx1, i1⟩ := h1 a1 ha1
  obtain ⟨x2, hx2, i2⟩ := h1 a2 ha2
  obtain ⟨y1, hy1, j1⟩ := h2 b1 hb1
  obtain ⟨y2, hy2, j2⟩ := h2 b2 hb2
  have k1 := (h4 x1 hx1).1
  have k2 := (h4 x2 hx2).2
  have k3 := (h3 y1 hy1).1
  have k4 := (h3 y2 hy2).2
  refine Prod.ext ?_ ?_ <;> omega
def revT (R : Int) (t : Tly) : Tly := ⟨t.who, R - 1 - t.to, R - 1 - t.fr, t.lo, t.hi⟩
def revF (f : Fld) : Fld := { f with ts := f.ts.map (revT f.rows) }
theorem revF_rev (f : Fld) : revF (revF f) = f := by
  have h : ∀ t, revT f.rows (revT f.rows t) = t := fun t => by
    show (⟨t.who, f.rows - 1 - (f.rows - 1 - t.fr), f.rows - 1 - (f.rows - 1 - t.to), t.lo, t.hi⟩ : Tly) = t
    rw [show f.rows - 1 - (f.rows - 1 - t.fr) = t.fr by omega, show f.rows - 1 - (f.rows - 1 - t.to) = t.to by omega]
  show ({ f with ts := (f.ts.map (revT f.rows)).map (revT f.rows) } : Fld) = f
  rw [List.map_map, show (revT f.rows ∘ revT f.rows) = id from funext h, List.map_id]
theorem talOk_rev {f : Fld} {t : Tly} (h : talOk f t = true) : talOk f (revT f.rows t) = true := by
  have h1 := talOk_bd h
  unfold talOk rngOk revT
  simp only [Bool.and_eq_true, inR_iff, decide_eq_true_eq]
  refine ⟨⟨⟨⟨?_, ?_⟩, ?_⟩, ?_⟩, ?_⟩ <;> omega
theorem check_rev {f : Fld} (hc : check f = 0) : check (revF f) = 0 := by
  obtain ⟨hr, hw, h5, ht, _⟩ := check_ok hc
  refine check_sub hc (by rw [List.length_map]; exact h5) fun t h => ?_
  obtain ⟨t', ht', rfl⟩ := List.mem_map.1 h
  exact talOk_rev (ht t' ht')
theorem cnt_rev (who : Int) (l : List Int) : cnt who l.reverse = cnt who l := by unfold cnt; rw [List.countP_reverse]
theorem part_rev (l : List Int) (who : Int) : part l.reverse who 0 l.reverse.length = part l who 0 l.length := by
  unfold part
  rw [List.drop_zero, List.drop_zero, List.take_length, List.take_length, cnt_rev]
theorem alw_rev {f : Fld} (hw : 1 ≤ f.wd) {l : List Int} (h : alw f l = true) : alw (revF f) l.reverse = true := by
  rw [alw_iff hw] at h
  rw [alw_iff (f := revF f) hw, part_rev, List.length_reverse]
  exact ⟨fun x hx => h.1 x (List.mem_reverse.1 hx), h.2⟩
theorem rt_rev {f : Fld} {l : List Int} {t : Tly} (hl : (l.length : Int) = f.rows) (ht : talOk f t = true) : rt l.reverse (revT f.rows t) = rt l t := by
  have h1 := talOk_bd ht
  have e : tdid l.reverse (revT f.rows t) = tdid l t := by
    unfold tdid part revT
    simp only []
    rw [List.drop_reverse, List.take_reverse, cnt_rev, List.length_take]
    have e1 : l.length - (f.rows - 1 - t.to).toNat = (t.to + 1).toNat := by omega
    rw [e1, Nat.min_eq_left (by omega), List.drop_take]
    have e2 : (t.to + 1).toNat - ((f.rows - 1 - t.fr + 1 - (f.rows - 1 - t.to))).toNat = t.fr.toNat := by omega
    have e3 : (t.to + 1).toNat - t.fr.toNat = (t.to + 1 - t.fr).toNat := by omega
    rw [e2, e3]
  unfold rt
  rw [e]; rfl
theorem refs_rev {f : Fld} (hc : check f = 0) : ∀ l ∈ refs f, l.reverse ∈ refs (revF f) := fun l hl => by
  obtain ⟨hr, hw, h5, ht, _⟩ := check_ok hc
  rw [mem_refs hc, tru_iff] at hl
  rw [mem_refs (check_rev hc), tru_iff]
  refine ⟨alw_rev hw.1 hl.1, fun t h => ?_⟩
  obtain ⟨t', ht', rfl⟩ := List.mem_map.1 h
  rw [rt_rev ((alw_iff hw.1).1 hl.1).2.1 (ht t' ht')]
  exact hl.2 t' ht'
theorem refs_rev2 {f : Fld} (hc : check f = 0) : ∀ l ∈ refs (revF f), l.reverse ∈ refs f := fun l hl => by
  have := refs_rev (check_rev hc) l hl
  rwa [revF_rev] at this
theorem cR_rev (c : Int) (l : List Int) : cR c l.reverse = cR c l := by
  show ((part l.reverse c 0 l.reverse.length : Nat) : Int) = ((part l c 0 l.length : Nat) : Int)
  rw [part_rev]
theorem done_rev {f : Fld} (hc : check f = 0) (hn : refs f ≠ []) (c : Int) : didB (refs f) c = didB (refs (revF f)) c :=
  done_map hc (check_rev hc) (fun l hl => ⟨_, refs_rev hc l hl, cR_rev c l⟩) (fun l hl => ⟨_, refs_rev2 hc l hl, cR_rev c l⟩) hn
theorem refs_rev_nil {f : Fld} (hc : check f = 0) : refs (revF f) = [] ↔ refs f = [] := by
  constructor
  · intro h
    refine List.eq_nil_iff_forall_not_mem.2 fun l hl => ?_
    have := refs_rev hc l hl
    rw [h] at this; cases this
  · intro h
    refine List.eq_nil_iff_forall_not_mem.2 fun l hl => ?_
    have := refs_rev2 hc l hl
    rw [h] at this; cases this
/-- Bits from the other end. -/
def rvS (R s : Nat) : Nat := (List.range R).foldl (fun z i => if s.testBit (R - 1 - i) then z ||| 2 ^ i else z) 0
theorem rvS_all : ∀ R : Nat, R < 8 → ∀ s : Nat, s < 2 ^ R → rvS R s < 2 ^ R ∧ (bitsL (rvS R s)).length = (bitsL s).length ∧ ∀ i : Nat, i < R → rvS R s / 2 ^ i % 2 = s / 2 ^ (R - 1 - i) % 2 := by decide +kernel
theorem getD_rev {l : List Int} {i : Nat} (h : i < l.length) : l.reverse.getD i 0 = l.getD (l.length - 1 - i) 0 := by
  rw [← gd0 (by rw [List.length_reverse]; exact h), List.getElem_reverse, gd0]
theorem ask_rev_le {f : Fld} (hc : check f = 0) (n : Int) : (askL (revF f) n).length ≤ (askL f n).length := by
  obtain ⟨hr, hw, h5, ht, _⟩ := check_ok hc
  obtain ⟨s, hs1, hs2, hs3, _⟩ := ask_spec hc n
  obtain ⟨t, ht1, ht2, _, ht4⟩ := ask_spec (check_rev hc) n
  obtain ⟨r1, r2, r3⟩ := rvS_all f.rows.toNat (by omega) s hs1
  rw [hs2, ht2, ← r2]
  refine sh_len (ht4 _ r1 ?_)
  show setR (refs (revF f)) n f.rows.toNat (rvS f.rows.toNat s) = true
  rw [setR_iff] at hs3 ⊢
  intro a ha b hb hab
  have la := (tru_alw ((mem_refs (check_rev hc)).1 ha)).2.1
  have lb := (tru_alw ((mem_refs (check_rev hc)).1 hb)).2.1
  have la' : (a.length : Int) = f.rows := la
  have lb' : (b.length : Int) = f.rows := lb
  have := hs3 _ (refs_rev2 hc a ha) _ (refs_rev2 hc b hb) (alike_iff.2 fun x hx => ?_)
  · have e1 := part_rev a n
    have e2 := part_rev b n
    rw [List.length_reverse] at e1 e2
    rw [show f.rows.toNat = a.length by omega] at this ⊢
    rw [e1, show a.length = b.length by omega, e2] at this
    rw [show a.length = b.length by omega]; exact this
  · rw [alike_iff] at hab
    have h2 := hab (f.rows.toNat - 1 - x) (by omega)
    rw [r3 _ (by omega), show f.rows.toNat - 1 - (f.rows.toNat - 1 - x) = x by omega] at h2
    rw [getD_rev (by omega), getD_rev (by omega), show a.length - 1 - x = f.rows.toNat - 1 - x by omega, show b.length - 1 - x = f.rows.toNat - 1 - x by omega]
    exact h2
theorem ask_rev {f : Fld} (hc : check f = 0) (n : Int) : (askL (revF f) n).length = (askL f n).length := by
  refine Nat.le_antisymm (ask_rev_le hc n) ?_
  have := ask_rev_le (check_rev hc) n
  rwa [revF_rev] at this
def sw (a b c : Int) : Int := if c = a then b else if c = b then a else c
theorem sw_sw (a b c : Int) : sw a b (sw a b c) = c := by
  unfold sw
  by_cases h1 : c = a
  · rw [if_pos h1]
    by_cases h2 : b = a
    · rw [if_pos h2]; omega
    · rw [if_neg h2, if_pos rfl]; omega
  · rw [if_neg h1]
    by_cases h2 : c = b
    · rw [if_pos h2, if_pos rfl]; omega
    · rw [if_neg h2, if_neg h1, if_neg h2]
theorem sw_inj {a b x y : Int} : sw a b x = sw a b y ↔ x = y := ⟨fun h => by rw [← sw_sw a b x, h, sw_sw], fun h => by rw [h]⟩
def swT (a b : Int) (t : Tly) : Tly := { t with who := sw a b t.who }
def swF (f : Fld) (a b : Int) : Fld := { f with ts := f.ts.map (swT a b) }
theorem swF_sw (f : Fld) (a b : Int) : swF (swF f a b) a b = f := by
  have h : ∀ t, swT a b (swT a b t) = t := fun t => by
    show ({ t with who := sw a b (sw a b t.who) } : Tly) = t
    rw [sw_sw]
  show ({ f with ts := (f.ts.map (swT a b)).map (swT a b) } : Fld) = f
  rw [List.map_map, show (swT a b ∘ swT a b) = id from funext h, List.map_id]
theorem sw_bd {wd a b c : Int} (ha : 0 ≤ a ∧ a < wd) (hb : 0 ≤ b ∧ b < wd) (h : -1 ≤ c ∧ c ≤ wd - 1) : -1 ≤ sw a b c ∧ sw a b c ≤ wd - 1 := by
  unfold sw; split
  · omega
  · split <;> omega
theorem sw_nn {wd a b c : Int} (ha : 0 ≤ a ∧ a < wd) (hb : 0 ≤ b ∧ b < wd) (h : 0 ≤ c ∧ c ≤ wd - 1) : 0 ≤ sw a b c ∧ sw a b c ≤ wd - 1 := by
  unfold sw; split
  · omega
  · split <;> omega
theorem sw_m1 {a b : Int} (ha : 0 ≤ a) (hb : 0 ≤ b) : sw a b (-1) = -1 := by
  unfold sw; rw [if_neg (by omega), if_neg (by omega)]
theorem cnt_sw (a b who : Int) (l : List Int) : cnt (sw a b who) (l.map (sw a b)) = cnt who l := by
  unfold cnt
  rw [List.countP_map]
  refine List.countP_congr fun x _ => ?_
  show (sw a b x == sw a b who) = true ↔ (x == who) = true
  rw [beq_iff_eq, beq_iff_eq, sw_inj]
theorem part_sw (a b who : Int) (l : List Int) (fr n : Nat) : part (l.map (sw a b)) (sw a b who) fr n = part l who fr n := by
  unfold part
  rw [← List.map_drop, ← List.map_take, cnt_sw]
section
variable {f : Fld} (hc : check f = 0) {a b : Int} (ha : 0 ≤ a ∧ a < f.wd) (hb : 0 ≤ b ∧ b < f.wd)
include hc ha hb
theorem check_sw : check (swF f a b) = 0 := by
  obtain ⟨hr, hw, h5, ht, _⟩ := check_ok hc
  refine check_sub hc (by rw [List.length_map]; exact h5) fun t h => ?_
  obtain ⟨t', ht', rfl⟩ := List.mem_map.1 h
  have h1 := ht t' ht'
  have h2 := talOk_bd h1
  have h3 := sw_nn ha hb h2.1
  unfold talOk rngOk at *
  simp only [Bool.and_eq_true, inR_iff, decide_eq_true_eq] at h1 ⊢
  exact ⟨⟨⟨⟨h3, h1.1.1.1.2⟩, h1.1.1.2⟩, h1.1.2⟩, h1.2⟩
theorem alw_sw {l : List Int} (h : alw f l = true) : alw (swF f a b) (l.map (sw a b)) = true := by
  obtain ⟨hr, hw, h5, ht, _⟩ := check_ok hc
  rw [alw_iff hw.1] at h
  have e := part_sw a b (-1) l 0 l.length
  rw [sw_m1 ha.1 hb.1] at e
  rw [alw_iff (f := swF f a b) hw.1, List.length_map, e]
  refine ⟨fun x hx => ?_, h.2⟩
  obtain ⟨y, hy, rfl⟩ := List.mem_map.1 hx
  exact sw_bd ha hb (h.1 y hy)
omit hc ha hb in
theorem rt_sw (l : List Int) (t : Tly) : rt (l.map (sw a b)) (swT a b t) = rt l t := by
  unfold rt tdid
  show inR ((part (l.map (sw a b)) (sw a b t.who) t.fr.toNat (t.to + 1 - t.fr).toNat : Nat) : Int) t.lo t.hi = _
  rw [part_sw]
theorem refs_sw : ∀ l ∈ refs f, l.map (sw a b) ∈ refs (swF f a b) := fun l hl => by
  rw [mem_refs hc, tru_iff] at hl
  rw [mem_refs (check_sw hc ha hb), tru_iff]
  refine ⟨alw_sw hc ha hb hl.1, fun t h => ?_⟩
  obtain ⟨t', ht', rfl⟩ := List.mem_map.1 h
  rw [rt_sw]
  exact hl.2 t' ht'
theorem refs_sw2 : ∀ l ∈ refs (swF f a b), l.map (sw a b) ∈ refs f := fun l hl => by
  have := refs_sw (check_sw hc ha hb) ha hb l hl
  rwa [swF_sw] at this
theorem refs_sw_nil : refs (swF f a b) = [] ↔ refs f = [] := by
  constructor
  · intro h
    refine List.eq_nil_iff_forall_not_mem.2 fun l hl => ?_
    have := refs_sw hc ha hb l hl
    rw [h] at this; cases this
  · intro h
    refine List.eq_nil_iff_forall_not_mem.2 fun l hl => ?_
    have := refs_sw2 hc ha hb l hl
    rw [h] at this; cases this
omit hc ha hb in
theorem cR_sw (c : Int) (l : List Int) : cR (sw a b c) (l.map (sw a b)) = cR c l := by
  show ((part (l.map (sw a b)) (sw a b c) 0 (l.map (sw a b)).length : Nat) : Int) = ((part l c 0 l.length : Nat) : Int)
  rw [List.length_map, part_sw]
omit hc ha hb in
theorem cR_sw2 (c : Int) (l : List Int) : cR c (l.map (sw a b)) = cR (sw a b c) l := by
  have := cR_sw (a := a) (b := b) (sw a b c) l
  rwa [sw_sw] at this
theorem done_sw (hn : refs f ≠ []) (c : Int) : didB (refs f) c = didB (refs (swF f a b)) (sw a b c) :=
  done_map hc (check_sw hc ha hb) (fun l hl => ⟨_, refs_sw hc ha hb l hl, cR_sw c l⟩) (fun l hl => ⟨_, refs_sw2 hc ha hb l hl, cR_sw2 c l⟩) hn
theorem leave_sw_le : (leaveL (swF f a b)).length ≤ (leaveL f).length := by
  obtain ⟨s, hs1, hs2, hs3, _⟩ := leave_spec hc
  obtain ⟨t, ht1, ht2, _, ht4⟩ := leave_spec (check_sw hc ha hb)
  have hl : (swF f a b).ts.length = f.ts.length := by show (f.ts.map (swT a b)).length = _; rw [List.length_map]
  rw [hs2, ht2]
  rw [hl] at ht4
  refine sh_len (ht4 s hs1 ?_)
  rw [posB_iff hc] at hs3
  rw [posB_iff (check_sw hc ha hb)]
  obtain ⟨l, h1, h2⟩ := hs3
  refine ⟨l.map (sw a b), alw_sw hc ha hb h1, fun i t' hi => ?_⟩
  have hi2 : (f.ts.map (swT a b))[i]? = some t' := hi
  rw [List.getElem?_map] at hi2
  obtain ⟨u, hu, rfl⟩ := Option.map_eq_some_iff.1 hi2
  rw [rt_sw]
  exact h2 i u hu
theorem leave_sw : (leaveL (swF f a b)).length = (leaveL f).length := by
  refine Nat.le_antisymm (leave_sw_le hc ha hb) ?_
  have := leave_sw_le (check_sw hc ha hb) ha hb
  rwa [swF_sw] at this
end
end Go.Proofs.Ythogdgkafaclaaa
end
section
namespace Go.Proofs.Ythogdgkafaclaaa
theorem dones_get {f : Fld} (hc : check f = 0) (hn : refs f ≠ []) {i : Nat} (h : i < (donesTo f (truths f []) f.wd.toNat).length) : (donesTo f (truths f []) f.wd.toNat)[i] = didB (refs f) (i : Int) := by
  rw [← doneOf_didB hc hn]; exact donesTo_get ..
end Go.Proofs.Ythogdgkafaclaaa
end
section
set_option linter.unusedVariables false
set_option linter.unusedSimpArgs false
namespace Go.Proofs.Ythogdgkafaclaaa
open Go.RowKit
def G_WeedTurned_L17 (p0 : Fld) (p1 : Int) (p2 : Int) : Nat → Int → List Tly → List Tly → Option ((List Tly) × (List Tly))
  | 0, _, _, _ => none
  | m_ + 1, s17_11, s17_b14_24, s17_b14_34 => cond (decide (s17_11 < (p0.ts.length : Int))) ((idx p0.ts s17_11).bind fun x21 => (i64 (p0.rows - 1)).bind fun _ => (i64 ((p0.rows - 1) - x21.to)).bind fun _ => (i64 (p0.rows - 1)).bind fun _ => (i64 ((p0.rows - 1) - x21.fr)).bind fun _ => (ifo (((s17_b14_24.length + [(⟨x21.who, (p0.rows - 1) - x21.to, (p0.rows - 1) - x21.fr, x21.lo, x21.hi⟩ : Tly)].length : Nat) : Int) ≤ 140737488355328 / 40)).bind fun _ => cond (x21.who == (p1 % p0.wd)) ((ifo (((s17_b14_34.length + [(⟨p2 % p0.wd, x21.fr, x21.to, x21.lo, x21.hi⟩ : Tly)].length : Nat) : Int) ≤ 140737488355328 / 40)).bind fun _ => (i64 (s17_11 + 1)).bind fun _ => G_WeedTurned_L17 p0 p1 p2 m_ (s17_11 + 1) (s17_b14_24 ++ [(⟨x21.who, (p0.rows - 1) - x21.to, (p0.rows - 1) - x21.fr, x21.lo, x21.hi⟩ : Tly)]) (s17_b14_34 ++ [(⟨p2 % p0.wd, x21.fr, x21.to, x21.lo, x21.hi⟩ : Tly)])) (cond (x21.who == (p2 % p0.wd)) ((ifo (((s17_b14_34.length + [(⟨p1 % p0.wd, x21.fr, x21.to, x21.lo, x21.hi⟩ : Tly)].length : Nat) : Int) ≤ 140737488355328 / 40)).bind fun _ => (i64 (s17_11 + 1)).bind fun _ => G_WeedTurned_L17 p0 p1 p2 m_ (s17_11 + 1) (s17_b14_24 ++ [(⟨x21.who, (p0.rows - 1) - x21.to, (p0.rows - 1) - x21.fr, x21.lo, x21.hi⟩ : Tly)]) (s17_b14_34 ++ [(⟨p1 % p0.wd, x21.fr, x21.to, x21.lo, x21.hi⟩ : Tly)])) ((ifo (((s17_b14_34.length + [x21].length : Nat) : Int) ≤ 140737488355328 / 40)).bind fun _ => (i64 (s17_11 + 1)).bind fun _ => G_WeedTurned_L17 p0 p1 p2 m_ (s17_11 + 1) (s17_b14_24 ++ [(⟨x21.who, (p0.rows - 1) - x21.to, (p0.rows - 1) - x21.fr, x21.lo, x21.hi⟩ : Tly)]) (s17_b14_34 ++ [x21])))) (some ((s17_b14_24, s17_b14_34)))
def G_WeedTurned_L104 (p0 : Fld) (p1 : Int) (p2 : Int) (r65 : (List (Int × Int)) × Int) (r69 : (List (Int × Int)) × Int) (r73 : (List (Int × Int)) × Int) : Nat → Int → Option ((Bool) ⊕ (Unit))
  | 0, _ => none
  | m_ + 1, s104_27 => cond (decide (s104_27 < (r65.1.length : Int))) ((idx r65.1 s104_27).bind fun x107 => (idx r69.1 s104_27).bind fun x108 => cond ([x107.1, x107.2] != [x108.1, x108.2]) (some (.inl false)) (cond (s104_27 != (p1 % p0.wd)) (cond (s104_27 != (p2 % p0.wd)) ((idx r65.1 s104_27).bind fun x112 => (idx r73.1 s104_27).bind fun x113 => cond ([x112.1, x112.2] != [x113.1, x113.2]) (some (.inl false)) ((i64 (s104_27 + 1)).bind fun _ => G_WeedTurned_L104 p0 p1 p2 r65 r69 r73 m_ (s104_27 + 1))) ((i64 (s104_27 + 1)).bind fun _ => G_WeedTurned_L104 p0 p1 p2 r65 r69 r73 m_ (s104_27 + 1))) ((i64 (s104_27 + 1)).bind fun _ => G_WeedTurned_L104 p0 p1 p2 r65 r69 r73 m_ (s104_27 + 1)))) (some (.inr ()))
def G_WeedTurned (K_ : Nat) (p0 : Fld) (p1 : Int) (p2 : Int) : Option (Bool) :=
  (G_ready K_ p0).bind fun r2 => cond (!r2) ((ifo (G_awake K_ = some true)).bind fun _ => some (true)) ((cvO .i64 p1).bind fun _ => (rem p1 p0.wd).bind fun _ => (cvO .i64 p2).bind fun _ => (rem p2 p0.wd).bind fun _ => (G_WeedTurned_L17 p0 p1 p2 K_ (0 : Int) ([] : List Tly) ([] : List Tly)).bind fun z17 => (G_Field K_ p0).bind fun r52 => (Q_Leave K_ r52).bind fun r54 => (G_Field K_ (⟨p0.rows, p0.wd, p0.lo, p0.hi, z17.2⟩ : Fld)).bind fun r56 => (Q_Leave K_ r56).bind fun r58 => cond (r54.2 != 0) (some (false)) (cond (r58.2 != 0) (some (false)) (cond ((r54.1.length : Int) != (r58.1.length : Int)) (some (false)) ((G_Field K_ p0).bind fun r63 => (Q_Done K_ r63).bind fun r65 => (G_Field K_ (⟨p0.rows, p0.wd, p0.lo, p0.hi, z17.1⟩ : Fld)).bind fun r67 => (Q_Done K_ r67).bind fun r69 => (G_Field K_ (⟨p0.rows, p0.wd, p0.lo, p0.hi, z17.2⟩ : Fld)).bind fun r71 => (Q_Done K_ r71).bind fun r73 => cond (r65.2 != 0) (cond (r65.2 == 11) (cond (r69.2 == r65.2) (cond (r73.2 == r65.2) ((ifo (G_awake K_ = some true)).bind fun _ => some (true)) (some (false))) (some (false))) (some (false))) ((G_Field K_ p0).bind fun r81 => (Q_Ask K_ r81 (p1 % p0.wd)).bind fun r83 => (G_Field K_ (⟨p0.rows, p0.wd, p0.lo, p0.hi, z17.1⟩ : Fld)).bind fun r85 => (Q_Ask K_ r85 (p1 % p0.wd)).bind fun r87 => cond (r69.2 != 0) (some (false)) (cond (r73.2 != 0) (some (false)) (cond (r83.2 != 0) (some (false)) (cond (r87.2 != 0) (some (false)) (cond ((r65.1.length : Int) != p0.wd) (some (false)) (cond ((r69.1.length : Int) != (r65.1.length : Int)) (some (false)) (cond ((r73.1.length : Int) != (r65.1.length : Int)) (some (false)) (cond ((r83.1.length : Int) != (r87.1.length : Int)) (some (false)) ((idx r65.1 (p1 % p0.wd)).bind fun x98 => (idx r73.1 (p2 % p0.wd)).bind fun x99 => cond ([x98.1, x98.2] != [x99.1, x99.2]) (some (false)) ((idx r65.1 (p2 % p0.wd)).bind fun x101 => (idx r73.1 (p1 % p0.wd)).bind fun x102 => cond ([x101.1, x101.2] != [x102.1, x102.2]) (some (false)) ((G_WeedTurned_L104 p0 p1 p2 r65 r69 r73 K_ (0 : Int)).bind fun z => Sum.elim (fun q104 => some (q104)) (fun q104 => (ifo (G_awake K_ = some true)).bind fun _ => some (true)) z)))))))))))))))
end Go.Proofs.Ythogdgkafaclaaa
end
section
namespace Go.Proofs.Ythogdgkafaclaaa
theorem l_Turned17 (f : Fld) (p q : Int) {a b : Int} (ha : p % f.wd = a) (hb : q % f.wd = b) (hr : 1 ≤ f.rows ∧ f.rows ≤ 7) (h5 : f.ts.length ≤ 5) (ht : ∀ t ∈ f.ts, talOk f t = true) : ∀ (n m i : Nat), f.ts.length = i + n → n < m →
    G_WeedTurned_L17 f p q m (i : Int) ((f.ts.take i).map (revT f.rows)) ((f.ts.take i).map (swT a b)) = some (f.ts.map (revT f.rows), f.ts.map (swT a b))
  | n, 0, i, _, hm => by omega
  | 0, m + 1, i, hn, hm => by
    unfold G_WeedTurned_L17
    rw [cf (df (by omega)), List.take_of_length_le (by omega)]
  | n + 1, m + 1, i, hn, hm => by
    have e : ((i : Int) + 1) = ((i + 1 : Nat) : Int) := by omega
    have h1 : i < f.ts.length := by omega
    have htk := talOk_bd (ht f.ts[i] (List.getElem_mem h1))
    have ih := l_Turned17 f p q ha hb hr h5 ht n m (i + 1) (by omega) (by omega)
    rw [take_snoc _ _ h1, List.map_append, List.map_append] at ih
    have er : [f.ts[i]].map (revT f.rows) = [(⟨f.ts[i].who, (f.rows - 1) - f.ts[i].to, (f.rows - 1) - f.ts[i].fr, f.ts[i].lo, f.ts[i].hi⟩ : Tly)] := rfl
    have es : [f.ts[i]].map (swT a b) = [(⟨sw a b f.ts[i].who, f.ts[i].fr, f.ts[i].to, f.ts[i].lo, f.ts[i].hi⟩ : Tly)] := rfl
    rw [er, es] at ih
    unfold G_WeedTurned_L17
    have hlen : ((((f.ts.take i).map (revT f.rows)).length + 1 : Nat) : Int) ≤ 140737488355328 / 40 := by simp; omega
    have hlen2 : ((((f.ts.take i).map (swT a b)).length + 1 : Nat) : Int) ≤ 140737488355328 / 40 := by simp; omega
    rw [ct (dt (by omega)), idxb h1, i64b (by omega) (by omega), i64b (by omega) (by omega), i64b (by omega) (by omega), i64b (by omega) (by omega), ifob (by simp; omega), ha, hb]
    by_cases h2 : f.ts[i].who = a
    · have e2 : sw a b f.ts[i].who = b := by unfold sw; rw [if_pos h2]
      rw [e2] at ih
      rw [ct (by simp [h2]), ifob (by simp; omega), i64b (by omega) (by omega), e]
      exact ih
    · rw [cf (by simp [h2])]
      by_cases h3 : f.ts[i].who = b
      · have e2 : sw a b f.ts[i].who = a := by unfold sw; rw [if_neg h2, if_pos h3]
        rw [e2] at ih
        rw [ct (by simp [h3]), ifob (by simp; omega), i64b (by omega) (by omega), e]
        exact ih
      · have e2 : sw a b f.ts[i].who = f.ts[i].who := by unfold sw; rw [if_neg h2, if_neg h3]
        rw [e2] at ih
        rw [cf (by simp [h3]), ifob (by simp; omega), i64b (by omega) (by omega), e]
        exact ih
theorem l_Turned104 (f : Fld) (p q : Int) {a b : Int} (ha : p % f.wd = a) (hb : q % f.wd = b) {A B C : List (Int × Int)} {s t u : Int} (hA : A.length ≤ 900) (hB : B.length = A.length) (hC : C.length = A.length)
    (h : ∀ i (h1 : i < A.length) (h2 : i < B.length), A[i] = B[i]) (h' : ∀ i (h1 : i < A.length) (h2 : i < C.length), (i : Int) ≠ a → (i : Int) ≠ b → A[i] = C[i]) : ∀ (n m i : Nat), A.length = i + n → n < m → G_WeedTurned_L104 f p q (A, s) (B, t) (C, u) m (i : Int) = some (.inr ())
  | n, 0, i, _, hm => by omega
  | 0, m + 1, i, hn, hm => by
    unfold G_WeedTurned_L104
    rw [cf (df (by simp only []; omega))]
  | n + 1, m + 1, i, hn, hm => by
    have e : ((i : Int) + 1) = ((i + 1 : Nat) : Int) := by omega
    have h1 : i < A.length := by omega
    have h2 : i < B.length := by omega
    have h3 : i < C.length := by omega
    have ih := l_Turned104 f p q ha hb (s := s) (t := t) (u := u) hA hB hC h h' n m (i + 1) (by omega) (by omega)
    unfold G_WeedTurned_L104
    simp only []
    rw [ct (dt (by omega)), idxb h1, idxb h2, h i h1 h2, cf (by simp), ha, hb]
    by_cases h4 : (i : Int) = a
    · rw [cf (by simp [h4]), i64b (by omega) (by omega), e]; exact ih
    · rw [ct (by simp [h4])]
      by_cases h5 : (i : Int) = b
      · rw [cf (by simp [h5]), i64b (by omega) (by omega), e]; exact ih
      · rw [ct (by simp [h5]), idxb h1, idxb h3, h' i h1 h3 h4 h5, cf (by simp), i64b (by omega) (by omega), e]; exact ih
theorem weedTurned_plain (f : Fld) (p q : Int) (hp0 : 0 ≤ p ∧ p < 256) (hq0 : 0 ≤ q ∧ q < 256) : G_WeedTurned 1000 f p q = some true := by
  unfold G_WeedTurned
  rw [bd (g_ready f)]
  cases hrd : (thin f && check f == 0) with
  | false => rw [nf, ifob awake_1000]
  | true =>
    rw [Bool.and_eq_true, beq_iff_eq] at hrd
    obtain ⟨ht, hc⟩ := hrd
    obtain ⟨hr, hw, h5, ht2, hl, hm⟩ := check_ok hc
    obtain ⟨a, ha, hal⟩ := mod_nat (x := p) (m := f.wd) (by omega)
    obtain ⟨b, hb, hbl⟩ := mod_nat (x := q) (m := f.wd) (by omega)
    have hA : 0 ≤ (a : Int) ∧ (a : Int) < f.wd := by omega
    have hB : 0 ≤ (b : Int) ∧ (b : Int) < f.wd := by omega
    have h17 := l_Turned17 f p q ha hb (by omega) h5 ht2 f.ts.length 1000 0 (by omega) (by omega)
    rw [Int.natCast_zero, List.take_zero, List.map_nil, List.map_nil] at h17
    rw [nt, cv8 hp0, remb hp0.1 (by omega), cv8 hq0, remb hq0.1 (by omega), bd h17]
    simp only []
    obtain ⟨x, hx⟩ : ∃ x, x = revF f := ⟨_, rfl⟩
    obtain ⟨y, hy⟩ : ∃ y, y = swF f (a : Int) (b : Int) := ⟨_, rfl⟩
    have ex : (⟨f.rows, f.wd, f.lo, f.hi, f.ts.map (revT f.rows)⟩ : Fld) = x := hx.symm
    have ey : (⟨f.rows, f.wd, f.lo, f.hi, f.ts.map (swT (a : Int) (b : Int))⟩ : Fld) = y := hy.symm
    have hcx : check x = 0 := by rw [hx]; exact check_rev hc
    have hcy : check y = 0 := by rw [hy]; exact check_sw hc hA hB
    have hxw : x.wd = f.wd := by rw [hx]; rfl
    have hyw : y.wd = f.wd := by rw [hy]; rfl
    have hF := g_Field (K := 1000) (f := f) (Nat.le_refl _) (thin_len ht)
    have hX := g_Field (K := 1000) (f := x) (Nat.le_refl _) (by rw [hx]; show (f.ts.map _).length ≤ 7; rw [List.length_map]; exact thin_len ht)
    have hY := g_Field (K := 1000) (f := y) (Nat.le_refl _) (by rw [hy]; show (f.ts.map _).length ≤ 7; rw [List.length_map]; exact thin_len ht)
    have hlv : (leaveL y).length = (leaveL f).length := by rw [hy]; exact leave_sw hc hA hB
    rw [ex, ey, ha, hb, bd hF, bd (q_Leave 1000 f), if_pos hc, bd hY, bd (q_Leave 1000 y), if_pos hcy]
    simp only []
    rw [cf (by decide), cf (by decide), cf (by simp [hlv]), bd hF, bd (q_Done 1000 f), bd hX, bd (q_Done 1000 x), bd hY, bd (q_Done 1000 y)]
    by_cases hn : refs f = []
    · have hnx : refs x = [] := by rw [hx]; exact (refs_rev_nil hc).2 hn
      have hny : refs y = [] := by rw [hy]; exact (refs_sw_nil hc hA hB).2 hn
      have hs : sureE f = 11 := by rw [refs_nil hc, if_pos hn]
      have hsx : sureE x = 11 := by rw [refs_nil hcx, if_pos hnx]
      have hsy : sureE y = 11 := by rw [refs_nil hcy, if_pos hny]
      rw [hs, hsx, hsy, if_neg (by decide), if_neg (by decide), if_neg (by decide)]
      simp only []
      rw [ct (by decide), ct (by decide), ct (by decide), ct (by decide), ifob awake_1000]
    · have hnx : refs x ≠ [] := fun h => hn ((refs_rev_nil hc).1 (by rw [← hx]; exact h))
      have hny : refs y ≠ [] := fun h => hn ((refs_sw_nil hc hA hB).1 (by rw [← hy]; exact h))
      have hs : sureE f = 0 := by rw [refs_nil hc, if_neg hn]
      have hsx : sureE x = 0 := by rw [refs_nil hcx, if_neg hnx]
      have hsy : sureE y = 0 := by rw [refs_nil hcy, if_neg hny]
      have hwB : whoB f (a : Int) = true := inR_iff.2 (by omega)
      have hwBx : whoB x (a : Int) = true := inR_iff.2 (by rw [hxw]; omega)
      have hask : (askL x (a : Int)).length = (askL f (a : Int)).length := by rw [hx]; exact ask_rev hc _
      have e1 : ((donesTo f (truths f []) f.wd.toNat).length : Int) = f.wd := by rw [donesTo_len]; omega
      have l1 := donesTo_len f (truths f []) f.wd.toNat
      have l2 : (donesTo x (truths x []) x.wd.toNat).length = (donesTo f (truths f []) f.wd.toNat).length := by rw [donesTo_len, donesTo_len, hxw]
      have l3 : (donesTo y (truths y []) y.wd.toNat).length = (donesTo f (truths f []) f.wd.toNat).length := by rw [donesTo_len, donesTo_len, hyw]
      have gA : ∀ i (h1 : i < (donesTo f (truths f []) f.wd.toNat).length), (donesTo f (truths f []) f.wd.toNat)[i] = didB (refs f) (i : Int) := fun i h1 => dones_get hc hn h1
      have gX : ∀ i (h1 : i < (donesTo x (truths x []) x.wd.toNat).length), (donesTo x (truths x []) x.wd.toNat)[i] = didB (refs f) (i : Int) := fun i h1 => by
        rw [dones_get hcx hnx h1, done_rev hc hn, hx]
      have gY : ∀ i (h1 : i < (donesTo y (truths y []) y.wd.toNat).length), (donesTo y (truths y []) y.wd.toNat)[i] = didB (refs f) (sw (a : Int) (b : Int) (i : Int)) := fun i h1 => by
        rw [dones_get hcy hny h1, done_sw hc hA hB hn (sw (a : Int) (b : Int) (i : Int)), sw_sw, hy]
      have la : a < (donesTo f (truths f []) f.wd.toNat).length := by omega
      have lb : b < (donesTo f (truths f []) f.wd.toNat).length := by omega
      have swa : sw (a : Int) (b : Int) (b : Int) = a := by unfold sw; split <;> omega
      have swb : sw (a : Int) (b : Int) (a : Int) = b := by unfold sw; rw [if_pos rfl]
      rw [if_pos hs, if_pos hsx, if_pos hsy]
      simp only []
      rw [cf (by decide), bd hF, bd (q_Ask 1000 f _), hwB, askE_true, if_pos hs, bd hX, bd (q_Ask 1000 x _), hwBx, askE_true, if_pos hsx]
      simp only []
      rw [cf (by decide), cf (by decide), cf (by decide), cf (by decide), cf (by simp [e1]), cf (by simp [l2]), cf (by simp [l3]), cf (by simp [hask]), idxb la, idxb (by rw [l3]; exact lb), gA a la, gY b (by rw [l3]; exact lb), swa, cf (by simp), idxb lb, idxb (by rw [l3]; exact la), gA b lb, gY a (by rw [l3]; exact la), swb, cf (by simp)]
      have h104 := l_Turned104 f p q ha hb (A := donesTo f (truths f []) f.wd.toNat) (B := donesTo x (truths x []) x.wd.toNat) (C := donesTo y (truths y []) y.wd.toNat) (s := 0) (t := 0) (u := 0) (by omega) l2 l3
        (fun i h1 h2 => by rw [gA i h1, gX i h2]) (fun i h1 h2 h3 h4 => by
          have : sw (a : Int) (b : Int) (i : Int) = i := by unfold sw; rw [if_neg h3, if_neg h4]
          rw [gA i h1, gY i h2, this]) (donesTo f (truths f []) f.wd.toNat).length 1000 0 (by omega) (by omega)
      rw [Int.natCast_zero] at h104
      rw [bd h104, Sum.elim_inr, ifob awake_1000]
theorem weedTurned_true (f : Fld) (p q : Int) (hp0 : 0 ≤ p ∧ p < 256) (hq0 : 0 ≤ q ∧ q < 256) : ∃ K, G_WeedTurned K f p q = some true := ⟨1000, weedTurned_plain f p q hp0 hq0⟩
end Go.Proofs.Ythogdgkafaclaaa
end
section
set_option linter.unusedVariables false
set_option linter.unusedSimpArgs false
namespace Go.Proofs.Ythogdgkafaclaaa
open Go.RowKit
set_option maxRecDepth 100000
open AF
theorem mixedL13 : Try.prog.follows .mixedOrders = true := by kernel_rfl
attribute [local irreducible] Ex1 WL CC CW LV Ret ObOp Agg One Own
theorem a13 (K_ : Nat) (p0 : Fld) (p1 : Int) (p2 : Int) (A0_0 : Option Addr) (c0_0 : Nat) (Z : Nat → Prop) (w : World) (hS0_0 : Sl eTly w Z A0_0 c0_0 p0.ts) (hG : G_WeedTurned K_ p0 p1 p2 = some true) :
    Ret Try.prog 13 #[.agg #[I p0.rows, I p0.wd, I p0.lo, I p0.hi, .slice A0_0 p0.ts.length c0_0], .int .u8 p1, .int .u8 p2] w (fun v w' => Ext w w' ∧ v = .bool true) := by
 unfold G_WeedTurned at hG
 refine ret_of_cc (N := 273) Try.func13 rfl rfl (by simp) ?_
 intro fr0 ha hdf
 have hp_0 := sl_arg (i := 0) (v := .agg #[I p0.rows, I p0.wd, I p0.lo, I p0.hi, .slice A0_0 p0.ts.length c0_0]) ha rfl
 have hp_1 := sl_arg (i := 1) (v := .int .u8 p1) ha rfl
 have hp_2 := sl_arg (i := 2) (v := .int .u8 p2) ha rfl
 clear ha
 have hp0 := Hp.refl w
 have hS0_0_0 := hS0_0.mv (mv_start w)
 refine cc_seq <| cc_region <| we rfl (fun st => x_box (v := .agg #[I p0.rows, I p0.wd, I p0.lo, I p0.hi, .slice A0_0 p0.ts.length c0_0]) (cs := #[I p0.rows, I p0.wd, I p0.lo, I p0.hi, .slice A0_0 p0.ts.length c0_0]) (ee st hp_0) rfl) ?_
 rintro _ w1 ⟨b1, rfl, nb1⟩
 have hp1 : Hp w [some b1] w1 := hp0.new nb1.gr (Nat.le_of_eq nb1.b_eq.symm) (Nat.lt_of_lt_of_eq (Nat.lt_succ_self _) nb1.sz.symm)
 refine wa rfl (v := .bool false) rfl <| wl_end <| lv_next <| cc_seq <| cc_seq <| cc_region <| wd rfl (fun st => x_loadn (l := [I p0.rows, I p0.wd, I p0.lo, I p0.hi, .slice A0_0 p0.ts.length c0_0]) agg_26 (ee st rfl) nb1.bk rfl rfl) ?_
 have hS0_0_1 : Sl eTly w1 (ZZ Z w.heap.size [some b1]) A0_0 c0_0 p0.ts := (hS0_0_0.mv (mv_new nb1.gr (Nat.le_of_eq nb1.b_eq.symm)))
 replace hG := bind_some hG; obtain ⟨r2, hr2, hG⟩ := hG
 refine we rfl (fun st => x_call0 own_39 (ee st rfl) (am1 (ee st rfl)) (a39 K_ p0 A0_0 c0_0 ZA _ hS0_0_1.all r2 hr2)) ?_
 rintro _ w3 ⟨hx2, rfl⟩
 have hp2 : Hp w [some b1] w3 := hp1.ext hx2
 refine wd rfl (fun st => x_not (ee st rfl)) <| wl_end <| lv_next ?_
 rcases bool_cases (!r2) with hc4 | hc4
 ·replace hG := cond_t hG hc4
  have hc4_5 : r2 = false := by simpa using hc4
  refine cc_cond_t rfl hc4 <| cc_seq <| cc_region ?_
  replace hG := ifo_bind hG; obtain ⟨hw6, hG⟩ := hG
  refine we rfl (fun st => x_call0 own_21 (ee st rfl) am0 (a21 K_ ZA _ hw6)) ?_
  rintro _ w7 ⟨hx6, rfl⟩
  have hp3 : Hp w [some b1] w7 := hp2.ext hx6
  refine wa rfl (v := .bool true) rfl <| wl_end <| lv_next <| cc_ret <| lv_then_ret ?_
  have hr_ := Option.some.inj hG
  refine lv_ret1 rfl rfl ?_
  exact ⟨hp3.fin, congrArg Value.bool hr_⟩
 ·replace hG := cond_f hG hc4
  have hc4_8 : r2 = true := by simpa using hc4
  refine cc_cond_f rfl hc4 <| cc_skip <| lv_next <| cc_seq ?_
  replace hG := cvO_bind hG; obtain ⟨hf10, hG⟩ := hG
  have bk1_2 : Bk w3 b1 26 #[I p0.rows, I p0.wd, I p0.lo, I p0.hi, .slice A0_0 p0.ts.length c0_0] := (nb1.bk.ext hx2)
  replace hG := rem_bind hG; obtain ⟨hf11, hG⟩ := hG
  replace hG := cvO_bind hG; obtain ⟨hf12, hG⟩ := hG
  replace hG := rem_bind hG; obtain ⟨hf13, hG⟩ := hG
  refine cc_anyM0 11 [Kc (.int .u8 p1), Kc (I p1), Kc (pt b1 1), Kc (I p0.wd), Kc (I (p1 % p0.wd)), Kc (.int .u8 p2), Kc (I p2), Kc (pt b1 1), Kc (I p0.wd), Kc (I (p2 % p0.wd)), Kc (I (p1 % p0.wd))] mixedL13 rfl rfl
      (obsN_cons (od rfl (fun _ => rfl) (fun K => x_move (v := .int .u8 p1) (es (t := 1) (v := .int .u8 p1) ((K.out 1 rfl).trans hp_1))))
      (obsN_cons (od rfl (fun _ => rfl) (fun K => x_conv (k := .i64) sm_5 Try.underlying3 (es (t := 32) (v := .int .u8 p1) (K.dep 0 32 rfl rfl)) hf10))
      (obsN_cons (od rfl (fun _ => rfl) (fun K => x_fieldAddr (es (t := 3) (v := pt b1 0) ((K.out 3 rfl).trans rfl)) (fz_26_1 _ _)))
      (obsN_cons (od rfl (fun _ => rfl) (fun K => x_load1 (v := I p0.wd) one_3 (es (t := 34) (v := pt b1 1) (K.dep 2 34 rfl rfl)) (bk1_2.ext K.phT) rfl))
      (obsN_cons (od rfl (fun _ => rfl) (fun K => x_rem (es (t := 33) (v := I p1) (K.dep 1 33 rfl rfl)) (es (t := 35) (v := I p0.wd) (K.dep 3 35 rfl rfl)) hf11.1 hf11.2))
      (obsN_cons (od rfl (fun _ => rfl) (fun K => x_move (v := .int .u8 p2) (es (t := 2) (v := .int .u8 p2) ((K.out 2 rfl).trans hp_2))))
      (obsN_cons (od rfl (fun _ => rfl) (fun K => x_conv (k := .i64) sm_5 Try.underlying3 (es (t := 37) (v := .int .u8 p2) (K.dep 5 37 rfl rfl)) hf12))
      (obsN_cons (od rfl (fun _ => rfl) (fun K => x_fieldAddr (es (t := 3) (v := pt b1 0) ((K.out 3 rfl).trans rfl)) (fz_26_1 _ _)))
      (obsN_cons (od rfl (fun _ => rfl) (fun K => x_load1 (v := I p0.wd) one_3 (es (t := 39) (v := pt b1 1) (K.dep 7 39 rfl rfl)) (bk1_2.ext K.phT) rfl))
      (obsN_cons (od rfl (fun _ => rfl) (fun K => x_rem (es (t := 38) (v := I p2) (K.dep 6 38 rfl rfl)) (es (t := 40) (v := I p0.wd) (K.dep 8 40 rfl rfl)) hf13.1 hf13.2))
      (obsN_cons (od rfl (fun _ => rfl) (fun K => x_assign (v := I (p1 % p0.wd)) (es (t := 36) (v := I (p1 % p0.wd)) (K.dep 4 36 rfl rfl))))
      (obsN_nil _)))))))))))) ?_
  intro w9
  rintro _ rfl _ rfl _ rfl _ rfl _ rfl _ rfl _ rfl _ rfl _ rfl _ rfl _ rfl hx9
  have hp4 : Hp w [some b1] w9 := hp2.ext hx9
  refine wa rfl (v := I (p2 % p0.wd)) rfl <| wl_end <| lv_next <| cc_seq ?_
  have bk1_4 : Bk w9 b1 26 #[I p0.rows, I p0.wd, I p0.lo, I p0.hi, .slice A0_0 p0.ts.length c0_0] := (bk1_2.ext hx9)
  refine cc_anyI (fun D V w_ => Ext w9 w_ ∧ ∃ b14_2 b14_3 : Nat, (D 0 = true → V 0 = .agg #[I p0.rows, I p0.wd, I p0.lo, I p0.hi, .slice A0_0 p0.ts.length c0_0]) ∧ (D 1 = true → V 1 = .agg #[I p0.rows, I p0.wd, I p0.lo, I p0.hi, .slice A0_0 p0.ts.length c0_0]) ∧ (D 2 = true → V 2 = .pointer (some ⟨b14_2, 0, none⟩) ∧ w9.heap.size ≤ b14_2 ∧ Bk w_ b14_2 26 (cond (D 4) #[I p0.rows, I p0.wd, I p0.lo, I p0.hi, .slice A0_0 p0.ts.length c0_0] #[I 0, I 0, I 0, I 0, .slice none 0 0])) ∧ (D 3 = true → V 3 = .pointer (some ⟨b14_3, 0, none⟩) ∧ w9.heap.size ≤ b14_3 ∧ Bk w_ b14_3 26 (cond (D 5) #[I p0.rows, I p0.wd, I p0.lo, I p0.hi, .slice A0_0 p0.ts.length c0_0] #[I 0, I 0, I 0, I 0, .slice none 0 0])) ∧ (D 2 = true → D 3 = true → b14_2 ≠ b14_3)) mixedL13 rfl ⟨ext_drew _, 0, 0, fun h => absurd h (by decide), fun h => absurd h (by decide), fun h => absurd h (by decide), fun h => absurd h (by decide), fun h => absurd h (by decide)⟩
      ⟨⟨rfl, fun D V a' w' K ⟨hx, b14_2, b14_3, h_0, h_1, h_2, h_3, hne⟩ => (x_loadn (l := [I p0.rows, I p0.wd, I p0.lo, I p0.hi, .slice A0_0 p0.ts.length c0_0]) agg_26 (es (t := 3) (v := pt b1 0) ((K.out 3 rfl).trans rfl)) (bk1_4.ext hx) rfl rfl).mono fun v w'' ⟨e1, e2⟩ => by subst e1; subst e2; exact ⟨hx, b14_2, b14_3, fun _ => rfl, h_1, h_2, h_3, hne⟩⟩, ⟨rfl, fun D V a' w' K ⟨hx, b14_2, b14_3, h_0, h_1, h_2, h_3, hne⟩ => (x_loadn (l := [I p0.rows, I p0.wd, I p0.lo, I p0.hi, .slice A0_0 p0.ts.length c0_0]) agg_26 (es (t := 3) (v := pt b1 0) ((K.out 3 rfl).trans rfl)) (bk1_4.ext hx) rfl rfl).mono fun v w'' ⟨e1, e2⟩ => by subst e1; subst e2; exact ⟨hx, b14_2, b14_3, h_0, fun _ => rfl, h_2, h_3, hne⟩⟩, ⟨rfl, fun D V a' w' K ⟨hx, b14_2, b14_3, h_0, h_1, h_2, h_3, hne⟩ => (x_alloc (cs := #[I 0, I 0, I 0, I 0, .slice none 0 0]) zero_26 rfl).mono fun v w'' ⟨bN, e1, nb⟩ => by subst e1; exact ⟨Ext.trans hx nb.gr, bN, b14_3, h_0, h_1, fun _ => ⟨rfl, (by rw [nb.b_eq]; exact hx.size), bk_c0 (K.no 4 _ rfl rfl) nb.bk⟩, fun h => ⟨(h_3 h).1, (h_3 h).2.1, (h_3 h).2.2.ext nb.gr⟩, fun _ hj e => (by have h1 := (h_3 hj).2.2.lt; have h2 := nb.b_eq; omega)⟩⟩, ⟨rfl, fun D V a' w' K ⟨hx, b14_2, b14_3, h_0, h_1, h_2, h_3, hne⟩ => (x_alloc (cs := #[I 0, I 0, I 0, I 0, .slice none 0 0]) zero_26 rfl).mono fun v w'' ⟨bN, e1, nb⟩ => by subst e1; exact ⟨Ext.trans hx nb.gr, b14_2, bN, h_0, h_1, fun h => ⟨(h_2 h).1, (h_2 h).2.1, (h_2 h).2.2.ext nb.gr⟩, fun _ => ⟨rfl, (by rw [nb.b_eq]; exact hx.size), bk_c0 (K.no 5 _ rfl rfl) nb.bk⟩, fun hj _ e => (by have h1 := (h_2 hj).2.2.lt; have h2 := nb.b_eq; omega)⟩⟩, ⟨rfl, fun D V a' w' K ⟨hx, b14_2, b14_3, h_0, h_1, h_2, h_3, hne⟩ => (x_store (n := 5) (l := [I p0.rows, I p0.wd, I p0.lo, I p0.hi, .slice A0_0 p0.ts.length c0_0]) (cs' := #[I p0.rows, I p0.wd, I p0.lo, I p0.hi, .slice A0_0 p0.ts.length c0_0]) (es (t := 9) (v := pt b14_2 0) ((K.dep 2 9 rfl rfl).trans (h_2 (K.dn 2 rfl)).1)) (es (t := 42) (v := .agg #[I p0.rows, I p0.wd, I p0.lo, I p0.hi, .slice A0_0 p0.ts.length c0_0]) ((K.dep 0 42 rfl rfl).trans (h_0 (K.dn 0 rfl)))) sz_26 (bk_d0 K.me (h_2 (K.dn 2 rfl)).2.2) rfl rfl (show 0 + 5 ≤ 5 by decide) (one_cells rfl) rfl).mono fun v w'' ⟨_, hM, hg⟩ => ⟨ext_upd_new hx hg (h_2 (K.dn 2 rfl)).2.1, b14_2, b14_3, h_0, h_1, fun _ => ⟨(h_2 (K.dn 2 rfl)).1, (h_2 (K.dn 2 rfl)).2.1, hM⟩, fun h => ⟨(h_3 h).1, (h_3 h).2.1, (h_3 h).2.2.upd hg (fun e => (hne (K.dn 2 rfl) h) e.symm)⟩, hne⟩⟩, ⟨rfl, fun D V a' w' K ⟨hx, b14_2, b14_3, h_0, h_1, h_2, h_3, hne⟩ => (x_store (n := 5) (l := [I p0.rows, I p0.wd, I p0.lo, I p0.hi, .slice A0_0 p0.ts.length c0_0]) (cs' := #[I p0.rows, I p0.wd, I p0.lo, I p0.hi, .slice A0_0 p0.ts.length c0_0]) (es (t := 10) (v := pt b14_3 0) ((K.dep 3 10 rfl rfl).trans (h_3 (K.dn 3 rfl)).1)) (es (t := 43) (v := .agg #[I p0.rows, I p0.wd, I p0.lo, I p0.hi, .slice A0_0 p0.ts.length c0_0]) ((K.dep 1 43 rfl rfl).trans (h_1 (K.dn 1 rfl)))) sz_26 (bk_d0 K.me (h_3 (K.dn 3 rfl)).2.2) rfl rfl (show 0 + 5 ≤ 5 by decide) (one_cells rfl) rfl).mono fun v w'' ⟨_, hM, hg⟩ => ⟨ext_upd_new hx hg (h_3 (K.dn 3 rfl)).2.1, b14_2, b14_3, h_0, h_1, fun h => ⟨(h_2 h).1, (h_2 h).2.1, (h_2 h).2.2.upd hg ((hne h (K.dn 3 rfl)))⟩, fun _ => ⟨(h_3 (K.dn 3 rfl)).1, (h_3 (K.dn 3 rfl)).2.1, hM⟩, hne⟩⟩, trivial⟩ ?_
  rintro D14 V14 w14 hall14 ⟨hx14, b14_2, b14_3, h14_0, h14_1, h14_2, h14_3, hne14⟩
  replace h14_0 := h14_0 (hall14 0 (by decide))
  replace h14_1 := h14_1 (hall14 1 (by decide))
  replace h14_2 := h14_2 (hall14 2 (by decide))
  replace h14_3 := h14_3 (hall14 3 (by decide))
  replace hne14 := hne14 (hall14 2 (by decide)) (hall14 3 (by decide))
  have kb14_2 := bk_d1 (hall14 4 (by decide)) h14_2.2.2
  have kb14_3 := bk_d1 (hall14 5 (by decide)) h14_3.2.2
  have hp5 : Hp w [some b14_3, some b14_2, some b1] w14 := hp4.new2 hx14 h14_2.2.1 kb14_2.lt h14_3.2.1 kb14_3.lt (Ne.symm hne14)
  refine lv_next <| cc_seq <| cc_region <| wd rfl (fun st => x_fieldAddr (ee st h14_2.1) (fz_26_3 _ _)) <| wl_ex0 rfl rfl (fun st => x_store (n := 1) (l := [.slice none 0 0]) (cs' := #[I p0.rows, I p0.wd, I p0.lo, I p0.hi, .slice none 0 0]) (ee st rfl) (ee st rfl) sz_24 kb14_2 rfl rfl (show 4 + 1 ≤ 5 by decide) (one_cells rfl) rfl) ?_
  rintro _ w15 sb15
  have hp6 : Hp w [some b14_3, some b14_2, some b1] w15 := hp5.gr sb15.gr (hp5.ge 1 rfl)
  refine wd rfl (fun st => x_fieldAddr (ee st h14_3.1) (fz_26_3 _ _)) ?_
  have kb14_3_6 : Bk w15 b14_3 26 #[I p0.rows, I p0.wd, I p0.lo, I p0.hi, .slice A0_0 p0.ts.length c0_0] := (kb14_3.gr sb15.gr (hp5.ne 0 1 rfl rfl rfl))
  refine wl_ex0 rfl rfl (fun st => x_store (n := 1) (l := [.slice none 0 0]) (cs' := #[I p0.rows, I p0.wd, I p0.lo, I p0.hi, .slice none 0 0]) (ee st rfl) (ee st rfl) sz_24 kb14_3_6 rfl rfl (show 4 + 1 ≤ 5 by decide) (one_cells rfl) rfl) ?_
  rintro _ w16 sb16
  have hp7 : Hp w [some b14_3, some b14_2, some b1] w16 := hp6.gr sb16.gr (hp6.ge 0 rfl)
  refine wl_end <| lv_next <| cc_seq <| cc_seq <| cc_region <| wa rfl (v := I 0) rfl <| wl_end <| lv_next <| cc_block ?_
  have hp8 : Hp w [none, some b14_3, some b14_2, some b1] w16 := hp7.nil
  have hR18 : OwnR eTly 68 w w16 (ZZ Z w.heap.size [none, some b14_3, some b14_2, some b1]) none 0 [] := OwnR.nil _ _ _ _ _
  have hp9 : Hp w [none, none, some b14_3, some b14_2, some b1] w16 := hp8.nil
  have hR19 : OwnR eTly 68 w w16 (ZZ Z w.heap.size [none, none, some b14_3, some b14_2, some b1]) none 0 [] := OwnR.nil _ _ _ _ _
  replace hG := bind_some hG; obtain ⟨z17, hL17, hG⟩ := hG
  refine cc_join (fun e_ fr_ w_ => (e_ = .exit 0 ∧ ∃ Ae17_0_b14_24 Ce17_0_b14_24, ∃ Ae17_0_b14_34 Ce17_0_b14_34, fr_.tmps.size = 273 ∧ fr_.defers = [] ∧ sl fr_ 3 = pt b1 0 ∧ sl fr_ 7 = I (p1 % p0.wd) ∧ sl fr_ 8 = I (p2 % p0.wd) ∧ sl fr_ 9 = pt b14_2 0 ∧ sl fr_ 10 = pt b14_3 0 ∧ Hp w [ob Ae17_0_b14_24, ob Ae17_0_b14_34, some b14_3, some b14_2, some b1] w_ ∧ OwnR eTly 68 w w_ (ZZ Z w.heap.size [ob Ae17_0_b14_24, ob Ae17_0_b14_34, some b14_3, some b14_2, some b1]) Ae17_0_b14_24 Ce17_0_b14_24 z17.1 ∧ OwnR eTly 68 w w_ (ZZ Z w.heap.size [ob Ae17_0_b14_24, ob Ae17_0_b14_34, some b14_3, some b14_2, some b1]) Ae17_0_b14_34 Ce17_0_b14_34 z17.2 ∧ Bk w_ b1 26 #[I p0.rows, I p0.wd, I p0.lo, I p0.hi, .slice A0_0 p0.ts.length c0_0] ∧ Sl eTly w_ (ZZ Z w.heap.size [ob Ae17_0_b14_24, ob Ae17_0_b14_34, some b14_3, some b14_2, some b1]) A0_0 c0_0 p0.ts ∧ Bk w_ b14_2 26 #[I p0.rows, I p0.wd, I p0.lo, I p0.hi, .slice Ae17_0_b14_24 z17.1.length Ce17_0_b14_24] ∧ Bk w_ b14_3 26 #[I p0.rows, I p0.wd, I p0.lo, I p0.hi, .slice Ae17_0_b14_34 z17.2.length Ce17_0_b14_34])) ?lp17 ?af17
  case lp17 =>
   clear hG
   refine cc_loop (fun (m_ : Nat) (fr_ : Act) (w_ : World) => ∃ s17_11, ∃ s17_b14_24, ∃ s17_b14_34, ∃ As17_b14_24 Cs17_b14_24, ∃ As17_b14_34 Cs17_b14_34, G_WeedTurned_L17 p0 p1 p2 m_ s17_11 s17_b14_24 s17_b14_34 = some z17 ∧ fr_.tmps.size = 273 ∧ fr_.defers = [] ∧ sl fr_ 3 = pt b1 0 ∧ sl fr_ 7 = I (p1 % p0.wd) ∧ sl fr_ 8 = I (p2 % p0.wd) ∧ sl fr_ 9 = pt b14_2 0 ∧ sl fr_ 10 = pt b14_3 0 ∧ sl fr_ 11 = I s17_11 ∧ Hp w [ob As17_b14_24, ob As17_b14_34, some b14_3, some b14_2, some b1] w_ ∧ OwnR eTly 68 w w_ (ZZ Z w.heap.size [ob As17_b14_24, ob As17_b14_34, some b14_3, some b14_2, some b1]) As17_b14_24 Cs17_b14_24 s17_b14_24 ∧ OwnR eTly 68 w w_ (ZZ Z w.heap.size [ob As17_b14_24, ob As17_b14_34, some b14_3, some b14_2, some b1]) As17_b14_34 Cs17_b14_34 s17_b14_34 ∧ Bk w_ b1 26 #[I p0.rows, I p0.wd, I p0.lo, I p0.hi, .slice A0_0 p0.ts.length c0_0] ∧ Sl eTly w_ (ZZ Z w.heap.size [ob As17_b14_24, ob As17_b14_34, some b14_3, some b14_2, some b1]) A0_0 c0_0 p0.ts ∧ Bk w_ b14_2 26 #[I p0.rows, I p0.wd, I p0.lo, I p0.hi, .slice As17_b14_24 s17_b14_24.length Cs17_b14_24] ∧ Bk w_ b14_3 26 #[I p0.rows, I p0.wd, I p0.lo, I p0.hi, .slice As17_b14_34 s17_b14_34.length Cs17_b14_34]) K_ ?in17 ?rd17
   case in17 =>
    intro st
    have hR18_9 : OwnR eTly 68 w w16 (ZZ Z w.heap.size [none, none, some b14_3, some b14_2, some b1]) none 0 ([] : List Tly) := (hR18.up mv_nil)
    have bk1_9 : Bk w16 b1 26 #[I p0.rows, I p0.wd, I p0.lo, I p0.hi, .slice A0_0 p0.ts.length c0_0] := (((bk1_4.ext hx14).gr sb15.gr (hp5.ne 2 1 rfl rfl rfl)).gr sb16.gr (hp6.ne 2 0 rfl rfl rfl))
    have hS0_0_9 : Sl eTly w16 (ZZ Z w.heap.size [none, none, some b14_3, some b14_2, some b1]) A0_0 c0_0 p0.ts := (((((((hS0_0_1.mv (mv_ext hx2)).mv (mv_ext hx9)).mv (mv_new2 hx14 h14_2.2.1 h14_3.2.1)).mv (hp5.mv0 sb15.gr 1 rfl)).mv (hp6.mv0 sb16.gr 0 rfl)).mv mv_nil).mv mv_nil)
    have kb14_2_9 : Bk w16 b14_2 26 #[I p0.rows, I p0.wd, I p0.lo, I p0.hi, .slice none (([] : List Tly).length) 0] := (sb15.bk.gr sb16.gr (hp6.ne 1 0 rfl rfl rfl))
    have kb14_3_9 : Bk w16 b14_3 26 #[I p0.rows, I p0.wd, I p0.lo, I p0.hi, .slice none (([] : List Tly).length) 0] := sb16.bk
    exact ⟨(0 : Int), ([] : List Tly), ([] : List Tly), none, 0, none, 0, hL17, (puts_size _ _).trans st.sz, (puts_defers _ _).trans st.df, (sl_puts st 3).trans rfl, (sl_puts st 7).trans rfl, (sl_puts st 8).trans rfl, (sl_puts st 9).trans h14_2.1, (sl_puts st 10).trans h14_3.1, (sl_puts st 11).trans rfl, hp9, hR18_9, hR19, bk1_9, hS0_0_9, kb14_2_9, kb14_3_9⟩
   case rd17 =>
    rintro (_ | m_) fr17 w17r ⟨s17_11, s17_b14_24, s17_b14_34, As17_b14_24, Cs17_b14_24, As17_b14_34, Cs17_b14_34, hL17, hsz17, hdf17, hs17_3, hs17_7, hs17_8, hs17_9, hs17_10, hs17_11, hp10, f17_Hs17_b14_24, f17_Hs17_b14_34, f17_bk1, f17_hS0_0, f17_kb14_2, f17_kb14_3⟩
    ·exact absurd (show none = some _ from hL17) (by simp)
    rw [G_WeedTurned_L17.eq_2] at hL17
    have hG := hL17; clear hL17
    refine round_cc (N := 273) hsz17 hdf17 <| cc_seq <| cc_seq <| cc_region <| wm rfl (v := I s17_11) hs17_11 <| wd rfl (fun st => x_fieldAddr (ee st hs17_3) (fz_26_3 _ _)) <| wd rfl (fun st => x_load1 (v := .slice A0_0 p0.ts.length c0_0) one_24 (ee st rfl) f17_bk1 rfl) <| wd rfl (fun st => x_len Try.underlying24 (ee st rfl)) <| wd rfl (fun st => x_lss (ee st rfl) (ee st rfl)) <| wl_end <| lv_next ?_
    rcases bool_cases (decide (s17_11 < (p0.ts.length : Int))) with hc20 | hc20
    ·replace hG := cond_t hG hc20
     refine cc_cond_t rfl hc20 <| cc_skip <| lv_next <| cc_seq <| cc_block <| cc_seq <| cc_region <| wd rfl (fun st => x_fieldAddr (ee st hs17_3) (fz_26_3 _ _)) <| wd rfl (fun st => x_load1 (v := .slice A0_0 p0.ts.length c0_0) one_24 (ee st rfl) f17_bk1 rfl) <| wm rfl (v := I s17_11) hs17_11 ?_
     replace hG := idx_bind hG; obtain ⟨i21, x21, hi21, hx21, hl21, hG⟩ := hG
     obtain ⟨b21, o21, _, hA21, rfl, hz21⟩ := Sl.elem f17_hS0_0 (by decide) hx21
     refine wd rfl (fun st => x_indexAddrN (k := i21) Try.underlying24 sz_68 (ee st rfl) hA21 (ee st rfl) hi21 hl21) <| wd rfl (fun st => x_load_zn0 (l := [I x21.who, I x21.fr, I x21.to, I x21.lo, I x21.hi]) agg_68 (ee st rfl) hz21 rfl rfl) <| we rfl (fun st => x_alloc (cs := #[I 0, I 0, I 0, I 0, I 0]) zero_68 rfl) ?_
     rintro _ w22 ⟨b22, rfl, nb22⟩
     have hp11 : Hp w [some b22, ob As17_b14_24, ob As17_b14_34, some b14_3, some b14_2, some b1] w22 := hp10.new nb22.gr (Nat.le_of_eq nb22.b_eq.symm) (Nat.lt_of_lt_of_eq (Nat.lt_succ_self _) nb22.sz.symm)
     refine wl_ex0 rfl rfl (fun st => x_store (n := 5) (l := [I x21.who, I x21.fr, I x21.to, I x21.lo, I x21.hi]) (cs' := #[I x21.who, I x21.fr, I x21.to, I x21.lo, I x21.hi]) (ee st rfl) (ee st rfl) sz_68 nb22.bk rfl rfl (show 0 + 5 ≤ 5 by decide) (one_cells rfl) rfl) ?_
     rintro _ w23 sb23
     have hp12 : Hp w [some b22, ob As17_b14_24, ob As17_b14_34, some b14_3, some b14_2, some b1] w23 := hp11.gr sb23.gr (hp11.ge 0 rfl)
     refine wl_end <| lv_next <| cc_seq <| cc_region <| wd rfl (fun st => x_fieldAddr (ee st hs17_9) (fz_26_3 _ _)) ?_
     have kb14_2_12 : Bk w23 b14_2 26 #[I p0.rows, I p0.wd, I p0.lo, I p0.hi, .slice As17_b14_24 s17_b14_24.length Cs17_b14_24] := ((f17_kb14_2.ext nb22.gr).gr sb23.gr (hp11.ne 4 0 rfl rfl rfl))
     refine wd rfl (fun st => x_load1 (v := .slice As17_b14_24 s17_b14_24.length Cs17_b14_24) one_24 (ee st rfl) kb14_2_12 rfl) <| wd rfl (fun st => x_fieldAddr (ee st rfl) (fz_68_0 _ _)) <| wd rfl (fun st => x_load1 (v := I x21.who) one_3 (ee st rfl) sb23.bk rfl) <| wd rfl (fun st => x_fieldAddr (ee st hs17_3) (fz_26_0 _ _)) ?_
     have bk1_12 : Bk w23 b1 26 #[I p0.rows, I p0.wd, I p0.lo, I p0.hi, .slice A0_0 p0.ts.length c0_0] := ((f17_bk1.ext nb22.gr).gr sb23.gr (hp11.ne 5 0 rfl rfl rfl))
     refine wd rfl (fun st => x_load1 (v := I p0.rows) one_3 (ee st rfl) bk1_12 rfl) ?_
     replace hG := i64_bind hG; obtain ⟨hf24, hG⟩ := hG
     refine wd rfl (fun st => x_sub (ee st rfl) (ee st rfl) hf24) <| wd rfl (fun st => x_fieldAddr (ee st rfl) (fz_68_2 _ _)) <| wd rfl (fun st => x_load1 (v := I x21.to) one_3 (ee st rfl) sb23.bk rfl) ?_
     replace hG := i64_bind hG; obtain ⟨hf25, hG⟩ := hG
     refine wd rfl (fun st => x_sub (ee st rfl) (ee st rfl) hf25) <| wd rfl (fun st => x_fieldAddr (ee st hs17_3) (fz_26_0 _ _)) <| wd rfl (fun st => x_load1 (v := I p0.rows) one_3 (ee st rfl) bk1_12 rfl) ?_
     replace hG := i64_bind hG; obtain ⟨hf26, hG⟩ := hG
     refine wd rfl (fun st => x_sub (ee st rfl) (ee st rfl) hf26) <| wd rfl (fun st => x_fieldAddr (ee st rfl) (fz_68_1 _ _)) <| wd rfl (fun st => x_load1 (v := I x21.fr) one_3 (ee st rfl) sb23.bk rfl) ?_
     replace hG := i64_bind hG; obtain ⟨hf27, hG⟩ := hG
     refine wd rfl (fun st => x_sub (ee st rfl) (ee st rfl) hf27) <| wd rfl (fun st => x_fieldAddr (ee st rfl) (fz_68_3 _ _)) <| wd rfl (fun st => x_loadn (l := [I x21.lo, I x21.hi]) agg_23 (ee st rfl) sb23.bk rfl rfl) <| wd rfl (fun st => x_build (vs := #[(0, I x21.who), (1, I ((p0.rows - 1) - x21.to)), (2, I ((p0.rows - 1) - x21.fr)), (3, .agg #[I x21.lo, I x21.hi])]) (v := .agg #[I x21.who, I ((p0.rows - 1) - x21.to), I ((p0.rows - 1) - x21.fr), I x21.lo, I x21.hi]) (pm4 (ee st rfl) (ee st rfl) (ee st rfl) (ee st rfl)) (by kernel_rfl)) <| we rfl (fun st => x_buildSlice (e := 68) (vs := #[(0, .agg #[I x21.who, I ((p0.rows - 1) - x21.to), I ((p0.rows - 1) - x21.fr), I x21.lo, I x21.hi])]) (cs := #[I x21.who, I ((p0.rows - 1) - x21.to), I ((p0.rows - 1) - x21.fr), I x21.lo, I x21.hi]) (pm1 (ee st rfl)) (by kernel_rfl)) ?_
     rintro _ w29 ⟨b29, rfl, nb29⟩
     have hp13 : Hp w [some b29, some b22, ob As17_b14_24, ob As17_b14_34, some b14_3, some b14_2, some b1] w29 := hp12.new nb29.gr (Nat.le_of_eq nb29.b_eq.symm) (Nat.lt_of_lt_of_eq (Nat.lt_succ_self _) nb29.sz.symm)
     have Hs17_b14_24_13 : OwnR eTly 68 w w29 (ZZ Z w.heap.size [some b29, some b22, ob As17_b14_24, ob As17_b14_34, some b14_3, some b14_2, some b1]) As17_b14_24 Cs17_b14_24 s17_b14_24 := (((f17_Hs17_b14_24.ext nb22.gr (mv_new nb22.gr (Nat.le_of_eq nb22.b_eq.symm))).gr sb23.gr (fun k hk => hp11.ne 1 0 rfl (congrArg some hk) rfl) (hp11.mv0 sb23.gr 0 rfl)).ext nb29.gr (mv_new nb29.gr (Nat.le_of_eq nb29.b_eq.symm)))
     replace hG := ifo_bind hG; obtain ⟨hf30, hG⟩ := hG
     refine we rfl (fun st => x_appR (ys := [(⟨x21.who, (p0.rows - 1) - x21.to, (p0.rows - 1) - x21.fr, x21.lo, x21.hi⟩ : Tly)]) Try.underlying24 info_68 rfl rfl (by decide) (ee st rfl) rfl (ee st rfl) Hs17_b14_24_13 (news_bk (css := [[I x21.who, I ((p0.rows - 1) - x21.to), I ((p0.rows - 1) - x21.fr), I x21.lo, I x21.hi]]) nb29.bk ⟨rfl, trivial⟩ rfl) (by have := hf30; simp only [maxLen]; omega) (by have := hf30; omega) hp13.bl.size (by simp)) ?_
     rintro _ w31 ⟨A31, c31, rfl, hg31, hy31, hO31⟩
     have hp14 : Hp w [some b29, some b22, ob A31, ob As17_b14_34, some b14_3, some b14_2, some b1] w31 := hp13.row hg31 2 rfl (hp13.ge 2 rfl) hy31
     have hR31 : OwnR eTly 68 w w31 (ZZ Z w.heap.size [some b29, some b22, ob A31, ob As17_b14_34, some b14_3, some b14_2, some b1]) A31 c31 (s17_b14_24 ++ [(⟨x21.who, (p0.rows - 1) - x21.to, (p0.rows - 1) - x21.fr, x21.lo, x21.hi⟩ : Tly)]) := ownR_of hO31 (hp13.mvr hg31 2 rfl (fun k hk => (hy31 k hk).1))
     refine wd rfl (fun st => x_fieldAddr (ee st hs17_9) (fz_26_3 _ _)) ?_
     have kb14_2_14 : Bk w31 b14_2 26 #[I p0.rows, I p0.wd, I p0.lo, I p0.hi, .slice As17_b14_24 s17_b14_24.length Cs17_b14_24] := ((kb14_2_12.ext nb29.gr).gr hg31 (hp13.ne 5 2 rfl rfl rfl))
     refine wl_ex0 rfl rfl (fun st => x_store (n := 1) (l := [.slice A31 ((s17_b14_24 ++ [(⟨x21.who, (p0.rows - 1) - x21.to, (p0.rows - 1) - x21.fr, x21.lo, x21.hi⟩ : Tly)]).length) c31]) (cs' := #[I p0.rows, I p0.wd, I p0.lo, I p0.hi, .slice A31 ((s17_b14_24 ++ [(⟨x21.who, (p0.rows - 1) - x21.to, (p0.rows - 1) - x21.fr, x21.lo, x21.hi⟩ : Tly)]).length) c31]) (ee st rfl) (ee st rfl) sz_24 kb14_2_14 rfl rfl (show 4 + 1 ≤ 5 by decide) (one_cells rfl) rfl) ?_
     rintro _ w32 sb32
     have hp15 : Hp w [some b29, some b22, ob A31, ob As17_b14_34, some b14_3, some b14_2, some b1] w32 := hp14.gr sb32.gr (hp14.ge 5 rfl)
     refine wl_end <| lv_next <| cc_seq <| cc_seq <| cc_region <| wd rfl (fun st => x_fieldAddr (ee st rfl) (fz_68_0 _ _)) ?_
     have bk22_15 : Bk w32 b22 68 #[I x21.who, I x21.fr, I x21.to, I x21.lo, I x21.hi] := (((sb23.bk.ext nb29.gr).gr hg31 (hp13.ne 1 2 rfl rfl rfl)).gr sb32.gr (hp14.ne 1 5 rfl rfl rfl))
     refine wd rfl (fun st => x_load1 (v := I x21.who) one_3 (ee st rfl) bk22_15 rfl) <| wm rfl (v := I (p1 % p0.wd)) hs17_7 <| wd rfl (fun st => x_eql (ee st rfl) (ee st rfl)) <| wl_end <| lv_next ?_
     rcases bool_cases (x21.who == (p1 % p0.wd)) with hc33 | hc33
     ·replace hG := cond_t hG hc33
      refine cc_cond_t rfl hc33 <| cc_region <| wm rfl (v := I (p2 % p0.wd)) hs17_8 <| wd rfl (fun st => x_fieldAddr (ee st rfl) (fz_68_0 _ _)) <| wl_ex0 rfl rfl (fun st => x_store (n := 1) (l := [I (p2 % p0.wd)]) (cs' := #[I (p2 % p0.wd), I x21.fr, I x21.to, I x21.lo, I x21.hi]) (ee st rfl) (ee st rfl) sz_3 bk22_15 rfl rfl (show 0 + 1 ≤ 5 by decide) (one_cells rfl) rfl) ?_
      rintro _ w34 sb34
      have hp16 : Hp w [some b29, some b22, ob A31, ob As17_b14_34, some b14_3, some b14_2, some b1] w34 := hp15.gr sb34.gr (hp15.ge 1 rfl)
      refine wl_end <| lv_next <| cc_region <| wd rfl (fun st => x_fieldAddr (ee st hs17_10) (fz_26_3 _ _)) ?_
      have kb14_3_16 : Bk w34 b14_3 26 #[I p0.rows, I p0.wd, I p0.lo, I p0.hi, .slice As17_b14_34 s17_b14_34.length Cs17_b14_34] := ((((((f17_kb14_3.ext nb22.gr).gr sb23.gr (hp11.ne 3 0 rfl rfl rfl)).ext nb29.gr).gr hg31 (hp13.ne 4 2 rfl rfl rfl)).gr sb32.gr (hp14.ne 4 5 rfl rfl rfl)).gr sb34.gr (hp15.ne 4 1 rfl rfl rfl))
      refine wd rfl (fun st => x_load1 (v := .slice As17_b14_34 s17_b14_34.length Cs17_b14_34) one_24 (ee st rfl) kb14_3_16 rfl) <| wd rfl (fun st => x_loadn (l := [I (p2 % p0.wd), I x21.fr, I x21.to, I x21.lo, I x21.hi]) agg_68 (ee st rfl) sb34.bk rfl rfl) <| we rfl (fun st => x_buildSlice (e := 68) (vs := #[(0, .agg #[I (p2 % p0.wd), I x21.fr, I x21.to, I x21.lo, I x21.hi])]) (cs := #[I (p2 % p0.wd), I x21.fr, I x21.to, I x21.lo, I x21.hi]) (pm1 (ee st rfl)) (by kernel_rfl)) ?_
      rintro _ w35 ⟨b35, rfl, nb35⟩
      have hp17 : Hp w [some b35, some b29, some b22, ob A31, ob As17_b14_34, some b14_3, some b14_2, some b1] w35 := hp16.new nb35.gr (Nat.le_of_eq nb35.b_eq.symm) (Nat.lt_of_lt_of_eq (Nat.lt_succ_self _) nb35.sz.symm)
      have Hs17_b14_34_17 : OwnR eTly 68 w w35 (ZZ Z w.heap.size [some b35, some b29, some b22, ob A31, ob As17_b14_34, some b14_3, some b14_2, some b1]) As17_b14_34 Cs17_b14_34 s17_b14_34 := (((((((f17_Hs17_b14_34.ext nb22.gr (mv_new nb22.gr (Nat.le_of_eq nb22.b_eq.symm))).gr sb23.gr (fun k hk => hp11.ne 2 0 rfl (congrArg some hk) rfl) (hp11.mv0 sb23.gr 0 rfl)).ext nb29.gr (mv_new nb29.gr (Nat.le_of_eq nb29.b_eq.symm))).gr hg31 (fun k hk => hp13.ne 3 2 rfl (congrArg some hk) rfl) (hp13.mvr hg31 2 rfl (fun k hk => (hy31 k hk).1))).gr sb32.gr (fun k hk => hp14.ne 3 5 rfl (congrArg some hk) rfl) (hp14.mv0 sb32.gr 5 rfl)).gr sb34.gr (fun k hk => hp15.ne 3 1 rfl (congrArg some hk) rfl) (hp15.mv0 sb34.gr 1 rfl)).ext nb35.gr (mv_new nb35.gr (Nat.le_of_eq nb35.b_eq.symm)))
      replace hG := ifo_bind hG; obtain ⟨hf36, hG⟩ := hG
      refine we rfl (fun st => x_appR (ys := [(⟨p2 % p0.wd, x21.fr, x21.to, x21.lo, x21.hi⟩ : Tly)]) Try.underlying24 info_68 rfl rfl (by decide) (ee st rfl) rfl (ee st rfl) Hs17_b14_34_17 (news_bk (css := [[I (p2 % p0.wd), I x21.fr, I x21.to, I x21.lo, I x21.hi]]) nb35.bk ⟨rfl, trivial⟩ rfl) (by have := hf36; simp only [maxLen]; omega) (by have := hf36; omega) hp17.bl.size (by simp)) ?_
      rintro _ w37 ⟨A37, c37, rfl, hg37, hy37, hO37⟩
      have hp18 : Hp w [some b35, some b29, some b22, ob A31, ob A37, some b14_3, some b14_2, some b1] w37 := hp17.row hg37 4 rfl (hp17.ge 4 rfl) hy37
      have hR37 : OwnR eTly 68 w w37 (ZZ Z w.heap.size [some b35, some b29, some b22, ob A31, ob A37, some b14_3, some b14_2, some b1]) A37 c37 (s17_b14_34 ++ [(⟨p2 % p0.wd, x21.fr, x21.to, x21.lo, x21.hi⟩ : Tly)]) := ownR_of hO37 (hp17.mvr hg37 4 rfl (fun k hk => (hy37 k hk).1))
      refine wd rfl (fun st => x_fieldAddr (ee st hs17_10) (fz_26_3 _ _)) ?_
      have kb14_3_18 : Bk w37 b14_3 26 #[I p0.rows, I p0.wd, I p0.lo, I p0.hi, .slice As17_b14_34 s17_b14_34.length Cs17_b14_34] := ((kb14_3_16.ext nb35.gr).gr hg37 (hp17.ne 5 4 rfl rfl rfl))
      refine wl_ex0 rfl rfl (fun st => x_store (n := 1) (l := [.slice A37 ((s17_b14_34 ++ [(⟨p2 % p0.wd, x21.fr, x21.to, x21.lo, x21.hi⟩ : Tly)]).length) c37]) (cs' := #[I p0.rows, I p0.wd, I p0.lo, I p0.hi, .slice A37 ((s17_b14_34 ++ [(⟨p2 % p0.wd, x21.fr, x21.to, x21.lo, x21.hi⟩ : Tly)]).length) c37]) (ee st rfl) (ee st rfl) sz_24 kb14_3_18 rfl rfl (show 4 + 1 ≤ 5 by decide) (one_cells rfl) rfl) ?_
      rintro _ w38 sb38
      have hp19 : Hp w [some b35, some b29, some b22, ob A31, ob A37, some b14_3, some b14_2, some b1] w38 := hp18.gr sb38.gr (hp18.ge 5 rfl)
      refine wl_end <| lv_block <| lv_next <| cc_region <| wm rfl (v := I s17_11) hs17_11 ?_
      replace hG := i64_bind hG; obtain ⟨hf39, hG⟩ := hG
      refine wd rfl (fun st => x_add (ee st rfl) (ee st rfl) hf39) <| wa rfl (v := I (s17_11 + 1)) rfl <| wl_end ?_
      have hp20 : Hp w [some b29, some b22, ob A31, ob A37, some b14_3, some b14_2, some b1] w38 := hp19.erase 0
      have hp21 : Hp w [some b22, ob A31, ob A37, some b14_3, some b14_2, some b1] w38 := hp20.erase 0
      have hp22 : Hp w [ob A31, ob A37, some b14_3, some b14_2, some b1] w38 := hp21.erase 0
      have hR31_22 : OwnR eTly 68 w w38 (ZZ Z w.heap.size [ob A31, ob A37, some b14_3, some b14_2, some b1]) A31 c31 (s17_b14_24 ++ [(⟨x21.who, (p0.rows - 1) - x21.to, (p0.rows - 1) - x21.fr, x21.lo, x21.hi⟩ : Tly)]) := ((((((((hR31.gr sb32.gr (fun k hk => hp14.ne 2 5 rfl (congrArg some hk) rfl) (hp14.mv0 sb32.gr 5 rfl)).gr sb34.gr (fun k hk => hp15.ne 2 1 rfl (congrArg some hk) rfl) (hp15.mv0 sb34.gr 1 rfl)).ext nb35.gr (mv_new nb35.gr (Nat.le_of_eq nb35.b_eq.symm))).gr hg37 (fun k hk => hp17.ne 3 4 rfl (congrArg some hk) rfl) (hp17.mvr hg37 4 rfl (fun k hk => (hy37 k hk).1))).gr sb38.gr (fun k hk => hp18.ne 3 5 rfl (congrArg some hk) rfl) (hp18.mv0 sb38.gr 5 rfl)).up (mv_erase 0)).up (mv_erase 0)).up (mv_erase 0))
      have hR37_22 : OwnR eTly 68 w w38 (ZZ Z w.heap.size [ob A31, ob A37, some b14_3, some b14_2, some b1]) A37 c37 (s17_b14_34 ++ [(⟨p2 % p0.wd, x21.fr, x21.to, x21.lo, x21.hi⟩ : Tly)]) := ((((hR37.gr sb38.gr (fun k hk => hp18.ne 4 5 rfl (congrArg some hk) rfl) (hp18.mv0 sb38.gr 5 rfl)).up (mv_erase 0)).up (mv_erase 0)).up (mv_erase 0))
      have bk1_22 : Bk w38 b1 26 #[I p0.rows, I p0.wd, I p0.lo, I p0.hi, .slice A0_0 p0.ts.length c0_0] := (((((((bk1_12.ext nb29.gr).gr hg31 (hp13.ne 6 2 rfl rfl rfl)).gr sb32.gr (hp14.ne 6 5 rfl rfl rfl)).gr sb34.gr (hp15.ne 6 1 rfl rfl rfl)).ext nb35.gr).gr hg37 (hp17.ne 7 4 rfl rfl rfl)).gr sb38.gr (hp18.ne 7 5 rfl rfl rfl))
      have hS0_0_22 : Sl eTly w38 (ZZ Z w.heap.size [ob A31, ob A37, some b14_3, some b14_2, some b1]) A0_0 c0_0 p0.ts := ((((((((((((f17_hS0_0.mv (mv_new nb22.gr (Nat.le_of_eq nb22.b_eq.symm))).mv (hp11.mv0 sb23.gr 0 rfl)).mv (mv_new nb29.gr (Nat.le_of_eq nb29.b_eq.symm))).mv (hp13.mvr hg31 2 rfl (fun k hk => (hy31 k hk).1))).mv (hp14.mv0 sb32.gr 5 rfl)).mv (hp15.mv0 sb34.gr 1 rfl)).mv (mv_new nb35.gr (Nat.le_of_eq nb35.b_eq.symm))).mv (hp17.mvr hg37 4 rfl (fun k hk => (hy37 k hk).1))).mv (hp18.mv0 sb38.gr 5 rfl)).mv (mv_erase 0)).mv (mv_erase 0)).mv (mv_erase 0))
      have kb14_2_22 : Bk w38 b14_2 26 #[I p0.rows, I p0.wd, I p0.lo, I p0.hi, .slice A31 ((s17_b14_24 ++ [(⟨x21.who, (p0.rows - 1) - x21.to, (p0.rows - 1) - x21.fr, x21.lo, x21.hi⟩ : Tly)]).length) c31] := ((((sb32.bk.gr sb34.gr (hp15.ne 5 1 rfl rfl rfl)).ext nb35.gr).gr hg37 (hp17.ne 6 4 rfl rfl rfl)).gr sb38.gr (hp18.ne 6 5 rfl rfl rfl))
      have kb14_3_22 : Bk w38 b14_3 26 #[I p0.rows, I p0.wd, I p0.lo, I p0.hi, .slice A37 ((s17_b14_34 ++ [(⟨p2 % p0.wd, x21.fr, x21.to, x21.lo, x21.hi⟩ : Tly)]).length) c37] := sb38.bk
      refine lv_round m_ (Nat.lt_succ_self _) (fun st => ?_)
      exact ⟨(s17_11 + 1), (s17_b14_24 ++ [(⟨x21.who, (p0.rows - 1) - x21.to, (p0.rows - 1) - x21.fr, x21.lo, x21.hi⟩ : Tly)]), (s17_b14_34 ++ [(⟨p2 % p0.wd, x21.fr, x21.to, x21.lo, x21.hi⟩ : Tly)]), A31, c31, A37, c37, hG, (puts_size _ _).trans st.sz, (puts_defers _ _).trans st.df, (sl_puts st 3).trans hs17_3, (sl_puts st 7).trans hs17_7, (sl_puts st 8).trans hs17_8, (sl_puts st 9).trans hs17_9, (sl_puts st 10).trans hs17_10, (sl_puts st 11).trans rfl, hp22, hR31_22, hR37_22, bk1_22, hS0_0_22, kb14_2_22, kb14_3_22⟩
     ·replace hG := cond_f hG hc33
      refine cc_cond_f rfl hc33 <| cc_seq <| cc_region <| wd rfl (fun st => x_fieldAddr (ee st rfl) (fz_68_0 _ _)) <| wd rfl (fun st => x_load1 (v := I x21.who) one_3 (ee st rfl) bk22_15 rfl) <| wm rfl (v := I (p2 % p0.wd)) hs17_8 <| wd rfl (fun st => x_eql (ee st rfl) (ee st rfl)) <| wl_end <| lv_next ?_
      rcases bool_cases (x21.who == (p2 % p0.wd)) with hc40 | hc40
      ·replace hG := cond_t hG hc40
       refine cc_cond_t rfl hc40 <| cc_region <| wm rfl (v := I (p1 % p0.wd)) hs17_7 <| wd rfl (fun st => x_fieldAddr (ee st rfl) (fz_68_0 _ _)) <| wl_ex0 rfl rfl (fun st => x_store (n := 1) (l := [I (p1 % p0.wd)]) (cs' := #[I (p1 % p0.wd), I x21.fr, I x21.to, I x21.lo, I x21.hi]) (ee st rfl) (ee st rfl) sz_3 bk22_15 rfl rfl (show 0 + 1 ≤ 5 by decide) (one_cells rfl) rfl) ?_
       rintro _ w41 sb41
       have hp23 : Hp w [some b29, some b22, ob A31, ob As17_b14_34, some b14_3, some b14_2, some b1] w41 := hp15.gr sb41.gr (hp15.ge 1 rfl)
       refine wl_end <| lv_next <| cc_region <| wd rfl (fun st => x_fieldAddr (ee st hs17_10) (fz_26_3 _ _)) ?_
       have kb14_3_23 : Bk w41 b14_3 26 #[I p0.rows, I p0.wd, I p0.lo, I p0.hi, .slice As17_b14_34 s17_b14_34.length Cs17_b14_34] := ((((((f17_kb14_3.ext nb22.gr).gr sb23.gr (hp11.ne 3 0 rfl rfl rfl)).ext nb29.gr).gr hg31 (hp13.ne 4 2 rfl rfl rfl)).gr sb32.gr (hp14.ne 4 5 rfl rfl rfl)).gr sb41.gr (hp15.ne 4 1 rfl rfl rfl))
       refine wd rfl (fun st => x_load1 (v := .slice As17_b14_34 s17_b14_34.length Cs17_b14_34) one_24 (ee st rfl) kb14_3_23 rfl) <| wd rfl (fun st => x_loadn (l := [I (p1 % p0.wd), I x21.fr, I x21.to, I x21.lo, I x21.hi]) agg_68 (ee st rfl) sb41.bk rfl rfl) <| we rfl (fun st => x_buildSlice (e := 68) (vs := #[(0, .agg #[I (p1 % p0.wd), I x21.fr, I x21.to, I x21.lo, I x21.hi])]) (cs := #[I (p1 % p0.wd), I x21.fr, I x21.to, I x21.lo, I x21.hi]) (pm1 (ee st rfl)) (by kernel_rfl)) ?_
       rintro _ w42 ⟨b42, rfl, nb42⟩
       have hp24 : Hp w [some b42, some b29, some b22, ob A31, ob As17_b14_34, some b14_3, some b14_2, some b1] w42 := hp23.new nb42.gr (Nat.le_of_eq nb42.b_eq.symm) (Nat.lt_of_lt_of_eq (Nat.lt_succ_self _) nb42.sz.symm)
       have Hs17_b14_34_24 : OwnR eTly 68 w w42 (ZZ Z w.heap.size [some b42, some b29, some b22, ob A31, ob As17_b14_34, some b14_3, some b14_2, some b1]) As17_b14_34 Cs17_b14_34 s17_b14_34 := (((((((f17_Hs17_b14_34.ext nb22.gr (mv_new nb22.gr (Nat.le_of_eq nb22.b_eq.symm))).gr sb23.gr (fun k hk => hp11.ne 2 0 rfl (congrArg some hk) rfl) (hp11.mv0 sb23.gr 0 rfl)).ext nb29.gr (mv_new nb29.gr (Nat.le_of_eq nb29.b_eq.symm))).gr hg31 (fun k hk => hp13.ne 3 2 rfl (congrArg some hk) rfl) (hp13.mvr hg31 2 rfl (fun k hk => (hy31 k hk).1))).gr sb32.gr (fun k hk => hp14.ne 3 5 rfl (congrArg some hk) rfl) (hp14.mv0 sb32.gr 5 rfl)).gr sb41.gr (fun k hk => hp15.ne 3 1 rfl (congrArg some hk) rfl) (hp15.mv0 sb41.gr 1 rfl)).ext nb42.gr (mv_new nb42.gr (Nat.le_of_eq nb42.b_eq.symm)))
       replace hG := ifo_bind hG; obtain ⟨hf43, hG⟩ := hG
       refine we rfl (fun st => x_appR (ys := [(⟨p1 % p0.wd, x21.fr, x21.to, x21.lo, x21.hi⟩ : Tly)]) Try.underlying24 info_68 rfl rfl (by decide) (ee st rfl) rfl (ee st rfl) Hs17_b14_34_24 (news_bk (css := [[I (p1 % p0.wd), I x21.fr, I x21.to, I x21.lo, I x21.hi]]) nb42.bk ⟨rfl, trivial⟩ rfl) (by have := hf43; simp only [maxLen]; omega) (by have := hf43; omega) hp24.bl.size (by simp)) ?_
       rintro _ w44 ⟨A44, c44, rfl, hg44, hy44, hO44⟩
       have hp25 : Hp w [some b42, some b29, some b22, ob A31, ob A44, some b14_3, some b14_2, some b1] w44 := hp24.row hg44 4 rfl (hp24.ge 4 rfl) hy44
       have hR44 : OwnR eTly 68 w w44 (ZZ Z w.heap.size [some b42, some b29, some b22, ob A31, ob A44, some b14_3, some b14_2, some b1]) A44 c44 (s17_b14_34 ++ [(⟨p1 % p0.wd, x21.fr, x21.to, x21.lo, x21.hi⟩ : Tly)]) := ownR_of hO44 (hp24.mvr hg44 4 rfl (fun k hk => (hy44 k hk).1))
       refine wd rfl (fun st => x_fieldAddr (ee st hs17_10) (fz_26_3 _ _)) ?_
       have kb14_3_25 : Bk w44 b14_3 26 #[I p0.rows, I p0.wd, I p0.lo, I p0.hi, .slice As17_b14_34 s17_b14_34.length Cs17_b14_34] := ((kb14_3_23.ext nb42.gr).gr hg44 (hp24.ne 5 4 rfl rfl rfl))
       refine wl_ex0 rfl rfl (fun st => x_store (n := 1) (l := [.slice A44 ((s17_b14_34 ++ [(⟨p1 % p0.wd, x21.fr, x21.to, x21.lo, x21.hi⟩ : Tly)]).length) c44]) (cs' := #[I p0.rows, I p0.wd, I p0.lo, I p0.hi, .slice A44 ((s17_b14_34 ++ [(⟨p1 % p0.wd, x21.fr, x21.to, x21.lo, x21.hi⟩ : Tly)]).length) c44]) (ee st rfl) (ee st rfl) sz_24 kb14_3_25 rfl rfl (show 4 + 1 ≤ 5 by decide) (one_cells rfl) rfl) ?_
       rintro _ w45 sb45
       have hp26 : Hp w [some b42, some b29, some b22, ob A31, ob A44, some b14_3, some b14_2, some b1] w45 := hp25.gr sb45.gr (hp25.ge 5 rfl)
       refine wl_end <| lv_block <| lv_next <| cc_region <| wm rfl (v := I s17_11) hs17_11 ?_
       replace hG := i64_bind hG; obtain ⟨hf46, hG⟩ := hG
       refine wd rfl (fun st => x_add (ee st rfl) (ee st rfl) hf46) <| wa rfl (v := I (s17_11 + 1)) rfl <| wl_end ?_
       have hp27 : Hp w [some b29, some b22, ob A31, ob A44, some b14_3, some b14_2, some b1] w45 := hp26.erase 0
       have hp28 : Hp w [some b22, ob A31, ob A44, some b14_3, some b14_2, some b1] w45 := hp27.erase 0
       have hp29 : Hp w [ob A31, ob A44, some b14_3, some b14_2, some b1] w45 := hp28.erase 0
       have hR31_29 : OwnR eTly 68 w w45 (ZZ Z w.heap.size [ob A31, ob A44, some b14_3, some b14_2, some b1]) A31 c31 (s17_b14_24 ++ [(⟨x21.who, (p0.rows - 1) - x21.to, (p0.rows - 1) - x21.fr, x21.lo, x21.hi⟩ : Tly)]) := ((((((((hR31.gr sb32.gr (fun k hk => hp14.ne 2 5 rfl (congrArg some hk) rfl) (hp14.mv0 sb32.gr 5 rfl)).gr sb41.gr (fun k hk => hp15.ne 2 1 rfl (congrArg some hk) rfl) (hp15.mv0 sb41.gr 1 rfl)).ext nb42.gr (mv_new nb42.gr (Nat.le_of_eq nb42.b_eq.symm))).gr hg44 (fun k hk => hp24.ne 3 4 rfl (congrArg some hk) rfl) (hp24.mvr hg44 4 rfl (fun k hk => (hy44 k hk).1))).gr sb45.gr (fun k hk => hp25.ne 3 5 rfl (congrArg some hk) rfl) (hp25.mv0 sb45.gr 5 rfl)).up (mv_erase 0)).up (mv_erase 0)).up (mv_erase 0))
       have hR44_29 : OwnR eTly 68 w w45 (ZZ Z w.heap.size [ob A31, ob A44, some b14_3, some b14_2, some b1]) A44 c44 (s17_b14_34 ++ [(⟨p1 % p0.wd, x21.fr, x21.to, x21.lo, x21.hi⟩ : Tly)]) := ((((hR44.gr sb45.gr (fun k hk => hp25.ne 4 5 rfl (congrArg some hk) rfl) (hp25.mv0 sb45.gr 5 rfl)).up (mv_erase 0)).up (mv_erase 0)).up (mv_erase 0))
       have bk1_29 : Bk w45 b1 26 #[I p0.rows, I p0.wd, I p0.lo, I p0.hi, .slice A0_0 p0.ts.length c0_0] := (((((((bk1_12.ext nb29.gr).gr hg31 (hp13.ne 6 2 rfl rfl rfl)).gr sb32.gr (hp14.ne 6 5 rfl rfl rfl)).gr sb41.gr (hp15.ne 6 1 rfl rfl rfl)).ext nb42.gr).gr hg44 (hp24.ne 7 4 rfl rfl rfl)).gr sb45.gr (hp25.ne 7 5 rfl rfl rfl))
       have hS0_0_29 : Sl eTly w45 (ZZ Z w.heap.size [ob A31, ob A44, some b14_3, some b14_2, some b1]) A0_0 c0_0 p0.ts := ((((((((((((f17_hS0_0.mv (mv_new nb22.gr (Nat.le_of_eq nb22.b_eq.symm))).mv (hp11.mv0 sb23.gr 0 rfl)).mv (mv_new nb29.gr (Nat.le_of_eq nb29.b_eq.symm))).mv (hp13.mvr hg31 2 rfl (fun k hk => (hy31 k hk).1))).mv (hp14.mv0 sb32.gr 5 rfl)).mv (hp15.mv0 sb41.gr 1 rfl)).mv (mv_new nb42.gr (Nat.le_of_eq nb42.b_eq.symm))).mv (hp24.mvr hg44 4 rfl (fun k hk => (hy44 k hk).1))).mv (hp25.mv0 sb45.gr 5 rfl)).mv (mv_erase 0)).mv (mv_erase 0)).mv (mv_erase 0))
       have kb14_2_29 : Bk w45 b14_2 26 #[I p0.rows, I p0.wd, I p0.lo, I p0.hi, .slice A31 ((s17_b14_24 ++ [(⟨x21.who, (p0.rows - 1) - x21.to, (p0.rows - 1) - x21.fr, x21.lo, x21.hi⟩ : Tly)]).length) c31] := ((((sb32.bk.gr sb41.gr (hp15.ne 5 1 rfl rfl rfl)).ext nb42.gr).gr hg44 (hp24.ne 6 4 rfl rfl rfl)).gr sb45.gr (hp25.ne 6 5 rfl rfl rfl))
       have kb14_3_29 : Bk w45 b14_3 26 #[I p0.rows, I p0.wd, I p0.lo, I p0.hi, .slice A44 ((s17_b14_34 ++ [(⟨p1 % p0.wd, x21.fr, x21.to, x21.lo, x21.hi⟩ : Tly)]).length) c44] := sb45.bk
       refine lv_round m_ (Nat.lt_succ_self _) (fun st => ?_)
       exact ⟨(s17_11 + 1), (s17_b14_24 ++ [(⟨x21.who, (p0.rows - 1) - x21.to, (p0.rows - 1) - x21.fr, x21.lo, x21.hi⟩ : Tly)]), (s17_b14_34 ++ [(⟨p1 % p0.wd, x21.fr, x21.to, x21.lo, x21.hi⟩ : Tly)]), A31, c31, A44, c44, hG, (puts_size _ _).trans st.sz, (puts_defers _ _).trans st.df, (sl_puts st 3).trans hs17_3, (sl_puts st 7).trans hs17_7, (sl_puts st 8).trans hs17_8, (sl_puts st 9).trans hs17_9, (sl_puts st 10).trans hs17_10, (sl_puts st 11).trans rfl, hp29, hR31_29, hR44_29, bk1_29, hS0_0_29, kb14_2_29, kb14_3_29⟩
      ·replace hG := cond_f hG hc40
       refine cc_cond_f rfl hc40 <| cc_skip <| lv_next <| cc_region <| wd rfl (fun st => x_fieldAddr (ee st hs17_10) (fz_26_3 _ _)) ?_
       have kb14_3_15 : Bk w32 b14_3 26 #[I p0.rows, I p0.wd, I p0.lo, I p0.hi, .slice As17_b14_34 s17_b14_34.length Cs17_b14_34] := (((((f17_kb14_3.ext nb22.gr).gr sb23.gr (hp11.ne 3 0 rfl rfl rfl)).ext nb29.gr).gr hg31 (hp13.ne 4 2 rfl rfl rfl)).gr sb32.gr (hp14.ne 4 5 rfl rfl rfl))
       refine wd rfl (fun st => x_load1 (v := .slice As17_b14_34 s17_b14_34.length Cs17_b14_34) one_24 (ee st rfl) kb14_3_15 rfl) <| wd rfl (fun st => x_loadn (l := [I x21.who, I x21.fr, I x21.to, I x21.lo, I x21.hi]) agg_68 (ee st rfl) bk22_15 rfl rfl) <| we rfl (fun st => x_buildSlice (e := 68) (vs := #[(0, .agg #[I x21.who, I x21.fr, I x21.to, I x21.lo, I x21.hi])]) (cs := #[I x21.who, I x21.fr, I x21.to, I x21.lo, I x21.hi]) (pm1 (ee st rfl)) (by kernel_rfl)) ?_
       rintro _ w47 ⟨b47, rfl, nb47⟩
       have hp30 : Hp w [some b47, some b29, some b22, ob A31, ob As17_b14_34, some b14_3, some b14_2, some b1] w47 := hp15.new nb47.gr (Nat.le_of_eq nb47.b_eq.symm) (Nat.lt_of_lt_of_eq (Nat.lt_succ_self _) nb47.sz.symm)
       have Hs17_b14_34_30 : OwnR eTly 68 w w47 (ZZ Z w.heap.size [some b47, some b29, some b22, ob A31, ob As17_b14_34, some b14_3, some b14_2, some b1]) As17_b14_34 Cs17_b14_34 s17_b14_34 := ((((((f17_Hs17_b14_34.ext nb22.gr (mv_new nb22.gr (Nat.le_of_eq nb22.b_eq.symm))).gr sb23.gr (fun k hk => hp11.ne 2 0 rfl (congrArg some hk) rfl) (hp11.mv0 sb23.gr 0 rfl)).ext nb29.gr (mv_new nb29.gr (Nat.le_of_eq nb29.b_eq.symm))).gr hg31 (fun k hk => hp13.ne 3 2 rfl (congrArg some hk) rfl) (hp13.mvr hg31 2 rfl (fun k hk => (hy31 k hk).1))).gr sb32.gr (fun k hk => hp14.ne 3 5 rfl (congrArg some hk) rfl) (hp14.mv0 sb32.gr 5 rfl)).ext nb47.gr (mv_new nb47.gr (Nat.le_of_eq nb47.b_eq.symm)))
       replace hG := ifo_bind hG; obtain ⟨hf48, hG⟩ := hG
       refine we rfl (fun st => x_appR (ys := [x21]) Try.underlying24 info_68 rfl rfl (by decide) (ee st rfl) rfl (ee st rfl) Hs17_b14_34_30 (news_bk (css := [[I x21.who, I x21.fr, I x21.to, I x21.lo, I x21.hi]]) nb47.bk ⟨rfl, trivial⟩ rfl) (by have := hf48; simp only [maxLen]; omega) (by have := hf48; omega) hp30.bl.size (by simp)) ?_
       rintro _ w49 ⟨A49, c49, rfl, hg49, hy49, hO49⟩
       have hp31 : Hp w [some b47, some b29, some b22, ob A31, ob A49, some b14_3, some b14_2, some b1] w49 := hp30.row hg49 4 rfl (hp30.ge 4 rfl) hy49
       have hR49 : OwnR eTly 68 w w49 (ZZ Z w.heap.size [some b47, some b29, some b22, ob A31, ob A49, some b14_3, some b14_2, some b1]) A49 c49 (s17_b14_34 ++ [x21]) := ownR_of hO49 (hp30.mvr hg49 4 rfl (fun k hk => (hy49 k hk).1))
       refine wd rfl (fun st => x_fieldAddr (ee st hs17_10) (fz_26_3 _ _)) ?_
       have kb14_3_31 : Bk w49 b14_3 26 #[I p0.rows, I p0.wd, I p0.lo, I p0.hi, .slice As17_b14_34 s17_b14_34.length Cs17_b14_34] := ((kb14_3_15.ext nb47.gr).gr hg49 (hp30.ne 5 4 rfl rfl rfl))
       refine wl_ex0 rfl rfl (fun st => x_store (n := 1) (l := [.slice A49 ((s17_b14_34 ++ [x21]).length) c49]) (cs' := #[I p0.rows, I p0.wd, I p0.lo, I p0.hi, .slice A49 ((s17_b14_34 ++ [x21]).length) c49]) (ee st rfl) (ee st rfl) sz_24 kb14_3_31 rfl rfl (show 4 + 1 ≤ 5 by decide) (one_cells rfl) rfl) ?_
       rintro _ w50 sb50
       have hp32 : Hp w [some b47, some b29, some b22, ob A31, ob A49, some b14_3, some b14_2, some b1] w50 := hp31.gr sb50.gr (hp31.ge 5 rfl)
       refine wl_end <| lv_block <| lv_next <| cc_region <| wm rfl (v := I s17_11) hs17_11 ?_
       replace hG := i64_bind hG; obtain ⟨hf51, hG⟩ := hG
       refine wd rfl (fun st => x_add (ee st rfl) (ee st rfl) hf51) <| wa rfl (v := I (s17_11 + 1)) rfl <| wl_end ?_
       have hp33 : Hp w [some b29, some b22, ob A31, ob A49, some b14_3, some b14_2, some b1] w50 := hp32.erase 0
       have hp34 : Hp w [some b22, ob A31, ob A49, some b14_3, some b14_2, some b1] w50 := hp33.erase 0
       have hp35 : Hp w [ob A31, ob A49, some b14_3, some b14_2, some b1] w50 := hp34.erase 0
       have hR31_35 : OwnR eTly 68 w w50 (ZZ Z w.heap.size [ob A31, ob A49, some b14_3, some b14_2, some b1]) A31 c31 (s17_b14_24 ++ [(⟨x21.who, (p0.rows - 1) - x21.to, (p0.rows - 1) - x21.fr, x21.lo, x21.hi⟩ : Tly)]) := (((((((hR31.gr sb32.gr (fun k hk => hp14.ne 2 5 rfl (congrArg some hk) rfl) (hp14.mv0 sb32.gr 5 rfl)).ext nb47.gr (mv_new nb47.gr (Nat.le_of_eq nb47.b_eq.symm))).gr hg49 (fun k hk => hp30.ne 3 4 rfl (congrArg some hk) rfl) (hp30.mvr hg49 4 rfl (fun k hk => (hy49 k hk).1))).gr sb50.gr (fun k hk => hp31.ne 3 5 rfl (congrArg some hk) rfl) (hp31.mv0 sb50.gr 5 rfl)).up (mv_erase 0)).up (mv_erase 0)).up (mv_erase 0))
       have hR49_35 : OwnR eTly 68 w w50 (ZZ Z w.heap.size [ob A31, ob A49, some b14_3, some b14_2, some b1]) A49 c49 (s17_b14_34 ++ [x21]) := ((((hR49.gr sb50.gr (fun k hk => hp31.ne 4 5 rfl (congrArg some hk) rfl) (hp31.mv0 sb50.gr 5 rfl)).up (mv_erase 0)).up (mv_erase 0)).up (mv_erase 0))
       have bk1_35 : Bk w50 b1 26 #[I p0.rows, I p0.wd, I p0.lo, I p0.hi, .slice A0_0 p0.ts.length c0_0] := ((((((bk1_12.ext nb29.gr).gr hg31 (hp13.ne 6 2 rfl rfl rfl)).gr sb32.gr (hp14.ne 6 5 rfl rfl rfl)).ext nb47.gr).gr hg49 (hp30.ne 7 4 rfl rfl rfl)).gr sb50.gr (hp31.ne 7 5 rfl rfl rfl))
       have hS0_0_35 : Sl eTly w50 (ZZ Z w.heap.size [ob A31, ob A49, some b14_3, some b14_2, some b1]) A0_0 c0_0 p0.ts := (((((((((((f17_hS0_0.mv (mv_new nb22.gr (Nat.le_of_eq nb22.b_eq.symm))).mv (hp11.mv0 sb23.gr 0 rfl)).mv (mv_new nb29.gr (Nat.le_of_eq nb29.b_eq.symm))).mv (hp13.mvr hg31 2 rfl (fun k hk => (hy31 k hk).1))).mv (hp14.mv0 sb32.gr 5 rfl)).mv (mv_new nb47.gr (Nat.le_of_eq nb47.b_eq.symm))).mv (hp30.mvr hg49 4 rfl (fun k hk => (hy49 k hk).1))).mv (hp31.mv0 sb50.gr 5 rfl)).mv (mv_erase 0)).mv (mv_erase 0)).mv (mv_erase 0))
       have kb14_2_35 : Bk w50 b14_2 26 #[I p0.rows, I p0.wd, I p0.lo, I p0.hi, .slice A31 ((s17_b14_24 ++ [(⟨x21.who, (p0.rows - 1) - x21.to, (p0.rows - 1) - x21.fr, x21.lo, x21.hi⟩ : Tly)]).length) c31] := (((sb32.bk.ext nb47.gr).gr hg49 (hp30.ne 6 4 rfl rfl rfl)).gr sb50.gr (hp31.ne 6 5 rfl rfl rfl))
       have kb14_3_35 : Bk w50 b14_3 26 #[I p0.rows, I p0.wd, I p0.lo, I p0.hi, .slice A49 ((s17_b14_34 ++ [x21]).length) c49] := sb50.bk
       refine lv_round m_ (Nat.lt_succ_self _) (fun st => ?_)
       exact ⟨(s17_11 + 1), (s17_b14_24 ++ [(⟨x21.who, (p0.rows - 1) - x21.to, (p0.rows - 1) - x21.fr, x21.lo, x21.hi⟩ : Tly)]), (s17_b14_34 ++ [x21]), A31, c31, A49, c49, hG, (puts_size _ _).trans st.sz, (puts_defers _ _).trans st.df, (sl_puts st 3).trans hs17_3, (sl_puts st 7).trans hs17_7, (sl_puts st 8).trans hs17_8, (sl_puts st 9).trans hs17_9, (sl_puts st 10).trans hs17_10, (sl_puts st 11).trans rfl, hp35, hR31_35, hR49_35, bk1_35, hS0_0_35, kb14_2_35, kb14_3_35⟩
    ·replace hG := cond_f hG hc20
     refine cc_cond_f rfl hc20 <| cc_exit <| lv_then_exit <| lv_then_exit ?_
     obtain rfl := Option.some.inj hG
     refine lv_to (fun st => ?_)
     exact ⟨rfl, As17_b14_24, Cs17_b14_24, As17_b14_34, Cs17_b14_34, (puts_size _ _).trans st.sz, (puts_defers _ _).trans st.df, (sl_puts st 3).trans hs17_3, (sl_puts st 7).trans hs17_7, (sl_puts st 8).trans hs17_8, (sl_puts st 9).trans hs17_9, (sl_puts st 10).trans hs17_10, hp10, f17_Hs17_b14_24, f17_Hs17_b14_34, f17_bk1, f17_hS0_0, f17_kb14_2, f17_kb14_3⟩
  case af17 =>
   rintro e_ fr17a w17a (⟨rfl, Ae17_0_b14_24, Ce17_0_b14_24, Ae17_0_b14_34, Ce17_0_b14_34, hsz17a, hdf17a, hs17a_3, hs17a_7, hs17a_8, hs17a_9, hs17a_10, hp17a, g17_He17_0_b14_24, g17_He17_0_b14_34, g17_bk1, g17_hS0_0, g17_kb14_2, g17_kb14_3⟩)
   refine lv_fr (X := X0) (N := 273) hsz17a hdf17a <| lv_block_hit <| lv_next <| cc_seq <| cc_region <| wd rfl (fun st => x_loadn (l := [I p0.rows, I p0.wd, I p0.lo, I p0.hi, .slice A0_0 p0.ts.length c0_0]) agg_26 (ee st hs17a_3) g17_bk1 rfl rfl) ?_
   replace hG := bind_some hG; obtain ⟨r52, hr52, hG⟩ := hG
   refine we rfl (fun st => x_call0 own_23 (ee st rfl) (am1 (ee st rfl)) (a23 K_ p0 A0_0 c0_0 (ZZ Z w.heap.size [ob Ae17_0_b14_24, ob Ae17_0_b14_34, some b14_3, some b14_2, some b1]) _ g17_hS0_0 r52 hr52)) ?_
   rintro _ w53 ⟨hx52, ⟨_, rfl, ⟨A52_r0, c52_r0, rfl, hS52_r0⟩⟩⟩
   have hp37 : Hp w [ob Ae17_0_b14_24, ob Ae17_0_b14_34, some b14_3, some b14_2, some b1] w53 := hp17a.ext hx52
   have hS52_r0 := hS52_r0.mv (hp17a.call (Nat.le_refl _))
   replace hG := bind_some hG; obtain ⟨r54, hr54, hG⟩ := hG
   refine we rfl (fun st => x_call0 own_35 (ee st rfl) (am1 (ee st rfl)) (a35 K_ r52 A52_r0 c52_r0 (ZZ Z w.heap.size [ob Ae17_0_b14_24, ob Ae17_0_b14_34, some b14_3, some b14_2, some b1]) _ hS52_r0 r54 hr54)) ?_
   rintro _ w55 ⟨hx54, _, _, rfl, ⟨A54_ra, c54_ra, rfl, hS54_ra⟩, rfl⟩
   have hp38 : Hp w [ob Ae17_0_b14_24, ob Ae17_0_b14_34, some b14_3, some b14_2, some b1] w55 := hp37.ext hx54
   have hS54_ra := hS54_ra.mv (hp37.call (Nat.le_refl _))
   refine wm rfl (v := .tuple #[.slice A54_ra r54.1.length c54_ra, I r54.2]) rfl <| wd rfl (fun st => x_extract (v := .slice A54_ra r54.1.length c54_ra) (ee st rfl) rfl) <| wd rfl (fun st => x_extract (v := I r54.2) (ee st rfl) rfl) <| wa rfl (v := .slice A54_ra r54.1.length c54_ra) rfl <| wa rfl (v := I r54.2) rfl <| wl_end <| lv_next <| cc_seq <| cc_region ?_
   have kb14_3_38 : Bk w55 b14_3 26 #[I p0.rows, I p0.wd, I p0.lo, I p0.hi, .slice Ae17_0_b14_34 z17.2.length Ce17_0_b14_34] := ((g17_kb14_3.ext hx52).ext hx54)
   refine wd rfl (fun st => x_loadn (l := [I p0.rows, I p0.wd, I p0.lo, I p0.hi, .slice Ae17_0_b14_34 z17.2.length Ce17_0_b14_34]) agg_26 (ee st hs17a_10) kb14_3_38 rfl rfl) ?_
   have He17_0_b14_34_38 : OwnR eTly 68 w w55 (ZZ Z w.heap.size [ob Ae17_0_b14_24, ob Ae17_0_b14_34, some b14_3, some b14_2, some b1]) Ae17_0_b14_34 Ce17_0_b14_34 z17.2 := ((g17_He17_0_b14_34.ext hx52 (mv_ext hx52)).ext hx54 (mv_ext hx54))
   have hp39 : Hp w [ob Ae17_0_b14_24, some b14_3, some b14_2, some b1] w55 := hp38.erase 1
   have He17_0_b14_34_z : Sl eTly w55 (ZZ Z w.heap.size [ob Ae17_0_b14_24, some b14_3, some b14_2, some b1]) Ae17_0_b14_34 Ce17_0_b14_34 z17.2 := hp38.frz 1 rfl He17_0_b14_34_38
   replace hG := bind_some hG; obtain ⟨r56, hr56, hG⟩ := hG
   refine we rfl (fun st => x_call0 own_23 (ee st rfl) (am1 (ee st rfl)) (a23 K_ (⟨p0.rows, p0.wd, p0.lo, p0.hi, z17.2⟩ : Fld) Ae17_0_b14_34 Ce17_0_b14_34 (ZZ Z w.heap.size [ob Ae17_0_b14_24, some b14_3, some b14_2, some b1]) _ He17_0_b14_34_z r56 hr56)) ?_
   rintro _ w57 ⟨hx56, ⟨_, rfl, ⟨A56_r0, c56_r0, rfl, hS56_r0⟩⟩⟩
   have hp40 : Hp w [ob Ae17_0_b14_24, some b14_3, some b14_2, some b1] w57 := hp39.ext hx56
   have hS56_r0 := hS56_r0.mv (hp39.call (Nat.le_refl _))
   replace hG := bind_some hG; obtain ⟨r58, hr58, hG⟩ := hG
   refine we rfl (fun st => x_call0 own_35 (ee st rfl) (am1 (ee st rfl)) (a35 K_ r56 A56_r0 c56_r0 (ZZ Z w.heap.size [ob Ae17_0_b14_24, some b14_3, some b14_2, some b1]) _ hS56_r0 r58 hr58)) ?_
   rintro _ w59 ⟨hx58, _, _, rfl, ⟨A58_ra, c58_ra, rfl, hS58_ra⟩, rfl⟩
   have hp41 : Hp w [ob Ae17_0_b14_24, some b14_3, some b14_2, some b1] w59 := hp40.ext hx58
   have hS58_ra := hS58_ra.mv (hp40.call (Nat.le_refl _))
   refine wm rfl (v := .tuple #[.slice A58_ra r58.1.length c58_ra, I r58.2]) rfl <| wd rfl (fun st => x_extract (v := .slice A58_ra r58.1.length c58_ra) (ee st rfl) rfl) <| wd rfl (fun st => x_extract (v := I r58.2) (ee st rfl) rfl) <| wa rfl (v := .slice A58_ra r58.1.length c58_ra) rfl <| wa rfl (v := I r58.2) rfl <| wl_end <| lv_next <| cc_seq <| cc_seq <| cc_region <| wm rfl (v := I r54.2) rfl <| wd rfl (fun st => x_neq (ee st rfl) (ee st rfl)) <| wm rfl (v := .bool (r54.2 != 0)) rfl ?_
   rcases bool_cases (r54.2 != 0) with hc60 | hc60
   ·replace hG := cond_t hG hc60
    exact absurd (Option.some.inj hG) (by decide)
   ·replace hG := cond_f hG hc60
    refine wl_detg rfl rfl (guard_eq rfl hc60) rfl (by decide) (fun st => x_move (v := I r58.2) (ee st rfl)) <| wl_detg rfl rfl (guard_eq rfl hc60) rfl (by decide) (fun st => x_neq (ee st rfl) (ee st rfl)) <| wd rfl (fun st => x_pick_f (v := .bool (r58.2 != 0)) (ee st rfl) hc60 (ee st rfl)) <| wm rfl (v := .bool (r58.2 != 0)) rfl ?_
    rcases bool_cases (r58.2 != 0) with hc61 | hc61
    ·replace hG := cond_t hG hc61
     exact absurd (Option.some.inj hG) (by decide)
    ·replace hG := cond_f hG hc61
     refine wl_detg rfl rfl (guard_eq rfl hc61) rfl (by decide) (fun st => x_move (v := .slice A54_ra r54.1.length c54_ra) (ee st rfl)) <| wl_detg rfl rfl (guard_eq rfl hc61) rfl (by decide) (fun st => x_len Try.underlying43 (ee st rfl)) <| wl_detg rfl rfl (guard_eq rfl hc61) rfl (by decide) (fun st => x_move (v := .slice A58_ra r58.1.length c58_ra) (ee st rfl)) <| wl_detg rfl rfl (guard_eq rfl hc61) rfl (by decide) (fun st => x_len Try.underlying43 (ee st rfl)) <| wl_detg rfl rfl (guard_eq rfl hc61) rfl (by decide) (fun st => x_neq (ee st rfl) (ee st rfl)) <| wd rfl (fun st => x_pick_f (v := .bool ((r54.1.length : Int) != (r58.1.length : Int))) (ee st rfl) hc61 (ee st rfl)) <| wl_end <| lv_next ?_
     rcases bool_cases ((r54.1.length : Int) != (r58.1.length : Int)) with hc62 | hc62
     ·replace hG := cond_t hG hc62
      exact absurd (Option.some.inj hG) (by decide)
     ·replace hG := cond_f hG hc62
      refine cc_cond_f rfl hc62 <| cc_skip <| lv_next <| cc_seq <| cc_region ?_
      have bk1_41 : Bk w59 b1 26 #[I p0.rows, I p0.wd, I p0.lo, I p0.hi, .slice A0_0 p0.ts.length c0_0] := ((((g17_bk1.ext hx52).ext hx54).ext hx56).ext hx58)
      refine wd rfl (fun st => x_loadn (l := [I p0.rows, I p0.wd, I p0.lo, I p0.hi, .slice A0_0 p0.ts.length c0_0]) agg_26 (ee st hs17a_3) bk1_41 rfl rfl) ?_
      have hS0_0_41 : Sl eTly w59 (ZZ Z w.heap.size [ob Ae17_0_b14_24, some b14_3, some b14_2, some b1]) A0_0 c0_0 p0.ts := (((((g17_hS0_0.mv (mv_ext hx52)).mv (mv_ext hx54)).mv (mv_erase 1)).mv (mv_ext hx56)).mv (mv_ext hx58))
      replace hG := bind_some hG; obtain ⟨r63, hr63, hG⟩ := hG
      refine we rfl (fun st => x_call0 own_23 (ee st rfl) (am1 (ee st rfl)) (a23 K_ p0 A0_0 c0_0 (ZZ Z w.heap.size [ob Ae17_0_b14_24, some b14_3, some b14_2, some b1]) _ hS0_0_41 r63 hr63)) ?_
      rintro _ w64 ⟨hx63, ⟨_, rfl, ⟨A63_r0, c63_r0, rfl, hS63_r0⟩⟩⟩
      have hp42 : Hp w [ob Ae17_0_b14_24, some b14_3, some b14_2, some b1] w64 := hp41.ext hx63
      have hS63_r0 := hS63_r0.mv (hp41.call (Nat.le_refl _))
      replace hG := bind_some hG; obtain ⟨r65, hr65, hG⟩ := hG
      refine we rfl (fun st => x_call0 own_22 (ee st rfl) (am1 (ee st rfl)) (a22 K_ r63 A63_r0 c63_r0 (ZZ Z w.heap.size [ob Ae17_0_b14_24, some b14_3, some b14_2, some b1]) _ hS63_r0 r65 hr65)) ?_
      rintro _ w66 ⟨hx65, _, _, rfl, ⟨A65_ra, c65_ra, rfl, hS65_ra⟩, rfl⟩
      have hp43 : Hp w [ob Ae17_0_b14_24, some b14_3, some b14_2, some b1] w66 := hp42.ext hx65
      have hS65_ra := hS65_ra.mv (hp42.call (Nat.le_refl _))
      refine wm rfl (v := .tuple #[.slice A65_ra r65.1.length c65_ra, I r65.2]) rfl <| wd rfl (fun st => x_extract (v := .slice A65_ra r65.1.length c65_ra) (ee st rfl) rfl) <| wd rfl (fun st => x_extract (v := I r65.2) (ee st rfl) rfl) <| wa rfl (v := .slice A65_ra r65.1.length c65_ra) rfl <| wa rfl (v := I r65.2) rfl <| wl_end <| lv_next <| cc_seq <| cc_region ?_
      have kb14_2_43 : Bk w66 b14_2 26 #[I p0.rows, I p0.wd, I p0.lo, I p0.hi, .slice Ae17_0_b14_24 z17.1.length Ce17_0_b14_24] := ((((((g17_kb14_2.ext hx52).ext hx54).ext hx56).ext hx58).ext hx63).ext hx65)
      refine wd rfl (fun st => x_loadn (l := [I p0.rows, I p0.wd, I p0.lo, I p0.hi, .slice Ae17_0_b14_24 z17.1.length Ce17_0_b14_24]) agg_26 (ee st hs17a_9) kb14_2_43 rfl rfl) ?_
      have He17_0_b14_24_43 : OwnR eTly 68 w w66 (ZZ Z w.heap.size [ob Ae17_0_b14_24, some b14_3, some b14_2, some b1]) Ae17_0_b14_24 Ce17_0_b14_24 z17.1 := (((((((g17_He17_0_b14_24.ext hx52 (mv_ext hx52)).ext hx54 (mv_ext hx54)).up (mv_erase 1)).ext hx56 (mv_ext hx56)).ext hx58 (mv_ext hx58)).ext hx63 (mv_ext hx63)).ext hx65 (mv_ext hx65))
      have hp44 : Hp w [some b14_3, some b14_2, some b1] w66 := hp43.erase 0
      have He17_0_b14_24_z : Sl eTly w66 (ZZ Z w.heap.size [some b14_3, some b14_2, some b1]) Ae17_0_b14_24 Ce17_0_b14_24 z17.1 := hp43.frz 0 rfl He17_0_b14_24_43
      replace hG := bind_some hG; obtain ⟨r67, hr67, hG⟩ := hG
      refine we rfl (fun st => x_call0 own_23 (ee st rfl) (am1 (ee st rfl)) (a23 K_ (⟨p0.rows, p0.wd, p0.lo, p0.hi, z17.1⟩ : Fld) Ae17_0_b14_24 Ce17_0_b14_24 (ZZ Z w.heap.size [some b14_3, some b14_2, some b1]) _ He17_0_b14_24_z r67 hr67)) ?_
      rintro _ w68 ⟨hx67, ⟨_, rfl, ⟨A67_r0, c67_r0, rfl, hS67_r0⟩⟩⟩
      have hp45 : Hp w [some b14_3, some b14_2, some b1] w68 := hp44.ext hx67
      have hS67_r0 := hS67_r0.mv (hp44.call (Nat.le_refl _))
      replace hG := bind_some hG; obtain ⟨r69, hr69, hG⟩ := hG
      refine we rfl (fun st => x_call0 own_22 (ee st rfl) (am1 (ee st rfl)) (a22 K_ r67 A67_r0 c67_r0 (ZZ Z w.heap.size [some b14_3, some b14_2, some b1]) _ hS67_r0 r69 hr69)) ?_
      rintro _ w70 ⟨hx69, _, _, rfl, ⟨A69_ra, c69_ra, rfl, hS69_ra⟩, rfl⟩
      have hp46 : Hp w [some b14_3, some b14_2, some b1] w70 := hp45.ext hx69
      have hS69_ra := hS69_ra.mv (hp45.call (Nat.le_refl _))
      refine wm rfl (v := .tuple #[.slice A69_ra r69.1.length c69_ra, I r69.2]) rfl <| wd rfl (fun st => x_extract (v := .slice A69_ra r69.1.length c69_ra) (ee st rfl) rfl) <| wd rfl (fun st => x_extract (v := I r69.2) (ee st rfl) rfl) <| wa rfl (v := .slice A69_ra r69.1.length c69_ra) rfl <| wa rfl (v := I r69.2) rfl <| wl_end <| lv_next <| cc_seq <| cc_region ?_
      have kb14_3_46 : Bk w70 b14_3 26 #[I p0.rows, I p0.wd, I p0.lo, I p0.hi, .slice Ae17_0_b14_34 z17.2.length Ce17_0_b14_34] := ((((((kb14_3_38.ext hx56).ext hx58).ext hx63).ext hx65).ext hx67).ext hx69)
      refine wd rfl (fun st => x_loadn (l := [I p0.rows, I p0.wd, I p0.lo, I p0.hi, .slice Ae17_0_b14_34 z17.2.length Ce17_0_b14_34]) agg_26 (ee st hs17a_10) kb14_3_46 rfl rfl) ?_
      have He17_0_b14_34_46 : Sl eTly w70 (ZZ Z w.heap.size [some b14_3, some b14_2, some b1]) Ae17_0_b14_34 Ce17_0_b14_34 z17.2 := (((((((He17_0_b14_34_z.mv (mv_ext hx56)).mv (mv_ext hx58)).mv (mv_ext hx63)).mv (mv_ext hx65)).mv (mv_erase 0)).mv (mv_ext hx67)).mv (mv_ext hx69))
      replace hG := bind_some hG; obtain ⟨r71, hr71, hG⟩ := hG
      refine we rfl (fun st => x_call0 own_23 (ee st rfl) (am1 (ee st rfl)) (a23 K_ (⟨p0.rows, p0.wd, p0.lo, p0.hi, z17.2⟩ : Fld) Ae17_0_b14_34 Ce17_0_b14_34 (ZZ Z w.heap.size [some b14_3, some b14_2, some b1]) _ He17_0_b14_34_46 r71 hr71)) ?_
      rintro _ w72 ⟨hx71, ⟨_, rfl, ⟨A71_r0, c71_r0, rfl, hS71_r0⟩⟩⟩
      have hp47 : Hp w [some b14_3, some b14_2, some b1] w72 := hp46.ext hx71
      have hS71_r0 := hS71_r0.mv (hp46.call (Nat.le_refl _))
      replace hG := bind_some hG; obtain ⟨r73, hr73, hG⟩ := hG
      refine we rfl (fun st => x_call0 own_22 (ee st rfl) (am1 (ee st rfl)) (a22 K_ r71 A71_r0 c71_r0 (ZZ Z w.heap.size [some b14_3, some b14_2, some b1]) _ hS71_r0 r73 hr73)) ?_
      rintro _ w74 ⟨hx73, _, _, rfl, ⟨A73_ra, c73_ra, rfl, hS73_ra⟩, rfl⟩
      have hp48 : Hp w [some b14_3, some b14_2, some b1] w74 := hp47.ext hx73
      have hS73_ra := hS73_ra.mv (hp47.call (Nat.le_refl _))
      refine wm rfl (v := .tuple #[.slice A73_ra r73.1.length c73_ra, I r73.2]) rfl <| wd rfl (fun st => x_extract (v := .slice A73_ra r73.1.length c73_ra) (ee st rfl) rfl) <| wd rfl (fun st => x_extract (v := I r73.2) (ee st rfl) rfl) <| wa rfl (v := .slice A73_ra r73.1.length c73_ra) rfl <| wa rfl (v := I r73.2) rfl <| wl_end <| lv_next <| cc_seq <| cc_seq <| cc_region <| wm rfl (v := I r65.2) rfl <| wd rfl (fun st => x_neq (ee st rfl) (ee st rfl)) <| wl_end <| lv_next ?_
      rcases bool_cases (r65.2 != 0) with hc75 | hc75
      ·replace hG := cond_t hG hc75
       refine cc_cond_t rfl hc75 <| cc_seq <| cc_region <| wm rfl (v := I r65.2) rfl <| wd rfl (fun st => x_eql (ee st rfl) (ee st rfl)) <| wm rfl (v := .bool (r65.2 == 11)) rfl ?_
       rcases bool_cases (r65.2 == 11) with hc76 | hc76
       ·replace hG := cond_t hG hc76
        refine wl_detg rfl rfl (guard_eq rfl hc76) rfl (by decide) (fun st => x_move (v := I r69.2) (ee st rfl)) <| wl_detg rfl rfl (guard_eq rfl hc76) rfl (by decide) (fun st => x_move (v := I r65.2) (ee st rfl)) <| wl_detg rfl rfl (guard_eq rfl hc76) rfl (by decide) (fun st => x_eql (ee st rfl) (ee st rfl)) <| wd rfl (fun st => x_pick_t (v := .bool (r69.2 == r65.2)) (ee st rfl) hc76 (ee st rfl)) <| wm rfl (v := .bool (r69.2 == r65.2)) rfl ?_
        rcases bool_cases (r69.2 == r65.2) with hc77 | hc77
        ·replace hG := cond_t hG hc77
         refine wl_detg rfl rfl (guard_eq rfl hc77) rfl (by decide) (fun st => x_move (v := I r73.2) (ee st rfl)) <| wl_detg rfl rfl (guard_eq rfl hc77) rfl (by decide) (fun st => x_move (v := I r65.2) (ee st rfl)) <| wl_detg rfl rfl (guard_eq rfl hc77) rfl (by decide) (fun st => x_eql (ee st rfl) (ee st rfl)) <| wd rfl (fun st => x_pick_t (v := .bool (r73.2 == r65.2)) (ee st rfl) hc77 (ee st rfl)) <| wm rfl (v := .bool (r73.2 == r65.2)) rfl ?_
         rcases bool_cases (r73.2 == r65.2) with hc78 | hc78
         ·replace hG := cond_t hG hc78
          replace hG := ifo_bind hG; obtain ⟨hw79, hG⟩ := hG
          refine wl_exg rfl rfl (guard_eq rfl hc78) rfl (by decide) (fun st => x_call0 own_21 (ee st rfl) am0 (a21 K_ ZA _ hw79)) ?_
          rintro _ w80 ⟨hx79, rfl⟩
          have hp49 : Hp w [some b14_3, some b14_2, some b1] w80 := hp48.ext hx79
          refine wd rfl (fun st => x_pick_t (v := .bool true) (ee st rfl) hc78 (ee st rfl)) <| wa rfl (v := .bool true) rfl <| wl_end <| lv_next <| cc_ret <| lv_then_ret ?_
          have hr_ := Option.some.inj hG
          refine lv_ret1 rfl rfl ?_
          exact ⟨hp49.fin, congrArg Value.bool hr_⟩
         ·replace hG := cond_f hG hc78
          exact absurd (Option.some.inj hG) (by decide)
        ·replace hG := cond_f hG hc77
         exact absurd (Option.some.inj hG) (by decide)
       ·replace hG := cond_f hG hc76
        exact absurd (Option.some.inj hG) (by decide)
      ·replace hG := cond_f hG hc75
       refine cc_cond_f rfl hc75 <| cc_skip <| lv_next <| cc_seq <| cc_region ?_
       have bk1_48 : Bk w74 b1 26 #[I p0.rows, I p0.wd, I p0.lo, I p0.hi, .slice A0_0 p0.ts.length c0_0] := ((((((bk1_41.ext hx63).ext hx65).ext hx67).ext hx69).ext hx71).ext hx73)
       refine wd rfl (fun st => x_loadn (l := [I p0.rows, I p0.wd, I p0.lo, I p0.hi, .slice A0_0 p0.ts.length c0_0]) agg_26 (ee st hs17a_3) bk1_48 rfl rfl) ?_
       have hS0_0_48 : Sl eTly w74 (ZZ Z w.heap.size [some b14_3, some b14_2, some b1]) A0_0 c0_0 p0.ts := (((((((hS0_0_41.mv (mv_ext hx63)).mv (mv_ext hx65)).mv (mv_erase 0)).mv (mv_ext hx67)).mv (mv_ext hx69)).mv (mv_ext hx71)).mv (mv_ext hx73))
       replace hG := bind_some hG; obtain ⟨r81, hr81, hG⟩ := hG
       refine we rfl (fun st => x_call0 own_23 (ee st rfl) (am1 (ee st rfl)) (a23 K_ p0 A0_0 c0_0 (ZZ Z w.heap.size [some b14_3, some b14_2, some b1]) _ hS0_0_48 r81 hr81)) ?_
       rintro _ w82 ⟨hx81, ⟨_, rfl, ⟨A81_r0, c81_r0, rfl, hS81_r0⟩⟩⟩
       have hp50 : Hp w [some b14_3, some b14_2, some b1] w82 := hp48.ext hx81
       have hS81_r0 := hS81_r0.mv (hp48.call (Nat.le_refl _))
       refine wm rfl (v := I (p1 % p0.wd)) hs17a_7 ?_
       replace hG := bind_some hG; obtain ⟨r83, hr83, hG⟩ := hG
       refine we rfl (fun st => x_call0 own_42 (ee st rfl) (am2 (ee st rfl) (ee st rfl)) (a42 K_ r81 (p1 % p0.wd) A81_r0 c81_r0 (ZZ Z w.heap.size [some b14_3, some b14_2, some b1]) _ hS81_r0 r83 hr83)) ?_
       rintro _ w84 ⟨hx83, _, _, rfl, ⟨A83_ra, c83_ra, rfl, hS83_ra⟩, rfl⟩
       have hp51 : Hp w [some b14_3, some b14_2, some b1] w84 := hp50.ext hx83
       have hS83_ra := hS83_ra.mv (hp50.call (Nat.le_refl _))
       refine wm rfl (v := .tuple #[.slice A83_ra r83.1.length c83_ra, I r83.2]) rfl <| wd rfl (fun st => x_extract (v := .slice A83_ra r83.1.length c83_ra) (ee st rfl) rfl) <| wd rfl (fun st => x_extract (v := I r83.2) (ee st rfl) rfl) <| wa rfl (v := .slice A83_ra r83.1.length c83_ra) rfl <| wa rfl (v := I r83.2) rfl <| wl_end <| lv_next <| cc_seq <| cc_region ?_
       have kb14_2_51 : Bk w84 b14_2 26 #[I p0.rows, I p0.wd, I p0.lo, I p0.hi, .slice Ae17_0_b14_24 z17.1.length Ce17_0_b14_24] := ((((((kb14_2_43.ext hx67).ext hx69).ext hx71).ext hx73).ext hx81).ext hx83)
       refine wd rfl (fun st => x_loadn (l := [I p0.rows, I p0.wd, I p0.lo, I p0.hi, .slice Ae17_0_b14_24 z17.1.length Ce17_0_b14_24]) agg_26 (ee st hs17a_9) kb14_2_51 rfl rfl) ?_
       have He17_0_b14_24_51 : Sl eTly w84 (ZZ Z w.heap.size [some b14_3, some b14_2, some b1]) Ae17_0_b14_24 Ce17_0_b14_24 z17.1 := ((((((He17_0_b14_24_z.mv (mv_ext hx67)).mv (mv_ext hx69)).mv (mv_ext hx71)).mv (mv_ext hx73)).mv (mv_ext hx81)).mv (mv_ext hx83))
       replace hG := bind_some hG; obtain ⟨r85, hr85, hG⟩ := hG
       refine we rfl (fun st => x_call0 own_23 (ee st rfl) (am1 (ee st rfl)) (a23 K_ (⟨p0.rows, p0.wd, p0.lo, p0.hi, z17.1⟩ : Fld) Ae17_0_b14_24 Ce17_0_b14_24 (ZZ Z w.heap.size [some b14_3, some b14_2, some b1]) _ He17_0_b14_24_51 r85 hr85)) ?_
       rintro _ w86 ⟨hx85, ⟨_, rfl, ⟨A85_r0, c85_r0, rfl, hS85_r0⟩⟩⟩
       have hp52 : Hp w [some b14_3, some b14_2, some b1] w86 := hp51.ext hx85
       have hS85_r0 := hS85_r0.mv (hp51.call (Nat.le_refl _))
       refine wm rfl (v := I (p1 % p0.wd)) hs17a_7 ?_
       replace hG := bind_some hG; obtain ⟨r87, hr87, hG⟩ := hG
       refine we rfl (fun st => x_call0 own_42 (ee st rfl) (am2 (ee st rfl) (ee st rfl)) (a42 K_ r85 (p1 % p0.wd) A85_r0 c85_r0 (ZZ Z w.heap.size [some b14_3, some b14_2, some b1]) _ hS85_r0 r87 hr87)) ?_
       rintro _ w88 ⟨hx87, _, _, rfl, ⟨A87_ra, c87_ra, rfl, hS87_ra⟩, rfl⟩
       have hp53 : Hp w [some b14_3, some b14_2, some b1] w88 := hp52.ext hx87
       have hS87_ra := hS87_ra.mv (hp52.call (Nat.le_refl _))
       refine wm rfl (v := .tuple #[.slice A87_ra r87.1.length c87_ra, I r87.2]) rfl <| wd rfl (fun st => x_extract (v := .slice A87_ra r87.1.length c87_ra) (ee st rfl) rfl) <| wd rfl (fun st => x_extract (v := I r87.2) (ee st rfl) rfl) <| wa rfl (v := .slice A87_ra r87.1.length c87_ra) rfl <| wa rfl (v := I r87.2) rfl <| wl_end <| lv_next <| cc_seq <| cc_seq ?_
       rcases bool_cases (r69.2 != 0) with hc90 | hc90
       ·replace hG := cond_t hG hc90
        exact absurd (Option.some.inj hG) (by decide)
       ·replace hG := cond_f hG hc90
        rcases bool_cases (r73.2 != 0) with hc91 | hc91
        ·replace hG := cond_t hG hc91
         exact absurd (Option.some.inj hG) (by decide)
        ·replace hG := cond_f hG hc91
         rcases bool_cases (r83.2 != 0) with hc92 | hc92
         ·replace hG := cond_t hG hc92
          exact absurd (Option.some.inj hG) (by decide)
         ·replace hG := cond_f hG hc92
          rcases bool_cases (r87.2 != 0) with hc93 | hc93
          ·replace hG := cond_t hG hc93
           exact absurd (Option.some.inj hG) (by decide)
          ·replace hG := cond_f hG hc93
           have bk1_53 : Bk w88 b1 26 #[I p0.rows, I p0.wd, I p0.lo, I p0.hi, .slice A0_0 p0.ts.length c0_0] := ((((bk1_48.ext hx81).ext hx83).ext hx85).ext hx87)
           rcases bool_cases ((r65.1.length : Int) != p0.wd) with hc94 | hc94
           ·replace hG := cond_t hG hc94
            exact absurd (Option.some.inj hG) (by decide)
           ·replace hG := cond_f hG hc94
            rcases bool_cases ((r69.1.length : Int) != (r65.1.length : Int)) with hc95 | hc95
            ·replace hG := cond_t hG hc95
             exact absurd (Option.some.inj hG) (by decide)
            ·replace hG := cond_f hG hc95
             rcases bool_cases ((r73.1.length : Int) != (r65.1.length : Int)) with hc96 | hc96
             ·replace hG := cond_t hG hc96
              exact absurd (Option.some.inj hG) (by decide)
             ·replace hG := cond_f hG hc96
              rcases bool_cases ((r83.1.length : Int) != (r87.1.length : Int)) with hc97 | hc97
              ·replace hG := cond_t hG hc97
               exact absurd (Option.some.inj hG) (by decide)
              ·replace hG := cond_f hG hc97
               replace hG := idx_bind hG; obtain ⟨i98, x98, hi98, hx98, hl98, hG⟩ := hG
               have hS65_ra_53 : Sl eR w88 (ZZ Z w.heap.size [some b14_3, some b14_2, some b1]) A65_ra c65_ra r65.1 := (((((((((hS65_ra.mv (mv_erase 0)).mv (mv_ext hx67)).mv (mv_ext hx69)).mv (mv_ext hx71)).mv (mv_ext hx73)).mv (mv_ext hx81)).mv (mv_ext hx83)).mv (mv_ext hx85)).mv (mv_ext hx87))
               obtain ⟨b98, o98, _, hA98, rfl, hz98⟩ := Sl.elem hS65_ra_53 (by decide) hx98
               replace hG := idx_bind hG; obtain ⟨i99, x99, hi99, hx99, hl99, hG⟩ := hG
               have hS73_ra_53 : Sl eR w88 (ZZ Z w.heap.size [some b14_3, some b14_2, some b1]) A73_ra c73_ra r73.1 := ((((hS73_ra.mv (mv_ext hx81)).mv (mv_ext hx83)).mv (mv_ext hx85)).mv (mv_ext hx87))
               obtain ⟨b99, o99, _, hA99, rfl, hz99⟩ := Sl.elem hS73_ra_53 (by decide) hx99
               rcases bool_cases ([x98.1, x98.2] != [x99.1, x99.2]) with hc100 | hc100
               ·replace hG := cond_t hG hc100
                exact absurd (Option.some.inj hG) (by decide)
               ·replace hG := cond_f hG hc100
                replace hG := idx_bind hG; obtain ⟨i101, x101, hi101, hx101, hl101, hG⟩ := hG
                obtain ⟨b101, o101, _, hA101, rfl, hz101⟩ := Sl.elem hS65_ra_53 (by decide) hx101
                replace hG := idx_bind hG; obtain ⟨i102, x102, hi102, hx102, hl102, hG⟩ := hG
                obtain ⟨b102, o102, _, hA102, rfl, hz102⟩ := Sl.elem hS73_ra_53 (by decide) hx102
                refine cc_anyM0 62 [Kc (I r69.2), Kc (.bool (r69.2 != 0)), Kc (.bool (r69.2 != 0)), Kc (I r73.2), Kc (.bool (r73.2 != 0)), Kc (.bool (r73.2 != 0)), Kc (.bool (r73.2 != 0)), Kc (I r83.2), Kc (.bool (r83.2 != 0)), Kc (.bool (r83.2 != 0)), Kc (.bool (r83.2 != 0)), Kc (I r87.2), Kc (.bool (r87.2 != 0)), Kc (.bool (r87.2 != 0)), Kc (.bool (r87.2 != 0)), Kc (.slice A65_ra r65.1.length c65_ra), Kc (I (r65.1.length : Int)), Kc (pt b1 1), Kc (I p0.wd), Kc (.bool ((r65.1.length : Int) != p0.wd)), Kc (.bool ((r65.1.length : Int) != p0.wd)), Kc (.bool ((r65.1.length : Int) != p0.wd)), Kc (.slice A69_ra r69.1.length c69_ra), Kc (I (r69.1.length : Int)), Kc (.slice A65_ra r65.1.length c65_ra), Kc (I (r65.1.length : Int)), Kc (.bool ((r69.1.length : Int) != (r65.1.length : Int))), Kc (.bool ((r69.1.length : Int) != (r65.1.length : Int))), Kc (.bool ((r69.1.length : Int) != (r65.1.length : Int))), Kc (.slice A73_ra r73.1.length c73_ra), Kc (I (r73.1.length : Int)), Kc (.slice A65_ra r65.1.length c65_ra), Kc (I (r65.1.length : Int)), Kc (.bool ((r73.1.length : Int) != (r65.1.length : Int))), Kc (.bool ((r73.1.length : Int) != (r65.1.length : Int))), Kc (.bool ((r73.1.length : Int) != (r65.1.length : Int))), Kc (.slice A83_ra r83.1.length c83_ra), Kc (I (r83.1.length : Int)), Kc (.slice A87_ra r87.1.length c87_ra), Kc (I (r87.1.length : Int)), Kc (.bool ((r83.1.length : Int) != (r87.1.length : Int))), Kc (.bool ((r83.1.length : Int) != (r87.1.length : Int))), Kc (.bool ((r83.1.length : Int) != (r87.1.length : Int))), Kc (.slice A65_ra r65.1.length c65_ra), Kc (I (p1 % p0.wd)), Kc (pt b98 (o98 + i98 * 2)), Kc (.agg #[I x98.1, I x98.2]), Kc (.slice A73_ra r73.1.length c73_ra), Kc (I (p2 % p0.wd)), Kc (pt b99 (o99 + i99 * 2)), Kc (.agg #[I x99.1, I x99.2]), Kc (.bool ([x98.1, x98.2] != [x99.1, x99.2])), Kc (.bool ([x98.1, x98.2] != [x99.1, x99.2])), Kc (.bool ([x98.1, x98.2] != [x99.1, x99.2])), Kc (.slice A65_ra r65.1.length c65_ra), Kc (I (p2 % p0.wd)), Kc (pt b101 (o101 + i101 * 2)), Kc (.agg #[I x101.1, I x101.2]), Kc (.slice A73_ra r73.1.length c73_ra), Kc (I (p1 % p0.wd)), Kc (pt b102 (o102 + i102 * 2)), Kc (.agg #[I x102.1, I x102.2])] mixedL13 rfl rfl
                    (obsN_cons (od rfl (fun _ => rfl) (fun K => x_move (v := I r69.2) (es (t := 20) (v := I r69.2) ((K.out 20 rfl).trans rfl))))
                    (obsN_cons (od rfl (fun _ => rfl) (fun K => x_neq (es (t := 172) (v := I r69.2) (K.dep 0 172 rfl rfl)) (ec (v := I 0))))
                    (obsN_cons (od rfl (fun _ => rfl) (fun K => x_move (v := .bool (r69.2 != 0)) (es (t := 173) (v := .bool (r69.2 != 0)) (K.dep 1 173 rfl rfl))))
                    (obsN_cons (ob_detg rfl rfl rfl (fun _ => rfl) (fun a' w' ph K => (guard_eq (show sl a' 174 = .bool (r69.2 != 0) from K.dep 2 174 rfl rfl) hc90)) (fun a' w' ph K => x_move (v := I r73.2) (es (t := 22) (v := I r73.2) ((K.out 22 rfl).trans rfl))))
                    (obsN_cons (ob_detg rfl rfl rfl (fun _ => rfl) (fun a' w' ph K => (guard_eq (show sl a' 174 = .bool (r69.2 != 0) from K.dep 2 174 rfl rfl) hc90)) (fun a' w' ph K => x_neq (es (t := 175) (v := I r73.2) (K.dep 3 175 rfl rfl)) (ec (v := I 0))))
                    (obsN_cons (od rfl (fun _ => rfl) (fun K => x_pick_f (v := .bool (r73.2 != 0)) (es (t := 174) (v := .bool (r69.2 != 0)) (K.dep 2 174 rfl rfl)) hc90 (es (t := 176) (v := .bool (r73.2 != 0)) (K.dep 4 176 rfl rfl))))
                    (obsN_cons (od rfl (fun _ => rfl) (fun K => x_move (v := .bool (r73.2 != 0)) (es (t := 177) (v := .bool (r73.2 != 0)) (K.dep 5 177 rfl rfl))))
                    (obsN_cons (ob_detg rfl rfl rfl (fun _ => rfl) (fun a' w' ph K => (guard_eq (show sl a' 178 = .bool (r73.2 != 0) from K.dep 6 178 rfl rfl) hc91)) (fun a' w' ph K => x_move (v := I r83.2) (es (t := 24) (v := I r83.2) ((K.out 24 rfl).trans rfl))))
                    (obsN_cons (ob_detg rfl rfl rfl (fun _ => rfl) (fun a' w' ph K => (guard_eq (show sl a' 178 = .bool (r73.2 != 0) from K.dep 6 178 rfl rfl) hc91)) (fun a' w' ph K => x_neq (es (t := 179) (v := I r83.2) (K.dep 7 179 rfl rfl)) (ec (v := I 0))))
                    (obsN_cons (od rfl (fun _ => rfl) (fun K => x_pick_f (v := .bool (r83.2 != 0)) (es (t := 178) (v := .bool (r73.2 != 0)) (K.dep 6 178 rfl rfl)) hc91 (es (t := 180) (v := .bool (r83.2 != 0)) (K.dep 8 180 rfl rfl))))
                    (obsN_cons (od rfl (fun _ => rfl) (fun K => x_move (v := .bool (r83.2 != 0)) (es (t := 181) (v := .bool (r83.2 != 0)) (K.dep 9 181 rfl rfl))))
                    (obsN_cons (ob_detg rfl rfl rfl (fun _ => rfl) (fun a' w' ph K => (guard_eq (show sl a' 182 = .bool (r83.2 != 0) from K.dep 10 182 rfl rfl) hc92)) (fun a' w' ph K => x_move (v := I r87.2) (es (t := 26) (v := I r87.2) ((K.out 26 rfl).trans rfl))))
                    (obsN_cons (ob_detg rfl rfl rfl (fun _ => rfl) (fun a' w' ph K => (guard_eq (show sl a' 182 = .bool (r83.2 != 0) from K.dep 10 182 rfl rfl) hc92)) (fun a' w' ph K => x_neq (es (t := 183) (v := I r87.2) (K.dep 11 183 rfl rfl)) (ec (v := I 0))))
                    (obsN_cons (od rfl (fun _ => rfl) (fun K => x_pick_f (v := .bool (r87.2 != 0)) (es (t := 182) (v := .bool (r83.2 != 0)) (K.dep 10 182 rfl rfl)) hc92 (es (t := 184) (v := .bool (r87.2 != 0)) (K.dep 12 184 rfl rfl))))
                    (obsN_cons (od rfl (fun _ => rfl) (fun K => x_move (v := .bool (r87.2 != 0)) (es (t := 185) (v := .bool (r87.2 != 0)) (K.dep 13 185 rfl rfl))))
                    (obsN_cons (ob_detg rfl rfl rfl (fun _ => rfl) (fun a' w' ph K => (guard_eq (show sl a' 186 = .bool (r87.2 != 0) from K.dep 14 186 rfl rfl) hc93)) (fun a' w' ph K => x_move (v := .slice A65_ra r65.1.length c65_ra) (es (t := 17) (v := .slice A65_ra r65.1.length c65_ra) ((K.out 17 rfl).trans rfl))))
                    (obsN_cons (ob_detg rfl rfl rfl (fun _ => rfl) (fun a' w' ph K => (guard_eq (show sl a' 186 = .bool (r87.2 != 0) from K.dep 14 186 rfl rfl) hc93)) (fun a' w' ph K => x_len Try.underlying29 (es (t := 187) (v := .slice A65_ra r65.1.length c65_ra) (K.dep 15 187 rfl rfl))))
                    (obsN_cons (ob_detg rfl rfl rfl (fun _ => rfl) (fun a' w' ph K => (guard_eq (show sl a' 186 = .bool (r87.2 != 0) from K.dep 14 186 rfl rfl) hc93)) (fun a' w' ph K => x_fieldAddr (es (t := 3) (v := pt b1 0) ((K.out 3 rfl).trans hs17a_3)) (fz_26_1 _ _)))
                    (obsN_cons (ob_detg rfl rfl rfl (fun _ => rfl) (fun a' w' ph K => (guard_eq (show sl a' 186 = .bool (r87.2 != 0) from K.dep 14 186 rfl rfl) hc93)) (fun a' w' ph K => x_load1 (v := I p0.wd) one_3 (es (t := 189) (v := pt b1 1) (K.dep 17 189 rfl rfl)) (bk1_53.ext K.phT) rfl))
                    (obsN_cons (ob_detg rfl rfl rfl (fun _ => rfl) (fun a' w' ph K => (guard_eq (show sl a' 186 = .bool (r87.2 != 0) from K.dep 14 186 rfl rfl) hc93)) (fun a' w' ph K => x_neq (es (t := 188) (v := I (r65.1.length : Int)) (K.dep 16 188 rfl rfl)) (es (t := 190) (v := I p0.wd) (K.dep 18 190 rfl rfl))))
                    (obsN_cons (od rfl (fun _ => rfl) (fun K => x_pick_f (v := .bool ((r65.1.length : Int) != p0.wd)) (es (t := 186) (v := .bool (r87.2 != 0)) (K.dep 14 186 rfl rfl)) hc93 (es (t := 191) (v := .bool ((r65.1.length : Int) != p0.wd)) (K.dep 19 191 rfl rfl))))
                    (obsN_cons (od rfl (fun _ => rfl) (fun K => x_move (v := .bool ((r65.1.length : Int) != p0.wd)) (es (t := 192) (v := .bool ((r65.1.length : Int) != p0.wd)) (K.dep 20 192 rfl rfl))))
                    (obsN_cons (ob_detg rfl rfl rfl (fun _ => rfl) (fun a' w' ph K => (guard_eq (show sl a' 193 = .bool ((r65.1.length : Int) != p0.wd) from K.dep 21 193 rfl rfl) hc94)) (fun a' w' ph K => x_move (v := .slice A69_ra r69.1.length c69_ra) (es (t := 19) (v := .slice A69_ra r69.1.length c69_ra) ((K.out 19 rfl).trans rfl))))
                    (obsN_cons (ob_detg rfl rfl rfl (fun _ => rfl) (fun a' w' ph K => (guard_eq (show sl a' 193 = .bool ((r65.1.length : Int) != p0.wd) from K.dep 21 193 rfl rfl) hc94)) (fun a' w' ph K => x_len Try.underlying29 (es (t := 194) (v := .slice A69_ra r69.1.length c69_ra) (K.dep 22 194 rfl rfl))))
                    (obsN_cons (ob_detg rfl rfl rfl (fun _ => rfl) (fun a' w' ph K => (guard_eq (show sl a' 193 = .bool ((r65.1.length : Int) != p0.wd) from K.dep 21 193 rfl rfl) hc94)) (fun a' w' ph K => x_move (v := .slice A65_ra r65.1.length c65_ra) (es (t := 17) (v := .slice A65_ra r65.1.length c65_ra) ((K.out 17 rfl).trans rfl))))
                    (obsN_cons (ob_detg rfl rfl rfl (fun _ => rfl) (fun a' w' ph K => (guard_eq (show sl a' 193 = .bool ((r65.1.length : Int) != p0.wd) from K.dep 21 193 rfl rfl) hc94)) (fun a' w' ph K => x_len Try.underlying29 (es (t := 196) (v := .slice A65_ra r65.1.length c65_ra) (K.dep 24 196 rfl rfl))))
                    (obsN_cons (ob_detg rfl rfl rfl (fun _ => rfl) (fun a' w' ph K => (guard_eq (show sl a' 193 = .bool ((r65.1.length : Int) != p0.wd) from K.dep 21 193 rfl rfl) hc94)) (fun a' w' ph K => x_neq (es (t := 195) (v := I (r69.1.length : Int)) (K.dep 23 195 rfl rfl)) (es (t := 197) (v := I (r65.1.length : Int)) (K.dep 25 197 rfl rfl))))
                    (obsN_cons (od rfl (fun _ => rfl) (fun K => x_pick_f (v := .bool ((r69.1.length : Int) != (r65.1.length : Int))) (es (t := 193) (v := .bool ((r65.1.length : Int) != p0.wd)) (K.dep 21 193 rfl rfl)) hc94 (es (t := 198) (v := .bool ((r69.1.length : Int) != (r65.1.length : Int))) (K.dep 26 198 rfl rfl))))
                    (obsN_cons (od rfl (fun _ => rfl) (fun K => x_move (v := .bool ((r69.1.length : Int) != (r65.1.length : Int))) (es (t := 199) (v := .bool ((r69.1.length : Int) != (r65.1.length : Int))) (K.dep 27 199 rfl rfl))))
                    (obsN_cons (ob_detg rfl rfl rfl (fun _ => rfl) (fun a' w' ph K => (guard_eq (show sl a' 200 = .bool ((r69.1.length : Int) != (r65.1.length : Int)) from K.dep 28 200 rfl rfl) hc95)) (fun a' w' ph K => x_move (v := .slice A73_ra r73.1.length c73_ra) (es (t := 21) (v := .slice A73_ra r73.1.length c73_ra) ((K.out 21 rfl).trans rfl))))
                    (obsN_cons (ob_detg rfl rfl rfl (fun _ => rfl) (fun a' w' ph K => (guard_eq (show sl a' 200 = .bool ((r69.1.length : Int) != (r65.1.length : Int)) from K.dep 28 200 rfl rfl) hc95)) (fun a' w' ph K => x_len Try.underlying29 (es (t := 201) (v := .slice A73_ra r73.1.length c73_ra) (K.dep 29 201 rfl rfl))))
                    (obsN_cons (ob_detg rfl rfl rfl (fun _ => rfl) (fun a' w' ph K => (guard_eq (show sl a' 200 = .bool ((r69.1.length : Int) != (r65.1.length : Int)) from K.dep 28 200 rfl rfl) hc95)) (fun a' w' ph K => x_move (v := .slice A65_ra r65.1.length c65_ra) (es (t := 17) (v := .slice A65_ra r65.1.length c65_ra) ((K.out 17 rfl).trans rfl))))
                    (obsN_cons (ob_detg rfl rfl rfl (fun _ => rfl) (fun a' w' ph K => (guard_eq (show sl a' 200 = .bool ((r69.1.length : Int) != (r65.1.length : Int)) from K.dep 28 200 rfl rfl) hc95)) (fun a' w' ph K => x_len Try.underlying29 (es (t := 203) (v := .slice A65_ra r65.1.length c65_ra) (K.dep 31 203 rfl rfl))))
                    (obsN_cons (ob_detg rfl rfl rfl (fun _ => rfl) (fun a' w' ph K => (guard_eq (show sl a' 200 = .bool ((r69.1.length : Int) != (r65.1.length : Int)) from K.dep 28 200 rfl rfl) hc95)) (fun a' w' ph K => x_neq (es (t := 202) (v := I (r73.1.length : Int)) (K.dep 30 202 rfl rfl)) (es (t := 204) (v := I (r65.1.length : Int)) (K.dep 32 204 rfl rfl))))
                    (obsN_cons (od rfl (fun _ => rfl) (fun K => x_pick_f (v := .bool ((r73.1.length : Int) != (r65.1.length : Int))) (es (t := 200) (v := .bool ((r69.1.length : Int) != (r65.1.length : Int))) (K.dep 28 200 rfl rfl)) hc95 (es (t := 205) (v := .bool ((r73.1.length : Int) != (r65.1.length : Int))) (K.dep 33 205 rfl rfl))))
                    (obsN_cons (od rfl (fun _ => rfl) (fun K => x_move (v := .bool ((r73.1.length : Int) != (r65.1.length : Int))) (es (t := 206) (v := .bool ((r73.1.length : Int) != (r65.1.length : Int))) (K.dep 34 206 rfl rfl))))
                    (obsN_cons (ob_detg rfl rfl rfl (fun _ => rfl) (fun a' w' ph K => (guard_eq (show sl a' 207 = .bool ((r73.1.length : Int) != (r65.1.length : Int)) from K.dep 35 207 rfl rfl) hc96)) (fun a' w' ph K => x_move (v := .slice A83_ra r83.1.length c83_ra) (es (t := 23) (v := .slice A83_ra r83.1.length c83_ra) ((K.out 23 rfl).trans rfl))))
                    (obsN_cons (ob_detg rfl rfl rfl (fun _ => rfl) (fun a' w' ph K => (guard_eq (show sl a' 207 = .bool ((r73.1.length : Int) != (r65.1.length : Int)) from K.dep 35 207 rfl rfl) hc96)) (fun a' w' ph K => x_len Try.underlying43 (es (t := 208) (v := .slice A83_ra r83.1.length c83_ra) (K.dep 36 208 rfl rfl))))
                    (obsN_cons (ob_detg rfl rfl rfl (fun _ => rfl) (fun a' w' ph K => (guard_eq (show sl a' 207 = .bool ((r73.1.length : Int) != (r65.1.length : Int)) from K.dep 35 207 rfl rfl) hc96)) (fun a' w' ph K => x_move (v := .slice A87_ra r87.1.length c87_ra) (es (t := 25) (v := .slice A87_ra r87.1.length c87_ra) ((K.out 25 rfl).trans rfl))))
                    (obsN_cons (ob_detg rfl rfl rfl (fun _ => rfl) (fun a' w' ph K => (guard_eq (show sl a' 207 = .bool ((r73.1.length : Int) != (r65.1.length : Int)) from K.dep 35 207 rfl rfl) hc96)) (fun a' w' ph K => x_len Try.underlying43 (es (t := 210) (v := .slice A87_ra r87.1.length c87_ra) (K.dep 38 210 rfl rfl))))
                    (obsN_cons (ob_detg rfl rfl rfl (fun _ => rfl) (fun a' w' ph K => (guard_eq (show sl a' 207 = .bool ((r73.1.length : Int) != (r65.1.length : Int)) from K.dep 35 207 rfl rfl) hc96)) (fun a' w' ph K => x_neq (es (t := 209) (v := I (r83.1.length : Int)) (K.dep 37 209 rfl rfl)) (es (t := 211) (v := I (r87.1.length : Int)) (K.dep 39 211 rfl rfl))))
                    (obsN_cons (od rfl (fun _ => rfl) (fun K => x_pick_f (v := .bool ((r83.1.length : Int) != (r87.1.length : Int))) (es (t := 207) (v := .bool ((r73.1.length : Int) != (r65.1.length : Int))) (K.dep 35 207 rfl rfl)) hc96 (es (t := 212) (v := .bool ((r83.1.length : Int) != (r87.1.length : Int))) (K.dep 40 212 rfl rfl))))
                    (obsN_cons (od rfl (fun _ => rfl) (fun K => x_move (v := .bool ((r83.1.length : Int) != (r87.1.length : Int))) (es (t := 213) (v := .bool ((r83.1.length : Int) != (r87.1.length : Int))) (K.dep 41 213 rfl rfl))))
                    (obsN_cons (ob_detg rfl rfl rfl (fun _ => rfl) (fun a' w' ph K => (guard_eq (show sl a' 214 = .bool ((r83.1.length : Int) != (r87.1.length : Int)) from K.dep 42 214 rfl rfl) hc97)) (fun a' w' ph K => x_move (v := .slice A65_ra r65.1.length c65_ra) (es (t := 17) (v := .slice A65_ra r65.1.length c65_ra) ((K.out 17 rfl).trans rfl))))
                    (obsN_cons (ob_detg rfl rfl rfl (fun _ => rfl) (fun a' w' ph K => (guard_eq (show sl a' 214 = .bool ((r83.1.length : Int) != (r87.1.length : Int)) from K.dep 42 214 rfl rfl) hc97)) (fun a' w' ph K => x_move (v := I (p1 % p0.wd)) (es (t := 7) (v := I (p1 % p0.wd)) ((K.out 7 rfl).trans hs17a_7))))
                    (obsN_cons (ob_detg rfl rfl rfl (fun _ => rfl) (fun a' w' ph K => (guard_eq (show sl a' 214 = .bool ((r83.1.length : Int) != (r87.1.length : Int)) from K.dep 42 214 rfl rfl) hc97)) (fun a' w' ph K => x_indexAddrN (k := i98) Try.underlying29 sz_33 (es (t := 215) (v := .slice A65_ra r65.1.length c65_ra) (K.dep 43 215 rfl rfl)) hA98 (es (t := 216) (v := I (p1 % p0.wd)) (K.dep 44 216 rfl rfl)) hi98 hl98))
                    (obsN_cons (ob_detg rfl rfl rfl (fun _ => rfl) (fun a' w' ph K => (guard_eq (show sl a' 214 = .bool ((r83.1.length : Int) != (r87.1.length : Int)) from K.dep 42 214 rfl rfl) hc97)) (fun a' w' ph K => x_load_zn0 (l := [I x98.1, I x98.2]) agg_33 (es (t := 217) (v := pt b98 (o98 + i98 * 2)) (K.dep 45 217 rfl rfl)) (hz98.mv (mv_ext K.phT)) rfl rfl))
                    (obsN_cons (ob_detg rfl rfl rfl (fun _ => rfl) (fun a' w' ph K => (guard_eq (show sl a' 214 = .bool ((r83.1.length : Int) != (r87.1.length : Int)) from K.dep 42 214 rfl rfl) hc97)) (fun a' w' ph K => x_move (v := .slice A73_ra r73.1.length c73_ra) (es (t := 21) (v := .slice A73_ra r73.1.length c73_ra) ((K.out 21 rfl).trans rfl))))
                    (obsN_cons (ob_detg rfl rfl rfl (fun _ => rfl) (fun a' w' ph K => (guard_eq (show sl a' 214 = .bool ((r83.1.length : Int) != (r87.1.length : Int)) from K.dep 42 214 rfl rfl) hc97)) (fun a' w' ph K => x_move (v := I (p2 % p0.wd)) (es (t := 8) (v := I (p2 % p0.wd)) ((K.out 8 rfl).trans hs17a_8))))
                    (obsN_cons (ob_detg rfl rfl rfl (fun _ => rfl) (fun a' w' ph K => (guard_eq (show sl a' 214 = .bool ((r83.1.length : Int) != (r87.1.length : Int)) from K.dep 42 214 rfl rfl) hc97)) (fun a' w' ph K => x_indexAddrN (k := i99) Try.underlying29 sz_33 (es (t := 219) (v := .slice A73_ra r73.1.length c73_ra) (K.dep 47 219 rfl rfl)) hA99 (es (t := 220) (v := I (p2 % p0.wd)) (K.dep 48 220 rfl rfl)) hi99 hl99))
                    (obsN_cons (ob_detg rfl rfl rfl (fun _ => rfl) (fun a' w' ph K => (guard_eq (show sl a' 214 = .bool ((r83.1.length : Int) != (r87.1.length : Int)) from K.dep 42 214 rfl rfl) hc97)) (fun a' w' ph K => x_load_zn0 (l := [I x99.1, I x99.2]) agg_33 (es (t := 221) (v := pt b99 (o99 + i99 * 2)) (K.dep 49 221 rfl rfl)) (hz99.mv (mv_ext K.phT)) rfl rfl))
                    (obsN_cons (ob_detg rfl rfl rfl (fun _ => rfl) (fun a' w' ph K => (guard_eq (show sl a' 214 = .bool ((r83.1.length : Int) != (r87.1.length : Int)) from K.dep 42 214 rfl rfl) hc97)) (fun a' w' ph K => x_neA (x1 := [x98.1, x98.2]) (x2 := [x99.1, x99.2]) keq_33 eqg_33 (es (t := 218) (v := .agg #[I x98.1, I x98.2]) (K.dep 46 218 rfl rfl)) (es (t := 222) (v := .agg #[I x99.1, I x99.2]) (K.dep 50 222 rfl rfl)) rfl rfl rfl rfl))
                    (obsN_cons (od rfl (fun _ => rfl) (fun K => x_pick_f (v := .bool ([x98.1, x98.2] != [x99.1, x99.2])) (es (t := 214) (v := .bool ((r83.1.length : Int) != (r87.1.length : Int))) (K.dep 42 214 rfl rfl)) hc97 (es (t := 223) (v := .bool ([x98.1, x98.2] != [x99.1, x99.2])) (K.dep 51 223 rfl rfl))))
                    (obsN_cons (od rfl (fun _ => rfl) (fun K => x_move (v := .bool ([x98.1, x98.2] != [x99.1, x99.2])) (es (t := 224) (v := .bool ([x98.1, x98.2] != [x99.1, x99.2])) (K.dep 52 224 rfl rfl))))
                    (obsN_cons (ob_detg rfl rfl rfl (fun _ => rfl) (fun a' w' ph K => (guard_eq (show sl a' 225 = .bool ([x98.1, x98.2] != [x99.1, x99.2]) from K.dep 53 225 rfl rfl) hc100)) (fun a' w' ph K => x_move (v := .slice A65_ra r65.1.length c65_ra) (es (t := 17) (v := .slice A65_ra r65.1.length c65_ra) ((K.out 17 rfl).trans rfl))))
                    (obsN_cons (ob_detg rfl rfl rfl (fun _ => rfl) (fun a' w' ph K => (guard_eq (show sl a' 225 = .bool ([x98.1, x98.2] != [x99.1, x99.2]) from K.dep 53 225 rfl rfl) hc100)) (fun a' w' ph K => x_move (v := I (p2 % p0.wd)) (es (t := 8) (v := I (p2 % p0.wd)) ((K.out 8 rfl).trans hs17a_8))))
                    (obsN_cons (ob_detg rfl rfl rfl (fun _ => rfl) (fun a' w' ph K => (guard_eq (show sl a' 225 = .bool ([x98.1, x98.2] != [x99.1, x99.2]) from K.dep 53 225 rfl rfl) hc100)) (fun a' w' ph K => x_indexAddrN (k := i101) Try.underlying29 sz_33 (es (t := 226) (v := .slice A65_ra r65.1.length c65_ra) (K.dep 54 226 rfl rfl)) hA101 (es (t := 227) (v := I (p2 % p0.wd)) (K.dep 55 227 rfl rfl)) hi101 hl101))
                    (obsN_cons (ob_detg rfl rfl rfl (fun _ => rfl) (fun a' w' ph K => (guard_eq (show sl a' 225 = .bool ([x98.1, x98.2] != [x99.1, x99.2]) from K.dep 53 225 rfl rfl) hc100)) (fun a' w' ph K => x_load_zn0 (l := [I x101.1, I x101.2]) agg_33 (es (t := 228) (v := pt b101 (o101 + i101 * 2)) (K.dep 56 228 rfl rfl)) (hz101.mv (mv_ext K.phT)) rfl rfl))
                    (obsN_cons (ob_detg rfl rfl rfl (fun _ => rfl) (fun a' w' ph K => (guard_eq (show sl a' 225 = .bool ([x98.1, x98.2] != [x99.1, x99.2]) from K.dep 53 225 rfl rfl) hc100)) (fun a' w' ph K => x_move (v := .slice A73_ra r73.1.length c73_ra) (es (t := 21) (v := .slice A73_ra r73.1.length c73_ra) ((K.out 21 rfl).trans rfl))))
                    (obsN_cons (ob_detg rfl rfl rfl (fun _ => rfl) (fun a' w' ph K => (guard_eq (show sl a' 225 = .bool ([x98.1, x98.2] != [x99.1, x99.2]) from K.dep 53 225 rfl rfl) hc100)) (fun a' w' ph K => x_move (v := I (p1 % p0.wd)) (es (t := 7) (v := I (p1 % p0.wd)) ((K.out 7 rfl).trans hs17a_7))))
                    (obsN_cons (ob_detg rfl rfl rfl (fun _ => rfl) (fun a' w' ph K => (guard_eq (show sl a' 225 = .bool ([x98.1, x98.2] != [x99.1, x99.2]) from K.dep 53 225 rfl rfl) hc100)) (fun a' w' ph K => x_indexAddrN (k := i102) Try.underlying29 sz_33 (es (t := 230) (v := .slice A73_ra r73.1.length c73_ra) (K.dep 58 230 rfl rfl)) hA102 (es (t := 231) (v := I (p1 % p0.wd)) (K.dep 59 231 rfl rfl)) hi102 hl102))
                    (obsN_cons (ob_detg rfl rfl rfl (fun _ => rfl) (fun a' w' ph K => (guard_eq (show sl a' 225 = .bool ([x98.1, x98.2] != [x99.1, x99.2]) from K.dep 53 225 rfl rfl) hc100)) (fun a' w' ph K => x_load_zn0 (l := [I x102.1, I x102.2]) agg_33 (es (t := 232) (v := pt b102 (o102 + i102 * 2)) (K.dep 60 232 rfl rfl)) (hz102.mv (mv_ext K.phT)) rfl rfl))
                    (obsN_nil _))))))))))))))))))))))))))))))))))))))))))))))))))))))))))))))) ?_
                intro w89
                rintro _ rfl _ rfl _ rfl _ rfl _ rfl _ rfl _ rfl _ rfl _ rfl _ rfl _ rfl _ rfl _ rfl _ rfl _ rfl _ rfl _ rfl _ rfl _ rfl _ rfl _ rfl _ rfl _ rfl _ rfl _ rfl _ rfl _ rfl _ rfl _ rfl _ rfl _ rfl _ rfl _ rfl _ rfl _ rfl _ rfl _ rfl _ rfl _ rfl _ rfl _ rfl _ rfl _ rfl _ rfl _ rfl _ rfl _ rfl _ rfl _ rfl _ rfl _ rfl _ rfl _ rfl _ rfl _ rfl _ rfl _ rfl _ rfl _ rfl _ rfl _ rfl _ rfl hx89
                have hp63 : Hp w [some b14_3, some b14_2, some b1] w89 := hp53.ext hx89
                refine wl_detg rfl rfl (guard_eq rfl hc100) rfl (by decide) (fun st => x_neA (x1 := [x101.1, x101.2]) (x2 := [x102.1, x102.2]) keq_33 eqg_33 (ee st rfl) (ee st rfl) rfl rfl rfl rfl) <| wd rfl (fun st => x_pick_f (v := .bool ([x101.1, x101.2] != [x102.1, x102.2])) (ee st rfl) hc100 (ee st rfl)) <| wl_end <| lv_next ?_
                rcases bool_cases ([x101.1, x101.2] != [x102.1, x102.2]) with hc103 | hc103
                ·replace hG := cond_t hG hc103
                 exact absurd (Option.some.inj hG) (by decide)
                ·replace hG := cond_f hG hc103
                 refine cc_cond_f rfl hc103 <| cc_skip <| lv_next <| cc_seq <| cc_seq <| cc_region <| wa rfl (v := I 0) rfl <| wl_end <| lv_next <| cc_block ?_
                 replace hG := bind_some hG; obtain ⟨z104, hL104, hG⟩ := hG
                 refine cc_join (fun e_ fr_ w_ => (e_ = .ret ∧ ∃ q104, z104 = .inl q104 ∧ fr_.tmps.size = 273 ∧ fr_.defers = [] ∧ sl fr_ 6 = .bool q104 ∧ Hp w [some b14_3, some b14_2, some b1] w_) ∨ (e_ = .exit 2 ∧ ∃ q104, z104 = .inr q104 ∧ fr_.tmps.size = 273 ∧ fr_.defers = [] ∧ Hp w [some b14_3, some b14_2, some b1] w_)) ?lp104 ?af104
                 case lp104 =>
                  clear hG
                  refine cc_loop (fun (m_ : Nat) (fr_ : Act) (w_ : World) => ∃ s104_27, G_WeedTurned_L104 p0 p1 p2 r65 r69 r73 m_ s104_27 = some z104 ∧ fr_.tmps.size = 273 ∧ fr_.defers = [] ∧ sl fr_ 7 = I (p1 % p0.wd) ∧ sl fr_ 8 = I (p2 % p0.wd) ∧ sl fr_ 17 = .slice A65_ra r65.1.length c65_ra ∧ sl fr_ 19 = .slice A69_ra r69.1.length c69_ra ∧ sl fr_ 21 = .slice A73_ra r73.1.length c73_ra ∧ sl fr_ 27 = I s104_27 ∧ Hp w [some b14_3, some b14_2, some b1] w_ ∧ Sl eR w_ (ZZ Z w.heap.size [some b14_3, some b14_2, some b1]) A65_ra c65_ra r65.1 ∧ Sl eR w_ (ZZ Z w.heap.size [some b14_3, some b14_2, some b1]) A69_ra c69_ra r69.1 ∧ Sl eR w_ (ZZ Z w.heap.size [some b14_3, some b14_2, some b1]) A73_ra c73_ra r73.1) K_ ?in104 ?rd104
                  case in104 =>
                   intro st
                   have hS65_ra_63 : Sl eR w89 (ZZ Z w.heap.size [some b14_3, some b14_2, some b1]) A65_ra c65_ra r65.1 := (hS65_ra_53.mv (mv_ext hx89))
                   have hS69_ra_63 : Sl eR w89 (ZZ Z w.heap.size [some b14_3, some b14_2, some b1]) A69_ra c69_ra r69.1 := (((((((hS69_ra.mv (mv_ext hx71)).mv (mv_ext hx73)).mv (mv_ext hx81)).mv (mv_ext hx83)).mv (mv_ext hx85)).mv (mv_ext hx87)).mv (mv_ext hx89))
                   have hS73_ra_63 : Sl eR w89 (ZZ Z w.heap.size [some b14_3, some b14_2, some b1]) A73_ra c73_ra r73.1 := (hS73_ra_53.mv (mv_ext hx89))
                   exact ⟨(0 : Int), hL104, (puts_size _ _).trans st.sz, (puts_defers _ _).trans st.df, (sl_puts st 7).trans hs17a_7, (sl_puts st 8).trans hs17a_8, (sl_puts st 17).trans rfl, (sl_puts st 19).trans rfl, (sl_puts st 21).trans rfl, (sl_puts st 27).trans rfl, hp63, hS65_ra_63, hS69_ra_63, hS73_ra_63⟩
                  case rd104 =>
                   rintro (_ | m_) fr104 w104r ⟨s104_27, hL104, hsz104, hdf104, hs104_7, hs104_8, hs104_17, hs104_19, hs104_21, hs104_27, hp64, f104_hS65_ra, f104_hS69_ra, f104_hS73_ra⟩
                   ·exact absurd (show none = some _ from hL104) (by simp)
                   rw [G_WeedTurned_L104.eq_2] at hL104
                   have hG := hL104; clear hL104
                   refine round_cc (N := 273) hsz104 hdf104 <| cc_seq <| cc_seq <| cc_region <| wm rfl (v := I s104_27) hs104_27 <| wm rfl (v := .slice A65_ra r65.1.length c65_ra) hs104_17 <| wd rfl (fun st => x_len Try.underlying29 (ee st rfl)) <| wd rfl (fun st => x_lss (ee st rfl) (ee st rfl)) <| wl_end <| lv_next ?_
                   rcases bool_cases (decide (s104_27 < (r65.1.length : Int))) with hc105 | hc105
                   ·replace hG := cond_t hG hc105
                    refine cc_cond_t rfl hc105 <| cc_skip <| lv_next <| cc_seq <| cc_block <| cc_seq ?_
                    replace hG := idx_bind hG; obtain ⟨i107, x107, hi107, hx107, hl107, hG⟩ := hG
                    obtain ⟨b107, o107, _, hA107, rfl, hz107⟩ := Sl.elem f104_hS65_ra (by decide) hx107
                    replace hG := idx_bind hG; obtain ⟨i108, x108, hi108, hx108, hl108, hG⟩ := hG
                    obtain ⟨b108, o108, _, hA108, rfl, hz108⟩ := Sl.elem f104_hS69_ra (by decide) hx108
                    rcases bool_cases ([x107.1, x107.2] != [x108.1, x108.2]) with hc109 | hc109
                    ·replace hG := cond_t hG hc109
                     refine cc_anyM0 27 [Kc (.slice A65_ra r65.1.length c65_ra), Kc (I s104_27), Kc (pt b107 (o107 + i107 * 2)), Kc (.agg #[I x107.1, I x107.2]), Kc (.slice A69_ra r69.1.length c69_ra), Kc (I s104_27), Kc (pt b108 (o108 + i108 * 2)), Kc (.agg #[I x108.1, I x108.2]), Kc (.bool ([x107.1, x107.2] != [x108.1, x108.2])), Kc (.bool ([x107.1, x107.2] != [x108.1, x108.2])), Kc undef, Kc undef, Kc undef, Kc undef, Kc undef, Kc undef, Kc undef, Kc undef, Kc undef, Kc undef, Kc undef, Kc undef, Kc undef, Kc undef, Kc undef, Kc undef, Kc undef] mixedL13 rfl rfl
                         (obsN_cons (od rfl (fun _ => rfl) (fun K => x_move (v := .slice A65_ra r65.1.length c65_ra) (es (t := 17) (v := .slice A65_ra r65.1.length c65_ra) ((K.out 17 rfl).trans hs104_17))))
                         (obsN_cons (od rfl (fun _ => rfl) (fun K => x_move (v := I s104_27) (es (t := 27) (v := I s104_27) ((K.out 27 rfl).trans hs104_27))))
                         (obsN_cons (od rfl (fun _ => rfl) (fun K => x_indexAddrN (k := i107) Try.underlying29 sz_33 (es (t := 242) (v := .slice A65_ra r65.1.length c65_ra) (K.dep 0 242 rfl rfl)) hA107 (es (t := 243) (v := I s104_27) (K.dep 1 243 rfl rfl)) hi107 hl107))
                         (obsN_cons (od rfl (fun _ => rfl) (fun K => x_load_zn0 (l := [I x107.1, I x107.2]) agg_33 (es (t := 244) (v := pt b107 (o107 + i107 * 2)) (K.dep 2 244 rfl rfl)) (hz107.mv (mv_ext K.phT)) rfl rfl))
                         (obsN_cons (od rfl (fun _ => rfl) (fun K => x_move (v := .slice A69_ra r69.1.length c69_ra) (es (t := 19) (v := .slice A69_ra r69.1.length c69_ra) ((K.out 19 rfl).trans hs104_19))))
                         (obsN_cons (od rfl (fun _ => rfl) (fun K => x_move (v := I s104_27) (es (t := 27) (v := I s104_27) ((K.out 27 rfl).trans hs104_27))))
                         (obsN_cons (od rfl (fun _ => rfl) (fun K => x_indexAddrN (k := i108) Try.underlying29 sz_33 (es (t := 246) (v := .slice A69_ra r69.1.length c69_ra) (K.dep 4 246 rfl rfl)) hA108 (es (t := 247) (v := I s104_27) (K.dep 5 247 rfl rfl)) hi108 hl108))
                         (obsN_cons (od rfl (fun _ => rfl) (fun K => x_load_zn0 (l := [I x108.1, I x108.2]) agg_33 (es (t := 248) (v := pt b108 (o108 + i108 * 2)) (K.dep 6 248 rfl rfl)) (hz108.mv (mv_ext K.phT)) rfl rfl))
                         (obsN_cons (od rfl (fun _ => rfl) (fun K => x_neA (x1 := [x107.1, x107.2]) (x2 := [x108.1, x108.2]) keq_33 eqg_33 (es (t := 245) (v := .agg #[I x107.1, I x107.2]) (K.dep 3 245 rfl rfl)) (es (t := 249) (v := .agg #[I x108.1, I x108.2]) (K.dep 7 249 rfl rfl)) rfl rfl rfl rfl))
                         (obsN_cons (od rfl (fun _ => rfl) (fun K => x_move (v := .bool ([x107.1, x107.2] != [x108.1, x108.2])) (es (t := 250) (v := .bool ([x107.1, x107.2] != [x108.1, x108.2])) (K.dep 8 250 rfl rfl))))
                         (obsN_cons (ob_skip (c := true) rfl rfl rfl (by decide) (fun a' w' ph K => (guard_eq (show sl a' 251 = .bool ([x107.1, x107.2] != [x108.1, x108.2]) from K.dep 9 251 rfl rfl) hc109)) (fun _ => rfl))
                         (obsN_cons (ob_skip (c := true) rfl rfl rfl (by decide) (fun a' w' ph K => (guard_eq (show sl a' 251 = .bool ([x107.1, x107.2] != [x108.1, x108.2]) from K.dep 9 251 rfl rfl) hc109)) (fun _ => rfl))
                         (obsN_cons (ob_skip (c := true) rfl rfl rfl (by decide) (fun a' w' ph K => (guard_eq (show sl a' 251 = .bool ([x107.1, x107.2] != [x108.1, x108.2]) from K.dep 9 251 rfl rfl) hc109)) (fun _ => rfl))
                         (obsN_cons (ob_skip (c := true) rfl rfl rfl (by decide) (fun a' w' ph K => (guard_eq (show sl a' 251 = .bool ([x107.1, x107.2] != [x108.1, x108.2]) from K.dep 9 251 rfl rfl) hc109)) (fun _ => rfl))
                         (obsN_cons (ob_skip_u rfl rfl rfl (fun a' w' ph K => K.dep 13 255 rfl rfl) (fun _ => rfl))
                         (obsN_cons (ob_skip_u rfl rfl rfl (fun a' w' ph K => K.dep 13 255 rfl rfl) (fun _ => rfl))
                         (obsN_cons (ob_skip_u rfl rfl rfl (fun a' w' ph K => K.dep 13 255 rfl rfl) (fun _ => rfl))
                         (obsN_cons (ob_skip (c := true) rfl rfl rfl (by decide) (fun a' w' ph K => (guard_eq (show sl a' 251 = .bool ([x107.1, x107.2] != [x108.1, x108.2]) from K.dep 9 251 rfl rfl) hc109)) (fun _ => rfl))
                         (obsN_cons (ob_skip (c := true) rfl rfl rfl (by decide) (fun a' w' ph K => (guard_eq (show sl a' 251 = .bool ([x107.1, x107.2] != [x108.1, x108.2]) from K.dep 9 251 rfl rfl) hc109)) (fun _ => rfl))
                         (obsN_cons (ob_skip_u rfl rfl rfl (fun a' w' ph K => K.dep 18 260 rfl rfl) (fun _ => rfl))
                         (obsN_cons (ob_skip_u rfl rfl rfl (fun a' w' ph K => K.dep 18 260 rfl rfl) (fun _ => rfl))
                         (obsN_cons (ob_skip_u rfl rfl rfl (fun a' w' ph K => K.dep 18 260 rfl rfl) (fun _ => rfl))
                         (obsN_cons (ob_skip_u rfl rfl rfl (fun a' w' ph K => K.dep 18 260 rfl rfl) (fun _ => rfl))
                         (obsN_cons (ob_skip_u rfl rfl rfl (fun a' w' ph K => K.dep 18 260 rfl rfl) (fun _ => rfl))
                         (obsN_cons (ob_skip_u rfl rfl rfl (fun a' w' ph K => K.dep 18 260 rfl rfl) (fun _ => rfl))
                         (obsN_cons (ob_skip_u rfl rfl rfl (fun a' w' ph K => K.dep 18 260 rfl rfl) (fun _ => rfl))
                         (obsN_cons (ob_skip_u rfl rfl rfl (fun a' w' ph K => K.dep 18 260 rfl rfl) (fun _ => rfl))
                         (obsN_nil _)))))))))))))))))))))))))))) ?_
                     intro w106
                     rintro _ rfl _ rfl _ rfl _ rfl _ rfl _ rfl _ rfl _ rfl _ rfl _ rfl _ rfl _ rfl _ rfl _ rfl _ rfl _ rfl _ rfl _ rfl _ rfl _ rfl _ rfl _ rfl _ rfl _ rfl _ rfl _ rfl _ rfl hx106
                     have hp65 : Hp w [some b14_3, some b14_2, some b1] w106 := hp64.ext hx106
                     refine wl_skip_u rfl rfl rfl rfl (by decide) <| wl_skip (c := true) rfl rfl (guard_eq rfl hc109) (by decide) rfl (by decide) <| wd rfl (fun st => x_pick_t (v := .bool true) (ee st rfl) hc109 (ee st rfl)) <| wl_end <| lv_next <| cc_cond_t rfl rfl <| cc_seq <| cc_region <| wa rfl (v := .bool false) rfl <| wl_end <| lv_next <| cc_ret <| lv_block_ret <| lv_then_ret <| lv_then_ret ?_
                     obtain rfl := Option.some.inj hG
                     refine lv_to (fun st => ?_)
                     exact .inl ⟨rfl, false, rfl, (puts_size _ _).trans st.sz, (puts_defers _ _).trans st.df, (sl_puts st 6).trans rfl, hp65⟩
                    ·replace hG := cond_f hG hc109
                     rcases bool_cases (s104_27 != (p1 % p0.wd)) with hc110 | hc110
                     ·replace hG := cond_t hG hc110
                      rcases bool_cases (s104_27 != (p2 % p0.wd)) with hc111 | hc111
                      ·replace hG := cond_t hG hc111
                       replace hG := idx_bind hG; obtain ⟨i112, x112, hi112, hx112, hl112, hG⟩ := hG
                       obtain ⟨b112, o112, _, hA112, rfl, hz112⟩ := Sl.elem f104_hS65_ra (by decide) hx112
                       replace hG := idx_bind hG; obtain ⟨i113, x113, hi113, hx113, hl113, hG⟩ := hG
                       obtain ⟨b113, o113, _, hA113, rfl, hz113⟩ := Sl.elem f104_hS73_ra (by decide) hx113
                       refine cc_anyM0 27 [Kc (.slice A65_ra r65.1.length c65_ra), Kc (I s104_27), Kc (pt b107 (o107 + i107 * 2)), Kc (.agg #[I x107.1, I x107.2]), Kc (.slice A69_ra r69.1.length c69_ra), Kc (I s104_27), Kc (pt b108 (o108 + i108 * 2)), Kc (.agg #[I x108.1, I x108.2]), Kc (.bool ([x107.1, x107.2] != [x108.1, x108.2])), Kc (.bool ([x107.1, x107.2] != [x108.1, x108.2])), Kc (I s104_27), Kc (I (p1 % p0.wd)), Kc (.bool (s104_27 != (p1 % p0.wd))), Kc (.bool (s104_27 != (p1 % p0.wd))), Kc (I s104_27), Kc (I (p2 % p0.wd)), Kc (.bool (s104_27 != (p2 % p0.wd))), Kc (.bool (s104_27 != (p2 % p0.wd))), Kc (.bool (s104_27 != (p2 % p0.wd))), Kc (.slice A65_ra r65.1.length c65_ra), Kc (I s104_27), Kc (pt b112 (o112 + i112 * 2)), Kc (.agg #[I x112.1, I x112.2]), Kc (.slice A73_ra r73.1.length c73_ra), Kc (I s104_27), Kc (pt b113 (o113 + i113 * 2)), Kc (.agg #[I x113.1, I x113.2])] mixedL13 rfl rfl
                           (obsN_cons (od rfl (fun _ => rfl) (fun K => x_move (v := .slice A65_ra r65.1.length c65_ra) (es (t := 17) (v := .slice A65_ra r65.1.length c65_ra) ((K.out 17 rfl).trans hs104_17))))
                           (obsN_cons (od rfl (fun _ => rfl) (fun K => x_move (v := I s104_27) (es (t := 27) (v := I s104_27) ((K.out 27 rfl).trans hs104_27))))
                           (obsN_cons (od rfl (fun _ => rfl) (fun K => x_indexAddrN (k := i107) Try.underlying29 sz_33 (es (t := 242) (v := .slice A65_ra r65.1.length c65_ra) (K.dep 0 242 rfl rfl)) hA107 (es (t := 243) (v := I s104_27) (K.dep 1 243 rfl rfl)) hi107 hl107))
                           (obsN_cons (od rfl (fun _ => rfl) (fun K => x_load_zn0 (l := [I x107.1, I x107.2]) agg_33 (es (t := 244) (v := pt b107 (o107 + i107 * 2)) (K.dep 2 244 rfl rfl)) (hz107.mv (mv_ext K.phT)) rfl rfl))
                           (obsN_cons (od rfl (fun _ => rfl) (fun K => x_move (v := .slice A69_ra r69.1.length c69_ra) (es (t := 19) (v := .slice A69_ra r69.1.length c69_ra) ((K.out 19 rfl).trans hs104_19))))
                           (obsN_cons (od rfl (fun _ => rfl) (fun K => x_move (v := I s104_27) (es (t := 27) (v := I s104_27) ((K.out 27 rfl).trans hs104_27))))
                           (obsN_cons (od rfl (fun _ => rfl) (fun K => x_indexAddrN (k := i108) Try.underlying29 sz_33 (es (t := 246) (v := .slice A69_ra r69.1.length c69_ra) (K.dep 4 246 rfl rfl)) hA108 (es (t := 247) (v := I s104_27) (K.dep 5 247 rfl rfl)) hi108 hl108))
                           (obsN_cons (od rfl (fun _ => rfl) (fun K => x_load_zn0 (l := [I x108.1, I x108.2]) agg_33 (es (t := 248) (v := pt b108 (o108 + i108 * 2)) (K.dep 6 248 rfl rfl)) (hz108.mv (mv_ext K.phT)) rfl rfl))
                           (obsN_cons (od rfl (fun _ => rfl) (fun K => x_neA (x1 := [x107.1, x107.2]) (x2 := [x108.1, x108.2]) keq_33 eqg_33 (es (t := 245) (v := .agg #[I x107.1, I x107.2]) (K.dep 3 245 rfl rfl)) (es (t := 249) (v := .agg #[I x108.1, I x108.2]) (K.dep 7 249 rfl rfl)) rfl rfl rfl rfl))
                           (obsN_cons (od rfl (fun _ => rfl) (fun K => x_move (v := .bool ([x107.1, x107.2] != [x108.1, x108.2])) (es (t := 250) (v := .bool ([x107.1, x107.2] != [x108.1, x108.2])) (K.dep 8 250 rfl rfl))))
                           (obsN_cons (ob_detg rfl rfl rfl (fun _ => rfl) (fun a' w' ph K => (guard_eq (show sl a' 251 = .bool ([x107.1, x107.2] != [x108.1, x108.2]) from K.dep 9 251 rfl rfl) hc109)) (fun a' w' ph K => x_move (v := I s104_27) (es (t := 27) (v := I s104_27) ((K.out 27 rfl).trans hs104_27))))
                           (obsN_cons (ob_detg rfl rfl rfl (fun _ => rfl) (fun a' w' ph K => (guard_eq (show sl a' 251 = .bool ([x107.1, x107.2] != [x108.1, x108.2]) from K.dep 9 251 rfl rfl) hc109)) (fun a' w' ph K => x_move (v := I (p1 % p0.wd)) (es (t := 7) (v := I (p1 % p0.wd)) ((K.out 7 rfl).trans hs104_7))))
                           (obsN_cons (ob_detg rfl rfl rfl (fun _ => rfl) (fun a' w' ph K => (guard_eq (show sl a' 251 = .bool ([x107.1, x107.2] != [x108.1, x108.2]) from K.dep 9 251 rfl rfl) hc109)) (fun a' w' ph K => x_neq (es (t := 252) (v := I s104_27) (K.dep 10 252 rfl rfl)) (es (t := 253) (v := I (p1 % p0.wd)) (K.dep 11 253 rfl rfl))))
                           (obsN_cons (ob_detg rfl rfl rfl (fun _ => rfl) (fun a' w' ph K => (guard_eq (show sl a' 251 = .bool ([x107.1, x107.2] != [x108.1, x108.2]) from K.dep 9 251 rfl rfl) hc109)) (fun a' w' ph K => x_move (v := .bool (s104_27 != (p1 % p0.wd))) (es (t := 254) (v := .bool (s104_27 != (p1 % p0.wd))) (K.dep 12 254 rfl rfl))))
                           (obsN_cons (ob_detg rfl rfl rfl (fun _ => rfl) (fun a' w' ph K => (guard_eq (show sl a' 255 = .bool (s104_27 != (p1 % p0.wd)) from K.dep 13 255 rfl rfl) hc110)) (fun a' w' ph K => x_move (v := I s104_27) (es (t := 27) (v := I s104_27) ((K.out 27 rfl).trans hs104_27))))
                           (obsN_cons (ob_detg rfl rfl rfl (fun _ => rfl) (fun a' w' ph K => (guard_eq (show sl a' 255 = .bool (s104_27 != (p1 % p0.wd)) from K.dep 13 255 rfl rfl) hc110)) (fun a' w' ph K => x_move (v := I (p2 % p0.wd)) (es (t := 8) (v := I (p2 % p0.wd)) ((K.out 8 rfl).trans hs104_8))))
                           (obsN_cons (ob_detg rfl rfl rfl (fun _ => rfl) (fun a' w' ph K => (guard_eq (show sl a' 255 = .bool (s104_27 != (p1 % p0.wd)) from K.dep 13 255 rfl rfl) hc110)) (fun a' w' ph K => x_neq (es (t := 256) (v := I s104_27) (K.dep 14 256 rfl rfl)) (es (t := 257) (v := I (p2 % p0.wd)) (K.dep 15 257 rfl rfl))))
                           (obsN_cons (ob_detg rfl rfl rfl (fun _ => rfl) (fun a' w' ph K => (guard_eq (show sl a' 251 = .bool ([x107.1, x107.2] != [x108.1, x108.2]) from K.dep 9 251 rfl rfl) hc109)) (fun a' w' ph K => x_pick_t (v := .bool (s104_27 != (p2 % p0.wd))) (es (t := 255) (v := .bool (s104_27 != (p1 % p0.wd))) (K.dep 13 255 rfl rfl)) hc110 (es (t := 258) (v := .bool (s104_27 != (p2 % p0.wd))) (K.dep 16 258 rfl rfl))))
                           (obsN_cons (ob_detg rfl rfl rfl (fun _ => rfl) (fun a' w' ph K => (guard_eq (show sl a' 251 = .bool ([x107.1, x107.2] != [x108.1, x108.2]) from K.dep 9 251 rfl rfl) hc109)) (fun a' w' ph K => x_move (v := .bool (s104_27 != (p2 % p0.wd))) (es (t := 259) (v := .bool (s104_27 != (p2 % p0.wd))) (K.dep 17 259 rfl rfl))))
                           (obsN_cons (ob_detg rfl rfl rfl (fun _ => rfl) (fun a' w' ph K => (guard_eq (show sl a' 260 = .bool (s104_27 != (p2 % p0.wd)) from K.dep 18 260 rfl rfl) hc111)) (fun a' w' ph K => x_move (v := .slice A65_ra r65.1.length c65_ra) (es (t := 17) (v := .slice A65_ra r65.1.length c65_ra) ((K.out 17 rfl).trans hs104_17))))
                           (obsN_cons (ob_detg rfl rfl rfl (fun _ => rfl) (fun a' w' ph K => (guard_eq (show sl a' 260 = .bool (s104_27 != (p2 % p0.wd)) from K.dep 18 260 rfl rfl) hc111)) (fun a' w' ph K => x_move (v := I s104_27) (es (t := 27) (v := I s104_27) ((K.out 27 rfl).trans hs104_27))))
                           (obsN_cons (ob_detg rfl rfl rfl (fun _ => rfl) (fun a' w' ph K => (guard_eq (show sl a' 260 = .bool (s104_27 != (p2 % p0.wd)) from K.dep 18 260 rfl rfl) hc111)) (fun a' w' ph K => x_indexAddrN (k := i112) Try.underlying29 sz_33 (es (t := 261) (v := .slice A65_ra r65.1.length c65_ra) (K.dep 19 261 rfl rfl)) hA112 (es (t := 262) (v := I s104_27) (K.dep 20 262 rfl rfl)) hi112 hl112))
                           (obsN_cons (ob_detg rfl rfl rfl (fun _ => rfl) (fun a' w' ph K => (guard_eq (show sl a' 260 = .bool (s104_27 != (p2 % p0.wd)) from K.dep 18 260 rfl rfl) hc111)) (fun a' w' ph K => x_load_zn0 (l := [I x112.1, I x112.2]) agg_33 (es (t := 263) (v := pt b112 (o112 + i112 * 2)) (K.dep 21 263 rfl rfl)) (hz112.mv (mv_ext K.phT)) rfl rfl))
                           (obsN_cons (ob_detg rfl rfl rfl (fun _ => rfl) (fun a' w' ph K => (guard_eq (show sl a' 260 = .bool (s104_27 != (p2 % p0.wd)) from K.dep 18 260 rfl rfl) hc111)) (fun a' w' ph K => x_move (v := .slice A73_ra r73.1.length c73_ra) (es (t := 21) (v := .slice A73_ra r73.1.length c73_ra) ((K.out 21 rfl).trans hs104_21))))
                           (obsN_cons (ob_detg rfl rfl rfl (fun _ => rfl) (fun a' w' ph K => (guard_eq (show sl a' 260 = .bool (s104_27 != (p2 % p0.wd)) from K.dep 18 260 rfl rfl) hc111)) (fun a' w' ph K => x_move (v := I s104_27) (es (t := 27) (v := I s104_27) ((K.out 27 rfl).trans hs104_27))))
                           (obsN_cons (ob_detg rfl rfl rfl (fun _ => rfl) (fun a' w' ph K => (guard_eq (show sl a' 260 = .bool (s104_27 != (p2 % p0.wd)) from K.dep 18 260 rfl rfl) hc111)) (fun a' w' ph K => x_indexAddrN (k := i113) Try.underlying29 sz_33 (es (t := 265) (v := .slice A73_ra r73.1.length c73_ra) (K.dep 23 265 rfl rfl)) hA113 (es (t := 266) (v := I s104_27) (K.dep 24 266 rfl rfl)) hi113 hl113))
                           (obsN_cons (ob_detg rfl rfl rfl (fun _ => rfl) (fun a' w' ph K => (guard_eq (show sl a' 260 = .bool (s104_27 != (p2 % p0.wd)) from K.dep 18 260 rfl rfl) hc111)) (fun a' w' ph K => x_load_zn0 (l := [I x113.1, I x113.2]) agg_33 (es (t := 267) (v := pt b113 (o113 + i113 * 2)) (K.dep 25 267 rfl rfl)) (hz113.mv (mv_ext K.phT)) rfl rfl))
                           (obsN_nil _)))))))))))))))))))))))))))) ?_
                       intro w106
                       rintro _ rfl _ rfl _ rfl _ rfl _ rfl _ rfl _ rfl _ rfl _ rfl _ rfl _ rfl _ rfl _ rfl _ rfl _ rfl _ rfl _ rfl _ rfl _ rfl _ rfl _ rfl _ rfl _ rfl _ rfl _ rfl _ rfl _ rfl hx106
                       have hp66 : Hp w [some b14_3, some b14_2, some b1] w106 := hp64.ext hx106
                       refine wl_detg rfl rfl (guard_eq rfl hc111) rfl (by decide) (fun st => x_neA (x1 := [x112.1, x112.2]) (x2 := [x113.1, x113.2]) keq_33 eqg_33 (ee st rfl) (ee st rfl) rfl rfl rfl rfl) <| wl_detg rfl rfl (guard_eq rfl hc109) rfl (by decide) (fun st => x_pick_t (v := .bool ([x112.1, x112.2] != [x113.1, x113.2])) (ee st rfl) hc111 (ee st rfl)) <| wd rfl (fun st => x_pick_f (v := .bool ([x112.1, x112.2] != [x113.1, x113.2])) (ee st rfl) hc109 (ee st rfl)) <| wl_end <| lv_next ?_
                       rcases bool_cases ([x112.1, x112.2] != [x113.1, x113.2]) with hc114 | hc114
                       ·replace hG := cond_t hG hc114
                        refine cc_cond_t rfl hc114 <| cc_seq <| cc_region <| wa rfl (v := .bool false) rfl <| wl_end <| lv_next <| cc_ret <| lv_block_ret <| lv_then_ret <| lv_then_ret ?_
                        obtain rfl := Option.some.inj hG
                        refine lv_to (fun st => ?_)
                        exact .inl ⟨rfl, false, rfl, (puts_size _ _).trans st.sz, (puts_defers _ _).trans st.df, (sl_puts st 6).trans rfl, hp66⟩
                       ·replace hG := cond_f hG hc114
                        refine cc_cond_f rfl hc114 <| cc_skip <| lv_block <| lv_next <| cc_region <| wm rfl (v := I s104_27) hs104_27 ?_
                        replace hG := i64_bind hG; obtain ⟨hf115, hG⟩ := hG
                        refine wd rfl (fun st => x_add (ee st rfl) (ee st rfl) hf115) <| wa rfl (v := I (s104_27 + 1)) rfl <| wl_end ?_
                        have hS65_ra_66 : Sl eR w106 (ZZ Z w.heap.size [some b14_3, some b14_2, some b1]) A65_ra c65_ra r65.1 := (f104_hS65_ra.mv (mv_ext hx106))
                        have hS69_ra_66 : Sl eR w106 (ZZ Z w.heap.size [some b14_3, some b14_2, some b1]) A69_ra c69_ra r69.1 := (f104_hS69_ra.mv (mv_ext hx106))
                        have hS73_ra_66 : Sl eR w106 (ZZ Z w.heap.size [some b14_3, some b14_2, some b1]) A73_ra c73_ra r73.1 := (f104_hS73_ra.mv (mv_ext hx106))
                        refine lv_round m_ (Nat.lt_succ_self _) (fun st => ?_)
                        exact ⟨(s104_27 + 1), hG, (puts_size _ _).trans st.sz, (puts_defers _ _).trans st.df, (sl_puts st 7).trans hs104_7, (sl_puts st 8).trans hs104_8, (sl_puts st 17).trans hs104_17, (sl_puts st 19).trans hs104_19, (sl_puts st 21).trans hs104_21, (sl_puts st 27).trans rfl, hp66, hS65_ra_66, hS69_ra_66, hS73_ra_66⟩
                      ·replace hG := cond_f hG hc111
                       refine cc_anyM0 27 [Kc (.slice A65_ra r65.1.length c65_ra), Kc (I s104_27), Kc (pt b107 (o107 + i107 * 2)), Kc (.agg #[I x107.1, I x107.2]), Kc (.slice A69_ra r69.1.length c69_ra), Kc (I s104_27), Kc (pt b108 (o108 + i108 * 2)), Kc (.agg #[I x108.1, I x108.2]), Kc (.bool ([x107.1, x107.2] != [x108.1, x108.2])), Kc (.bool ([x107.1, x107.2] != [x108.1, x108.2])), Kc (I s104_27), Kc (I (p1 % p0.wd)), Kc (.bool (s104_27 != (p1 % p0.wd))), Kc (.bool (s104_27 != (p1 % p0.wd))), Kc (I s104_27), Kc (I (p2 % p0.wd)), Kc (.bool (s104_27 != (p2 % p0.wd))), Kc (.bool (s104_27 != (p2 % p0.wd))), Kc (.bool (s104_27 != (p2 % p0.wd))), Kc undef, Kc undef, Kc undef, Kc undef, Kc undef, Kc undef, Kc undef, Kc undef] mixedL13 rfl rfl
                           (obsN_cons (od rfl (fun _ => rfl) (fun K => x_move (v := .slice A65_ra r65.1.length c65_ra) (es (t := 17) (v := .slice A65_ra r65.1.length c65_ra) ((K.out 17 rfl).trans hs104_17))))
                           (obsN_cons (od rfl (fun _ => rfl) (fun K => x_move (v := I s104_27) (es (t := 27) (v := I s104_27) ((K.out 27 rfl).trans hs104_27))))
                           (obsN_cons (od rfl (fun _ => rfl) (fun K => x_indexAddrN (k := i107) Try.underlying29 sz_33 (es (t := 242) (v := .slice A65_ra r65.1.length c65_ra) (K.dep 0 242 rfl rfl)) hA107 (es (t := 243) (v := I s104_27) (K.dep 1 243 rfl rfl)) hi107 hl107))
                           (obsN_cons (od rfl (fun _ => rfl) (fun K => x_load_zn0 (l := [I x107.1, I x107.2]) agg_33 (es (t := 244) (v := pt b107 (o107 + i107 * 2)) (K.dep 2 244 rfl rfl)) (hz107.mv (mv_ext K.phT)) rfl rfl))
                           (obsN_cons (od rfl (fun _ => rfl) (fun K => x_move (v := .slice A69_ra r69.1.length c69_ra) (es (t := 19) (v := .slice A69_ra r69.1.length c69_ra) ((K.out 19 rfl).trans hs104_19))))
                           (obsN_cons (od rfl (fun _ => rfl) (fun K => x_move (v := I s104_27) (es (t := 27) (v := I s104_27) ((K.out 27 rfl).trans hs104_27))))
                           (obsN_cons (od rfl (fun _ => rfl) (fun K => x_indexAddrN (k := i108) Try.underlying29 sz_33 (es (t := 246) (v := .slice A69_ra r69.1.length c69_ra) (K.dep 4 246 rfl rfl)) hA108 (es (t := 247) (v := I s104_27) (K.dep 5 247 rfl rfl)) hi108 hl108))
                           (obsN_cons (od rfl (fun _ => rfl) (fun K => x_load_zn0 (l := [I x108.1, I x108.2]) agg_33 (es (t := 248) (v := pt b108 (o108 + i108 * 2)) (K.dep 6 248 rfl rfl)) (hz108.mv (mv_ext K.phT)) rfl rfl))
                           (obsN_cons (od rfl (fun _ => rfl) (fun K => x_neA (x1 := [x107.1, x107.2]) (x2 := [x108.1, x108.2]) keq_33 eqg_33 (es (t := 245) (v := .agg #[I x107.1, I x107.2]) (K.dep 3 245 rfl rfl)) (es (t := 249) (v := .agg #[I x108.1, I x108.2]) (K.dep 7 249 rfl rfl)) rfl rfl rfl rfl))
                           (obsN_cons (od rfl (fun _ => rfl) (fun K => x_move (v := .bool ([x107.1, x107.2] != [x108.1, x108.2])) (es (t := 250) (v := .bool ([x107.1, x107.2] != [x108.1, x108.2])) (K.dep 8 250 rfl rfl))))
                           (obsN_cons (ob_detg rfl rfl rfl (fun _ => rfl) (fun a' w' ph K => (guard_eq (show sl a' 251 = .bool ([x107.1, x107.2] != [x108.1, x108.2]) from K.dep 9 251 rfl rfl) hc109)) (fun a' w' ph K => x_move (v := I s104_27) (es (t := 27) (v := I s104_27) ((K.out 27 rfl).trans hs104_27))))
                           (obsN_cons (ob_detg rfl rfl rfl (fun _ => rfl) (fun a' w' ph K => (guard_eq (show sl a' 251 = .bool ([x107.1, x107.2] != [x108.1, x108.2]) from K.dep 9 251 rfl rfl) hc109)) (fun a' w' ph K => x_move (v := I (p1 % p0.wd)) (es (t := 7) (v := I (p1 % p0.wd)) ((K.out 7 rfl).trans hs104_7))))
                           (obsN_cons (ob_detg rfl rfl rfl (fun _ => rfl) (fun a' w' ph K => (guard_eq (show sl a' 251 = .bool ([x107.1, x107.2] != [x108.1, x108.2]) from K.dep 9 251 rfl rfl) hc109)) (fun a' w' ph K => x_neq (es (t := 252) (v := I s104_27) (K.dep 10 252 rfl rfl)) (es (t := 253) (v := I (p1 % p0.wd)) (K.dep 11 253 rfl rfl))))
                           (obsN_cons (ob_detg rfl rfl rfl (fun _ => rfl) (fun a' w' ph K => (guard_eq (show sl a' 251 = .bool ([x107.1, x107.2] != [x108.1, x108.2]) from K.dep 9 251 rfl rfl) hc109)) (fun a' w' ph K => x_move (v := .bool (s104_27 != (p1 % p0.wd))) (es (t := 254) (v := .bool (s104_27 != (p1 % p0.wd))) (K.dep 12 254 rfl rfl))))
                           (obsN_cons (ob_detg rfl rfl rfl (fun _ => rfl) (fun a' w' ph K => (guard_eq (show sl a' 255 = .bool (s104_27 != (p1 % p0.wd)) from K.dep 13 255 rfl rfl) hc110)) (fun a' w' ph K => x_move (v := I s104_27) (es (t := 27) (v := I s104_27) ((K.out 27 rfl).trans hs104_27))))
                           (obsN_cons (ob_detg rfl rfl rfl (fun _ => rfl) (fun a' w' ph K => (guard_eq (show sl a' 255 = .bool (s104_27 != (p1 % p0.wd)) from K.dep 13 255 rfl rfl) hc110)) (fun a' w' ph K => x_move (v := I (p2 % p0.wd)) (es (t := 8) (v := I (p2 % p0.wd)) ((K.out 8 rfl).trans hs104_8))))
                           (obsN_cons (ob_detg rfl rfl rfl (fun _ => rfl) (fun a' w' ph K => (guard_eq (show sl a' 255 = .bool (s104_27 != (p1 % p0.wd)) from K.dep 13 255 rfl rfl) hc110)) (fun a' w' ph K => x_neq (es (t := 256) (v := I s104_27) (K.dep 14 256 rfl rfl)) (es (t := 257) (v := I (p2 % p0.wd)) (K.dep 15 257 rfl rfl))))
                           (obsN_cons (ob_detg rfl rfl rfl (fun _ => rfl) (fun a' w' ph K => (guard_eq (show sl a' 251 = .bool ([x107.1, x107.2] != [x108.1, x108.2]) from K.dep 9 251 rfl rfl) hc109)) (fun a' w' ph K => x_pick_t (v := .bool (s104_27 != (p2 % p0.wd))) (es (t := 255) (v := .bool (s104_27 != (p1 % p0.wd))) (K.dep 13 255 rfl rfl)) hc110 (es (t := 258) (v := .bool (s104_27 != (p2 % p0.wd))) (K.dep 16 258 rfl rfl))))
                           (obsN_cons (ob_detg rfl rfl rfl (fun _ => rfl) (fun a' w' ph K => (guard_eq (show sl a' 251 = .bool ([x107.1, x107.2] != [x108.1, x108.2]) from K.dep 9 251 rfl rfl) hc109)) (fun a' w' ph K => x_move (v := .bool (s104_27 != (p2 % p0.wd))) (es (t := 259) (v := .bool (s104_27 != (p2 % p0.wd))) (K.dep 17 259 rfl rfl))))
                           (obsN_cons (ob_skip (c := false) rfl rfl rfl (by decide) (fun a' w' ph K => (guard_eq (show sl a' 260 = .bool (s104_27 != (p2 % p0.wd)) from K.dep 18 260 rfl rfl) hc111)) (fun _ => rfl))
                           (obsN_cons (ob_skip (c := false) rfl rfl rfl (by decide) (fun a' w' ph K => (guard_eq (show sl a' 260 = .bool (s104_27 != (p2 % p0.wd)) from K.dep 18 260 rfl rfl) hc111)) (fun _ => rfl))
                           (obsN_cons (ob_skip (c := false) rfl rfl rfl (by decide) (fun a' w' ph K => (guard_eq (show sl a' 260 = .bool (s104_27 != (p2 % p0.wd)) from K.dep 18 260 rfl rfl) hc111)) (fun _ => rfl))
                           (obsN_cons (ob_skip (c := false) rfl rfl rfl (by decide) (fun a' w' ph K => (guard_eq (show sl a' 260 = .bool (s104_27 != (p2 % p0.wd)) from K.dep 18 260 rfl rfl) hc111)) (fun _ => rfl))
                           (obsN_cons (ob_skip (c := false) rfl rfl rfl (by decide) (fun a' w' ph K => (guard_eq (show sl a' 260 = .bool (s104_27 != (p2 % p0.wd)) from K.dep 18 260 rfl rfl) hc111)) (fun _ => rfl))
                           (obsN_cons (ob_skip (c := false) rfl rfl rfl (by decide) (fun a' w' ph K => (guard_eq (show sl a' 260 = .bool (s104_27 != (p2 % p0.wd)) from K.dep 18 260 rfl rfl) hc111)) (fun _ => rfl))
                           (obsN_cons (ob_skip (c := false) rfl rfl rfl (by decide) (fun a' w' ph K => (guard_eq (show sl a' 260 = .bool (s104_27 != (p2 % p0.wd)) from K.dep 18 260 rfl rfl) hc111)) (fun _ => rfl))
                           (obsN_cons (ob_skip (c := false) rfl rfl rfl (by decide) (fun a' w' ph K => (guard_eq (show sl a' 260 = .bool (s104_27 != (p2 % p0.wd)) from K.dep 18 260 rfl rfl) hc111)) (fun _ => rfl))
                           (obsN_nil _)))))))))))))))))))))))))))) ?_
                       intro w106
                       rintro _ rfl _ rfl _ rfl _ rfl _ rfl _ rfl _ rfl _ rfl _ rfl _ rfl _ rfl _ rfl _ rfl _ rfl _ rfl _ rfl _ rfl _ rfl _ rfl _ rfl _ rfl _ rfl _ rfl _ rfl _ rfl _ rfl _ rfl hx106
                       have hp67 : Hp w [some b14_3, some b14_2, some b1] w106 := hp64.ext hx106
                       refine wl_skip (c := false) rfl rfl (guard_eq rfl hc111) (by decide) rfl (by decide) <| wl_detg rfl rfl (guard_eq rfl hc109) rfl (by decide) (fun st => x_pick_f (v := .bool false) (ee st rfl) hc111 (ee st rfl)) <| wd rfl (fun st => x_pick_f (v := .bool false) (ee st rfl) hc109 (ee st rfl)) <| wl_end <| lv_next <| cc_cond_f rfl rfl <| cc_skip <| lv_block <| lv_next <| cc_region <| wm rfl (v := I s104_27) hs104_27 ?_
                       replace hG := i64_bind hG; obtain ⟨hf116, hG⟩ := hG
                       refine wd rfl (fun st => x_add (ee st rfl) (ee st rfl) hf116) <| wa rfl (v := I (s104_27 + 1)) rfl <| wl_end ?_
                       have hS65_ra_67 : Sl eR w106 (ZZ Z w.heap.size [some b14_3, some b14_2, some b1]) A65_ra c65_ra r65.1 := (f104_hS65_ra.mv (mv_ext hx106))
                       have hS69_ra_67 : Sl eR w106 (ZZ Z w.heap.size [some b14_3, some b14_2, some b1]) A69_ra c69_ra r69.1 := (f104_hS69_ra.mv (mv_ext hx106))
                       have hS73_ra_67 : Sl eR w106 (ZZ Z w.heap.size [some b14_3, some b14_2, some b1]) A73_ra c73_ra r73.1 := (f104_hS73_ra.mv (mv_ext hx106))
                       refine lv_round m_ (Nat.lt_succ_self _) (fun st => ?_)
                       exact ⟨(s104_27 + 1), hG, (puts_size _ _).trans st.sz, (puts_defers _ _).trans st.df, (sl_puts st 7).trans hs104_7, (sl_puts st 8).trans hs104_8, (sl_puts st 17).trans hs104_17, (sl_puts st 19).trans hs104_19, (sl_puts st 21).trans hs104_21, (sl_puts st 27).trans rfl, hp67, hS65_ra_67, hS69_ra_67, hS73_ra_67⟩
                     ·replace hG := cond_f hG hc110
                      refine cc_anyM0 27 [Kc (.slice A65_ra r65.1.length c65_ra), Kc (I s104_27), Kc (pt b107 (o107 + i107 * 2)), Kc (.agg #[I x107.1, I x107.2]), Kc (.slice A69_ra r69.1.length c69_ra), Kc (I s104_27), Kc (pt b108 (o108 + i108 * 2)), Kc (.agg #[I x108.1, I x108.2]), Kc (.bool ([x107.1, x107.2] != [x108.1, x108.2])), Kc (.bool ([x107.1, x107.2] != [x108.1, x108.2])), Kc (I s104_27), Kc (I (p1 % p0.wd)), Kc (.bool (s104_27 != (p1 % p0.wd))), Kc (.bool (s104_27 != (p1 % p0.wd))), Kc undef, Kc undef, Kc undef, Kc (.bool false), Kc (.bool false), Kc undef, Kc undef, Kc undef, Kc undef, Kc undef, Kc undef, Kc undef, Kc undef] mixedL13 rfl rfl
                          (obsN_cons (od rfl (fun _ => rfl) (fun K => x_move (v := .slice A65_ra r65.1.length c65_ra) (es (t := 17) (v := .slice A65_ra r65.1.length c65_ra) ((K.out 17 rfl).trans hs104_17))))
                          (obsN_cons (od rfl (fun _ => rfl) (fun K => x_move (v := I s104_27) (es (t := 27) (v := I s104_27) ((K.out 27 rfl).trans hs104_27))))
                          (obsN_cons (od rfl (fun _ => rfl) (fun K => x_indexAddrN (k := i107) Try.underlying29 sz_33 (es (t := 242) (v := .slice A65_ra r65.1.length c65_ra) (K.dep 0 242 rfl rfl)) hA107 (es (t := 243) (v := I s104_27) (K.dep 1 243 rfl rfl)) hi107 hl107))
                          (obsN_cons (od rfl (fun _ => rfl) (fun K => x_load_zn0 (l := [I x107.1, I x107.2]) agg_33 (es (t := 244) (v := pt b107 (o107 + i107 * 2)) (K.dep 2 244 rfl rfl)) (hz107.mv (mv_ext K.phT)) rfl rfl))
                          (obsN_cons (od rfl (fun _ => rfl) (fun K => x_move (v := .slice A69_ra r69.1.length c69_ra) (es (t := 19) (v := .slice A69_ra r69.1.length c69_ra) ((K.out 19 rfl).trans hs104_19))))
                          (obsN_cons (od rfl (fun _ => rfl) (fun K => x_move (v := I s104_27) (es (t := 27) (v := I s104_27) ((K.out 27 rfl).trans hs104_27))))
                          (obsN_cons (od rfl (fun _ => rfl) (fun K => x_indexAddrN (k := i108) Try.underlying29 sz_33 (es (t := 246) (v := .slice A69_ra r69.1.length c69_ra) (K.dep 4 246 rfl rfl)) hA108 (es (t := 247) (v := I s104_27) (K.dep 5 247 rfl rfl)) hi108 hl108))
                          (obsN_cons (od rfl (fun _ => rfl) (fun K => x_load_zn0 (l := [I x108.1, I x108.2]) agg_33 (es (t := 248) (v := pt b108 (o108 + i108 * 2)) (K.dep 6 248 rfl rfl)) (hz108.mv (mv_ext K.phT)) rfl rfl))
                          (obsN_cons (od rfl (fun _ => rfl) (fun K => x_neA (x1 := [x107.1, x107.2]) (x2 := [x108.1, x108.2]) keq_33 eqg_33 (es (t := 245) (v := .agg #[I x107.1, I x107.2]) (K.dep 3 245 rfl rfl)) (es (t := 249) (v := .agg #[I x108.1, I x108.2]) (K.dep 7 249 rfl rfl)) rfl rfl rfl rfl))
                          (obsN_cons (od rfl (fun _ => rfl) (fun K => x_move (v := .bool ([x107.1, x107.2] != [x108.1, x108.2])) (es (t := 250) (v := .bool ([x107.1, x107.2] != [x108.1, x108.2])) (K.dep 8 250 rfl rfl))))
                          (obsN_cons (ob_detg rfl rfl rfl (fun _ => rfl) (fun a' w' ph K => (guard_eq (show sl a' 251 = .bool ([x107.1, x107.2] != [x108.1, x108.2]) from K.dep 9 251 rfl rfl) hc109)) (fun a' w' ph K => x_move (v := I s104_27) (es (t := 27) (v := I s104_27) ((K.out 27 rfl).trans hs104_27))))
                          (obsN_cons (ob_detg rfl rfl rfl (fun _ => rfl) (fun a' w' ph K => (guard_eq (show sl a' 251 = .bool ([x107.1, x107.2] != [x108.1, x108.2]) from K.dep 9 251 rfl rfl) hc109)) (fun a' w' ph K => x_move (v := I (p1 % p0.wd)) (es (t := 7) (v := I (p1 % p0.wd)) ((K.out 7 rfl).trans hs104_7))))
                          (obsN_cons (ob_detg rfl rfl rfl (fun _ => rfl) (fun a' w' ph K => (guard_eq (show sl a' 251 = .bool ([x107.1, x107.2] != [x108.1, x108.2]) from K.dep 9 251 rfl rfl) hc109)) (fun a' w' ph K => x_neq (es (t := 252) (v := I s104_27) (K.dep 10 252 rfl rfl)) (es (t := 253) (v := I (p1 % p0.wd)) (K.dep 11 253 rfl rfl))))
                          (obsN_cons (ob_detg rfl rfl rfl (fun _ => rfl) (fun a' w' ph K => (guard_eq (show sl a' 251 = .bool ([x107.1, x107.2] != [x108.1, x108.2]) from K.dep 9 251 rfl rfl) hc109)) (fun a' w' ph K => x_move (v := .bool (s104_27 != (p1 % p0.wd))) (es (t := 254) (v := .bool (s104_27 != (p1 % p0.wd))) (K.dep 12 254 rfl rfl))))
                          (obsN_cons (ob_skip (c := false) rfl rfl rfl (by decide) (fun a' w' ph K => (guard_eq (show sl a' 255 = .bool (s104_27 != (p1 % p0.wd)) from K.dep 13 255 rfl rfl) hc110)) (fun _ => rfl))
                          (obsN_cons (ob_skip (c := false) rfl rfl rfl (by decide) (fun a' w' ph K => (guard_eq (show sl a' 255 = .bool (s104_27 != (p1 % p0.wd)) from K.dep 13 255 rfl rfl) hc110)) (fun _ => rfl))
                          (obsN_cons (ob_skip (c := false) rfl rfl rfl (by decide) (fun a' w' ph K => (guard_eq (show sl a' 255 = .bool (s104_27 != (p1 % p0.wd)) from K.dep 13 255 rfl rfl) hc110)) (fun _ => rfl))
                          (obsN_cons (ob_detg rfl rfl rfl (fun _ => rfl) (fun a' w' ph K => (guard_eq (show sl a' 251 = .bool ([x107.1, x107.2] != [x108.1, x108.2]) from K.dep 9 251 rfl rfl) hc109)) (fun a' w' ph K => x_pick_f (v := .bool false) (es (t := 255) (v := .bool (s104_27 != (p1 % p0.wd))) (K.dep 13 255 rfl rfl)) hc110 (ec (v := .bool false))))
                          (obsN_cons (ob_detg rfl rfl rfl (fun _ => rfl) (fun a' w' ph K => (guard_eq (show sl a' 251 = .bool ([x107.1, x107.2] != [x108.1, x108.2]) from K.dep 9 251 rfl rfl) hc109)) (fun a' w' ph K => x_move (v := .bool false) (es (t := 259) (v := .bool false) (K.dep 17 259 rfl rfl))))
                          (obsN_cons (ob_skip (c := false) rfl rfl rfl (by decide) (fun a' w' ph K => (show sl a' 260 = .bool false from K.dep 18 260 rfl rfl)) (fun _ => rfl))
                          (obsN_cons (ob_skip (c := false) rfl rfl rfl (by decide) (fun a' w' ph K => (show sl a' 260 = .bool false from K.dep 18 260 rfl rfl)) (fun _ => rfl))
                          (obsN_cons (ob_skip (c := false) rfl rfl rfl (by decide) (fun a' w' ph K => (show sl a' 260 = .bool false from K.dep 18 260 rfl rfl)) (fun _ => rfl))
                          (obsN_cons (ob_skip (c := false) rfl rfl rfl (by decide) (fun a' w' ph K => (show sl a' 260 = .bool false from K.dep 18 260 rfl rfl)) (fun _ => rfl))
                          (obsN_cons (ob_skip (c := false) rfl rfl rfl (by decide) (fun a' w' ph K => (show sl a' 260 = .bool false from K.dep 18 260 rfl rfl)) (fun _ => rfl))
                          (obsN_cons (ob_skip (c := false) rfl rfl rfl (by decide) (fun a' w' ph K => (show sl a' 260 = .bool false from K.dep 18 260 rfl rfl)) (fun _ => rfl))
                          (obsN_cons (ob_skip (c := false) rfl rfl rfl (by decide) (fun a' w' ph K => (show sl a' 260 = .bool false from K.dep 18 260 rfl rfl)) (fun _ => rfl))
                          (obsN_cons (ob_skip (c := false) rfl rfl rfl (by decide) (fun a' w' ph K => (show sl a' 260 = .bool false from K.dep 18 260 rfl rfl)) (fun _ => rfl))
                          (obsN_nil _)))))))))))))))))))))))))))) ?_
                      intro w106
                      rintro _ rfl _ rfl _ rfl _ rfl _ rfl _ rfl _ rfl _ rfl _ rfl _ rfl _ rfl _ rfl _ rfl _ rfl _ rfl _ rfl _ rfl _ rfl _ rfl _ rfl _ rfl _ rfl _ rfl _ rfl _ rfl _ rfl _ rfl hx106
                      have hp68 : Hp w [some b14_3, some b14_2, some b1] w106 := hp64.ext hx106
                      refine wl_skip rfl rfl rfl (by decide) rfl (by decide) <| wl_detg rfl rfl (guard_eq rfl hc109) rfl (by decide) (fun st => x_pick_f (v := .bool false) (ee st rfl) rfl (ee st rfl)) <| wd rfl (fun st => x_pick_f (v := .bool false) (ee st rfl) hc109 (ee st rfl)) <| wl_end <| lv_next <| cc_cond_f rfl rfl <| cc_skip <| lv_block <| lv_next <| cc_region <| wm rfl (v := I s104_27) hs104_27 ?_
                      replace hG := i64_bind hG; obtain ⟨hf117, hG⟩ := hG
                      refine wd rfl (fun st => x_add (ee st rfl) (ee st rfl) hf117) <| wa rfl (v := I (s104_27 + 1)) rfl <| wl_end ?_
                      have hS65_ra_68 : Sl eR w106 (ZZ Z w.heap.size [some b14_3, some b14_2, some b1]) A65_ra c65_ra r65.1 := (f104_hS65_ra.mv (mv_ext hx106))
                      have hS69_ra_68 : Sl eR w106 (ZZ Z w.heap.size [some b14_3, some b14_2, some b1]) A69_ra c69_ra r69.1 := (f104_hS69_ra.mv (mv_ext hx106))
                      have hS73_ra_68 : Sl eR w106 (ZZ Z w.heap.size [some b14_3, some b14_2, some b1]) A73_ra c73_ra r73.1 := (f104_hS73_ra.mv (mv_ext hx106))
                      refine lv_round m_ (Nat.lt_succ_self _) (fun st => ?_)
                      exact ⟨(s104_27 + 1), hG, (puts_size _ _).trans st.sz, (puts_defers _ _).trans st.df, (sl_puts st 7).trans hs104_7, (sl_puts st 8).trans hs104_8, (sl_puts st 17).trans hs104_17, (sl_puts st 19).trans hs104_19, (sl_puts st 21).trans hs104_21, (sl_puts st 27).trans rfl, hp68, hS65_ra_68, hS69_ra_68, hS73_ra_68⟩
                   ·replace hG := cond_f hG hc105
                    refine cc_cond_f rfl hc105 <| cc_exit <| lv_then_exit <| lv_then_exit ?_
                    obtain rfl := Option.some.inj hG
                    refine lv_to (fun st => ?_)
                    exact .inr ⟨rfl, (), rfl, (puts_size _ _).trans st.sz, (puts_defers _ _).trans st.df, hp64⟩
                 case af104 =>
                  rintro e_ fr104a w104a (⟨rfl, q104, rfl, hsz104a, hdf104a, hs104a_6, hp104a⟩ | ⟨rfl, q104, rfl, hsz104a, hdf104a, hp104a⟩)
                  ·skip
                   replace hG := inl_some hG
                   refine lv_fr (X := X0) (N := 273) hsz104a hdf104a <| lv_block_ret <| lv_then_ret ?_
                   have hr_ := Option.some.inj hG
                   refine lv_ret1 rfl hs104a_6 ?_
                   exact ⟨hp104a.fin, congrArg Value.bool hr_⟩
                  ·skip
                   replace hG := inr_some hG
                   refine lv_fr (X := X0) (N := 273) hsz104a hdf104a <| lv_block_hit <| lv_next <| cc_seq <| cc_region ?_
                   replace hG := ifo_bind hG; obtain ⟨hw118, hG⟩ := hG
                   refine we rfl (fun st => x_call0 own_21 (ee st rfl) am0 (a21 K_ ZA _ hw118)) ?_
                   rintro _ w119 ⟨hx118, rfl⟩
                   have hp71 : Hp w [some b14_3, some b14_2, some b1] w119 := hp104a.ext hx118
                   refine wa rfl (v := .bool true) rfl <| wl_end <| lv_next <| cc_ret ?_
                   have hr_ := Option.some.inj hG
                   refine lv_ret1 rfl rfl ?_
                   exact ⟨hp71.fin, congrArg Value.bool hr_⟩
end Go.Proofs.Ythogdgkafaclaaa
end
section
namespace Go.Proofs.Ythogdgkafaclaaa
open Go.RowKit Go.ChangeShapes Go.WideShapes
theorem mapM_get {α β : Type} {g : α → Option β} : ∀ {l : List α} {r : List β}, l.mapM g = some r → ∀ (i : Nat) (x : α), l[i]? = some x → ∃ y, r[i]? = some y ∧ g x = some y
  | [], _, _, i, x, hx => by simp at hx
  | a :: l, r, h, i, x, hx => by
    rw [List.mapM_cons] at h
    obtain ⟨y, hy, h2⟩ := Option.bind_eq_some_iff.1 h
    obtain ⟨ys, hys, h3⟩ := Option.bind_eq_some_iff.1 h2
    obtain rfl : y :: ys = r := by simpa using h3
    cases i with
    | zero =>
      obtain rfl : a = x := by simpa using hx
      exact ⟨y, rfl, hy⟩
    | succ i => exact mapM_get hys i x (by simpa using hx)
theorem weightsAll_mem {H : Type} {P : Program} {e : TypeId} {d : DataW H} {n : Nat} (hn : n ∈ d.weights P e) : ∀ {l : List (DataW H)}, d ∈ l → n ∈ DataW.weightsAll P e l
  | [], h => by cases h
  | a :: l, h => by
    rw [DataW.weightsAll, List.mem_append]
    rcases List.mem_cons.1 h with rfl | h
    · exact .inl hn
    · exact .inr (weightsAll_mem hn h)
/-- No slice in it takes more bytes than the form lets in. -/
def Slim {H : Type} (P : Program) (t : TypeId) (d : DataW H) : Prop := ∀ n ∈ d.weights P t, n ≤ reachBytes
theorem slim_at {H : Type} {P : Program} {ts : List TypeId} {ds : List (DataW H)} (h : (DataW.weightsEach P ts ds).all (· ≤ reachBytes) = true) {j : Nat} {t : TypeId} {d : DataW H} (ht : ts[j]? = some t) (hd : ds[j]? = some d) : Slim P t d := fun n hn => by
  have := List.all_eq_true.1 h _ (DataW.weights_mem_each ht hd n hn)
  simpa using this
/-- A reading of this type is data of this kind. -/
def Opn {α : Type} (P : Program) (t : TypeId) (e : Enc α) (wf : α → Prop) : Prop :=
  ∀ (H : Type) (enc : TypeId × Value → H) (w : World) (sp : Nat → Bool) (fuel : Nat) (cs : List Value) (x : DataW H × List MemPlace), DataW.trod enc P w 0 sp true fuel t cs = some x → Slim P t x.1 → ∃ a, e.R w ZA cs a ∧ wf a
def wfI (k : IntKind) (n : Int) : Prop := (Lit.int k n).wf = true
section
variable {P : Program} {t : TypeId}
theorem opn_int {k : IntKind} (ht : P.underlying t = some (.int k)) : Opn P t (eInt k) (wfI k) := by
  intro H enc w sp fuel cs x h _
  obtain ⟨n, h1, _, h3⟩ := DataW.trod_int ht h
  exact ⟨n, h1, h3⟩
/-- A struct's fields. -/
theorem trod_fields {fs : Array Field} (ht : P.underlying t = some (.struct fs)) {H : Type} {enc : TypeId × Value → H} {w : World} {sp : Nat → Bool} {fuel : Nat} {cs : List Value} {x : DataW H × List MemPlace} (h : DataW.trod enc P w 0 sp true fuel t cs = some x) :
    cs.length = P.cellsOf t ∧ ∃ fuel', ∀ (i ft off : Nat), (fs[i]?).map (fun f => (f.type, f.offset)) = some (ft, off) → ∃ y, DataW.trod enc P w 0 sp true fuel' ft ((cs.drop off).take (P.cellsOf ft)) = some y ∧ (Slim P t x.1 → Slim P ft y.1) := by
  cases fuel with
  | zero => simp [DataW.trod] at h
  | succ fuel =>
    unfold DataW.trod at h
    simp only [ht] at h
    split at h
    · rename_i hl
      obtain ⟨xs, hx, rfl⟩ := Option.map_eq_some_iff.1 h
      refine ⟨hl, fuel, fun i ft off hf => ?_⟩
      obtain ⟨f, hf', he⟩ := Option.map_eq_some_iff.1 hf
      obtain ⟨e1, e2⟩ : f.type = ft ∧ f.offset = off := by simpa using he
      rw [← Array.getElem?_toList] at hf'
      obtain ⟨y, hy, hg⟩ := mapM_get hx i f hf'
      rw [e1, e2] at hg
      refine ⟨y, hg, fun hs n hn => hs n ?_⟩
      simp only [DataW.weights, ht]
      exact DataW.weights_mem_each (j := i) (t := ft) (d := y.1) (by rw [List.getElem?_map, hf']; simp [e1]) (by rw [List.getElem?_map, hy]; rfl) n hn
    · cases h
theorem cells_cell {w : World} {a : Addr} {n : Nat} {cs : List Value} (h : w.cells? 0 a n = some cs) : cs.length = n ∧ ∀ j u, cs[j]? = some u → w.cell? (a.add j) = some u := by
  unfold World.cells? at h
  rw [if_pos (Nat.zero_le _)] at h
  have hl := mapM_some_length h
  refine ⟨by simpa using hl, ?_⟩
  have key : ∀ (l : List Nat) (r : List Value), l.mapM (fun i => w.cell? (a.add i)) = some r → ∀ (j i : Nat) (u : Value), l[j]? = some i → r[j]? = some u → w.cell? (a.add i) = some u := by
    intro l
    induction l with
    | nil => intro r _ j i u hj; simp at hj
    | cons b l ih =>
      intro r h j i u hj hr
      rw [List.mapM_cons] at h
      obtain ⟨y, hy, h2⟩ := Option.bind_eq_some_iff.1 h
      obtain ⟨ys, hys, h3⟩ := Option.bind_eq_some_iff.1 h2
      obtain rfl : y :: ys = r := by simpa using h3
      cases j with
      | zero =>
        obtain rfl : b = i := by simpa using hj
        obtain rfl : y = u := by simpa using hr
        exact hy
      | succ j => exact ih ys hys j i u (by simpa using hj) (by simpa using hr)
  intro j u hj
  have hlt : j < n := by
    have := (List.getElem?_eq_some_iff.1 hj).1
    have h2 : cs.length = n := by simpa using hl
    omega
  exact key _ _ h j j u (by simp [hlt]) hj
theorem cell_none {w : World} {a : Addr} {u : Value} (h : w.cell? a = some u) : ∃ b o, a = ⟨b, o, none⟩ ∧ b < w.heap.size := by
  obtain ⟨b, o, pt⟩ := a
  cases pt with
  | none =>
    refine ⟨b, o, rfl, ?_⟩
    unfold World.cell? at h
    cases hq : w.heap[b]? with
    | none => simp [hq] at h
    | some o => exact (Array.getElem?_eq_some_iff.1 hq).1
  | some q =>
    unfold World.cell? at h
    cases hq : w.heap[b]? with
    | none => simp [hq] at h
    | some ob => cases ob <;> simp [hq] at h
theorem add_add {a : Addr} {k j : Nat} (h : k ≤ j) : (a.add k).add (j - k) = a.add j := by
  obtain ⟨b, o, pt⟩ := a
  cases pt with
  | none => rw [addr_add, addr_add, addr_add]; congr 1; omega
  | some q =>
    unfold Addr.add
    by_cases hj : j = 0
    · have : k = 0 := by omega
      subst this; subst hj; simp
    · by_cases hk : k = 0
      · subst hk; simp [hj]
      · by_cases hjk : j - k = 0
        · have : j = k := by omega
          subst this; simp [hk]
        · simp [hj, hk, hjk]; omega
/-- Slices of what can be read. -/
theorem opn_slice {α : Type} {e : TypeId} {ee : Enc α} {wf : α → Prop} (ht : P.underlying t = some (.slice e)) (hc : P.cellsOf e = ee.sz) (h0 : 0 < ee.sz) (ho : Opn P e ee wf) {b : Nat} (hby : P.bytesOf e = b) : Opn P t (eSl ee) (fun xs => xs.length * b ≤ 140737488351232 ∧ ∀ x ∈ xs, wf x) := by
  intro H enc w sp fuel cs x h hsl
  rcases Go.Deep.open_slice ht h with ⟨rfl, _⟩ | ⟨a, len, cap, m, n0, D, Pl, rfl, _, hlc, hcm, hm, hxe, hall⟩
  · exact ⟨[], ⟨none, 0, rfl, Sl.nil _ _ _⟩, by simp, by simp⟩
  · have hlm : len ≤ m := by rw [hm]; split <;> omega
    subst hxe
    have hroom : len * b ≤ 140737488351232 := by
      have := hsl ((((List.range len).map D).length + ((List.range (m - len)).map fun j => D (len + j)).length) * P.bytesOf e) (by simp [DataW.weights, ht])
      rw [hby] at this
      have h2 : len * b ≤ (((List.range len).map D).length + ((List.range (m - len)).map fun j => D (len + j)).length) * b := Nat.mul_le_mul_right _ (by simp)
      exact Nat.le_trans h2 this
    have hslim : ∀ i, i < len → Slim P e (D i) := fun i hi n hn => hsl n (by
      simp only [DataW.weights, ht]
      rw [List.mem_cons, List.mem_append]
      exact .inr (.inl (weightsAll_mem hn (List.mem_map.2 ⟨i, by simpa using hi, rfl⟩))))
    have key : ∀ n, n ≤ len → ∃ css xs, R2 ee w ZA css xs ∧ xs.length = n ∧ (∀ x ∈ xs, wf x) ∧ ∀ j u, css.flatten[j]? = some u → w.cell? (a.add j) = some u := by
      intro n
      induction n with
      | zero => exact fun _ => ⟨[], [], trivial, rfl, by simp, by simp⟩
      | succ n ih =>
        intro hn
        obtain ⟨css, xs, h1, h2, h3, h4⟩ := ih (by omega)
        obtain ⟨ds, hd, hy2⟩ := hall n (by omega)
        obtain ⟨z, hz, hwz⟩ := ho _ _ _ _ _ _ _ hy2 (hslim n (by omega))
        obtain ⟨hl, hcell⟩ := cells_cell hd
        refine ⟨css ++ [ds], xs ++ [z], h1.append ⟨hz, trivial⟩, by simp [h2], ?_, ?_⟩
        · intro x hx
          rcases List.mem_append.1 hx with hx | hx
          · exact h3 x hx
          · rw [List.mem_singleton.1 hx]; exact hwz
        · intro j u hj
          rw [List.flatten_append] at hj
          rcases Nat.lt_or_ge j css.flatten.length with hlt | hge
          · rw [List.getElem?_append_left hlt] at hj
            exact h4 j u hj
          · rw [List.getElem?_append_right hge] at hj
            have h5 := hcell (j - css.flatten.length) u (by simpa using hj)
            have hfl : css.flatten.length = n * ee.sz := by rw [h1.flen, h2]
            rw [hfl] at h5 hge
            rw [hc] at h5
            rw [add_add hge] at h5
            exact h5
    obtain ⟨css, xs, h1, h2, h3, h4⟩ := key len (Nat.le_refl _)
    refine ⟨xs, ⟨some a, cap, by rw [h2], by rw [h2]; exact hlc, (fun e => by cases e), css, h1, ?_⟩, by rw [h2]; exact hroom, h3⟩
    cases hf : css.flatten with
    | nil => exact .inl rfl
    | cons u us =>
      have hu := h4 0 u (by rw [hf]; rfl)
      obtain ⟨b, o, hab, hlt⟩ := cell_none hu
      have ha : a = ⟨b, o, none⟩ := by
        obtain ⟨b', o', pt⟩ := a
        cases pt <;> simp [Addr.add] at hab ⊢
        exact hab
      subst ha
      refine .inr ⟨b, o, rfl, trivial, hlt, fun j u hj => ?_⟩
      have := h4 j u (by rw [hf]; exact hj)
      rw [addr_add] at this
      exact this
end
section
variable {H : Type} {enc : TypeId × Value → H} {P : Program} {W W' : World}
theorem trodAll_carry {sp : Nat → Bool} : ∀ {ts : List TypeId} {vs : List Value} {ds : List (DataW H)} {ps : List MemPlace}, DataW.TrodAll enc P W 0 sp true ts vs ds ps → (∀ p ∈ ps, W.sameAt W' p) → DataW.TrodAll enc P W' 0 sp true ts vs ds ps
  | [], _, _, _, h, _ => by
    obtain ⟨rfl, rfl, rfl⟩ := trodAll_nil h
    exact rfl
  | _ :: _, _, _, _, h, hs => by
    obtain ⟨v, vs1, d, ds1, a, b, rfl, rfl, rfl, ⟨n, hn⟩, h2⟩ := trodAll_cons h
    exact ⟨a, b, ⟨n, DataW.trod_carry n _ _ _ hn fun p hp => hs p (List.mem_append_left _ hp)⟩, trodAll_carry h2 fun p hp => hs p (List.mem_append_right _ hp), rfl⟩
theorem args_read (K : Kids P (· < P.types.size)) (hz : ∀ t e, t < P.types.size → P.underlying t = some (.slice e) → 0 < P.cellsOf e) {ts : List TypeId} {vs : List Value} {ds : List (DataW H)} {ps : List MemPlace} (hT : ∀ t ∈ ts, t < P.types.size)
    (hA : DataW.TrodAll enc P W 0 (fun _ => true) true ts vs ds ps) (hb : Ext W W') (hlt : ∀ p ∈ ps, p.block < W.heap.size) (sp : Nat → Bool) (hs : ∀ p ∈ ps, sp p.block = true) : DataW.TrodAll enc P W' 0 sp true ts vs ds ps :=
  trodAll_carry (DataW.TrodAll.respare K hz hT hA hs) fun p hp => (below_of_ext hb).same (hlt p hp)
variable {α : Type} {e : Enc α} {wf : α → Prop} {t : TypeId} {b0 : Nat} {v : Value} {d : DataW H} {p : List MemPlace} {sp : Nat → Bool}
theorem val_agg {fs : Array Field} (ht : P.underlying t = some (.struct fs)) (ho : Opn P t e wf) (hv : Value.okWide P W .any b0 t v) (h : DataW.Trod enc P W 0 sp true t v d p) (hs : Slim P t d) : ∃ a cs, v = .agg cs.toArray ∧ e.R W ZA cs a ∧ wf a := by
  unfold Value.okWide at hv
  rw [ht] at hv
  obtain ⟨cs, rfl, _⟩ := hv
  obtain ⟨n, hn⟩ := h
  obtain ⟨a, h1, h2⟩ := ho _ _ _ _ _ _ _ hn hs
  exact ⟨a, cs.toList, by simp, h1, h2⟩
theorem val_int {k : IntKind} (ht : P.underlying t = some (.int k)) (hv : Value.okWide P W .any b0 t v) (h : DataW.Trod enc P W 0 sp true t v d p) : ∃ n, v = .int k n ∧ wfI k n := by
  obtain ⟨n, h1, _, _, h4⟩ := open_int ht hv h
  exact ⟨n, h1, h4⟩
/-- The row's end: the call has laid new blocks alone. -/
theorem post_of_ext {f : Func} {s : ChangeSpec} {apart fresh handsOn again : Bool} {args : Array Value} {v : Value} {ds gs : List (DataW H)} {before pa pv : List MemPlace}
    (hW : DataW.Whole enc P f.params.toList s.vars apart W args.toList ds gs before)
    (hres : ∀ (b : Nat) (sp : Nat → Bool) (hd : Bool), DataW.TrodAll enc P W' b sp hd f.resultTypes.toList (v.resultList f.resultTypes.size) (s.fn H (ds ++ gs)).results [])
    (hargs : ∀ sp : Nat → Bool, (∀ p ∈ before, sp p.block = true) → DataW.TrodAll enc P W' 0 sp true f.params.toList args.toList (s.fn H (ds ++ gs)).args pa)
    (hvars : ∀ sp : Nat → Bool, (∀ p ∈ before, sp p.block = true) → DataW.TrodVars enc P W' sp s.vars (s.fn H (ds ++ gs)).vars pv)
    (hps : before = pa ++ pv) (hx : Ext W W')
    (hok : ∀ (j : Nat) (t : TypeId) (r : Value), f.resultTypes[j]? = some t → (v.resultList f.resultTypes.size)[j]? = some r → Value.okWide P W' .any 0 t r) :
    s.post enc P f apart fresh handsOn again W args v W' := by
  have hb := below_of_ext hx
  have hlt : ∀ p ∈ before, p.block < W.heap.size := fun p hp => hW.lt p hp
  have hold : ∀ p ∈ before, (fun b => decide (b < W.heap.size)) p.block = true := fun p hp => by simpa using hlt p hp
  refine ⟨ds, gs, before, [], pa, pv, hW, hres _ _ _, hargs _ hold, hvars _ hold, World.keptBut_mono (fun p hp => ⟨hp, ?_⟩) (hb.frame (· ∈ before)), fun _ => ?_⟩
  · rw [hps, List.mem_append] at hp
    exact Or.inr hp
  · obtain ⟨_, _, _, _, _, hz, hn⟩ := hW
    refine ⟨hok, _, _, ([] ++ pa) ++ pv, ⟨[] ++ pa, pv, trodAll_append (hargs _ (fun _ _ => rfl)) (hres _ _ _), hvars _ (fun _ _ => rfl), rfl, ?_, ?_⟩, ?_⟩
    · intro b off hp
      have hin : MemPlace.cell b off ∈ before := by rw [hps]; simpa using hp
      rw [hb.frozen (hlt _ hin)]
      exact hz b off hin
    · intro ha
      have := hn ha
      rw [hps] at this
      simpa using this
    · intro p hp _
      rw [hps]
      simpa using hp
theorem ret_calls {f : FuncId} {args : Array Value} {w : World} {R : Value → World → Prop} (h : Ret P f args w R) : Calls P f args w (fun e w' => ∃ v, e = .returned v ∧ R v w') := h
end
end Go.Proofs.Ythogdgkafaclaaa
end
section
set_option linter.unusedVariables false
set_option linter.unusedSimpArgs false
namespace Go.Proofs.Ythogdgkafaclaaa
open Go.RowKit
open Go.RowKit Go.ChangeShapes Go.WideShapes
theorem len_2 : ∀ {cs : List Value}, cs.length = 2 → ∃ a0 a1, cs = [a0, a1]
  | [a0, a1], _ => ⟨a0, a1, rfl⟩
theorem len_5 : ∀ {cs : List Value}, cs.length = 5 → ∃ a0 a1 a2 a3 a4, cs = [a0, a1, a2, a3, a4]
  | [a0, a1, a2, a3, a4], _ => ⟨a0, a1, a2, a3, a4, rfl⟩
theorem opn_23 : Opn Try.prog 23 eR (fun x => (wfI .i64 x.1 ∧ wfI .i64 x.2)) := by
  intro H enc w sp fuel cs x h hz
  obtain ⟨hl, fuel', hf⟩ := trod_fields Try.underlying23 h
  have hc : Try.prog.cellsOf 23 = 2 := by kernel_rfl
  rw [hc] at hl
  have k3 : Try.prog.cellsOf 3 = 1 := by kernel_rfl
  obtain ⟨a0, a1, rfl⟩ := len_2 hl
  obtain ⟨y0, hy0, hz0⟩ := hf 0 3 0 rfl
  simp only [k3, List.drop_zero, List.drop_succ_cons, List.take_succ_cons, List.take_zero] at hy0
  obtain ⟨n0, h0, w0⟩ := (opn_int Try.underlying3) _ _ _ _ _ _ _ hy0 (hz0 hz)
  cases h0
  obtain ⟨y1, hy1, hz1⟩ := hf 1 3 1 rfl
  simp only [k3, List.drop_zero, List.drop_succ_cons, List.take_succ_cons, List.take_zero] at hy1
  obtain ⟨n1, h1, w1⟩ := (opn_int Try.underlying3) _ _ _ _ _ _ _ hy1 (hz1 hz)
  cases h1
  exact ⟨⟨n0, n1⟩, rfl, w0, w1⟩
theorem opn_68 : Opn Try.prog 68 eTly (fun x => (wfI .i64 x.who ∧ wfI .i64 x.fr ∧ wfI .i64 x.to ∧ (wfI .i64 ((⟨x.lo, x.hi⟩ : (Int × Int)).1) ∧ wfI .i64 ((⟨x.lo, x.hi⟩ : (Int × Int)).2)))) := by
  intro H enc w sp fuel cs x h hz
  obtain ⟨hl, fuel', hf⟩ := trod_fields Try.underlying68 h
  have hc : Try.prog.cellsOf 68 = 5 := by kernel_rfl
  rw [hc] at hl
  have k3 : Try.prog.cellsOf 3 = 1 := by kernel_rfl
  have k23 : Try.prog.cellsOf 23 = 2 := by kernel_rfl
  obtain ⟨a0, a1, a2, a3, a4, rfl⟩ := len_5 hl
  obtain ⟨y0, hy0, hz0⟩ := hf 0 3 0 rfl
  simp only [k3, List.drop_zero, List.drop_succ_cons, List.take_succ_cons, List.take_zero] at hy0
  obtain ⟨n0, h0, w0⟩ := (opn_int Try.underlying3) _ _ _ _ _ _ _ hy0 (hz0 hz)
  cases h0
  obtain ⟨y1, hy1, hz1⟩ := hf 1 3 1 rfl
  simp only [k3, List.drop_zero, List.drop_succ_cons, List.take_succ_cons, List.take_zero] at hy1
  obtain ⟨n1, h1, w1⟩ := (opn_int Try.underlying3) _ _ _ _ _ _ _ hy1 (hz1 hz)
  cases h1
  obtain ⟨y2, hy2, hz2⟩ := hf 2 3 2 rfl
  simp only [k3, List.drop_zero, List.drop_succ_cons, List.take_succ_cons, List.take_zero] at hy2
  obtain ⟨n2, h2, w2⟩ := (opn_int Try.underlying3) _ _ _ _ _ _ _ hy2 (hz2 hz)
  cases h2
  obtain ⟨y3, hy3, hz3⟩ := hf 3 23 3 rfl
  simp only [k23, List.drop_zero, List.drop_succ_cons, List.take_succ_cons, List.take_zero] at hy3
  obtain ⟨n3, h3, w3⟩ := opn_23 _ _ _ _ _ _ _ hy3 (hz3 hz)
  cases h3
  exact ⟨⟨n0, n1, n2, n3.1, n3.2⟩, rfl, w0, w1, w2, w3⟩
theorem opn_26 : Opn Try.prog 26 eFld (fun x => (wfI .i64 x.rows ∧ wfI .i64 x.wd ∧ (wfI .i64 ((⟨x.lo, x.hi⟩ : (Int × Int)).1) ∧ wfI .i64 ((⟨x.lo, x.hi⟩ : (Int × Int)).2)) ∧ (x.ts.length * 40 ≤ 140737488351232 ∧ ∀ y ∈ x.ts, (wfI .i64 y.who ∧ wfI .i64 y.fr ∧ wfI .i64 y.to ∧ (wfI .i64 ((⟨y.lo, y.hi⟩ : (Int × Int)).1) ∧ wfI .i64 ((⟨y.lo, y.hi⟩ : (Int × Int)).2)))))) := by
  intro H enc w sp fuel cs x h hz
  obtain ⟨hl, fuel', hf⟩ := trod_fields Try.underlying26 h
  have hc : Try.prog.cellsOf 26 = 5 := by kernel_rfl
  rw [hc] at hl
  have k3 : Try.prog.cellsOf 3 = 1 := by kernel_rfl
  have k23 : Try.prog.cellsOf 23 = 2 := by kernel_rfl
  have k24 : Try.prog.cellsOf 24 = 1 := by kernel_rfl
  obtain ⟨a0, a1, a2, a3, a4, rfl⟩ := len_5 hl
  obtain ⟨y0, hy0, hz0⟩ := hf 0 3 0 rfl
  simp only [k3, List.drop_zero, List.drop_succ_cons, List.take_succ_cons, List.take_zero] at hy0
  obtain ⟨n0, h0, w0⟩ := (opn_int Try.underlying3) _ _ _ _ _ _ _ hy0 (hz0 hz)
  cases h0
  obtain ⟨y1, hy1, hz1⟩ := hf 1 3 1 rfl
  simp only [k3, List.drop_zero, List.drop_succ_cons, List.take_succ_cons, List.take_zero] at hy1
  obtain ⟨n1, h1, w1⟩ := (opn_int Try.underlying3) _ _ _ _ _ _ _ hy1 (hz1 hz)
  cases h1
  obtain ⟨y2, hy2, hz2⟩ := hf 2 23 2 rfl
  simp only [k23, List.drop_zero, List.drop_succ_cons, List.take_succ_cons, List.take_zero] at hy2
  obtain ⟨n2, h2, w2⟩ := opn_23 _ _ _ _ _ _ _ hy2 (hz2 hz)
  cases h2
  obtain ⟨y3, hy3, hz3⟩ := hf 3 24 4 rfl
  simp only [k24, List.drop_zero, List.drop_succ_cons, List.take_succ_cons, List.take_zero] at hy3
  obtain ⟨n3, ⟨A3, c3, h3, s3⟩, w3⟩ := (opn_slice (b := 40) Try.underlying24 (by kernel_rfl) (by decide) opn_68 (by kernel_rfl)) _ _ _ _ _ _ _ hy3 (hz3 hz)
  cases h3
  exact ⟨⟨n0, n1, n2.1, n2.2, n3⟩, ⟨A3, c3, rfl, s3⟩, w0, w1, w2, w3⟩
theorem ownT : ownKnob Try.prog.godebug = none := by kernel_rfl
theorem kidsT : Kids Try.prog (· < Try.prog.types.size) := kids_rows (by kernel_rfl) (by kernel_rfl)
theorem fullT : ∀ t e, t < Try.prog.types.size → Try.prog.underlying t = some (.slice e) → 0 < Try.prog.cellsOf e := slices_full_of Try.prog (by kernel_rfl)
end Go.Proofs.Ythogdgkafaclaaa
end
section
namespace Go.Proofs.Ythogdgkafaclaaa
theorem wf8 {x : Int} (h : wfI .u8 x) : 0 ≤ x ∧ x < 256 := by
  have h2 : (decide (IntKind.u8.min ≤ x) && decide (x ≤ IntKind.u8.max)) = true := h
  rw [Bool.and_eq_true, decide_eq_true_eq, decide_eq_true_eq] at h2
  have e1 : IntKind.u8.min = 0 := by decide
  have e2 : IntKind.u8.max = 255 := by decide
  omega
end Go.Proofs.Ythogdgkafaclaaa
end
section
set_option linter.unusedVariables false
set_option linter.unusedSimpArgs false
namespace Go.Proofs.Ythogdgkafaclaaa
open Go.RowKit
open Go.RowKit Go.ChangeShapes Go.WideShapes Go.ChangeAt
theorem weedTurned_row (f : Fld) (p q : Int) (h1 : wfI .u8 p) (h2 : wfI .u8 q) : ∃ K, G_WeedTurned K f p q = some true := weedTurned_true f p q (wf8 h1) (wf8 h2)
set_option maxRecDepth 100000 in
theorem weedTurned_lifted (os : Os) (started : os.Started) (H : Type) (enc : TypeId × Value → H) :
    ReturnsInHanded {} Try.checked os 13 .any (Rows.weedTurnedSpec.pre6 enc Try.prog Try.f13 Rows.weedTurnedRow.domain false) (Rows.weedTurnedSpec.post enc Try.prog Try.f13 false true false false) := by
  refine returnsInHanded_of_change_sized (C := Try.checked) ownT started (by kernel_rfl) Try.func13
    (ChangeSpec.witness6 (enc := enc) (C := Try.checked) false ⟨#[], #[.agg #[.int .i64 0, .int .i64 0, .int .i64 0, .int .i64 0, .slice none 0 0], .int .u8 0, .int .u8 0], []⟩ 8 (by kernel_rfl) (by kernel_rfl) (by kernel_rfl) (by kernel_rfl)) ?_
  intro W base args ds gs before hval0 hW hcnd hsz _
  have hval : ∀ (j : Nat) t v, Try.f13.params[j]? = some t → args[j]? = some v → Value.okWide Try.prog W .any base t v := hval0
  have hW' := hW
  obtain ⟨p, q, hA0, hV, rfl, hfz, hnd⟩ := hW
  have hA : DataW.TrodAll enc Try.prog W 0 (fun _ => true) true Try.f13.params.toList args.toList ds p := hA0
  obtain ⟨rfl, rfl⟩ := trodVars_none hV
  simp only [List.append_nil] at hW'
  have hlt : ∀ x ∈ p, x.block < W.heap.size := fun x hx => by simpa using hW'.lt x hx
  have hAk := hA
  have hsz2 : (DataW.weightsEach Try.prog (Try.f13.params.toList ++ []) (ds ++ [])).all (· ≤ reachBytes) = true := hsz
  rw [Try.params13] at hA hval hsz2
  obtain ⟨v0, v1, v2, d0, d1, d2, p0, p1, p2, rfl, rfl, rfl, h0, h1, h2⟩ := trodAll_three hA
  obtain ⟨x0, cs0, hv0, ⟨A0_0, c0_0, rfl, s0_0⟩, w0⟩ := val_agg Try.underlying26 opn_26 (hval 0 26 v0 rfl rfl) h0 (slim_at (j := 0) hsz2 rfl rfl)
  obtain ⟨x1, hv1, w1⟩ := val_int Try.underlying5 (hval 1 5 v1 rfl rfl) h1
  obtain ⟨x2, hv2, w2⟩ := val_int Try.underlying5 (hval 2 5 v2 rfl rfl) h2
  subst hv0
  subst hv1
  subst hv2
  obtain ⟨K, hG⟩ := weedTurned_row x0 x1 x2 w1 w2
  refine (ret_calls (a13 K x0 x1 x2 A0_0 c0_0 ZA W s0_0 hG)).mono fun e W' ⟨v, he, hx, hv⟩ => ?_
  subst he
  subst hv
  exact ⟨_, rfl, post_of_ext (pa := (p0 ++ p1 ++ p2)) (pv := []) hW' (fun _ _ _ => trodAll_mk1 (shut_bool Try.underlying4 _)) (fun sp hs => args_read kidsT fullT (by rw [Try.params13]; decide) hAk hx hlt sp (fun x hx' => hs x (by simpa using hx'))) (fun _ _ => rfl) (by simp) hx (ok_one (by kernel_rfl) rfl (okWide_bool_mk Try.underlying4 _))⟩
theorem weedTurned_holds : Rows.WeedTurnedSaid :=
  OpenClaim.holds_of_wide 13 Try.f13 rfl rfl rfl rfl rfl rfl rfl ⟨rfl, rfl, rfl, rfl, rfl⟩ rfl rfl rfl rfl rfl (by kernel_rfl) Try.func13 (by kernel_rfl)
    (of_decide_eq_true (by kernel_rfl)) (by unfold Func.isWrapper; first | (rw [if_pos (by decide +kernel)]; kernel_rfl) | (rw [if_neg (by decide +kernel)]; exact ⟨rfl, rfl⟩))
    (fun os started H enc _ => weedTurned_lifted os started H enc)
end Go.Proofs.Ythogdgkafaclaaa
end
