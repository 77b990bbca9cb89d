import Derived.Test.YthogdgkafaclaaaBC5
import Derived.ProofKit
import Derived.ChangeSame
import Derived.Deep.Slices
import Derived.Test.YthogdgkafaclaaaProg
import Derived.Test.YthogdgkafaclaaaRows
/-
  Proved: the law WeedFirst returns true for every argument that the row hands over, and leaves every argument as it was; no condition beside the row's own.
-/
set_option linter.all false
section
namespace Go.Proofs.Ythogdgkafaclaaa
theorem bd {α β : Type} {x : Option α} {a : α} {f : α → Option β} (h : x = some a) : x.bind f = f a := by rw [h]; rfl
theorem i64b {β : Type} {x : Int} {f : Int → Option β} (h0 : -9223372036854775808 ≤ x) (h1 : x ≤ 9223372036854775807) : (i64 x).bind f = f x := bd (i64_eq h0 h1)
theorem idxb {α β : Type} {xs : List α} {k : Nat} {f : α → Option β} (h : k < xs.length) : (idx xs (k : Int)).bind f = f xs[k] := bd (idx_eq h)
theorem ifob {β : Type} {p : Prop} [Decidable p] {f : Unit → Option β} (h : p) : (ifo p).bind f = f () := bd (if_pos h)
theorem remb {β : Type} {a b : Int} {f : Int → Option β} (h0 : 0 ≤ a) (h1 : 1 ≤ b) : (rem a b).bind f = f (a % b) := bd (if_pos ⟨h0, h1⟩)
theorem ct {α : Type} {b : Bool} {x y : α} (h : b = true) : cond b x y = x := by rw [h]; rfl
theorem cf {α : Type} {b : Bool} {x y : α} (h : b = false) : cond b x y = y := by rw [h]; rfl
theorem nt {α : Type} {x y : α} : cond (!true) x y = y := rfl
theorem nf {α : Type} {x y : α} : cond (!false) x y = x := rfl
theorem dt {p : Prop} [Decidable p] (h : p) : decide p = true := decide_eq_true h
theorem df {p : Prop} [Decidable p] (h : ¬ p) : decide p = false := decide_eq_false h
theorem g_In (K : Nat) (n a b : Int) : G_In K n a b = some (inR n a b) := by unfold G_In inR; cases decide (a ≤ n) <;> rfl
theorem g_Within (K : Nat) (f : Fld) (lo hi : Int) : G_Within K (⟨lo, hi⟩ : Int × Int) 0 f.rows = some (rngOk f lo hi) := by
  unfold G_Within rngOk
  simp only []
  cases decide ((0 : Int) ≤ lo) <;> cases decide (lo ≤ hi) <;> rfl
/-- How often somebody stands in a part of a list. -/
def part (l : List Int) (who : Int) (fr n : Nat) : Nat := cnt who ((l.drop fr).take n)
theorem l_Many (f : Fld) (hw : 0 ≤ f.wd) (hw3 : f.wd ≤ 3) (hr : f.rows ≤ 7) : ∀ (n m i : Nat) (s : Int), f.rows = i + n → n < m → 0 ≤ s → s * (f.wd + 1) ^ n ≤ 1000000 → G_Many_L2 f m s (i : Int) = some (s * (f.wd + 1) ^ n)
  | n, 0, i, s, h, hm, _, _ => by omega
  | 0, m + 1, i, s, h, hm, h0, h1 => by
    unfold G_Many_L2
    rw [cf (df (by omega))]
    simp
  | n + 1, m + 1, i, s, h, hm, h0, h1 => by
    unfold G_Many_L2
    have hp : 1 ≤ (f.wd + 1) ^ n := by
      have h9 : 0 < (f.wd + 1) ^ n := Int.pow_pos (by omega)
      omega
    have hs : s * (f.wd + 1) * (f.wd + 1) ^ n ≤ 1000000 := by
      rw [Int.mul_assoc]; rw [Int.pow_succ, Int.mul_comm ((f.wd + 1) ^ n)] at h1; exact h1
    have h2 : 0 ≤ s * (f.wd + 1) := Int.mul_nonneg h0 (by omega)
    have h3 : s * (f.wd + 1) ≤ 1000000 := by
      have h4 := Int.mul_le_mul_of_nonneg_left hp h2
      omega
    rw [ct (dt (by omega)), i64b (by omega) (by omega), i64b (by omega) (by omega), i64b (by omega) (by omega)]
    have e : ((i : Int) + 1) = ((i + 1 : Nat) : Int) := by omega
    rw [e, l_Many f hw hw3 hr n m (i + 1) (s * (f.wd + 1)) (by omega) (by omega) h2 hs]
    rw [Int.mul_assoc, Int.pow_succ, Int.mul_comm ((f.wd + 1) ^ n)]
theorem g_Many {K : Nat} {f : Fld} (hK : 1000 ≤ K) (hw : 0 ≤ f.wd) (hw3 : f.wd ≤ 3) (hr0 : 0 ≤ f.rows) (hr : f.rows ≤ 7) : G_Many K f = some (many f) := by
  unfold G_Many
  have h := (pow_bd7 (f.wd + 1) (by omega) (by omega) f.rows.toNat (by omega)).2
  have := l_Many f hw hw3 hr f.rows.toNat K 0 1 (by omega) (by omega) (by omega) (by omega)
  rw [Int.natCast_zero] at this
  rw [this]
  simp [many]
theorem talOk_ref (f : Fld) (t : Tly) : talOk f t = (inR t.who 0 (f.wd - 1) && (inR t.fr 0 (f.rows - 1) && (inR t.to t.fr (f.rows - 1) && rngOk f t.lo t.hi))) := by
  rw [Bool.eq_iff_iff]
  unfold talOk
  simp only [Bool.and_eq_true, inR_iff, decide_eq_true_eq]
  constructor
  · rintro ⟨⟨⟨⟨h1, h2⟩, h3⟩, h4⟩, h5⟩; exact ⟨h1, h2, ⟨h4, h3.2⟩, h5⟩
  · rintro ⟨h1, h2, ⟨h3, h4⟩, h5⟩; exact ⟨⟨⟨⟨h1, h2⟩, by omega, h4⟩, h3⟩, h5⟩
theorem l_Fault (K : Nat) (f : Fld) (hr : 1 ≤ f.rows ∧ f.rows ≤ 7) (hw : 1 ≤ f.wd ∧ f.wd ≤ 3) (hl : f.ts.length ≤ 1000000) : ∀ (n m i : Nat), f.ts.length = i + n → n < m → G_Fault_L12 K f m (i : Int) = some (if (f.ts.drop i).all (talOk f) = true then .inr () else .inl 1)
  | n, 0, i, h, hm => by omega
  | 0, m + 1, i, h, hm => by
    unfold G_Fault_L12
    rw [cf (df (by omega)), List.drop_eq_nil_of_le (by omega)]
    rfl
  | n + 1, m + 1, i, h, hm => by
    unfold G_Fault_L12
    have hi : i < f.ts.length := by omega
    rw [ct (dt (by omega)), idxb hi, i64b (by omega) (by omega), bd (g_In ..), List.drop_eq_getElem_cons hi, List.all_cons, talOk_ref]
    cases h1 : inR f.ts[i].who 0 (f.wd - 1) with
    | false => rfl
    | true =>
      rw [nt, i64b (by omega) (by omega), bd (g_In ..)]
      cases h2 : inR f.ts[i].fr 0 (f.rows - 1) with
      | false => rfl
      | true =>
        rw [nt, i64b (by omega) (by omega), bd (g_In ..)]
        cases h3 : inR f.ts[i].to f.ts[i].fr (f.rows - 1) with
        | false => rfl
        | true =>
          rw [nt, bd (g_Within ..)]
          cases h4 : rngOk f f.ts[i].lo f.ts[i].hi with
          | false => rfl
          | true =>
            have e : ((i : Int) + 1) = ((i + 1 : Nat) : Int) := by omega
            rw [nt, i64b (by omega) (by omega), e, l_Fault K f hr hw hl n m (i + 1) (by omega) (by omega)]
            rfl
theorem g_Fault {K : Nat} {f : Fld} (hK : 1000 ≤ K) : G_Fault K f = some (check f) := by
  unfold G_Fault check
  by_cases hb : big f = true
  · rw [if_pos hb]
    simp only [big, Bool.or_eq_true, decide_eq_true_eq] at hb
    by_cases h1 : 7 < f.rows
    · rw [ct (dt h1)]
    · rw [cf (df h1)]
      by_cases h2 : 3 < f.wd
      · rw [ct (dt h2)]
      · rw [cf (df h2), ct (dt (by omega))]
  · rw [if_neg hb]
    simp only [big, Bool.or_eq_true, decide_eq_true_eq, not_or] at hb
    rw [cf (df hb.1), cf (df hb.2.1), cf (df hb.2.2)]
    by_cases hr : f.rows < 1
    · rw [ct (dt hr), if_pos (by simp [bad, hr])]
    · by_cases hw : f.wd < 1
      · rw [cf (df hr), ct (dt hw), if_pos (by simp [bad, hw])]
      · rw [cf (df hr), cf (df hw), bd (g_Within ..)]
        have hbad : bad f = (!rngOk f f.lo f.hi || !f.ts.all (talOk f)) := by simp [bad, hr, hw]
        rw [hbad]
        cases h3 : rngOk f f.lo f.hi with
        | false => rfl
        | true =>
          have := l_Fault K f ⟨by omega, by omega⟩ ⟨by omega, by omega⟩ (by omega) f.ts.length K 0 (by omega) (by omega)
          rw [Int.natCast_zero] at this
          rw [nt, bd this, List.drop_zero]
          cases h4 : f.ts.all (talOk f) with
          | false => rfl
          | true =>
            rw [if_pos rfl, if_neg (by decide)]
            show (G_Many K f).bind _ = _
            rw [bd (g_Many hK (by omega) (by omega) (by omega) (by omega))]
            by_cases h5 : 2500 < many f
            · rw [ct (dt h5), if_pos h5]
            · rw [cf (df h5), if_neg h5]
theorem g_fault {K : Nat} {f : Fld} (hK : 1000 ≤ K) : G_fault K f = some (check f) := by unfold G_fault; rw [bd (g_Fault hK)]
/-- The fields that the laws go through. -/
def thin (f : Fld) : Bool := decide (f.ts.length ≤ 7) && (decide (check f ≠ 0) || decide (many f ≤ 250))
theorem g_Thin {K : Nat} {f : Fld} (hK : 1000 ≤ K) : G_Thin K f = some (thin f) := by
  unfold G_Thin thin
  by_cases h1 : f.ts.length ≤ 7
  · rw [ct (dt (by omega)), bd (g_Fault hK)]
    by_cases h2 : check f = 0
    · obtain ⟨hr, hw, _⟩ := check_ok h2
      rw [cf (by simp [h2]), bd (g_Many hK (by omega) (by omega) (by omega) (by omega))]
      simp [h1, h2]
    · rw [ct (by simp [h2])]
      simp [h1, h2]
  · rw [cf (df (by omega))]
    simp [h1]
theorem thin_len {f : Fld} (h : thin f = true) : f.ts.length ≤ 7 := by
  simp only [thin, Bool.and_eq_true, decide_eq_true_eq] at h; exact h.1
theorem g_to (K : Nat) (r : Int × Int) : G_to K r = some r := rfl
theorem l_Field (K : Nat) (f : Fld) (hl : f.ts.length ≤ 7) : ∀ (n m i : Nat), f.ts.length = i + n → n < m → G_Field_L7 K f m (i : Int) (f.ts.take i) = some f.ts
  | n, 0, i, h, hm => by omega
  | 0, m + 1, i, h, hm => by
    unfold G_Field_L7
    rw [cf (df (by omega)), List.take_of_length_le (by omega)]
  | n + 1, m + 1, i, h, hm => by
    unfold G_Field_L7
    have hi : i < f.ts.length := by omega
    have e : ((i : Int) + 1) = ((i + 1 : Nat) : Int) := by omega
    rw [ct (dt (by omega)), idxb hi, bd (g_to ..), ifob (by simp; omega), i64b (by omega) (by omega), e]
    have ht : f.ts.take i ++ [(⟨f.ts[i].who, f.ts[i].fr, f.ts[i].to, f.ts[i].lo, f.ts[i].hi⟩ : Tly)] = f.ts.take (i + 1) := (List.take_succ_eq_append_getElem hi).symm
    show G_Field_L7 K f m ((i + 1 : Nat) : Int) (f.ts.take i ++ [(⟨f.ts[i].who, f.ts[i].fr, f.ts[i].to, f.ts[i].lo, f.ts[i].hi⟩ : Tly)]) = _
    rw [ht, l_Field K f hl n m (i + 1) (by omega) (by omega)]
theorem g_Field {K : Nat} {f : Fld} (hK : 1000 ≤ K) (hl : f.ts.length ≤ 7) : G_Field K f = some f := by
  unfold G_Field
  have := l_Field K f hl f.ts.length K 0 (by omega) (by omega)
  rw [Int.natCast_zero, List.take_zero] at this
  rw [bd (g_to ..), bd this]
/-- All tallies but none. -/
theorem allAt_nil (l : List Int) : ∀ (ts : List Tly) (i : Nat), allAt l [] i ts = ts.all fun t => inR (didK l [t.who, t.fr, t.to]) t.lo t.hi
  | [], _ => rfl
  | t :: ts, i => by
    rw [allAt, allAt_nil l ts (i + 1), List.all_cons]
    rfl
/-- Somebody's rows in a tally's stretch. -/
def tdid (l : List Int) (t : Tly) : Int := (part l t.who t.fr.toNat (t.to + 1 - t.fr).toNat : Nat)
theorem didK_part (l : List Int) (t : Tly) (h : 0 ≤ t.fr ∧ t.fr ≤ t.to) : didK l [t.who, t.fr, t.to] = tdid l t := by
  unfold didK tdid part
  have : (t.to + 1).toNat - t.fr.toNat = (t.to + 1 - t.fr).toNat := by omega
  simp only [this]
theorem part_pad (l : List Int) (who : Int) (fr n : Nat) (h : fr + n ≤ l.length) : part (pad l) who fr n = part l who fr n := by
  unfold part pad
  rw [List.drop_append_of_le_length (by omega), List.take_append_of_le_length (by simp; omega)]
theorem tdid_pad (f : Fld) (l : List Int) (t : Tly) (hl : (l.length : Int) = f.rows) (h : talOk f t = true) : tdid (pad l) t = tdid l t := by
  have := talOk_bd h
  unfold tdid
  rw [part_pad _ _ _ _ (by omega)]
/-- What the reference calls allowed, and a truth. -/
def alw (f : Fld) (l : List Int) : Bool := l.all (okWho f) && (decide ((l.length : Int) = f.rows) && inR ((part l (-1) 0 l.length : Nat) : Int) f.lo f.hi)
def tru (f : Fld) (l : List Int) : Bool := alw f l && f.ts.all fun t => inR (tdid l t) t.lo t.hi
theorem okWho_in (f : Fld) (n : Int) (hw : 1 ≤ f.wd) : okWho f n = inR n (-1) (f.wd - 1) := by
  rw [Bool.eq_iff_iff]
  simp only [okWho, Bool.or_eq_true, beq_iff_eq, inR_iff]
  omega
end Go.Proofs.Ythogdgkafaclaaa
end
section
namespace Go.Proofs.Ythogdgkafaclaaa
/-- The i-th list of so many numbers. -/
def nthL (b : Int) : Nat → Int → List Int
  | 0, _ => []
  | n + 1, i => (i % b - 1) :: nthL b n (i / b)
theorem nthL_surj (b : Int) (hb : 1 ≤ b) : ∀ (l : List Int), (∀ x ∈ l, -1 ≤ x ∧ x ≤ b - 2) → ∃ i : Nat, (i : Int) < b ^ l.length ∧ nthL b l.length i = l
  | [], _ => ⟨0, by simp, rfl⟩
  | x :: l, h => by
    obtain ⟨i, hi, he⟩ := nthL_surj b hb l fun y hy => h y (List.mem_cons_of_mem _ hy)
    have hx := h x (List.mem_cons_self ..)
    have h0 : 0 ≤ (x + 1) + b * (i : Int) := by
      have : 0 ≤ b * (i : Int) := Int.mul_nonneg (by omega) (by omega)
      omega
    refine ⟨((x + 1) + b * (i : Int)).toNat, ?_, ?_⟩
    · have h2 : b ^ (l.length + 1) = b * b ^ l.length := by rw [Int.pow_succ, Int.mul_comm]
      rw [Int.toNat_of_nonneg h0, List.length_cons, h2]
      have h1 : b * ((i : Int) + 1) ≤ b * b ^ l.length := Int.mul_le_mul_of_nonneg_left (by omega) (by omega)
      rw [Int.mul_add, Int.mul_one] at h1
      omega
    · rw [Int.toNat_of_nonneg h0]
      simp only [List.length_cons, nthL]
      rw [Int.add_mul_emod_self_left, Int.add_mul_ediv_left _ _ (by omega), Int.emod_eq_of_lt (by omega) (by omega), Int.ediv_eq_zero_of_lt (by omega) (by omega), Int.zero_add, he]
      congr 1
      omega
/-- The reference's truths. -/
def refs (f : Fld) : List (List Int) := ((List.range (many f).toNat).map fun i : Nat => nthL (f.wd + 1) f.rows.toNat (i : Int)).filter (tru f)
theorem many_nn {f : Fld} (hc : check f = 0) : 0 ≤ many f := by
  obtain ⟨hr, hw, _⟩ := check_ok hc
  exact (pow_bd7 (f.wd + 1) (by omega) (by omega) f.rows.toNat (by omega)).1
theorem tru_alw {f : Fld} {l : List Int} (h : tru f l = true) : (∀ x ∈ l, okWho f x = true) ∧ (l.length : Int) = f.rows ∧ inR ((part l (-1) 0 l.length : Nat) : Int) f.lo f.hi = true := by
  simp only [tru, alw, Bool.and_eq_true, decide_eq_true_eq, List.all_eq_true] at h
  exact ⟨h.1.1, h.1.2.1, h.1.2.2⟩
theorem mem_refs {f : Fld} (hc : check f = 0) {l : List Int} : l ∈ refs f ↔ tru f l = true := by
  obtain ⟨hr, hw, _⟩ := check_ok hc
  unfold refs
  rw [List.mem_filter]
  constructor
  · exact fun h => h.2
  · intro h
    refine ⟨?_, h⟩
    obtain ⟨h1, h2, _⟩ := tru_alw h
    obtain ⟨i, hi, he⟩ := nthL_surj (f.wd + 1) (by omega) l fun x hx => by
      have := h1 x hx
      rw [okWho_in f x hw.1, inR_iff] at this
      omega
    have hl : f.rows.toNat = l.length := by omega
    rw [List.mem_map]
    refine ⟨i, ?_, by rw [hl]; exact he⟩
    have h0 := many_nn hc
    have hm : many f = (f.wd + 1) ^ l.length := by unfold many; rw [hl]
    rw [List.mem_range]
    omega
theorem mem_whos {wd x : Int} (hw : 0 ≤ wd) : x ∈ whos wd ↔ -1 ≤ x ∧ x ≤ wd - 1 := by
  simp only [whos, List.mem_map, List.mem_range]
  constructor
  · rintro ⟨j, hj, rfl⟩; omega
  · intro h; exact ⟨(x + 1).toNat, by omega, by omega⟩
theorem mem_enum (p : List Int → Bool) (wd : Int) : ∀ (k : Nat) (pre a : List Int), a ∈ enum p wd k pre ↔ ∃ t : List Int, t.length = k ∧ (∀ x ∈ t, x ∈ whos wd) ∧ p (pad (pre ++ t)) = true ∧ a = pad (pre ++ t)
  | 0, pre, a => by
    unfold enum
    constructor
    · intro h
      split at h
      · rename_i hp
        exact ⟨[], rfl, by simp, by simpa using hp, by simpa using h⟩
      · cases h
    · rintro ⟨t, ht, _, hp, rfl⟩
      obtain rfl := List.length_eq_zero_iff.1 ht
      rw [List.append_nil] at hp ⊢
      rw [if_pos hp]; simp
  | k + 1, pre, a => by
    simp only [enum, List.mem_flatMap]
    constructor
    · rintro ⟨x, hx, h⟩
      obtain ⟨t, h1, h2, h3, h4⟩ := (mem_enum p wd k _ a).1 h
      rw [List.append_assoc, List.singleton_append] at h3 h4
      exact ⟨x :: t, by simp [h1], by simpa using ⟨hx, h2⟩, h3, h4⟩
    · rintro ⟨t, h1, h2, h3, h4⟩
      cases t with
      | nil => simp at h1
      | cons x t =>
        refine ⟨x, h2 x (List.mem_cons_self ..), (mem_enum p wd k _ a).2 ⟨t, by simpa using h1, fun y hy => h2 y (List.mem_cons_of_mem _ hy), ?_, ?_⟩⟩
        · rw [List.append_assoc, List.singleton_append]; exact h3
        · rw [List.append_assoc, List.singleton_append]; exact h4
theorem all_congr {α : Type} {p q : α → Bool} : ∀ {l : List α}, (∀ x ∈ l, p x = q x) → l.all p = l.all q
  | [], _ => rfl
  | a :: l, h => by rw [List.all_cons, List.all_cons, h a (List.mem_cons_self ..), all_congr fun x hx => h x (List.mem_cons_of_mem _ hx)]
theorem right_tru {f : Fld} {l : List Int} (ht : ∀ t ∈ f.ts, talOk f t = true) (hl : (l.length : Int) = f.rows) : rightB f (pad l) [] = (f.ts.all (fun t => inR (tdid l t) t.lo t.hi) && inR ((part l (-1) 0 l.length : Nat) : Int) f.lo f.hi) := by
  unfold rightB
  rw [allAt_nil]
  congr 1
  · refine all_congr fun t h => ?_
    have h1 := talOk_bd (ht t h)
    rw [didK_part _ _ ⟨h1.2.1.1, h1.2.1.2.1⟩, tdid_pad f l t hl (ht t h)]
  · have h2 : f.rows.toNat = l.length := by omega
    have h3 : (pad l).take f.rows.toNat = l.take l.length := by
      unfold pad; rw [h2, List.take_append_of_le_length (Nat.le_refl _)]
    rw [h3]
    unfold part
    rw [List.drop_zero]
theorem mem_truths {f : Fld} (hc : check f = 0) {a : List Int} : a ∈ truths f [] ↔ ∃ l, l ∈ refs f ∧ a = pad l := by
  obtain ⟨hr, hw, _, ht, _⟩ := check_ok hc
  unfold truths
  rw [mem_enum]
  constructor
  · rintro ⟨t, h1, h2, h3, h4⟩
    rw [List.nil_append] at h3 h4
    refine ⟨t, (mem_refs hc).2 ?_, h4⟩
    have hl : (t.length : Int) = f.rows := by omega
    have h3' : rightB f (pad t) [] = true := h3
    rw [right_tru ht hl, Bool.and_eq_true] at h3'
    have h5 : t.all (okWho f) = true := by
      rw [List.all_eq_true]
      intro x hx
      rw [okWho_in f x hw.1, inR_iff]
      have := (mem_whos (by omega)).1 (h2 x hx)
      omega
    unfold tru alw
    rw [h5, h3'.1, h3'.2]
    simp [hl]
  · rintro ⟨l, h, rfl⟩
    have h1 := (mem_refs hc).1 h
    obtain ⟨h2, h3, h4⟩ := tru_alw h1
    refine ⟨l, by omega, fun x hx => ?_, ?_, by simp⟩
    · rw [mem_whos (by omega)]
      have := h2 x hx
      rw [okWho_in f x hw.1, inR_iff] at this
      omega
    · rw [List.nil_append]
      show rightB f (pad l) [] = true
      rw [right_tru ht h3, h4]
      simp only [tru, Bool.and_eq_true] at h1
      rw [h1.2]; rfl
theorem truths_nil {f : Fld} (hc : check f = 0) : truths f [] = [] ↔ refs f = [] := by
  constructor
  · intro h
    rw [List.eq_nil_iff_forall_not_mem] at h ⊢
    exact fun l hl => h (pad l) ((mem_truths hc).2 ⟨l, hl, rfl⟩)
  · intro h
    rw [List.eq_nil_iff_forall_not_mem] at h ⊢
    rintro a ha
    obtain ⟨l, hl, _⟩ := (mem_truths hc).1 ha
    exact h l hl
/-- The error that comes with a question. -/
def sureE (f : Fld) : Int := if check f ≠ 0 then check f else if refs f = [] then 11 else 0
theorem askE_true (f : Fld) : askE f true = sureE f := by
  unfold askE sureE
  by_cases hc : check f = 0
  · simp only [hc, ne_eq, not_true_eq_false, if_false]
    by_cases h : refs f = []
    · rw [if_neg (by decide), if_pos h, if_pos ((truths_nil hc).2 h)]
    · rw [if_neg (by decide), if_neg h, if_neg (fun e => h ((truths_nil hc).1 e))]
  · rw [if_pos hc, if_pos hc]
end Go.Proofs.Ythogdgkafaclaaa
end
section
namespace Go.Proofs.Ythogdgkafaclaaa
theorem sorted_ext : ∀ {l m : List Int}, l.Pairwise (· < ·) → m.Pairwise (· < ·) → (∀ x, x ∈ l ↔ x ∈ m) → l = m
  | [], [], _, _, _ => rfl
  | [], b :: m, _, _, h => by have := (h b).2 (List.mem_cons_self ..); cases this
  | a :: l, [], _, _, h => by have := (h a).1 (List.mem_cons_self ..); cases this
  | a :: l, b :: m, h1, h2, h => by
    rw [List.pairwise_cons] at h1 h2
    have hab : a = b := by
      rcases List.mem_cons.1 ((h a).1 (List.mem_cons_self ..)) with e | e
      · exact e
      · rcases List.mem_cons.1 ((h b).2 (List.mem_cons_self ..)) with e2 | e2
        · exact e2.symm
        · have := h1.1 b e2; have := h2.1 a e; omega
    subst hab
    congr 1
    refine sorted_ext h1.2 h2.2 fun x => ⟨fun hx => ?_, fun hx => ?_⟩
    · rcases List.mem_cons.1 ((h x).1 (List.mem_cons_of_mem _ hx)) with e | e
      · have := h1.1 x hx; omega
      · exact e
    · rcases List.mem_cons.1 ((h x).2 (List.mem_cons_of_mem _ hx)) with e | e
      · have := h2.1 x hx; omega
      · exact e
theorem getI {zs : List Int} {m : Nat} (h : m < zs.length) : zs.toArray[m]! = zs[m] := by
  rw [getElem!_pos zs.toArray m (by simpa using h)]; simp
theorem compact_inv {zs : List Int} (hs : zs.Pairwise (· ≤ ·)) : ∀ m, m ≤ zs.length → (Lib.compactUpTo zs.toArray m).Pairwise (· < ·) ∧ ∀ x, x ∈ Lib.compactUpTo zs.toArray m ↔ x ∈ zs.take m
  | 0, _ => by simp [Lib.compactUpTo]
  | m + 1, h => by
    obtain ⟨h1, h2⟩ := compact_inv hs m (by omega)
    have hm : m < zs.length := by omega
    rw [Lib.compactUpTo_succ, List.take_succ_eq_append_getElem hm, getI hm]
    have hle : ∀ x ∈ zs.take m, x ≤ zs[m] := fun x hx => by
      obtain ⟨i, hi, rfl⟩ := List.mem_iff_getElem.1 hx
      rw [List.getElem_take]
      simp at hi
      exact (List.pairwise_iff_getElem.1 hs) i m _ hm (by omega)
    by_cases hk : Lib.keeps zs.toArray m = true
    · rw [if_pos hk]
      refine ⟨?_, fun x => by rw [List.mem_append, List.mem_append, h2]⟩
      rw [List.pairwise_append]
      refine ⟨h1, by simp, fun x hx y hy => ?_⟩
      obtain rfl : y = zs[m] := by simpa using hy
      have hx2 := (h2 x).1 hx
      have hx3 := hle x hx2
      simp only [Lib.keeps, decide_eq_true_eq] at hk
      rcases hk with rfl | hk
      · simp at hx2
      · have hm1 : 0 < m := by
          rcases Nat.eq_zero_or_pos m with rfl | h0
          · simp at hx2
          · exact h0
        rw [getI hm, getI (by omega : m - 1 < zs.length)] at hk
        obtain ⟨i, hi, rfl⟩ := List.mem_iff_getElem.1 hx2
        rw [List.getElem_take] at hx3 ⊢
        simp at hi
        have h5 : zs[m - 1] ≤ zs[m] := (List.pairwise_iff_getElem.1 hs) (m - 1) m _ hm (by omega)
        have h4 : zs[i] ≤ zs[m - 1] := by
          by_cases e : i = m - 1
          · subst e; exact Int.le_refl _
          · exact (List.pairwise_iff_getElem.1 hs) i (m - 1) _ _ (by omega)
        have h6 : zs[m] ≠ zs[m - 1] := hk
        show zs[i] < zs[m]
        omega
    · rw [if_neg hk, List.append_nil]
      refine ⟨h1, fun x => ?_⟩
      rw [h2]
      have hk2 : ¬ (m = 0 ∨ zs.toArray[m]! ≠ zs.toArray[m - 1]!) := by simpa [Lib.keeps] using hk
      have hm1 : 0 < m := by
        rcases Nat.eq_zero_or_pos m with rfl | h0
        · exact absurd (.inl rfl) hk2
        · exact h0
      have he : zs.toArray[m]! = zs.toArray[m - 1]! := Decidable.byContradiction fun e => hk2 (.inr e)
      rw [getI hm, getI (by omega : m - 1 < zs.length)] at he
      have hin : zs[m] ∈ zs.take m := by
        rw [he, List.mem_iff_getElem]
        exact ⟨m - 1, by simp; omega, by simp⟩
      simp only [List.mem_append, List.mem_singleton]
      exact ⟨.inl, fun h => h.elim id fun e => e ▸ hin⟩
theorem whos_sorted (wd : Int) : (whos wd).Pairwise (· < ·) := by
  unfold whos
  rw [List.pairwise_map]
  exact List.pairwise_lt_range.imp fun h => by omega
/-- Who stands in a row of some lists. -/
def whoS (wd : Int) (T : List (List Int)) (row : Nat) : List Int := (whos wd).filter fun x => T.any fun a => a.getD row 0 == x
theorem whoF_eq {wd : Int} {T : List (List Int)} {row : Int} (hw : 0 ≤ wd) (hb : ∀ a ∈ T, -1 ≤ a.getD row.toNat 0 ∧ a.getD row.toNat 0 ≤ wd - 1) : whoF T row = whoS wd T row.toNat := by
  unfold whoF
  have hs : ((T.map fun a : List Int => a.getD row.toNat 0).mergeSort fun x y => decide (x ≤ y)).Pairwise (· ≤ ·) := by
    have := List.pairwise_mergeSort (le := fun x y : Int => decide (x ≤ y)) (fun a b c h1 h2 => by simp at *; omega) (fun a b => by simp; omega) (T.map fun a : List Int => a.getD row.toNat 0)
    exact this.imp fun h => by simpa using h
  obtain ⟨h1, h2⟩ := compact_inv hs _ (Nat.le_refl _)
  refine sorted_ext h1 ((whos_sorted wd).filter _) fun x => ?_
  rw [show Lib.compact ((T.map fun a : List Int => a.getD row.toNat 0).mergeSort fun x y => decide (x ≤ y)) = Lib.compactUpTo ((T.map fun a : List Int => a.getD row.toNat 0).mergeSort fun x y => decide (x ≤ y)).toArray ((T.map fun a : List Int => a.getD row.toNat 0).mergeSort fun x y => decide (x ≤ y)).length from rfl, h2, List.take_length, List.mem_mergeSort]
  unfold whoS
  simp only [List.mem_map, List.mem_filter, mem_whos hw, List.any_eq_true, beq_iff_eq]
  constructor
  · rintro ⟨a, ha, rfl⟩; exact ⟨hb a ha, a, ha, rfl⟩
  · rintro ⟨_, a, ha, e⟩; exact ⟨a, ha, e⟩
def f4 : Fld := ⟨4, 2, 0, 0, [⟨0, 0, 2, 2, 3⟩, ⟨1, 2, 3, 1, 2⟩]⟩
def f5 : Fld := ⟨4, 2, 0, 0, [⟨0, 0, 2, 2, 3⟩, ⟨1, 2, 3, 1, 2⟩, ⟨0, 0, 1, 2, 2⟩]⟩
def f6 : Fld := ⟨4, 2, 0, 0, [⟨0, 0, 2, 2, 3⟩, ⟨1, 2, 3, 1, 2⟩, ⟨1, 0, 1, 2, 2⟩]⟩
theorem who4 : whoF (truths f4 []) 3 = [0, 1] := by
  rw [whoF_eq (wd := 2) (by omega) (by decide +kernel)]
  decide +kernel
theorem awake_1000 : G_awake 1000 = some true := by
  unfold G_awake
  rw [bd (show G_four 1000 [] = some f4 from rfl), bd (show Q_Done 1000 f4 = some ([(2, 3), (1, 2)], 0) by decide +kernel), bd (show G_four 1000 [] = some f4 from rfl)]
  rw [bd (show Q_Who 1000 f4 3 = some ([0, 1], 0) by unfold Q_Who; rw [who4]; decide +kernel)]
  rw [bd (show G_two 1000 = some ⟨0, 0, 1, 2, 2⟩ from rfl), bd (show G_four 1000 [⟨0, 0, 1, 2, 2⟩] = some f5 from rfl), bd (show Q_Ask 1000 f5 0 = some ([2, 3], 0) by decide +kernel), bd (show G_four 1000 [] = some f4 from rfl)]
  rw [bd (show Q_Next 1000 f4 0 = some (0, 3, 0) by decide +kernel), bd (show G_wrong 1000 = some ⟨1, 0, 1, 2, 2⟩ from rfl), bd (show G_four 1000 [⟨1, 0, 1, 2, 2⟩] = some f6 from rfl), bd (show Q_First 1000 f6 = some (2, 0) by decide +kernel)]
  rw [bd (show G_wrong 1000 = some ⟨1, 0, 1, 2, 2⟩ from rfl), bd (show G_four 1000 [⟨1, 0, 1, 2, 2⟩] = some f6 from rfl), bd (show Q_Leave 1000 f6 = some ([0], 0) by decide +kernel)]
  decide +kernel
end Go.Proofs.Ythogdgkafaclaaa
end
section
namespace Go.Proofs.Ythogdgkafaclaaa
theorem cvU {β : Type} {f : Unit → Option β} {x : Nat} (h : x < 64) : (cvO .u64 (x : Int)).bind f = f () := bd (by
  have : ∀ x : Nat, x < 64 → cvO .u64 (x : Int) = some () := by decide +kernel
  exact this x h)
theorem shrb {β : Type} {f : Unit → Option β} {a : Int} {x : Nat} (h : x < 64) : (shrO a (x : Int)).bind f = f () := bd (if_pos ⟨by omega, by omega⟩)
theorem shr_nat (s x : Nat) : shrI (s : Int) (x : Int) = ((s / 2 ^ x : Nat) : Int) := by
  unfold shrI
  rw [show (x : Int).toNat = x by omega]
  simp
theorem shr_odd (s x : Nat) : shrI (s : Int) (x : Int) % 2 = ((s / 2 ^ x % 2 : Nat) : Int) := by rw [shr_nat]; simp
theorem gd0 {l : List Int} {i : Nat} (h : i < l.length) : l[i] = l.getD i 0 := by simp [List.getElem?_eq_getElem h]
end Go.Proofs.Ythogdgkafaclaaa
end
section
namespace Go.Proofs.Ythogdgkafaclaaa
theorem allAt_iff (l out : List Int) : ∀ (ts : List Tly) (i : Nat), allAt l out i ts = true ↔ ∀ k t, ts[k]? = some t → okAt l out (i + k) t = true
  | [], i => by simp [allAt]
  | s :: ts, i => by
    rw [allAt, Bool.and_eq_true, allAt_iff l out ts (i + 1)]
    constructor
    · rintro ⟨h1, h2⟩ k t hk
      cases k with
      | zero =>
        obtain rfl : s = t := by simpa using hk
        simpa using h1
      | succ k =>
        have := h2 k t (by simpa using hk)
        rw [show i + (k + 1) = i + 1 + k by omega]; exact this
    · intro h
      exact ⟨by simpa using h 0 s rfl, fun k t hk => by
        have := h (k + 1) t (by simpa using hk)
        rw [show i + 1 + k = i + (k + 1) by omega]; exact this⟩
/-- A tally is right in a list. -/
def rt (l : List Int) (t : Tly) : Bool := inR (tdid l t) t.lo t.hi
theorem mem_truthsO {f : Fld} (hc : check f = 0) {out a : List Int} : a ∈ truths f out ↔ ∃ l, alw f l = true ∧ (∀ (k : Nat) t, f.ts[k]? = some t → out.contains (k : Int) = true ∨ rt l t = true) ∧ a = pad l := by
  obtain ⟨hr, hw, _, ht, _⟩ := check_ok hc
  have key : ∀ l : List Int, (l.length : Int) = f.rows → (rightB f (pad l) out = true ↔ inR ((part l (-1) 0 l.length : Nat) : Int) f.lo f.hi = true ∧ ∀ (k : Nat) t, f.ts[k]? = some t → out.contains (k : Int) = true ∨ rt l t = true) := by
    intro l hl
    unfold rightB
    rw [Bool.and_eq_true, allAt_iff]
    have h3 : (pad l).take f.rows.toNat = l.take l.length := by
      unfold pad; rw [show f.rows.toNat = l.length by omega, List.take_append_of_le_length (Nat.le_refl _)]
    rw [h3]
    have hp : part l (-1) 0 l.length = cnt (-1) (l.take l.length) := by unfold part; rw [List.drop_zero]
    rw [hp, and_comm]
    refine and_congr Iff.rfl ⟨fun h k t hk => ?_, fun h k t hk => ?_⟩
    · have h2 := h k t hk
      have h4 := talOk_bd (ht t (List.mem_of_getElem? hk))
      unfold okAt at h2
      rw [Bool.or_eq_true, didK_part _ _ ⟨h4.2.1.1, h4.2.1.2.1⟩, tdid_pad f l t hl (ht t (List.mem_of_getElem? hk)), Nat.zero_add] at h2
      exact h2
    · have h2 := h k t hk
      have h4 := talOk_bd (ht t (List.mem_of_getElem? hk))
      unfold okAt
      rw [Bool.or_eq_true, didK_part _ _ ⟨h4.2.1.1, h4.2.1.2.1⟩, tdid_pad f l t hl (ht t (List.mem_of_getElem? hk)), Nat.zero_add]
      exact h2
  have hall : ∀ l : List Int, l.all (okWho f) = true ↔ ∀ x ∈ l, x ∈ whos f.wd := fun l => by
    rw [List.all_eq_true]
    refine ⟨fun h x hx => ?_, fun h x hx => ?_⟩
    · have := h x hx
      rw [okWho_in f x hw.1, inR_iff] at this
      exact (mem_whos (by omega)).2 (by omega)
    · rw [okWho_in f x hw.1, inR_iff]
      have := (mem_whos (by omega)).1 (h x hx)
      omega
  unfold truths
  rw [mem_enum]
  constructor
  · rintro ⟨t, h1, h2, h3, h4⟩
    rw [List.nil_append] at h3 h4
    have hl : (t.length : Int) = f.rows := by omega
    obtain ⟨h5, h6⟩ := (key t hl).1 h3
    refine ⟨t, ?_, h6, h4⟩
    unfold alw
    rw [(hall t).2 h2, h5]
    simp [hl]
  · rintro ⟨l, h1, h2, rfl⟩
    simp only [alw, Bool.and_eq_true, decide_eq_true_eq] at h1
    refine ⟨l, by omega, (hall l).1 h1.1, ?_, by simp⟩
    rw [List.nil_append]
    exact (key l h1.2.1).2 ⟨h1.2.2, h2⟩
theorem truths_ne {f : Fld} (hc : check f = 0) {out : List Int} : truths f out ≠ [] ↔ ∃ l, alw f l = true ∧ ∀ (k : Nat) t, f.ts[k]? = some t → out.contains (k : Int) = true ∨ rt l t = true := by
  constructor
  · intro h
    obtain ⟨a, ha⟩ := List.exists_mem_of_ne_nil _ h
    obtain ⟨l, h1, h2, _⟩ := (mem_truthsO hc).1 ha
    exact ⟨l, h1, h2⟩
  · rintro ⟨l, h1, h2⟩ e
    have := (mem_truthsO hc (out := out) (a := pad l)).2 ⟨l, h1, h2, rfl⟩
    rw [e] at this
    cases this
/-- The field with other tallies. -/
theorem check_sub {f : Fld} (hc : check f = 0) {ts : List Tly} (h5 : ts.length ≤ 5) (ht : ∀ t ∈ ts, talOk f t = true) : check { f with ts := ts } = 0 := by
  obtain ⟨hr, hw, h6, ht2, hl, hm⟩ := check_ok hc
  unfold check
  rw [if_neg, if_neg, if_neg]
  · show ¬ 2500 < many f; omega
  · simp only [bad, Bool.or_eq_true, decide_eq_true_eq, Bool.not_eq_true', not_or, Bool.not_eq_false, List.all_eq_true]
    exact ⟨by omega, by omega, hl, ht⟩
  · simp only [big, Bool.or_eq_true, decide_eq_true_eq, not_or]
    omega
/-- Some list is allowed. -/
theorem alw_some {f : Fld} (hc : check f = 0) : ∃ l, alw f l = true := by
  obtain ⟨hr, hw, h6, ht2, hl, hm⟩ := check_ok hc
  simp only [rngOk, Bool.and_eq_true, decide_eq_true_eq] at hl
  refine ⟨List.replicate f.lo.toNat (-1) ++ List.replicate (f.rows - f.lo).toNat 0, ?_⟩
  have h1 : part (List.replicate f.lo.toNat (-1) ++ List.replicate (f.rows - f.lo).toNat 0) (-1) 0 (List.replicate f.lo.toNat (-1 : Int) ++ List.replicate (f.rows - f.lo).toNat 0).length = f.lo.toNat := by
    unfold part cnt
    rw [List.drop_zero, List.take_length, List.countP_append, List.countP_replicate, List.countP_replicate]
    simp
  unfold alw
  rw [h1]
  simp only [Bool.and_eq_true, decide_eq_true_eq, List.all_eq_true, inR_iff, List.length_append, List.length_replicate]
  refine ⟨fun x hx => ?_, by omega, by omega⟩
  rw [okWho_in f x hw.1, inR_iff]
  rcases List.mem_append.1 hx with h | h
  · have := (List.mem_replicate.1 h).2; omega
  · have := (List.mem_replicate.1 h).2; omega
end Go.Proofs.Ythogdgkafaclaaa
end
section
namespace Go.Proofs.Ythogdgkafaclaaa
/-- By so many questions c can be known of what is in S; g says what is answered. -/
def Qn (c : List Int → Int) (g : List Int → Nat → Int) (R : Nat) : Nat → (List Int → Prop) → Prop
  | 0, S => ∀ a b, S a → S b → c a = c b
  | m + 1, S => (∀ a b, S a → S b → c a = c b) ∨ ∃ r, r < R ∧ ∀ v, Qn c g R m (fun a => S a ∧ g a r = v)
section
variable {c : List Int → Int} {g : List Int → Nat → Int} {R : Nat} {S S' : List Int → Prop}
theorem Qn_all (hc : ∀ a b, S a → S b → (∀ r, r < R → g a r = g b r) → c a = c b) : Qn c g R R S := by
  have key : ∀ (k : Nat), k ≤ R → ∀ (S : List Int → Prop), (∀ a b, S a → S b → (∀ r, r < R → g a r = g b r) → c a = c b) → (∀ a b, S a → S b → ∀ r, k ≤ r → r < R → g a r = g b r) → Qn c g R k S := by
    intro k
    induction k with
    | zero => exact fun _ S h1 h2 a b ha hb => h1 a b ha hb fun r hr => h2 a b ha hb r (Nat.zero_le _) hr
    | succ k ih =>
      intro hk S h1 h2
      refine .inr ⟨k, by omega, fun v => ih (by omega) _ (fun a b ha hb => h1 a b ha.1 hb.1) fun a b ha hb r hr1 hr2 => ?_⟩
      rcases Nat.lt_or_ge k r with h | h
      · exact h2 a b ha.1 hb.1 r h hr2
      · obtain rfl : r = k := by omega
        rw [ha.2, hb.2]
  exact key R (Nat.le_refl _) S hc fun a b _ _ r h1 h2 => by omega
end
end Go.Proofs.Ythogdgkafaclaaa
end
section
namespace Go.Proofs.Ythogdgkafaclaaa
theorem tb (s i : Nat) : (s / 2 ^ i % 2 == 1) = s.testBit i := by rw [Nat.testBit_eq_decide_div_mod_eq]; rfl
def nT : Tly := ⟨0, 0, 0, 0, 0⟩
theorem gdT {ts : List Tly} {i : Nat} (h : i < ts.length) : ts[i] = ts.getD i nT := by simp [List.getElem?_eq_getElem h]
/-- Which tallies are right in a list, by bits. -/
def rbN (l : List Int) (ts : List Tly) : Nat → Nat
  | 0 => 0
  | i + 1 => if rt l (ts.getD i nT) = true then rbN l ts i ||| 2 ^ i else rbN l ts i
theorem rbN_lt (l : List Int) (ts : List Tly) : ∀ n, rbN l ts n < 2 ^ n
  | 0 => by simp [rbN]
  | n + 1 => by
    have h := rbN_lt l ts n
    have h2 : (2 : Nat) ^ n < 2 ^ (n + 1) := Nat.pow_lt_pow_right (by omega) (by omega)
    unfold rbN
    split
    · exact Nat.or_lt_two_pow (by omega) h2
    · omega
theorem rbN_bit (l : List Int) (ts : List Tly) : ∀ n x, x < n → (rbN l ts n).testBit x = rt l (ts.getD x nT)
  | 0, x, h => by omega
  | n + 1, x, h => by
    unfold rbN
    rcases Nat.lt_or_ge x n with h1 | h1
    · have ih := rbN_bit l ts n x h1
      split
      · rw [Nat.testBit_or, Nat.testBit_two_pow, ih, df (by omega), Bool.or_false]
      · exact ih
    · obtain rfl : x = n := by omega
      have h0 := Nat.testBit_lt_two_pow (rbN_lt l ts x)
      split
      · rename_i hr
        rw [Nat.testBit_or, Nat.testBit_two_pow, h0, hr, dt rfl]; rfl
      · rename_i hr
        rw [h0]; exact (Bool.eq_false_iff.2 hr).symm
theorem shl_all : ∀ r : Nat, r < 8 → shlO 1 (r : Int) = some () ∧ shlI 1 (r : Int) = ((2 ^ r : Nat) : Int) ∧ shlO 2 (r : Int) = some () ∧ shlI 2 (r : Int) - 1 = ((2 ^ (r + 1) - 1 : Nat) : Int) ∧ 2 ^ r ≤ 128 ∧ 2 ^ (r + 1) ≤ 256 ∧ 1 ≤ 2 ^ r := by decide +kernel
/-- All lists, by their numbers. -/
def lists (f : Fld) : List (List Int) := (List.range (many f).toNat).map fun i : Nat => nthL (f.wd + 1) f.rows.toNat (i : Int)
theorem mem_lists {f : Fld} (hc : check f = 0) {l : List Int} (h : alw f l = true) : l ∈ lists f := by
  obtain ⟨hr, hw, _⟩ := check_ok hc
  simp only [alw, Bool.and_eq_true, decide_eq_true_eq, List.all_eq_true] at h
  obtain ⟨i, hi, he⟩ := nthL_surj (f.wd + 1) (by omega) l fun x hx => by
    have := h.1 x hx
    rw [okWho_in f x hw.1, inR_iff] at this
    omega
  have hl : f.rows.toNat = l.length := by omega
  unfold lists
  rw [List.mem_map]
  refine ⟨i, ?_, by rw [hl]; exact he⟩
  have h0 := many_nn hc
  have hm : many f = (f.wd + 1) ^ l.length := by unfold many; rw [hl]
  rw [List.mem_range]
  omega
def allB (f : Fld) : List Nat := ((lists f).filter (alw f)).map fun l => rbN l f.ts f.ts.length
/-- Some tallies are right together. -/
def canB (f : Fld) (s : Nat) : Bool := (allB f).any fun x => x &&& s == s
theorem canB_iff {f : Fld} (hc : check f = 0) {s : Nat} (hs : s < 2 ^ f.ts.length) : canB f s = true ↔ ∃ l, alw f l = true ∧ ∀ (i : Nat) t, f.ts[i]? = some t → s.testBit i = false ∨ rt l t = true := by
  have key : ∀ l, (rbN l f.ts f.ts.length &&& s == s) = true ↔ ∀ (i : Nat) t, f.ts[i]? = some t → s.testBit i = false ∨ rt l t = true := fun l => by
    rw [beq_iff_eq]
    constructor
    · intro h i t hi
      obtain ⟨hlt, rfl⟩ := List.getElem?_eq_some_iff.1 hi
      have h1 := congrArg (Nat.testBit · i) h
      simp only [Nat.testBit_and, rbN_bit l f.ts _ i hlt, ← gdT hlt] at h1
      cases hb : s.testBit i with
      | false => exact .inl rfl
      | true => rw [hb, Bool.and_true] at h1; exact .inr h1
    · intro h
      refine Nat.eq_of_testBit_eq fun i => ?_
      rw [Nat.testBit_and]
      rcases Nat.lt_or_ge i f.ts.length with hi | hi
      · rw [rbN_bit l f.ts _ i hi, ← gdT hi]
        rcases h i _ (List.getElem?_eq_getElem hi) with h1 | h1
        · rw [h1, Bool.and_false]
        · rw [h1, Bool.true_and]
      · have : s.testBit i = false := Nat.testBit_lt_two_pow (Nat.lt_of_lt_of_le hs (Nat.pow_le_pow_right (by omega) hi))
        rw [this, Bool.and_false]
  unfold canB allB
  rw [List.any_map, List.any_eq_true]
  constructor
  · rintro ⟨l, hl, h⟩
    exact ⟨l, (List.mem_filter.1 hl).2, (key l).1 h⟩
  · rintro ⟨l, hl, h⟩
    exact ⟨l, List.mem_filter.2 ⟨mem_lists hc hl, hl⟩, (key l).2 h⟩
theorem alw_up (f : Fld) (k : Nat) (l : List Int) : alw (upF f k) l = alw f l := rfl
theorem check_up {f : Fld} (hc : check f = 0) (k : Nat) : check (upF f k) = 0 := by
  obtain ⟨hr, hw, h5, ht, _⟩ := check_ok hc
  exact check_sub hc (by simp; omega) fun t h => ht t (List.mem_of_mem_take h)
/-- The first so many tallies are right together. -/
theorem up_iff {f : Fld} (hc : check f = 0) (k : Nat) : truths (upF f k) [] ≠ [] ↔ ∃ l, alw f l = true ∧ ∀ (i : Nat) t, f.ts[i]? = some t → i < k → rt l t = true := by
  rw [truths_ne (check_up hc k)]
  refine exists_congr fun l => and_congr (by rw [alw_up]) (forall_congr' fun i => forall_congr' fun t => ?_)
  show ((f.ts.take k)[i]? = some t → _) ↔ _
  rw [List.getElem?_take]
  constructor
  · intro h hi hk
    rw [if_pos hk] at h
    rcases h hi with h1 | h1
    · simp at h1
    · exact h1
  · intro h hi
    split at hi
    · exact .inr (h hi ‹_›)
    · cases hi
theorem firstP_can {f : Fld} (hc : check f = 0) {i : Nat} (hi : i < f.ts.length) : firstP f i = !canB f (2 ^ (i + 1) - 1) := by
  have hlt : 2 ^ (i + 1) - 1 < 2 ^ f.ts.length := by
    have h1 : (2 : Nat) ^ (i + 1) ≤ 2 ^ f.ts.length := Nat.pow_le_pow_right (by omega) (by omega)
    have h2 : 1 ≤ 2 ^ (i + 1) := Nat.one_le_two_pow
    omega
  unfold firstP
  congr 1
  rw [Bool.eq_iff_iff, decide_eq_true_eq, up_iff hc, canB_iff hc hlt]
  refine exists_congr fun l => and_congr Iff.rfl (forall_congr' fun x => forall_congr' fun t => ⟨fun h hx => ?_, fun h hx hk => ?_⟩)
  · rw [Nat.testBit_two_pow_sub_one]
    rcases Nat.lt_or_ge x (i + 1) with h1 | h1
    · exact .inr (h hx h1)
    · exact .inl (df (by omega))
  · have := h hx
    rw [Nat.testBit_two_pow_sub_one, dt hk] at this
    rcases this with h1 | h1
    · cases h1
    · exact h1
end Go.Proofs.Ythogdgkafaclaaa
end
section
namespace Go.Proofs.Ythogdgkafaclaaa
/-- The reference's lists: their numbers, and what they say. -/
abbrev cR (who : Int) : List Int → Int := fun a => ((part a who 0 a.length : Nat) : Int)
abbrev gR : List Int → Nat → Int := fun a r => a.getD r 0
section
variable {f : Fld} {T : List (List Int)} {who : Int}
/-- What the lists at hand are. -/
def OkT (f : Fld) (T : List (List Int)) : Prop := T.length ≤ 250 ∧ ∀ a ∈ T, (a.length : Int) = f.rows ∧ ∀ r, r < f.rows.toNat → -1 ≤ a.getD r 0 ∧ a.getD r 0 ≤ f.wd - 1
theorem cR_ext {a b : List Int} (ha : (a.length : Int) = f.rows) (hb : (b.length : Int) = f.rows) (h : ∀ r, r < f.rows.toNat → gR a r = gR b r) : cR who a = cR who b := by
  have : a = b := by
    refine List.ext_getElem (by omega) fun i h1 h2 => ?_
    rw [gd0 h1, gd0 h2]; exact h i (by omega)
  rw [this]
theorem OkT.all (h : OkT f T) : Qn (cR who) gR f.rows.toNat f.rows.toNat (· ∈ T) := Qn_all fun a b ha hb hh => cR_ext (h.2 a ha).1 (h.2 b hb).1 hh
end
end Go.Proofs.Ythogdgkafaclaaa
end
section
namespace Go.Proofs.Ythogdgkafaclaaa
theorem g_ready (f : Fld) : G_ready 1000 f = some (thin f && check f == 0) := by
  unfold G_ready
  rw [bd (g_Thin (Nat.le_refl _))]
  cases thin f with
  | false => rfl
  | true => rw [ct rfl, bd (g_fault (Nat.le_refl _))]; rfl
theorem refs_nil {f : Fld} (hc : check f = 0) : sureE f = if refs f = [] then 11 else 0 := by unfold sureE; rw [if_neg (by simp [hc])]
end Go.Proofs.Ythogdgkafaclaaa
end
section
set_option linter.unusedVariables false
set_option linter.unusedSimpArgs false
namespace Go.Proofs.Ythogdgkafaclaaa
open Go.RowKit
def G_WeedFirst (K_ : Nat) (p0 : Fld) : Option (Bool) :=
  (G_ready K_ p0).bind fun r2 => cond (!r2) ((ifo (G_awake K_ = some true)).bind fun _ => some (true)) ((G_Field K_ p0).bind fun r9 => (Q_First K_ r9).bind fun r11 => cond (r11.2 != 0) ((G_Field K_ p0).bind fun r14 => (Q_Done K_ r14).bind fun r16 => cond (r11.2 == 7) (cond (r16.2 == 0) ((ifo (G_awake K_ = some true)).bind fun _ => some (true)) (some (false))) (some (false))) ((i64 ((p0.ts.length : Int) - 1)).bind fun _ => (G_In K_ r11.1 0 ((p0.ts.length : Int) - 1)).bind fun r23 => cond (!r23) (some (false)) ((cvO .u64 r11.1).bind fun _ => (shlO (1 : Int) r11.1).bind fun _ => (i64 ((shlI (1 : Int) r11.1) - 1)).bind fun _ => (G_some_ K_ p0 ((shlI (1 : Int) r11.1) - 1)).bind fun r31 => (G_Field K_ r31).bind fun r33 => (Q_Done K_ r33).bind fun r35 => (cvO .u64 r11.1).bind fun _ => (shlO (2 : Int) r11.1).bind fun _ => (i64 ((shlI (2 : Int) r11.1) - 1)).bind fun _ => (G_some_ K_ p0 ((shlI (2 : Int) r11.1) - 1)).bind fun r40 => (G_Field K_ r40).bind fun r42 => (Q_Done K_ r42).bind fun r44 => cond (r35.2 == 0) (cond (r44.2 == 11) ((ifo (G_awake K_ = some true)).bind fun _ => some (true)) (some (false))) (some (false)))))
end Go.Proofs.Ythogdgkafaclaaa
end
section
namespace Go.Proofs.Ythogdgkafaclaaa
/-- Some tallies, by bits. -/
def pickT (ts : List Tly) (s i n : Nat) : List Tly := (List.range' i n).filterMap fun x => if s.testBit x then ts[x]? else none
def someF (f : Fld) (s : Nat) : Fld := { f with ts := pickT f.ts s 0 f.ts.length }
theorem pickT_len (ts : List Tly) (s i n : Nat) : (pickT ts s i n).length ≤ n := by
  unfold pickT
  exact Nat.le_trans (List.length_filterMap_le _ _) (by simp)
theorem l_some (f : Fld) (s : Nat) (h5 : f.ts.length ≤ 7) : ∀ (n m i : Nat) (acc : List Tly), f.ts.length = i + n → n < m → acc.length ≤ i → G_some__L6 f (s : Int) m (i : Int) acc = some (acc ++ pickT f.ts s i n)
  | n, 0, i, acc, h, hm, _ => by omega
  | 0, m + 1, i, acc, h, hm, _ => by
    unfold G_some__L6
    rw [cf (df (by omega))]
    simp [pickT]
  | n + 1, m + 1, i, acc, h, hm, ha => by
    unfold G_some__L6
    have hi : i < f.ts.length := by omega
    have e : ((i : Int) + 1) = ((i + 1 : Nat) : Int) := by omega
    have h0 : 0 ≤ shrI (s : Int) (i : Int) := by rw [shr_nat]; exact Int.natCast_nonneg _
    have hp : pickT f.ts s i (n + 1) = (if s.testBit i then [f.ts[i]] else []) ++ pickT f.ts s (i + 1) n := by
      unfold pickT
      rw [List.range'_succ, List.filterMap_cons]
      cases s.testBit i <;> simp [List.getElem?_eq_getElem hi]
    rw [ct (dt (by omega)), cvU (by omega), shrb (by omega), remb h0 (by omega), shr_odd, hp]
    cases hb : s.testBit i with
    | true =>
      have : ((((s / 2 ^ i % 2 : Nat) : Int)) == 1) = true := by
        rw [← tb, beq_iff_eq] at hb
        rw [hb]; rfl
      rw [ct this, idxb hi, ifob (by simp; omega), i64b (by omega) (by omega), e, l_some f s h5 n m (i + 1) _ (by omega) (by omega) (by simp; omega)]
      simp
    | false =>
      have : ((((s / 2 ^ i % 2 : Nat) : Int)) == 1) = false := by
        rw [← tb] at hb
        rw [beq_eq_false_iff_ne] at hb ⊢
        omega
      rw [cf this, i64b (by omega) (by omega), e, l_some f s h5 n m (i + 1) acc (by omega) (by omega) (by omega)]
      simp
theorem g_some {f : Fld} (s : Nat) (h5 : f.ts.length ≤ 7) : G_some_ 1000 f (s : Int) = some (someF f s) := by
  unfold G_some_
  have := l_some f s h5 f.ts.length 1000 0 [] (by omega) (by omega) (by simp)
  rw [Int.natCast_zero, List.nil_append] at this
  rw [bd this]; rfl
theorem mem_pick {ts : List Tly} {s : Nat} {t : Tly} : t ∈ pickT ts s 0 ts.length ↔ ∃ i : Nat, s.testBit i = true ∧ ts[i]? = some t := by
  unfold pickT
  rw [List.mem_filterMap]
  constructor
  · rintro ⟨i, hi, h⟩
    cases hb : s.testBit i with
    | true => rw [hb] at h; exact ⟨i, hb, h⟩
    | false => rw [hb] at h; cases h
  · rintro ⟨i, hb, h⟩
    obtain ⟨hlt, _⟩ := List.getElem?_eq_some_iff.1 h
    exact ⟨i, by rw [List.mem_range'_1]; omega, by rw [hb]; exact h⟩
theorem check_some {f : Fld} (hc : check f = 0) (s : Nat) : check (someF f s) = 0 := by
  obtain ⟨hr, hw, h5, ht, _⟩ := check_ok hc
  refine check_sub hc (Nat.le_trans (pickT_len _ _ _ _) h5) fun t h => ?_
  obtain ⟨i, _, hi⟩ := mem_pick.1 h
  exact ht t (List.mem_of_getElem? hi)
theorem some_can {f : Fld} (hc : check f = 0) {s : Nat} (hs : s < 2 ^ f.ts.length) : truths (someF f s) [] ≠ [] ↔ canB f s = true := by
  rw [truths_ne (check_some hc s), canB_iff hc hs]
  refine exists_congr fun l => and_congr Iff.rfl ⟨fun h i t hi => ?_, fun h k t hk => ?_⟩
  · cases hb : s.testBit i with
    | false => exact .inl rfl
    | true =>
      obtain ⟨k, hk⟩ := List.mem_iff_getElem?.1 (mem_pick.2 ⟨i, hb, hi⟩)
      rcases h k t hk with h1 | h1
      · simp at h1
      · exact .inr h1
  · obtain ⟨i, hb, hi⟩ := mem_pick.1 (List.mem_of_getElem? hk)
    rcases h i t hi with h1 | h1
    · rw [hb] at h1; cases h1
    · exact .inr h1
/-- The error of Done. -/
theorem q_Done (K : Nat) (f : Fld) : Q_Done K f = some (if sureE f = 0 then (donesTo f (truths f []) f.wd.toNat, 0) else ([], sureE f)) := by unfold Q_Done; rw [askE_true]
theorem sureE_truths {f : Fld} (hc : check f = 0) : sureE f = if truths f [] = [] then 11 else 0 := by
  rw [refs_nil hc]
  by_cases h : refs f = []
  · rw [if_pos h, if_pos ((truths_nil hc).2 h)]
  · rw [if_neg h, if_neg fun e => h ((truths_nil hc).1 e)]
theorem sure_some {f : Fld} (hc : check f = 0) {s : Nat} (hs : s < 2 ^ f.ts.length) : sureE (someF f s) = if canB f s = true then 0 else 11 := by
  rw [sureE_truths (check_some hc s)]
  by_cases h : canB f s = true
  · rw [if_pos h, if_neg ((some_can hc hs).2 h)]
  · rw [if_neg h, if_pos (Decidable.byContradiction fun e => h ((some_can hc hs).1 e))]
theorem first_some {f : Fld} {n : Nat} (h : firstF f = some n) : n < f.ts.length ∧ firstP f n = true ∧ ∀ i, i < n → firstP f i = false := by
  unfold firstF at h
  rw [List.find?_range_eq_some] at h
  obtain ⟨h1, h2, h3⟩ := h
  exact ⟨by simpa using h2, h1, fun i hi => by simpa using h3 i hi⟩
theorem first_none {f : Fld} (h : firstF f = none) : ∀ i, i < f.ts.length → firstP f i = false := fun i hi => by
  unfold firstF at h
  rw [List.find?_eq_none] at h
  have := h i (by simpa using hi)
  simpa using this
theorem can_zero {f : Fld} (hc : check f = 0) : canB f 0 = true := by
  rw [canB_iff hc Nat.one_le_two_pow]
  obtain ⟨l, hl⟩ := alw_some hc
  exact ⟨l, hl, fun i t _ => .inl (Nat.zero_testBit i)⟩
theorem can_to {f : Fld} (hc : check f = 0) {n : Nat} (hn : n ≤ f.ts.length) (h : ∀ i, i < n → firstP f i = false) : canB f (2 ^ n - 1) = true := by
  cases n with
  | zero => exact can_zero hc
  | succ n =>
    have := h n (by omega)
    rw [firstP_can hc (by omega)] at this
    simpa using this
theorem q_First (K : Nat) (f : Fld) : Q_First K f = some (if check f = 0 then (match firstF f with | some i => ((i : Int), 0) | none => (0, 7)) else (0, check f)) := rfl
theorem weedFirst_plain (f : Fld) : G_WeedFirst 1000 f = some true := by
  unfold G_WeedFirst
  rw [bd (g_ready f)]
  cases hrd : (thin f && check f == 0) with
  | false => rw [nf, ifob awake_1000]
  | true =>
    rw [Bool.and_eq_true, beq_iff_eq] at hrd
    obtain ⟨ht, hc⟩ := hrd
    obtain ⟨hr, hw, h5, _⟩ := check_ok hc
    rw [nt, bd (g_Field (Nat.le_refl _) (thin_len ht)), bd (q_First 1000 f), if_pos hc]
    cases hf : firstF f with
    | none =>
      have h1 := can_to hc (Nat.le_refl _) (first_none hf)
      have hp1 := Nat.one_le_two_pow (n := f.ts.length)
      rw [canB_iff hc (by omega)] at h1
      have h2 : truths f [] ≠ [] := by
        rw [truths_ne hc]
        obtain ⟨l, hl, h⟩ := h1
        refine ⟨l, hl, fun k t hk => .inr ?_⟩
        obtain ⟨hlt, _⟩ := List.getElem?_eq_some_iff.1 hk
        rcases h k t hk with h3 | h3
        · rw [Nat.testBit_two_pow_sub_one, dt hlt] at h3; cases h3
        · exact h3
      have hs : sureE f = 0 := by rw [sureE_truths hc, if_neg h2]
      simp only []
      rw [ct (by decide), bd (g_Field (Nat.le_refl _) (thin_len ht)), bd (q_Done 1000 f), if_pos hs, ct (by decide), ct (by simp), ifob awake_1000]
    | some n =>
      obtain ⟨hn, hn1, hn2⟩ := first_some hf
      obtain ⟨s1, s2, s3, s4, s5, s6, s7⟩ := shl_all n (by omega)
      have e1 : (((2 ^ n : Nat) : Int) - 1) = ((2 ^ n - 1 : Nat) : Int) := by omega
      have hlt1 : 2 ^ n - 1 < 2 ^ f.ts.length := by
        have h1 : (2 : Nat) ^ n ≤ 2 ^ f.ts.length := Nat.pow_le_pow_right (by omega) (by omega)
        omega
      have hlt2 : 2 ^ (n + 1) - 1 < 2 ^ f.ts.length := by
        have h1 : (2 : Nat) ^ (n + 1) ≤ 2 ^ f.ts.length := Nat.pow_le_pow_right (by omega) (by omega)
        have h2 : 1 ≤ 2 ^ (n + 1) := Nat.one_le_two_pow
        omega
      have hl1 := pickT_len f.ts (2 ^ n - 1) 0 f.ts.length
      have hl2 := pickT_len f.ts (2 ^ (n + 1) - 1) 0 f.ts.length
      have g1 : sureE (someF f (2 ^ n - 1)) = 0 := by rw [sure_some hc hlt1, if_pos (can_to hc (by omega) hn2)]
      have g2 : sureE (someF f (2 ^ (n + 1) - 1)) = 11 := by
        rw [firstP_can hc hn] at hn1
        rw [sure_some hc hlt2, if_neg (by simpa using hn1)]
      have hp1 := Nat.one_le_two_pow (n := n + 1)
      simp only []
      rw [cf (by decide), i64b (by omega) (by omega), bd (g_In ..), inR_iff.2 (by omega), nt, cvU (by omega), bd s1, s2, i64b (by omega) (by omega), e1, bd (g_some _ (by omega)), bd (g_Field (Nat.le_refl _) (show (someF f (2 ^ n - 1)).ts.length ≤ 7 from Nat.le_trans hl1 (by omega))), bd (q_Done 1000 _), cvU (by omega), bd s3, s4, i64b (by omega) (by omega), bd (g_some _ (by omega)), bd (g_Field (Nat.le_refl _) (show (someF f (2 ^ (n + 1) - 1)).ts.length ≤ 7 from Nat.le_trans hl2 (by omega))), bd (q_Done 1000 _), g1, g2, if_pos rfl, if_neg (by decide), ct (by simp), ct (by decide), ifob awake_1000]
theorem weedFirst_true (f : Fld) : ∃ K, G_WeedFirst K f = some true := ⟨1000, weedFirst_plain f⟩
end Go.Proofs.Ythogdgkafaclaaa
end
section
set_option linter.unusedVariables false
set_option linter.unusedSimpArgs false
namespace Go.Proofs.Ythogdgkafaclaaa
open Go.RowKit
open AF
attribute [local irreducible] Ex1 WL CC CW LV Ret ObOp Agg One Own
theorem a11 (K_ : Nat) (p0 : Fld) (A0_0 : Option Addr) (c0_0 : Nat) (Z : Nat → Prop) (w : World) (hS0_0 : Sl eTly w Z A0_0 c0_0 p0.ts) (hG : G_WeedFirst K_ p0 = some true) :
    Ret Try.prog 11 #[.agg #[I p0.rows, I p0.wd, I p0.lo, I p0.hi, .slice A0_0 p0.ts.length c0_0]] w (fun v w' => Ext w w' ∧ v = .bool true) := by
 unfold G_WeedFirst at hG
 refine ret_of_cc (N := 76) Try.func11 rfl rfl (by simp) ?_
 intro fr0 ha hdf
 have hp_0 := sl_arg (i := 0) (v := .agg #[I p0.rows, I p0.wd, I p0.lo, I p0.hi, .slice A0_0 p0.ts.length c0_0]) ha rfl
 clear ha
 have hp0 := Hp.refl w
 have hS0_0_0 := hS0_0.mv (mv_start w)
 refine cc_seq <| cc_region <| we rfl (fun st => x_box (v := .agg #[I p0.rows, I p0.wd, I p0.lo, I p0.hi, .slice A0_0 p0.ts.length c0_0]) (cs := #[I p0.rows, I p0.wd, I p0.lo, I p0.hi, .slice A0_0 p0.ts.length c0_0]) (ee st hp_0) rfl) ?_
 rintro _ w1 ⟨b1, rfl, nb1⟩
 have hp1 : Hp w [some b1] w1 := hp0.new nb1.gr (Nat.le_of_eq nb1.b_eq.symm) (Nat.lt_of_lt_of_eq (Nat.lt_succ_self _) nb1.sz.symm)
 refine wa rfl (v := .bool false) rfl <| wl_end <| lv_next <| cc_seq <| cc_seq <| cc_region <| wd rfl (fun st => x_loadn (l := [I p0.rows, I p0.wd, I p0.lo, I p0.hi, .slice A0_0 p0.ts.length c0_0]) agg_26 (ee st rfl) nb1.bk rfl rfl) ?_
 have hS0_0_1 : Sl eTly w1 (ZZ Z w.heap.size [some b1]) A0_0 c0_0 p0.ts := (hS0_0_0.mv (mv_new nb1.gr (Nat.le_of_eq nb1.b_eq.symm)))
 replace hG := bind_some hG; obtain ⟨r2, hr2, hG⟩ := hG
 refine we rfl (fun st => x_call0 own_39 (ee st rfl) (am1 (ee st rfl)) (a39 K_ p0 A0_0 c0_0 ZA _ hS0_0_1.all r2 hr2)) ?_
 rintro _ w3 ⟨hx2, rfl⟩
 have hp2 : Hp w [some b1] w3 := hp1.ext hx2
 refine wd rfl (fun st => x_not (ee st rfl)) <| wl_end <| lv_next ?_
 rcases bool_cases (!r2) with hc4 | hc4
 ·replace hG := cond_t hG hc4
  have hc4_5 : r2 = false := by simpa using hc4
  refine cc_cond_t rfl hc4 <| cc_seq <| cc_region ?_
  replace hG := ifo_bind hG; obtain ⟨hw6, hG⟩ := hG
  refine we rfl (fun st => x_call0 own_21 (ee st rfl) am0 (a21 K_ ZA _ hw6)) ?_
  rintro _ w7 ⟨hx6, rfl⟩
  have hp3 : Hp w [some b1] w7 := hp2.ext hx6
  refine wa rfl (v := .bool true) rfl <| wl_end <| lv_next <| cc_ret <| lv_then_ret ?_
  have hr_ := Option.some.inj hG
  refine lv_ret1 rfl rfl ?_
  exact ⟨hp3.fin, congrArg Value.bool hr_⟩
 ·replace hG := cond_f hG hc4
  have hc4_8 : r2 = true := by simpa using hc4
  refine cc_cond_f rfl hc4 <| cc_skip <| lv_next <| cc_seq <| cc_region ?_
  have bk1_2 : Bk w3 b1 26 #[I p0.rows, I p0.wd, I p0.lo, I p0.hi, .slice A0_0 p0.ts.length c0_0] := (nb1.bk.ext hx2)
  refine wd rfl (fun st => x_loadn (l := [I p0.rows, I p0.wd, I p0.lo, I p0.hi, .slice A0_0 p0.ts.length c0_0]) agg_26 (ee st rfl) bk1_2 rfl rfl) ?_
  have hS0_0_2 : Sl eTly w3 (ZZ Z w.heap.size [some b1]) A0_0 c0_0 p0.ts := (hS0_0_1.mv (mv_ext hx2))
  replace hG := bind_some hG; obtain ⟨r9, hr9, hG⟩ := hG
  refine we rfl (fun st => x_call0 own_23 (ee st rfl) (am1 (ee st rfl)) (a23 K_ p0 A0_0 c0_0 (ZZ Z w.heap.size [some b1]) _ hS0_0_2 r9 hr9)) ?_
  rintro _ w10 ⟨hx9, ⟨_, rfl, ⟨A9_r0, c9_r0, rfl, hS9_r0⟩⟩⟩
  have hp4 : Hp w [some b1] w10 := hp2.ext hx9
  have hS9_r0 := hS9_r0.mv (hp2.call (Nat.le_refl _))
  replace hG := bind_some hG; obtain ⟨r11, hr11, hG⟩ := hG
  refine we rfl (fun st => x_call0 own_34 (ee st rfl) (am1 (ee st rfl)) (a34 K_ r9 A9_r0 c9_r0 ZA _ hS9_r0.all r11 hr11)) ?_
  rintro _ w12 ⟨hx11, _, _, rfl, rfl, rfl⟩
  have hp5 : Hp w [some b1] w12 := hp4.ext hx11
  refine wm rfl (v := .tuple #[I r11.1, I r11.2]) rfl <| wd rfl (fun st => x_extract (v := I r11.1) (ee st rfl) rfl) <| wd rfl (fun st => x_extract (v := I r11.2) (ee st rfl) rfl) <| wa rfl (v := I r11.1) rfl <| wa rfl (v := I r11.2) rfl <| wl_end <| lv_next <| cc_seq <| cc_seq <| cc_region <| wm rfl (v := I r11.2) rfl <| wd rfl (fun st => x_neq (ee st rfl) (ee st rfl)) <| wl_end <| lv_next ?_
  rcases bool_cases (r11.2 != 0) with hc13 | hc13
  ·replace hG := cond_t hG hc13
   refine cc_cond_t rfl hc13 <| cc_seq <| cc_region ?_
   have bk1_5 : Bk w12 b1 26 #[I p0.rows, I p0.wd, I p0.lo, I p0.hi, .slice A0_0 p0.ts.length c0_0] := ((bk1_2.ext hx9).ext hx11)
   refine wd rfl (fun st => x_loadn (l := [I p0.rows, I p0.wd, I p0.lo, I p0.hi, .slice A0_0 p0.ts.length c0_0]) agg_26 (ee st rfl) bk1_5 rfl rfl) ?_
   have hS0_0_5 : Sl eTly w12 (ZZ Z w.heap.size [some b1]) A0_0 c0_0 p0.ts := ((hS0_0_2.mv (mv_ext hx9)).mv (mv_ext hx11))
   replace hG := bind_some hG; obtain ⟨r14, hr14, hG⟩ := hG
   refine we rfl (fun st => x_call0 own_23 (ee st rfl) (am1 (ee st rfl)) (a23 K_ p0 A0_0 c0_0 (ZZ Z w.heap.size [some b1]) _ hS0_0_5 r14 hr14)) ?_
   rintro _ w15 ⟨hx14, ⟨_, rfl, ⟨A14_r0, c14_r0, rfl, hS14_r0⟩⟩⟩
   have hp6 : Hp w [some b1] w15 := hp5.ext hx14
   have hS14_r0 := hS14_r0.mv (hp5.call (Nat.le_refl _))
   replace hG := bind_some hG; obtain ⟨r16, hr16, hG⟩ := hG
   refine we rfl (fun st => x_call0 own_22 (ee st rfl) (am1 (ee st rfl)) (a22 K_ r14 A14_r0 c14_r0 (ZZ Z w.heap.size [some b1]) _ hS14_r0 r16 hr16)) ?_
   rintro _ w17 ⟨hx16, _, _, rfl, ⟨A16_ra, c16_ra, rfl, hS16_ra⟩, rfl⟩
   have hp7 : Hp w [some b1] w17 := hp6.ext hx16
   have hS16_ra := hS16_ra.mv (hp6.call (Nat.le_refl _))
   refine wm rfl (v := .tuple #[.slice A16_ra r16.1.length c16_ra, I r16.2]) rfl <| wd rfl (fun st => x_extract (v := .slice A16_ra r16.1.length c16_ra) (ee st rfl) rfl) <| wd rfl (fun st => x_extract (v := I r16.2) (ee st rfl) rfl) <| wa rfl (v := .slice A16_ra r16.1.length c16_ra) rfl <| wa rfl (v := I r16.2) rfl <| wl_end <| lv_next <| cc_seq <| cc_region <| wm rfl (v := I r11.2) rfl <| wd rfl (fun st => x_eql (ee st rfl) (ee st rfl)) <| wm rfl (v := .bool (r11.2 == 7)) rfl ?_
   rcases bool_cases (r11.2 == 7) with hc18 | hc18
   ·replace hG := cond_t hG hc18
    refine wl_detg rfl rfl (guard_eq rfl hc18) rfl (by decide) (fun st => x_move (v := I r16.2) (ee st rfl)) <| wl_detg rfl rfl (guard_eq rfl hc18) rfl (by decide) (fun st => x_eql (ee st rfl) (ee st rfl)) <| wd rfl (fun st => x_pick_t (v := .bool (r16.2 == 0)) (ee st rfl) hc18 (ee st rfl)) <| wm rfl (v := .bool (r16.2 == 0)) rfl ?_
    rcases bool_cases (r16.2 == 0) with hc19 | hc19
    ·replace hG := cond_t hG hc19
     replace hG := ifo_bind hG; obtain ⟨hw20, hG⟩ := hG
     refine wl_exg rfl rfl (guard_eq rfl hc19) rfl (by decide) (fun st => x_call0 own_21 (ee st rfl) am0 (a21 K_ ZA _ hw20)) ?_
     rintro _ w21 ⟨hx20, rfl⟩
     have hp8 : Hp w [some b1] w21 := hp7.ext hx20
     refine wd rfl (fun st => x_pick_t (v := .bool true) (ee st rfl) hc19 (ee st rfl)) <| wa rfl (v := .bool true) rfl <| wl_end <| lv_next <| cc_ret <| lv_then_ret ?_
     have hr_ := Option.some.inj hG
     refine lv_ret1 rfl rfl ?_
     exact ⟨hp8.fin, congrArg Value.bool hr_⟩
    ·replace hG := cond_f hG hc19
     exact absurd (Option.some.inj hG) (by decide)
   ·replace hG := cond_f hG hc18
    exact absurd (Option.some.inj hG) (by decide)
  ·replace hG := cond_f hG hc13
   refine cc_cond_f rfl hc13 <| cc_skip <| lv_next <| cc_seq <| cc_seq <| cc_region <| wm rfl (v := I r11.1) rfl <| wd rfl (fun st => x_fieldAddr (ee st rfl) (fz_26_3 _ _)) ?_
   have bk1_5 : Bk w12 b1 26 #[I p0.rows, I p0.wd, I p0.lo, I p0.hi, .slice A0_0 p0.ts.length c0_0] := ((bk1_2.ext hx9).ext hx11)
   refine wd rfl (fun st => x_load1 (v := .slice A0_0 p0.ts.length c0_0) one_24 (ee st rfl) bk1_5 rfl) <| wd rfl (fun st => x_len Try.underlying24 (ee st rfl)) ?_
   replace hG := i64_bind hG; obtain ⟨hf22, hG⟩ := hG
   refine wd rfl (fun st => x_sub (ee st rfl) (ee st rfl) hf22) ?_
   replace hG := bind_some hG; obtain ⟨r23, hr23, hG⟩ := hG
   refine we rfl (fun st => x_call0 own_29 (ee st rfl) (am3 (ee st rfl) (ee st rfl) (ee st rfl)) (a29 K_ r11.1 0 ((p0.ts.length : Int) - 1) ZA _ r23 hr23)) ?_
   rintro _ w24 ⟨hx23, rfl⟩
   have hp9 : Hp w [some b1] w24 := hp5.ext hx23
   refine wd rfl (fun st => x_not (ee st rfl)) <| wl_end <| lv_next ?_
   rcases bool_cases (!r23) with hc25 | hc25
   ·replace hG := cond_t hG hc25
    exact absurd (Option.some.inj hG) (by decide)
   ·replace hG := cond_f hG hc25
    have hc25_27 : r23 = true := by simpa using hc25
    refine cc_cond_f rfl hc25 <| cc_skip <| lv_next <| cc_seq <| cc_region ?_
    have bk1_9 : Bk w24 b1 26 #[I p0.rows, I p0.wd, I p0.lo, I p0.hi, .slice A0_0 p0.ts.length c0_0] := (bk1_5.ext hx23)
    refine wd rfl (fun st => x_loadn (l := [I p0.rows, I p0.wd, I p0.lo, I p0.hi, .slice A0_0 p0.ts.length c0_0]) agg_26 (ee st rfl) bk1_9 rfl rfl) <| wm rfl (v := I r11.1) rfl ?_
    replace hG := cvO_bind hG; obtain ⟨hf28, hG⟩ := hG
    refine wd rfl (fun st => x_conv (k := .u64) sm_3 Try.underlying63 (ee st rfl) hf28) ?_
    replace hG := shlO_bind hG; obtain ⟨hf29, hG⟩ := hG
    refine wd rfl (fun st => x_shl (ee st rfl) (ee st rfl) hf29) ?_
    replace hG := i64_bind hG; obtain ⟨hf30, hG⟩ := hG
    refine wd rfl (fun st => x_sub (ee st rfl) (ee st rfl) hf30) ?_
    have hS0_0_9 : Sl eTly w24 (ZZ Z w.heap.size [some b1]) A0_0 c0_0 p0.ts := (((hS0_0_2.mv (mv_ext hx9)).mv (mv_ext hx11)).mv (mv_ext hx23))
    replace hG := bind_some hG; obtain ⟨r31, hr31, hG⟩ := hG
    refine we rfl (fun st => x_call0 own_46 (ee st rfl) (am2 (ee st rfl) (ee st rfl)) (a46 K_ p0 ((shlI (1 : Int) r11.1) - 1) A0_0 c0_0 (ZZ Z w.heap.size [some b1]) _ hS0_0_9 r31 hr31)) ?_
    rintro _ w32 ⟨hx31, ⟨_, rfl, ⟨A31_r0, c31_r0, rfl, hS31_r0⟩⟩⟩
    have hp10 : Hp w [some b1] w32 := hp9.ext hx31
    have hS31_r0 := hS31_r0.mv (hp9.call (Nat.le_refl _))
    replace hG := bind_some hG; obtain ⟨r33, hr33, hG⟩ := hG
    refine we rfl (fun st => x_call0 own_23 (ee st rfl) (am1 (ee st rfl)) (a23 K_ r31 A31_r0 c31_r0 (ZZ Z w.heap.size [some b1]) _ hS31_r0 r33 hr33)) ?_
    rintro _ w34 ⟨hx33, ⟨_, rfl, ⟨A33_r0, c33_r0, rfl, hS33_r0⟩⟩⟩
    have hp11 : Hp w [some b1] w34 := hp10.ext hx33
    have hS33_r0 := hS33_r0.mv (hp10.call (Nat.le_refl _))
    replace hG := bind_some hG; obtain ⟨r35, hr35, hG⟩ := hG
    refine we rfl (fun st => x_call0 own_22 (ee st rfl) (am1 (ee st rfl)) (a22 K_ r33 A33_r0 c33_r0 (ZZ Z w.heap.size [some b1]) _ hS33_r0 r35 hr35)) ?_
    rintro _ w36 ⟨hx35, _, _, rfl, ⟨A35_ra, c35_ra, rfl, hS35_ra⟩, rfl⟩
    have hp12 : Hp w [some b1] w36 := hp11.ext hx35
    have hS35_ra := hS35_ra.mv (hp11.call (Nat.le_refl _))
    refine wm rfl (v := .tuple #[.slice A35_ra r35.1.length c35_ra, I r35.2]) rfl <| wd rfl (fun st => x_extract (v := .slice A35_ra r35.1.length c35_ra) (ee st rfl) rfl) <| wd rfl (fun st => x_extract (v := I r35.2) (ee st rfl) rfl) <| wa rfl (v := .slice A35_ra r35.1.length c35_ra) rfl <| wa rfl (v := I r35.2) rfl <| wl_end <| lv_next <| cc_seq <| cc_region ?_
    have bk1_12 : Bk w36 b1 26 #[I p0.rows, I p0.wd, I p0.lo, I p0.hi, .slice A0_0 p0.ts.length c0_0] := (((bk1_9.ext hx31).ext hx33).ext hx35)
    refine wd rfl (fun st => x_loadn (l := [I p0.rows, I p0.wd, I p0.lo, I p0.hi, .slice A0_0 p0.ts.length c0_0]) agg_26 (ee st rfl) bk1_12 rfl rfl) <| wm rfl (v := I r11.1) rfl ?_
    replace hG := cvO_bind hG; obtain ⟨hf37, hG⟩ := hG
    refine wd rfl (fun st => x_conv (k := .u64) sm_3 Try.underlying63 (ee st rfl) hf37) ?_
    replace hG := shlO_bind hG; obtain ⟨hf38, hG⟩ := hG
    refine wd rfl (fun st => x_shl (ee st rfl) (ee st rfl) hf38) ?_
    replace hG := i64_bind hG; obtain ⟨hf39, hG⟩ := hG
    refine wd rfl (fun st => x_sub (ee st rfl) (ee st rfl) hf39) ?_
    have hS0_0_12 : Sl eTly w36 (ZZ Z w.heap.size [some b1]) A0_0 c0_0 p0.ts := (((hS0_0_9.mv (mv_ext hx31)).mv (mv_ext hx33)).mv (mv_ext hx35))
    replace hG := bind_some hG; obtain ⟨r40, hr40, hG⟩ := hG
    refine we rfl (fun st => x_call0 own_46 (ee st rfl) (am2 (ee st rfl) (ee st rfl)) (a46 K_ p0 ((shlI (2 : Int) r11.1) - 1) A0_0 c0_0 (ZZ Z w.heap.size [some b1]) _ hS0_0_12 r40 hr40)) ?_
    rintro _ w41 ⟨hx40, ⟨_, rfl, ⟨A40_r0, c40_r0, rfl, hS40_r0⟩⟩⟩
    have hp13 : Hp w [some b1] w41 := hp12.ext hx40
    have hS40_r0 := hS40_r0.mv (hp12.call (Nat.le_refl _))
    replace hG := bind_some hG; obtain ⟨r42, hr42, hG⟩ := hG
    refine we rfl (fun st => x_call0 own_23 (ee st rfl) (am1 (ee st rfl)) (a23 K_ r40 A40_r0 c40_r0 (ZZ Z w.heap.size [some b1]) _ hS40_r0 r42 hr42)) ?_
    rintro _ w43 ⟨hx42, ⟨_, rfl, ⟨A42_r0, c42_r0, rfl, hS42_r0⟩⟩⟩
    have hp14 : Hp w [some b1] w43 := hp13.ext hx42
    have hS42_r0 := hS42_r0.mv (hp13.call (Nat.le_refl _))
    replace hG := bind_some hG; obtain ⟨r44, hr44, hG⟩ := hG
    refine we rfl (fun st => x_call0 own_22 (ee st rfl) (am1 (ee st rfl)) (a22 K_ r42 A42_r0 c42_r0 (ZZ Z w.heap.size [some b1]) _ hS42_r0 r44 hr44)) ?_
    rintro _ w45 ⟨hx44, _, _, rfl, ⟨A44_ra, c44_ra, rfl, hS44_ra⟩, rfl⟩
    have hp15 : Hp w [some b1] w45 := hp14.ext hx44
    have hS44_ra := hS44_ra.mv (hp14.call (Nat.le_refl _))
    refine wm rfl (v := .tuple #[.slice A44_ra r44.1.length c44_ra, I r44.2]) rfl <| wd rfl (fun st => x_extract (v := .slice A44_ra r44.1.length c44_ra) (ee st rfl) rfl) <| wd rfl (fun st => x_extract (v := I r44.2) (ee st rfl) rfl) <| wa rfl (v := .slice A44_ra r44.1.length c44_ra) rfl <| wa rfl (v := I r44.2) rfl <| wl_end <| lv_next <| cc_seq <| cc_region <| wm rfl (v := I r35.2) rfl <| wd rfl (fun st => x_eql (ee st rfl) (ee st rfl)) <| wm rfl (v := .bool (r35.2 == 0)) rfl ?_
    rcases bool_cases (r35.2 == 0) with hc46 | hc46
    ·replace hG := cond_t hG hc46
     refine wl_detg rfl rfl (guard_eq rfl hc46) rfl (by decide) (fun st => x_move (v := I r44.2) (ee st rfl)) <| wl_detg rfl rfl (guard_eq rfl hc46) rfl (by decide) (fun st => x_eql (ee st rfl) (ee st rfl)) <| wd rfl (fun st => x_pick_t (v := .bool (r44.2 == 11)) (ee st rfl) hc46 (ee st rfl)) <| wm rfl (v := .bool (r44.2 == 11)) rfl ?_
     rcases bool_cases (r44.2 == 11) with hc47 | hc47
     ·replace hG := cond_t hG hc47
      replace hG := ifo_bind hG; obtain ⟨hw48, hG⟩ := hG
      refine wl_exg rfl rfl (guard_eq rfl hc47) rfl (by decide) (fun st => x_call0 own_21 (ee st rfl) am0 (a21 K_ ZA _ hw48)) ?_
      rintro _ w49 ⟨hx48, rfl⟩
      have hp16 : Hp w [some b1] w49 := hp15.ext hx48
      refine wd rfl (fun st => x_pick_t (v := .bool true) (ee st rfl) hc47 (ee st rfl)) <| wa rfl (v := .bool true) rfl <| wl_end <| lv_next <| cc_ret ?_
      have hr_ := Option.some.inj hG
      refine lv_ret1 rfl rfl ?_
      exact ⟨hp16.fin, congrArg Value.bool hr_⟩
     ·replace hG := cond_f hG hc47
      exact absurd (Option.some.inj hG) (by decide)
    ·replace hG := cond_f hG hc46
     exact absurd (Option.some.inj hG) (by decide)
end Go.Proofs.Ythogdgkafaclaaa
end
section
namespace Go.Proofs.Ythogdgkafaclaaa
open Go.RowKit Go.ChangeShapes Go.WideShapes
theorem mapM_all {α β : Type} {g : α → Option β} : ∀ {l : List α} {r : List β}, l.mapM g = some r → ∀ x ∈ l, ∃ y, g x = some y
  | [], _, _, x, hx => by cases hx
  | a :: l, r, h, x, hx => by
    rw [List.mapM_cons] at h
    obtain ⟨y, hy, h2⟩ := Option.bind_eq_some_iff.1 h
    obtain ⟨ys, hys, _⟩ := Option.bind_eq_some_iff.1 h2
    rcases List.mem_cons.1 hx with rfl | hx
    · exact ⟨y, hy⟩
    · exact mapM_all hys x hx
/-- A reading of this type is data of this kind. -/
def Opn {α : Type} (P : Program) (t : TypeId) (e : Enc α) (wf : α → Prop) : Prop :=
  ∀ (H : Type) (enc : TypeId × Value → H) (w : World) (sp : Nat → Bool) (fuel : Nat) (cs : List Value) (x : DataW H × List MemPlace), DataW.trod enc P w 0 sp true fuel t cs = some x → ∃ a, e.R w ZA cs a ∧ wf a
def wfI (k : IntKind) (n : Int) : Prop := (Lit.int k n).wf = true
section
variable {P : Program} {t : TypeId}
theorem opn_int {k : IntKind} (ht : P.underlying t = some (.int k)) : Opn P t (eInt k) (wfI k) := by
  intro H enc w sp fuel cs x h
  obtain ⟨n, h1, _, h3⟩ := DataW.trod_int ht h
  exact ⟨n, h1, h3⟩
/-- A struct's fields. -/
theorem trod_fields {fs : Array Field} (ht : P.underlying t = some (.struct fs)) {H : Type} {enc : TypeId × Value → H} {w : World} {sp : Nat → Bool} {fuel : Nat} {cs : List Value} {x : DataW H × List MemPlace} (h : DataW.trod enc P w 0 sp true fuel t cs = some x) :
    cs.length = P.cellsOf t ∧ ∃ fuel', ∀ (i ft off : Nat), (fs[i]?).map (fun f => (f.type, f.offset)) = some (ft, off) → ∃ y, DataW.trod enc P w 0 sp true fuel' ft ((cs.drop off).take (P.cellsOf ft)) = some y := by
  cases fuel with
  | zero => simp [DataW.trod] at h
  | succ fuel =>
    unfold DataW.trod at h
    simp only [ht] at h
    split at h
    · rename_i hl
      obtain ⟨xs, hx, _⟩ := Option.map_eq_some_iff.1 h
      refine ⟨hl, fuel, fun i ft off hf => ?_⟩
      obtain ⟨f, hf', he⟩ := Option.map_eq_some_iff.1 hf
      obtain ⟨e1, e2⟩ : f.type = ft ∧ f.offset = off := by simpa using he
      have hm : f ∈ fs.toList := by rw [← Array.getElem?_toList] at hf'; exact List.mem_of_getElem? hf'
      have := mapM_all hx f hm
      rw [e1, e2] at this
      exact this
    · cases h
theorem cells_cell {w : World} {a : Addr} {n : Nat} {cs : List Value} (h : w.cells? 0 a n = some cs) : cs.length = n ∧ ∀ j u, cs[j]? = some u → w.cell? (a.add j) = some u := by
  unfold World.cells? at h
  rw [if_pos (Nat.zero_le _)] at h
  have hl := mapM_some_length h
  refine ⟨by simpa using hl, ?_⟩
  have key : ∀ (l : List Nat) (r : List Value), l.mapM (fun i => w.cell? (a.add i)) = some r → ∀ (j i : Nat) (u : Value), l[j]? = some i → r[j]? = some u → w.cell? (a.add i) = some u := by
    intro l
    induction l with
    | nil => intro r _ j i u hj; simp at hj
    | cons b l ih =>
      intro r h j i u hj hr
      rw [List.mapM_cons] at h
      obtain ⟨y, hy, h2⟩ := Option.bind_eq_some_iff.1 h
      obtain ⟨ys, hys, h3⟩ := Option.bind_eq_some_iff.1 h2
      obtain rfl : y :: ys = r := by simpa using h3
      cases j with
      | zero =>
        obtain rfl : b = i := by simpa using hj
        obtain rfl : y = u := by simpa using hr
        exact hy
      | succ j => exact ih ys hys j i u (by simpa using hj) (by simpa using hr)
  intro j u hj
  have hlt : j < n := by
    have := (List.getElem?_eq_some_iff.1 hj).1
    have h2 : cs.length = n := by simpa using hl
    omega
  exact key _ _ h j j u (by simp [hlt]) hj
theorem cell_none {w : World} {a : Addr} {u : Value} (h : w.cell? a = some u) : ∃ b o, a = ⟨b, o, none⟩ ∧ b < w.heap.size := by
  obtain ⟨b, o, pt⟩ := a
  cases pt with
  | none =>
    refine ⟨b, o, rfl, ?_⟩
    unfold World.cell? at h
    cases hq : w.heap[b]? with
    | none => simp [hq] at h
    | some o => exact (Array.getElem?_eq_some_iff.1 hq).1
  | some q =>
    unfold World.cell? at h
    cases hq : w.heap[b]? with
    | none => simp [hq] at h
    | some ob => cases ob <;> simp [hq] at h
theorem add_add {a : Addr} {k j : Nat} (h : k ≤ j) : (a.add k).add (j - k) = a.add j := by
  obtain ⟨b, o, pt⟩ := a
  cases pt with
  | none => rw [addr_add, addr_add, addr_add]; congr 1; omega
  | some q =>
    unfold Addr.add
    by_cases hj : j = 0
    · have : k = 0 := by omega
      subst this; subst hj; simp
    · by_cases hk : k = 0
      · subst hk; simp [hj]
      · by_cases hjk : j - k = 0
        · have : j = k := by omega
          subst this; simp [hk]
        · simp [hj, hk, hjk]; omega
/-- Slices of what can be read. -/
theorem opn_slice {α : Type} {e : TypeId} {ee : Enc α} {wf : α → Prop} (ht : P.underlying t = some (.slice e)) (hc : P.cellsOf e = ee.sz) (h0 : 0 < ee.sz) (ho : Opn P e ee wf) : Opn P t (eSl ee) (fun xs => xs.length ≤ maxLen ∧ ∀ x ∈ xs, wf x) := by
  intro H enc w sp fuel cs x h
  rcases Go.Deep.open_slice ht h with ⟨rfl, _⟩ | ⟨a, len, cap, m, n0, D, Pl, rfl, _, hlc, hcm, hm, _, hall⟩
  · exact ⟨[], ⟨none, 0, rfl, Sl.nil _ _ _⟩, by simp, by simp⟩
  · have hlm : len ≤ m := by rw [hm]; split <;> omega
    have key : ∀ n, n ≤ len → ∃ css xs, R2 ee w ZA css xs ∧ xs.length = n ∧ (∀ x ∈ xs, wf x) ∧ ∀ j u, css.flatten[j]? = some u → w.cell? (a.add j) = some u := by
      intro n
      induction n with
      | zero => exact fun _ => ⟨[], [], trivial, rfl, by simp, by simp⟩
      | succ n ih =>
        intro hn
        obtain ⟨css, xs, h1, h2, h3, h4⟩ := ih (by omega)
        obtain ⟨ds, hd, hy2⟩ := hall n (by omega)
        obtain ⟨z, hz, hwz⟩ := ho _ _ _ _ _ _ _ hy2
        obtain ⟨hl, hcell⟩ := cells_cell hd
        refine ⟨css ++ [ds], xs ++ [z], h1.append ⟨hz, trivial⟩, by simp [h2], ?_, ?_⟩
        · intro x hx
          rcases List.mem_append.1 hx with hx | hx
          · exact h3 x hx
          · rw [List.mem_singleton.1 hx]; exact hwz
        · intro j u hj
          rw [List.flatten_append] at hj
          rcases Nat.lt_or_ge j css.flatten.length with hlt | hge
          · rw [List.getElem?_append_left hlt] at hj
            exact h4 j u hj
          · rw [List.getElem?_append_right hge] at hj
            have h5 := hcell (j - css.flatten.length) u (by simpa using hj)
            have hfl : css.flatten.length = n * ee.sz := by rw [h1.flen, h2]
            rw [hfl] at h5 hge
            rw [hc] at h5
            rw [add_add hge] at h5
            exact h5
    obtain ⟨css, xs, h1, h2, h3, h4⟩ := key len (Nat.le_refl _)
    refine ⟨xs, ⟨some a, cap, by rw [h2], by rw [h2]; exact hlc, (fun e => by cases e), css, h1, ?_⟩, by rw [h2]; exact Nat.le_trans hlc hcm, h3⟩
    cases hf : css.flatten with
    | nil => exact .inl rfl
    | cons u us =>
      have hu := h4 0 u (by rw [hf]; rfl)
      obtain ⟨b, o, hab, hlt⟩ := cell_none hu
      have ha : a = ⟨b, o, none⟩ := by
        obtain ⟨b', o', pt⟩ := a
        cases pt <;> simp [Addr.add] at hab ⊢
        exact hab
      subst ha
      refine .inr ⟨b, o, rfl, trivial, hlt, fun j u hj => ?_⟩
      have := h4 j u (by rw [hf]; exact hj)
      rw [addr_add] at this
      exact this
end
section
variable {H : Type} {enc : TypeId × Value → H} {P : Program} {W W' : World}
theorem trodAll_carry {sp : Nat → Bool} : ∀ {ts : List TypeId} {vs : List Value} {ds : List (DataW H)} {ps : List MemPlace}, DataW.TrodAll enc P W 0 sp true ts vs ds ps → (∀ p ∈ ps, W.sameAt W' p) → DataW.TrodAll enc P W' 0 sp true ts vs ds ps
  | [], _, _, _, h, _ => by
    obtain ⟨rfl, rfl, rfl⟩ := trodAll_nil h
    exact rfl
  | _ :: _, _, _, _, h, hs => by
    obtain ⟨v, vs1, d, ds1, a, b, rfl, rfl, rfl, ⟨n, hn⟩, h2⟩ := trodAll_cons h
    exact ⟨a, b, ⟨n, DataW.trod_carry n _ _ _ hn fun p hp => hs p (List.mem_append_left _ hp)⟩, trodAll_carry h2 fun p hp => hs p (List.mem_append_right _ hp), rfl⟩
theorem args_read (K : Kids P (· < P.types.size)) (hz : ∀ t e, t < P.types.size → P.underlying t = some (.slice e) → 0 < P.cellsOf e) {ts : List TypeId} {vs : List Value} {ds : List (DataW H)} {ps : List MemPlace} (hT : ∀ t ∈ ts, t < P.types.size)
    (hA : DataW.TrodAll enc P W 0 (fun _ => true) true ts vs ds ps) (hb : Ext W W') (hlt : ∀ p ∈ ps, p.block < W.heap.size) (sp : Nat → Bool) (hs : ∀ p ∈ ps, sp p.block = true) : DataW.TrodAll enc P W' 0 sp true ts vs ds ps :=
  trodAll_carry (DataW.TrodAll.respare K hz hT hA hs) fun p hp => (below_of_ext hb).same (hlt p hp)
variable {α : Type} {e : Enc α} {wf : α → Prop} {t : TypeId} {b0 : Nat} {v : Value} {d : DataW H} {p : List MemPlace} {sp : Nat → Bool}
theorem val_agg {fs : Array Field} (ht : P.underlying t = some (.struct fs)) (ho : Opn P t e wf) (hv : Value.okWide P W .any b0 t v) (h : DataW.Trod enc P W 0 sp true t v d p) : ∃ a cs, v = .agg cs.toArray ∧ e.R W ZA cs a ∧ wf a := by
  unfold Value.okWide at hv
  rw [ht] at hv
  obtain ⟨cs, rfl, _⟩ := hv
  obtain ⟨n, hn⟩ := h
  obtain ⟨a, h1, h2⟩ := ho _ _ _ _ _ _ _ hn
  exact ⟨a, cs.toList, by simp, h1, h2⟩
/-- The row's end: the call has laid new blocks alone. -/
theorem post_of_ext {f : Func} {s : ChangeSpec} {apart fresh handsOn again : Bool} {args : Array Value} {v : Value} {ds gs : List (DataW H)} {before pa pv : List MemPlace}
    (hW : DataW.Whole enc P f.params.toList s.vars apart W args.toList ds gs before)
    (hres : ∀ (b : Nat) (sp : Nat → Bool) (hd : Bool), DataW.TrodAll enc P W' b sp hd f.resultTypes.toList (v.resultList f.resultTypes.size) (s.fn H (ds ++ gs)).results [])
    (hargs : ∀ sp : Nat → Bool, (∀ p ∈ before, sp p.block = true) → DataW.TrodAll enc P W' 0 sp true f.params.toList args.toList (s.fn H (ds ++ gs)).args pa)
    (hvars : ∀ sp : Nat → Bool, (∀ p ∈ before, sp p.block = true) → DataW.TrodVars enc P W' sp s.vars (s.fn H (ds ++ gs)).vars pv)
    (hps : before = pa ++ pv) (hx : Ext W W')
    (hok : ∀ (j : Nat) (t : TypeId) (r : Value), f.resultTypes[j]? = some t → (v.resultList f.resultTypes.size)[j]? = some r → Value.okWide P W' .any 0 t r) :
    s.post enc P f apart fresh handsOn again W args v W' := by
  have hb := below_of_ext hx
  have hlt : ∀ p ∈ before, p.block < W.heap.size := fun p hp => hW.lt p hp
  have hold : ∀ p ∈ before, (fun b => decide (b < W.heap.size)) p.block = true := fun p hp => by simpa using hlt p hp
  refine ⟨ds, gs, before, [], pa, pv, hW, hres _ _ _, hargs _ hold, hvars _ hold, World.keptBut_mono (fun p hp => ⟨hp, ?_⟩) (hb.frame (· ∈ before)), fun _ => ?_⟩
  · rw [hps, List.mem_append] at hp
    exact Or.inr hp
  · obtain ⟨_, _, _, _, _, hz, hn⟩ := hW
    refine ⟨hok, _, _, ([] ++ pa) ++ pv, ⟨[] ++ pa, pv, trodAll_append (hargs _ (fun _ _ => rfl)) (hres _ _ _), hvars _ (fun _ _ => rfl), rfl, ?_, ?_⟩, ?_⟩
    · intro b off hp
      have hin : MemPlace.cell b off ∈ before := by rw [hps]; simpa using hp
      rw [hb.frozen (hlt _ hin)]
      exact hz b off hin
    · intro ha
      have := hn ha
      rw [hps] at this
      simpa using this
    · intro p hp _
      rw [hps]
      simpa using hp
theorem ret_calls {f : FuncId} {args : Array Value} {w : World} {R : Value → World → Prop} (h : Ret P f args w R) : Calls P f args w (fun e w' => ∃ v, e = .returned v ∧ R v w') := h
end
end Go.Proofs.Ythogdgkafaclaaa
end
section
set_option linter.unusedVariables false
set_option linter.unusedSimpArgs false
namespace Go.Proofs.Ythogdgkafaclaaa
open Go.RowKit
open Go.RowKit Go.ChangeShapes Go.WideShapes
theorem len_2 : ∀ {cs : List Value}, cs.length = 2 → ∃ a0 a1, cs = [a0, a1]
  | [a0, a1], _ => ⟨a0, a1, rfl⟩
theorem len_5 : ∀ {cs : List Value}, cs.length = 5 → ∃ a0 a1 a2 a3 a4, cs = [a0, a1, a2, a3, a4]
  | [a0, a1, a2, a3, a4], _ => ⟨a0, a1, a2, a3, a4, rfl⟩
theorem opn_23 : Opn Try.prog 23 eR (fun x => (wfI .i64 x.1 ∧ wfI .i64 x.2)) := by
  intro H enc w sp fuel cs x h
  obtain ⟨hl, fuel', hf⟩ := trod_fields Try.underlying23 h
  have hc : Try.prog.cellsOf 23 = 2 := by kernel_rfl
  rw [hc] at hl
  have k3 : Try.prog.cellsOf 3 = 1 := by kernel_rfl
  obtain ⟨a0, a1, rfl⟩ := len_2 hl
  obtain ⟨y0, hy0⟩ := hf 0 3 0 rfl
  simp only [k3, List.drop_zero, List.drop_succ_cons, List.take_succ_cons, List.take_zero] at hy0
  obtain ⟨n0, h0, w0⟩ := (opn_int Try.underlying3) _ _ _ _ _ _ _ hy0
  cases h0
  obtain ⟨y1, hy1⟩ := hf 1 3 1 rfl
  simp only [k3, List.drop_zero, List.drop_succ_cons, List.take_succ_cons, List.take_zero] at hy1
  obtain ⟨n1, h1, w1⟩ := (opn_int Try.underlying3) _ _ _ _ _ _ _ hy1
  cases h1
  exact ⟨⟨n0, n1⟩, rfl, w0, w1⟩
theorem opn_68 : Opn Try.prog 68 eTly (fun x => (wfI .i64 x.who ∧ wfI .i64 x.fr ∧ wfI .i64 x.to ∧ (wfI .i64 ((⟨x.lo, x.hi⟩ : (Int × Int)).1) ∧ wfI .i64 ((⟨x.lo, x.hi⟩ : (Int × Int)).2)))) := by
  intro H enc w sp fuel cs x h
  obtain ⟨hl, fuel', hf⟩ := trod_fields Try.underlying68 h
  have hc : Try.prog.cellsOf 68 = 5 := by kernel_rfl
  rw [hc] at hl
  have k3 : Try.prog.cellsOf 3 = 1 := by kernel_rfl
  have k23 : Try.prog.cellsOf 23 = 2 := by kernel_rfl
  obtain ⟨a0, a1, a2, a3, a4, rfl⟩ := len_5 hl
  obtain ⟨y0, hy0⟩ := hf 0 3 0 rfl
  simp only [k3, List.drop_zero, List.drop_succ_cons, List.take_succ_cons, List.take_zero] at hy0
  obtain ⟨n0, h0, w0⟩ := (opn_int Try.underlying3) _ _ _ _ _ _ _ hy0
  cases h0
  obtain ⟨y1, hy1⟩ := hf 1 3 1 rfl
  simp only [k3, List.drop_zero, List.drop_succ_cons, List.take_succ_cons, List.take_zero] at hy1
  obtain ⟨n1, h1, w1⟩ := (opn_int Try.underlying3) _ _ _ _ _ _ _ hy1
  cases h1
  obtain ⟨y2, hy2⟩ := hf 2 3 2 rfl
  simp only [k3, List.drop_zero, List.drop_succ_cons, List.take_succ_cons, List.take_zero] at hy2
  obtain ⟨n2, h2, w2⟩ := (opn_int Try.underlying3) _ _ _ _ _ _ _ hy2
  cases h2
  obtain ⟨y3, hy3⟩ := hf 3 23 3 rfl
  simp only [k23, List.drop_zero, List.drop_succ_cons, List.take_succ_cons, List.take_zero] at hy3
  obtain ⟨n3, h3, w3⟩ := opn_23 _ _ _ _ _ _ _ hy3
  cases h3
  exact ⟨⟨n0, n1, n2, n3.1, n3.2⟩, rfl, w0, w1, w2, w3⟩
theorem opn_26 : Opn Try.prog 26 eFld (fun x => (wfI .i64 x.rows ∧ wfI .i64 x.wd ∧ (wfI .i64 ((⟨x.lo, x.hi⟩ : (Int × Int)).1) ∧ wfI .i64 ((⟨x.lo, x.hi⟩ : (Int × Int)).2)) ∧ (x.ts.length ≤ maxLen ∧ ∀ y ∈ x.ts, (wfI .i64 y.who ∧ wfI .i64 y.fr ∧ wfI .i64 y.to ∧ (wfI .i64 ((⟨y.lo, y.hi⟩ : (Int × Int)).1) ∧ wfI .i64 ((⟨y.lo, y.hi⟩ : (Int × Int)).2)))))) := by
  intro H enc w sp fuel cs x h
  obtain ⟨hl, fuel', hf⟩ := trod_fields Try.underlying26 h
  have hc : Try.prog.cellsOf 26 = 5 := by kernel_rfl
  rw [hc] at hl
  have k3 : Try.prog.cellsOf 3 = 1 := by kernel_rfl
  have k23 : Try.prog.cellsOf 23 = 2 := by kernel_rfl
  have k24 : Try.prog.cellsOf 24 = 1 := by kernel_rfl
  obtain ⟨a0, a1, a2, a3, a4, rfl⟩ := len_5 hl
  obtain ⟨y0, hy0⟩ := hf 0 3 0 rfl
  simp only [k3, List.drop_zero, List.drop_succ_cons, List.take_succ_cons, List.take_zero] at hy0
  obtain ⟨n0, h0, w0⟩ := (opn_int Try.underlying3) _ _ _ _ _ _ _ hy0
  cases h0
  obtain ⟨y1, hy1⟩ := hf 1 3 1 rfl
  simp only [k3, List.drop_zero, List.drop_succ_cons, List.take_succ_cons, List.take_zero] at hy1
  obtain ⟨n1, h1, w1⟩ := (opn_int Try.underlying3) _ _ _ _ _ _ _ hy1
  cases h1
  obtain ⟨y2, hy2⟩ := hf 2 23 2 rfl
  simp only [k23, List.drop_zero, List.drop_succ_cons, List.take_succ_cons, List.take_zero] at hy2
  obtain ⟨n2, h2, w2⟩ := opn_23 _ _ _ _ _ _ _ hy2
  cases h2
  obtain ⟨y3, hy3⟩ := hf 3 24 4 rfl
  simp only [k24, List.drop_zero, List.drop_succ_cons, List.take_succ_cons, List.take_zero] at hy3
  obtain ⟨n3, ⟨A3, c3, h3, s3⟩, w3⟩ := (opn_slice Try.underlying24 (by kernel_rfl) (by decide) opn_68) _ _ _ _ _ _ _ hy3
  cases h3
  exact ⟨⟨n0, n1, n2.1, n2.2, n3⟩, ⟨A3, c3, rfl, s3⟩, w0, w1, w2, w3⟩
theorem ownT : ownKnob Try.prog.godebug = none := by kernel_rfl
theorem kidsT : Kids Try.prog (· < Try.prog.types.size) := kids_rows (by kernel_rfl) (by kernel_rfl)
theorem fullT : ∀ t e, t < Try.prog.types.size → Try.prog.underlying t = some (.slice e) → 0 < Try.prog.cellsOf e := slices_full_of Try.prog (by kernel_rfl)
end Go.Proofs.Ythogdgkafaclaaa
end
section
set_option linter.unusedVariables false
set_option linter.unusedSimpArgs false
namespace Go.Proofs.Ythogdgkafaclaaa
open Go.RowKit
open Go.RowKit Go.ChangeShapes Go.WideShapes Go.ChangeAt
set_option maxRecDepth 100000 in
theorem weedFirst_lifted (os : Os) (started : os.Started) (H : Type) (enc : TypeId × Value → H) :
    ReturnsInHanded {} Try.checked os 11 .any (Rows.weedFirstSpec.pre6 enc Try.prog Try.f11 Rows.weedFirstRow.domain false) (Rows.weedFirstSpec.post enc Try.prog Try.f11 false true false false) := by
  refine returnsInHanded_of_change (C := Try.checked) ownT started (by kernel_rfl) Try.func11
    (ChangeSpec.witness6 (enc := enc) (C := Try.checked) false ⟨#[], #[.agg #[.int .i64 0, .int .i64 0, .int .i64 0, .int .i64 0, .slice none 0 0]], []⟩ 8 (by kernel_rfl) (by kernel_rfl) (by kernel_rfl) (by kernel_rfl)) ?_
  intro W base args ds gs before hval0 hW hcnd _
  have hval : ∀ (j : Nat) t v, Try.f11.params[j]? = some t → args[j]? = some v → Value.okWide Try.prog W .any base t v := hval0
  have hW' := hW
  obtain ⟨p, q, hA0, hV, rfl, hfz, hnd⟩ := hW
  have hA : DataW.TrodAll enc Try.prog W 0 (fun _ => true) true Try.f11.params.toList args.toList ds p := hA0
  obtain ⟨rfl, rfl⟩ := trodVars_none hV
  simp only [List.append_nil] at hW'
  have hlt : ∀ x ∈ p, x.block < W.heap.size := fun x hx => by simpa using hW'.lt x hx
  have hAk := hA
  rw [Try.params11] at hA hval
  obtain ⟨v0, d0, rfl, rfl, h0⟩ := trodAll_one hA
  obtain ⟨x0, cs0, hv0, ⟨A0_0, c0_0, rfl, s0_0⟩, w0⟩ := val_agg Try.underlying26 opn_26 (hval 0 26 v0 rfl rfl) h0
  subst hv0
  obtain ⟨K, hG⟩ := weedFirst_true x0
  refine (ret_calls (a11 K x0 A0_0 c0_0 ZA W s0_0 hG)).mono fun e W' ⟨v, he, hx, hv⟩ => ?_
  subst he
  subst hv
  exact ⟨_, rfl, post_of_ext (pa := p) (pv := []) hW' (fun _ _ _ => trodAll_mk1 (shut_bool Try.underlying4 _)) (fun sp hs => args_read kidsT fullT (by rw [Try.params11]; decide) hAk hx hlt sp (fun x hx' => hs x (by simpa using hx'))) (fun _ _ => rfl) (by simp) hx (ok_one (by kernel_rfl) rfl (okWide_bool_mk Try.underlying4 _))⟩
theorem weedFirst_holds : Rows.WeedFirstSaid :=
  OpenClaim.holds_of_wide 11 Try.f11 rfl rfl rfl rfl rfl rfl rfl ⟨rfl, rfl, rfl, rfl, rfl⟩ rfl rfl rfl rfl rfl (by kernel_rfl) Try.func11 (by kernel_rfl)
    (of_decide_eq_true (by kernel_rfl)) (by unfold Func.isWrapper; first | (rw [if_pos (by decide +kernel)]; kernel_rfl) | (rw [if_neg (by decide +kernel)]; exact ⟨rfl, rfl⟩))
    (fun os started H enc _ => weedFirst_lifted os started H enc)
end Go.Proofs.Ythogdgkafaclaaa
end
