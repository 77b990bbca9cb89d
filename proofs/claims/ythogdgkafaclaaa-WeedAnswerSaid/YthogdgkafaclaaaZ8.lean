import Derived.Test.YthogdgkafaclaaaBC5
import Derived.ProofKit
import Derived.ChangeSame
import Derived.Deep.Slices
import Derived.Test.YthogdgkafaclaaaProg
import Derived.Test.YthogdgkafaclaaaRows
/-
  Proved: the law WeedAnswer returns true for every argument that the row hands over, and leaves every argument as it was; no condition beside the row's own.
-/
set_option linter.all false
section
namespace Go.Proofs.Ythogdgkafaclaaa
theorem bd {α β : Type} {x : Option α} {a : α} {f : α → Option β} (h : x = some a) : x.bind f = f a := by rw [h]; rfl
theorem i64b {β : Type} {x : Int} {f : Int → Option β} (h0 : -9223372036854775808 ≤ x) (h1 : x ≤ 9223372036854775807) : (i64 x).bind f = f x := bd (i64_eq h0 h1)
theorem idxb {α β : Type} {xs : List α} {k : Nat} {f : α → Option β} (h : k < xs.length) : (idx xs (k : Int)).bind f = f xs[k] := bd (idx_eq h)
theorem ifob {β : Type} {p : Prop} [Decidable p] {f : Unit → Option β} (h : p) : (ifo p).bind f = f () := bd (if_pos h)
theorem remb {β : Type} {a b : Int} {f : Int → Option β} (h0 : 0 ≤ a) (h1 : 1 ≤ b) : (rem a b).bind f = f (a % b) := bd (if_pos ⟨h0, h1⟩)
theorem ct {α : Type} {b : Bool} {x y : α} (h : b = true) : cond b x y = x := by rw [h]; rfl
theorem cf {α : Type} {b : Bool} {x y : α} (h : b = false) : cond b x y = y := by rw [h]; rfl
theorem nt {α : Type} {x y : α} : cond (!true) x y = y := rfl
theorem nf {α : Type} {x y : α} : cond (!false) x y = x := rfl
theorem dt {p : Prop} [Decidable p] (h : p) : decide p = true := decide_eq_true h
theorem df {p : Prop} [Decidable p] (h : ¬ p) : decide p = false := decide_eq_false h
theorem g_In (K : Nat) (n a b : Int) : G_In K n a b = some (inR n a b) := by unfold G_In inR; cases decide (a ≤ n) <;> rfl
theorem g_Within (K : Nat) (f : Fld) (lo hi : Int) : G_Within K (⟨lo, hi⟩ : Int × Int) 0 f.rows = some (rngOk f lo hi) := by
  unfold G_Within rngOk
  simp only []
  cases decide ((0 : Int) ≤ lo) <;> cases decide (lo ≤ hi) <;> rfl
/-- How often somebody stands in a part of a list. -/
def part (l : List Int) (who : Int) (fr n : Nat) : Nat := cnt who ((l.drop fr).take n)
theorem part_succ (l : List Int) (who : Int) (fr n : Nat) (h : fr < l.length) : part l who fr (n + 1) = (if l[fr] = who then 1 else 0) + part l who (fr + 1) n := by
  unfold part cnt
  rw [List.drop_eq_getElem_cons h, List.take_succ_cons, List.countP_cons]
  simp only [beq_iff_eq]
  omega
theorem l_Many (f : Fld) (hw : 0 ≤ f.wd) (hw3 : f.wd ≤ 3) (hr : f.rows ≤ 7) : ∀ (n m i : Nat) (s : Int), f.rows = i + n → n < m → 0 ≤ s → s * (f.wd + 1) ^ n ≤ 1000000 → G_Many_L2 f m s (i : Int) = some (s * (f.wd + 1) ^ n)
  | n, 0, i, s, h, hm, _, _ => by omega
  | 0, m + 1, i, s, h, hm, h0, h1 => by
    unfold G_Many_L2
    rw [cf (df (by omega))]
    simp
  | n + 1, m + 1, i, s, h, hm, h0, h1 => by
    unfold G_Many_L2
    have hp : 1 ≤ (f.wd + 1) ^ n := by
      have h9 : 0 < (f.wd + 1) ^ n := Int.pow_pos (by omega)
      omega
    have hs : s * (f.wd + 1) * (f.wd + 1) ^ n ≤ 1000000 := by
      rw [Int.mul_assoc]; rw [Int.pow_succ, Int.mul_comm ((f.wd + 1) ^ n)] at h1; exact h1
    have h2 : 0 ≤ s * (f.wd + 1) := Int.mul_nonneg h0 (by omega)
    have h3 : s * (f.wd + 1) ≤ 1000000 := by
      have h4 := Int.mul_le_mul_of_nonneg_left hp h2
      omega
    rw [ct (dt (by omega)), i64b (by omega) (by omega), i64b (by omega) (by omega), i64b (by omega) (by omega)]
    have e : ((i : Int) + 1) = ((i + 1 : Nat) : Int) := by omega
    rw [e, l_Many f hw hw3 hr n m (i + 1) (s * (f.wd + 1)) (by omega) (by omega) h2 hs]
    rw [Int.mul_assoc, Int.pow_succ, Int.mul_comm ((f.wd + 1) ^ n)]
theorem g_Many {K : Nat} {f : Fld} (hK : 1000 ≤ K) (hw : 0 ≤ f.wd) (hw3 : f.wd ≤ 3) (hr0 : 0 ≤ f.rows) (hr : f.rows ≤ 7) : G_Many K f = some (many f) := by
  unfold G_Many
  have h := (pow_bd7 (f.wd + 1) (by omega) (by omega) f.rows.toNat (by omega)).2
  have := l_Many f hw hw3 hr f.rows.toNat K 0 1 (by omega) (by omega) (by omega) (by omega)
  rw [Int.natCast_zero] at this
  rw [this]
  simp [many]
theorem talOk_ref (f : Fld) (t : Tly) : talOk f t = (inR t.who 0 (f.wd - 1) && (inR t.fr 0 (f.rows - 1) && (inR t.to t.fr (f.rows - 1) && rngOk f t.lo t.hi))) := by
  rw [Bool.eq_iff_iff]
  unfold talOk
  simp only [Bool.and_eq_true, inR_iff, decide_eq_true_eq]
  constructor
  · rintro ⟨⟨⟨⟨h1, h2⟩, h3⟩, h4⟩, h5⟩; exact ⟨h1, h2, ⟨h4, h3.2⟩, h5⟩
  · rintro ⟨h1, h2, ⟨h3, h4⟩, h5⟩; exact ⟨⟨⟨⟨h1, h2⟩, by omega, h4⟩, h3⟩, h5⟩
theorem l_Fault (K : Nat) (f : Fld) (hr : 1 ≤ f.rows ∧ f.rows ≤ 7) (hw : 1 ≤ f.wd ∧ f.wd ≤ 3) (hl : f.ts.length ≤ 1000000) : ∀ (n m i : Nat), f.ts.length = i + n → n < m → G_Fault_L12 K f m (i : Int) = some (if (f.ts.drop i).all (talOk f) = true then .inr () else .inl 1)
  | n, 0, i, h, hm => by omega
  | 0, m + 1, i, h, hm => by
    unfold G_Fault_L12
    rw [cf (df (by omega)), List.drop_eq_nil_of_le (by omega)]
    rfl
  | n + 1, m + 1, i, h, hm => by
    unfold G_Fault_L12
    have hi : i < f.ts.length := by omega
    rw [ct (dt (by omega)), idxb hi, i64b (by omega) (by omega), bd (g_In ..), List.drop_eq_getElem_cons hi, List.all_cons, talOk_ref]
    cases h1 : inR f.ts[i].who 0 (f.wd - 1) with
    | false => rfl
    | true =>
      rw [nt, i64b (by omega) (by omega), bd (g_In ..)]
      cases h2 : inR f.ts[i].fr 0 (f.rows - 1) with
      | false => rfl
      | true =>
        rw [nt, i64b (by omega) (by omega), bd (g_In ..)]
        cases h3 : inR f.ts[i].to f.ts[i].fr (f.rows - 1) with
        | false => rfl
        | true =>
          rw [nt, bd (g_Within ..)]
          cases h4 : rngOk f f.ts[i].lo f.ts[i].hi with
          | false => rfl
          | true =>
            have e : ((i : Int) + 1) = ((i + 1 : Nat) : Int) := by omega
            rw [nt, i64b (by omega) (by omega), e, l_Fault K f hr hw hl n m (i + 1) (by omega) (by omega)]
            rfl
theorem g_Fault {K : Nat} {f : Fld} (hK : 1000 ≤ K) : G_Fault K f = some (check f) := by
  unfold G_Fault check
  by_cases hb : big f = true
  · rw [if_pos hb]
    simp only [big, Bool.or_eq_true, decide_eq_true_eq] at hb
    by_cases h1 : 7 < f.rows
    · rw [ct (dt h1)]
    · rw [cf (df h1)]
      by_cases h2 : 3 < f.wd
      · rw [ct (dt h2)]
      · rw [cf (df h2), ct (dt (by omega))]
  · rw [if_neg hb]
    simp only [big, Bool.or_eq_true, decide_eq_true_eq, not_or] at hb
    rw [cf (df hb.1), cf (df hb.2.1), cf (df hb.2.2)]
    by_cases hr : f.rows < 1
    · rw [ct (dt hr), if_pos (by simp [bad, hr])]
    · by_cases hw : f.wd < 1
      · rw [cf (df hr), ct (dt hw), if_pos (by simp [bad, hw])]
      · rw [cf (df hr), cf (df hw), bd (g_Within ..)]
        have hbad : bad f = (!rngOk f f.lo f.hi || !f.ts.all (talOk f)) := by simp [bad, hr, hw]
        rw [hbad]
        cases h3 : rngOk f f.lo f.hi with
        | false => rfl
        | true =>
          have := l_Fault K f ⟨by omega, by omega⟩ ⟨by omega, by omega⟩ (by omega) f.ts.length K 0 (by omega) (by omega)
          rw [Int.natCast_zero] at this
          rw [nt, bd this, List.drop_zero]
          cases h4 : f.ts.all (talOk f) with
          | false => rfl
          | true =>
            rw [if_pos rfl, if_neg (by decide)]
            show (G_Many K f).bind _ = _
            rw [bd (g_Many hK (by omega) (by omega) (by omega) (by omega))]
            by_cases h5 : 2500 < many f
            · rw [ct (dt h5), if_pos h5]
            · rw [cf (df h5), if_neg h5]
theorem g_fault {K : Nat} {f : Fld} (hK : 1000 ≤ K) : G_fault K f = some (check f) := by unfold G_fault; rw [bd (g_Fault hK)]
/-- The fields that the laws go through. -/
def thin (f : Fld) : Bool := decide (f.ts.length ≤ 7) && (decide (check f ≠ 0) || decide (many f ≤ 250))
theorem g_Thin {K : Nat} {f : Fld} (hK : 1000 ≤ K) : G_Thin K f = some (thin f) := by
  unfold G_Thin thin
  by_cases h1 : f.ts.length ≤ 7
  · rw [ct (dt (by omega)), bd (g_Fault hK)]
    by_cases h2 : check f = 0
    · obtain ⟨hr, hw, _⟩ := check_ok h2
      rw [cf (by simp [h2]), bd (g_Many hK (by omega) (by omega) (by omega) (by omega))]
      simp [h1, h2]
    · rw [ct (by simp [h2])]
      simp [h1, h2]
  · rw [cf (df (by omega))]
    simp [h1]
theorem thin_len {f : Fld} (h : thin f = true) : f.ts.length ≤ 7 := by
  simp only [thin, Bool.and_eq_true, decide_eq_true_eq] at h; exact h.1
theorem thin_many {f : Fld} (h : thin f = true) (hc : check f = 0) : many f ≤ 250 := by
  simp only [thin, Bool.and_eq_true, Bool.or_eq_true, decide_eq_true_eq] at h
  rcases h.2 with h2 | h2
  · exact absurd hc h2
  · exact h2
theorem g_to (K : Nat) (r : Int × Int) : G_to K r = some r := rfl
theorem l_Field (K : Nat) (f : Fld) (hl : f.ts.length ≤ 7) : ∀ (n m i : Nat), f.ts.length = i + n → n < m → G_Field_L7 K f m (i : Int) (f.ts.take i) = some f.ts
  | n, 0, i, h, hm => by omega
  | 0, m + 1, i, h, hm => by
    unfold G_Field_L7
    rw [cf (df (by omega)), List.take_of_length_le (by omega)]
  | n + 1, m + 1, i, h, hm => by
    unfold G_Field_L7
    have hi : i < f.ts.length := by omega
    have e : ((i : Int) + 1) = ((i + 1 : Nat) : Int) := by omega
    rw [ct (dt (by omega)), idxb hi, bd (g_to ..), ifob (by simp; omega), i64b (by omega) (by omega), e]
    have ht : f.ts.take i ++ [(⟨f.ts[i].who, f.ts[i].fr, f.ts[i].to, f.ts[i].lo, f.ts[i].hi⟩ : Tly)] = f.ts.take (i + 1) := (List.take_succ_eq_append_getElem hi).symm
    show G_Field_L7 K f m ((i + 1 : Nat) : Int) (f.ts.take i ++ [(⟨f.ts[i].who, f.ts[i].fr, f.ts[i].to, f.ts[i].lo, f.ts[i].hi⟩ : Tly)]) = _
    rw [ht, l_Field K f hl n m (i + 1) (by omega) (by omega)]
theorem g_Field {K : Nat} {f : Fld} (hK : 1000 ≤ K) (hl : f.ts.length ≤ 7) : G_Field K f = some f := by
  unfold G_Field
  have := l_Field K f hl f.ts.length K 0 (by omega) (by omega)
  rw [Int.natCast_zero, List.take_zero] at this
  rw [bd (g_to ..), bd this]
/-- All tallies but none. -/
theorem allAt_nil (l : List Int) : ∀ (ts : List Tly) (i : Nat), allAt l [] i ts = ts.all fun t => inR (didK l [t.who, t.fr, t.to]) t.lo t.hi
  | [], _ => rfl
  | t :: ts, i => by
    rw [allAt, allAt_nil l ts (i + 1), List.all_cons]
    rfl
/-- Somebody's rows in a tally's stretch. -/
def tdid (l : List Int) (t : Tly) : Int := (part l t.who t.fr.toNat (t.to + 1 - t.fr).toNat : Nat)
theorem didK_part (l : List Int) (t : Tly) (h : 0 ≤ t.fr ∧ t.fr ≤ t.to) : didK l [t.who, t.fr, t.to] = tdid l t := by
  unfold didK tdid part
  have : (t.to + 1).toNat - t.fr.toNat = (t.to + 1 - t.fr).toNat := by omega
  simp only [this]
theorem part_pad (l : List Int) (who : Int) (fr n : Nat) (h : fr + n ≤ l.length) : part (pad l) who fr n = part l who fr n := by
  unfold part pad
  rw [List.drop_append_of_le_length (by omega), List.take_append_of_le_length (by simp; omega)]
theorem tdid_pad (f : Fld) (l : List Int) (t : Tly) (hl : (l.length : Int) = f.rows) (h : talOk f t = true) : tdid (pad l) t = tdid l t := by
  have := talOk_bd h
  unfold tdid
  rw [part_pad _ _ _ _ (by omega)]
/-- What the reference calls allowed, and a truth. -/
def alw (f : Fld) (l : List Int) : Bool := l.all (okWho f) && (decide ((l.length : Int) = f.rows) && inR ((part l (-1) 0 l.length : Nat) : Int) f.lo f.hi)
def tru (f : Fld) (l : List Int) : Bool := alw f l && f.ts.all fun t => inR (tdid l t) t.lo t.hi
theorem okWho_in (f : Fld) (n : Int) (hw : 1 ≤ f.wd) : okWho f n = inR n (-1) (f.wd - 1) := by
  rw [Bool.eq_iff_iff]
  simp only [okWho, Bool.or_eq_true, beq_iff_eq, inR_iff]
  omega
end Go.Proofs.Ythogdgkafaclaaa
end
section
namespace Go.Proofs.Ythogdgkafaclaaa
/-- The i-th list of so many numbers. -/
def nthL (b : Int) : Nat → Int → List Int
  | 0, _ => []
  | n + 1, i => (i % b - 1) :: nthL b n (i / b)
theorem nthL_surj (b : Int) (hb : 1 ≤ b) : ∀ (l : List Int), (∀ x ∈ l, -1 ≤ x ∧ x ≤ b - 2) → ∃ i : Nat, (i : Int) < b ^ l.length ∧ nthL b l.length i = l
  | [], _ => ⟨0, by simp, rfl⟩
  | x :: l, h => by
    obtain ⟨i, hi, he⟩ := nthL_surj b hb l fun y hy => h y (List.mem_cons_of_mem _ hy)
    have hx := h x (List.mem_cons_self ..)
    have h0 : 0 ≤ (x + 1) + b * (i : Int) := by
      have : 0 ≤ b * (i : Int) := Int.mul_nonneg (by omega) (by omega)
      omega
    refine ⟨((x + 1) + b * (i : Int)).toNat, ?_, ?_⟩
    · have h2 : b ^ (l.length + 1) = b * b ^ l.length := by rw [Int.pow_succ, Int.mul_comm]
      rw [Int.toNat_of_nonneg h0, List.length_cons, h2]
      have h1 : b * ((i : Int) + 1) ≤ b * b ^ l.length := Int.mul_le_mul_of_nonneg_left (by omega) (by omega)
      rw [Int.mul_add, Int.mul_one] at h1
      omega
    · rw [Int.toNat_of_nonneg h0]
      simp only [List.length_cons, nthL]
      rw [Int.add_mul_emod_self_left, Int.add_mul_ediv_left _ _ (by omega), Int.emod_eq_of_lt (by omega) (by omega), Int.ediv_eq_zero_of_lt (by omega) (by omega), Int.zero_add, he]
      congr 1
      omega
/-- The reference's truths. -/
def refs (f : Fld) : List (List Int) := ((List.range (many f).toNat).map fun i : Nat => nthL (f.wd + 1) f.rows.toNat (i : Int)).filter (tru f)
theorem many_nn {f : Fld} (hc : check f = 0) : 0 ≤ many f := by
  obtain ⟨hr, hw, _⟩ := check_ok hc
  exact (pow_bd7 (f.wd + 1) (by omega) (by omega) f.rows.toNat (by omega)).1
theorem tru_alw {f : Fld} {l : List Int} (h : tru f l = true) : (∀ x ∈ l, okWho f x = true) ∧ (l.length : Int) = f.rows ∧ inR ((part l (-1) 0 l.length : Nat) : Int) f.lo f.hi = true := by
  simp only [tru, alw, Bool.and_eq_true, decide_eq_true_eq, List.all_eq_true] at h
  exact ⟨h.1.1, h.1.2.1, h.1.2.2⟩
theorem mem_refs {f : Fld} (hc : check f = 0) {l : List Int} : l ∈ refs f ↔ tru f l = true := by
  obtain ⟨hr, hw, _⟩ := check_ok hc
  unfold refs
  rw [List.mem_filter]
  constructor
  · exact fun h => h.2
  · intro h
    refine ⟨?_, h⟩
    obtain ⟨h1, h2, _⟩ := tru_alw h
    obtain ⟨i, hi, he⟩ := nthL_surj (f.wd + 1) (by omega) l fun x hx => by
      have := h1 x hx
      rw [okWho_in f x hw.1, inR_iff] at this
      omega
    have hl : f.rows.toNat = l.length := by omega
    rw [List.mem_map]
    refine ⟨i, ?_, by rw [hl]; exact he⟩
    have h0 := many_nn hc
    have hm : many f = (f.wd + 1) ^ l.length := by unfold many; rw [hl]
    rw [List.mem_range]
    omega
theorem refs_len (f : Fld) (hc : check f = 0) : ((refs f).length : Int) ≤ many f := by
  have h0 := many_nn hc
  have h1 : (refs f).length ≤ (many f).toNat := by
    unfold refs
    refine Nat.le_trans (List.length_filter_le _ _) ?_
    simp
  omega
theorem mem_whos {wd x : Int} (hw : 0 ≤ wd) : x ∈ whos wd ↔ -1 ≤ x ∧ x ≤ wd - 1 := by
  simp only [whos, List.mem_map, List.mem_range]
  constructor
  · rintro ⟨j, hj, rfl⟩; omega
  · intro h; exact ⟨(x + 1).toNat, by omega, by omega⟩
theorem mem_enum (p : List Int → Bool) (wd : Int) : ∀ (k : Nat) (pre a : List Int), a ∈ enum p wd k pre ↔ ∃ t : List Int, t.length = k ∧ (∀ x ∈ t, x ∈ whos wd) ∧ p (pad (pre ++ t)) = true ∧ a = pad (pre ++ t)
  | 0, pre, a => by
    unfold enum
    constructor
    · intro h
      split at h
      · rename_i hp
        exact ⟨[], rfl, by simp, by simpa using hp, by simpa using h⟩
      · cases h
    · rintro ⟨t, ht, _, hp, rfl⟩
      obtain rfl := List.length_eq_zero_iff.1 ht
      rw [List.append_nil] at hp ⊢
      rw [if_pos hp]; simp
  | k + 1, pre, a => by
    simp only [enum, List.mem_flatMap]
    constructor
    · rintro ⟨x, hx, h⟩
      obtain ⟨t, h1, h2, h3, h4⟩ := (mem_enum p wd k _ a).1 h
      rw [List.append_assoc, List.singleton_append] at h3 h4
      exact ⟨x :: t, by simp [h1], by simpa using ⟨hx, h2⟩, h3, h4⟩
    · rintro ⟨t, h1, h2, h3, h4⟩
      cases t with
      | nil => simp at h1
      | cons x t =>
        refine ⟨x, h2 x (List.mem_cons_self ..), (mem_enum p wd k _ a).2 ⟨t, by simpa using h1, fun y hy => h2 y (List.mem_cons_of_mem _ hy), ?_, ?_⟩⟩
        · rw [List.append_assoc, List.singleton_append]; exact h3
        · rw [List.append_assoc, List.singleton_append]; exact h4
theorem all_congr {α : Type} {p q : α → Bool} : ∀ {l : List α}, (∀ x ∈ l, p x = q x) → l.all p = l.all q
  | [], _ => rfl
  | a :: l, h => by rw [List.all_cons, List.all_cons, h a (List.mem_cons_self ..), all_congr fun x hx => h x (List.mem_cons_of_mem _ hx)]
theorem right_tru {f : Fld} {l : List Int} (ht : ∀ t ∈ f.ts, talOk f t = true) (hl : (l.length : Int) = f.rows) : rightB f (pad l) [] = (f.ts.all (fun t => inR (tdid l t) t.lo t.hi) && inR ((part l (-1) 0 l.length : Nat) : Int) f.lo f.hi) := by
  unfold rightB
  rw [allAt_nil]
  congr 1
  · refine all_congr fun t h => ?_
    have h1 := talOk_bd (ht t h)
    rw [didK_part _ _ ⟨h1.2.1.1, h1.2.1.2.1⟩, tdid_pad f l t hl (ht t h)]
  · have h2 : f.rows.toNat = l.length := by omega
    have h3 : (pad l).take f.rows.toNat = l.take l.length := by
      unfold pad; rw [h2, List.take_append_of_le_length (Nat.le_refl _)]
    rw [h3]
    unfold part
    rw [List.drop_zero]
theorem mem_truths {f : Fld} (hc : check f = 0) {a : List Int} : a ∈ truths f [] ↔ ∃ l, l ∈ refs f ∧ a = pad l := by
  obtain ⟨hr, hw, _, ht, _⟩ := check_ok hc
  unfold truths
  rw [mem_enum]
  constructor
  · rintro ⟨t, h1, h2, h3, h4⟩
    rw [List.nil_append] at h3 h4
    refine ⟨t, (mem_refs hc).2 ?_, h4⟩
    have hl : (t.length : Int) = f.rows := by omega
    have h3' : rightB f (pad t) [] = true := h3
    rw [right_tru ht hl, Bool.and_eq_true] at h3'
    have h5 : t.all (okWho f) = true := by
      rw [List.all_eq_true]
      intro x hx
      rw [okWho_in f x hw.1, inR_iff]
      have := (mem_whos (by omega)).1 (h2 x hx)
      omega
    unfold tru alw
    rw [h5, h3'.1, h3'.2]
    simp [hl]
  · rintro ⟨l, h, rfl⟩
    have h1 := (mem_refs hc).1 h
    obtain ⟨h2, h3, h4⟩ := tru_alw h1
    refine ⟨l, by omega, fun x hx => ?_, ?_, by simp⟩
    · rw [mem_whos (by omega)]
      have := h2 x hx
      rw [okWho_in f x hw.1, inR_iff] at this
      omega
    · rw [List.nil_append]
      show rightB f (pad l) [] = true
      rw [right_tru ht h3, h4]
      simp only [tru, Bool.and_eq_true] at h1
      rw [h1.2]; rfl
theorem truths_nil {f : Fld} (hc : check f = 0) : truths f [] = [] ↔ refs f = [] := by
  constructor
  · intro h
    rw [List.eq_nil_iff_forall_not_mem] at h ⊢
    exact fun l hl => h (pad l) ((mem_truths hc).2 ⟨l, hl, rfl⟩)
  · intro h
    rw [List.eq_nil_iff_forall_not_mem] at h ⊢
    rintro a ha
    obtain ⟨l, hl, _⟩ := (mem_truths hc).1 ha
    exact h l hl
/-- The error that comes with a question. -/
def sureE (f : Fld) : Int := if check f ≠ 0 then check f else if refs f = [] then 11 else 0
theorem askE_true (f : Fld) : askE f true = sureE f := by
  unfold askE sureE
  by_cases hc : check f = 0
  · simp only [hc, ne_eq, not_true_eq_false, if_false]
    by_cases h : refs f = []
    · rw [if_neg (by decide), if_pos h, if_pos ((truths_nil hc).2 h)]
    · rw [if_neg (by decide), if_neg h, if_neg (fun e => h ((truths_nil hc).1 e))]
  · rw [if_pos hc, if_pos hc]
theorem cntr_pad {f : Fld} {l : List Int} {who : Int} (hl : (l.length : Int) = f.rows) : cntr f (pad l) who = (part l who 0 l.length : Nat) := by
  unfold cntr part pad
  have h2 : f.rows.toNat = l.length := by omega
  rw [h2, List.take_append_of_le_length (Nat.le_refl _), List.drop_zero]
end Go.Proofs.Ythogdgkafaclaaa
end
section
namespace Go.Proofs.Ythogdgkafaclaaa
theorem sorted_ext : ∀ {l m : List Int}, l.Pairwise (· < ·) → m.Pairwise (· < ·) → (∀ x, x ∈ l ↔ x ∈ m) → l = m
  | [], [], _, _, _ => rfl
  | [], b :: m, _, _, h => by have := (h b).2 (List.mem_cons_self ..); cases this
  | a :: l, [], _, _, h => by have := (h a).1 (List.mem_cons_self ..); cases this
  | a :: l, b :: m, h1, h2, h => by
    rw [List.pairwise_cons] at h1 h2
    have hab : a = b := by
      rcases List.mem_cons.1 ((h a).1 (List.mem_cons_self ..)) with e | e
      · exact e
      · rcases List.mem_cons.1 ((h b).2 (List.mem_cons_self ..)) with e2 | e2
        · exact e2.symm
        · have := h1.1 b e2; have := h2.1 a e; omega
    subst hab
    congr 1
    refine sorted_ext h1.2 h2.2 fun x => ⟨fun hx => ?_, fun hx => ?_⟩
    · rcases List.mem_cons.1 ((h x).1 (List.mem_cons_of_mem _ hx)) with e | e
      · have := h1.1 x hx; omega
      · exact e
    · rcases List.mem_cons.1 ((h x).2 (List.mem_cons_of_mem _ hx)) with e | e
      · have := h2.1 x hx; omega
      · exact e
theorem getI {zs : List Int} {m : Nat} (h : m < zs.length) : zs.toArray[m]! = zs[m] := by
  rw [getElem!_pos zs.toArray m (by simpa using h)]; simp
theorem compact_inv {zs : List Int} (hs : zs.Pairwise (· ≤ ·)) : ∀ m, m ≤ zs.length → (Lib.compactUpTo zs.toArray m).Pairwise (· < ·) ∧ ∀ x, x ∈ Lib.compactUpTo zs.toArray m ↔ x ∈ zs.take m
  | 0, _ => by simp [Lib.compactUpTo]
  | m + 1, h => by
    obtain ⟨h1, h2⟩ := compact_inv hs m (by omega)
    have hm : m < zs.length := by omega
    rw [Lib.compactUpTo_succ, List.take_succ_eq_append_getElem hm, getI hm]
    have hle : ∀ x ∈ zs.take m, x ≤ zs[m] := fun x hx => by
      obtain ⟨i, hi, rfl⟩ := List.mem_iff_getElem.1 hx
      rw [List.getElem_take]
      simp at hi
      exact (List.pairwise_iff_getElem.1 hs) i m _ hm (by omega)
    by_cases hk : Lib.keeps zs.toArray m = true
    · rw [if_pos hk]
      refine ⟨?_, fun x => by rw [List.mem_append, List.mem_append, h2]⟩
      rw [List.pairwise_append]
      refine ⟨h1, by simp, fun x hx y hy => ?_⟩
      obtain rfl : y = zs[m] := by simpa using hy
      have hx2 := (h2 x).1 hx
      have hx3 := hle x hx2
      simp only [Lib.keeps, decide_eq_true_eq] at hk
      rcases hk with rfl | hk
      · simp at hx2
      · have hm1 : 0 < m := by
          rcases Nat.eq_zero_or_pos m with rfl | h0
          · simp at hx2
          · exact h0
        rw [getI hm, getI (by omega : m - 1 < zs.length)] at hk
        obtain ⟨i, hi, rfl⟩ := List.mem_iff_getElem.1 hx2
        rw [List.getElem_take] at hx3 ⊢
        simp at hi
        have h5 : zs[m - 1] ≤ zs[m] := (List.pairwise_iff_getElem.1 hs) (m - 1) m _ hm (by omega)
        have h4 : zs[i] ≤ zs[m - 1] := by
          by_cases e : i = m - 1
          · subst e; exact Int.le_refl _
          · exact (List.pairwise_iff_getElem.1 hs) i (m - 1) _ _ (by omega)
        have h6 : zs[m] ≠ zs[m - 1] := hk
        show zs[i] < zs[m]
        omega
    · rw [if_neg hk, List.append_nil]
      refine ⟨h1, fun x => ?_⟩
      rw [h2]
      have hk2 : ¬ (m = 0 ∨ zs.toArray[m]! ≠ zs.toArray[m - 1]!) := by simpa [Lib.keeps] using hk
      have hm1 : 0 < m := by
        rcases Nat.eq_zero_or_pos m with rfl | h0
        · exact absurd (.inl rfl) hk2
        · exact h0
      have he : zs.toArray[m]! = zs.toArray[m - 1]! := Decidable.byContradiction fun e => hk2 (.inr e)
      rw [getI hm, getI (by omega : m - 1 < zs.length)] at he
      have hin : zs[m] ∈ zs.take m := by
        rw [he, List.mem_iff_getElem]
        exact ⟨m - 1, by simp; omega, by simp⟩
      simp only [List.mem_append, List.mem_singleton]
      exact ⟨.inl, fun h => h.elim id fun e => e ▸ hin⟩
theorem whos_sorted (wd : Int) : (whos wd).Pairwise (· < ·) := by
  unfold whos
  rw [List.pairwise_map]
  exact List.pairwise_lt_range.imp fun h => by omega
/-- Who stands in a row of some lists. -/
def whoS (wd : Int) (T : List (List Int)) (row : Nat) : List Int := (whos wd).filter fun x => T.any fun a => a.getD row 0 == x
theorem whoF_eq {wd : Int} {T : List (List Int)} {row : Int} (hw : 0 ≤ wd) (hb : ∀ a ∈ T, -1 ≤ a.getD row.toNat 0 ∧ a.getD row.toNat 0 ≤ wd - 1) : whoF T row = whoS wd T row.toNat := by
  unfold whoF
  have hs : ((T.map fun a : List Int => a.getD row.toNat 0).mergeSort fun x y => decide (x ≤ y)).Pairwise (· ≤ ·) := by
    have := List.pairwise_mergeSort (le := fun x y : Int => decide (x ≤ y)) (fun a b c h1 h2 => by simp at *; omega) (fun a b => by simp; omega) (T.map fun a : List Int => a.getD row.toNat 0)
    exact this.imp fun h => by simpa using h
  obtain ⟨h1, h2⟩ := compact_inv hs _ (Nat.le_refl _)
  refine sorted_ext h1 ((whos_sorted wd).filter _) fun x => ?_
  rw [show Lib.compact ((T.map fun a : List Int => a.getD row.toNat 0).mergeSort fun x y => decide (x ≤ y)) = Lib.compactUpTo ((T.map fun a : List Int => a.getD row.toNat 0).mergeSort fun x y => decide (x ≤ y)).toArray ((T.map fun a : List Int => a.getD row.toNat 0).mergeSort fun x y => decide (x ≤ y)).length from rfl, h2, List.take_length, List.mem_mergeSort]
  unfold whoS
  simp only [List.mem_map, List.mem_filter, mem_whos hw, List.any_eq_true, beq_iff_eq]
  constructor
  · rintro ⟨a, ha, rfl⟩; exact ⟨hb a ha, a, ha, rfl⟩
  · rintro ⟨_, a, ha, e⟩; exact ⟨a, ha, e⟩
def f4 : Fld := ⟨4, 2, 0, 0, [⟨0, 0, 2, 2, 3⟩, ⟨1, 2, 3, 1, 2⟩]⟩
def f5 : Fld := ⟨4, 2, 0, 0, [⟨0, 0, 2, 2, 3⟩, ⟨1, 2, 3, 1, 2⟩, ⟨0, 0, 1, 2, 2⟩]⟩
def f6 : Fld := ⟨4, 2, 0, 0, [⟨0, 0, 2, 2, 3⟩, ⟨1, 2, 3, 1, 2⟩, ⟨1, 0, 1, 2, 2⟩]⟩
theorem who4 : whoF (truths f4 []) 3 = [0, 1] := by
  rw [whoF_eq (wd := 2) (by omega) (by decide +kernel)]
  decide +kernel
theorem awake_1000 : G_awake 1000 = some true := by
  unfold G_awake
  rw [bd (show G_four 1000 [] = some f4 from rfl), bd (show Q_Done 1000 f4 = some ([(2, 3), (1, 2)], 0) by decide +kernel), bd (show G_four 1000 [] = some f4 from rfl)]
  rw [bd (show Q_Who 1000 f4 3 = some ([0, 1], 0) by unfold Q_Who; rw [who4]; decide +kernel)]
  rw [bd (show G_two 1000 = some ⟨0, 0, 1, 2, 2⟩ from rfl), bd (show G_four 1000 [⟨0, 0, 1, 2, 2⟩] = some f5 from rfl), bd (show Q_Ask 1000 f5 0 = some ([2, 3], 0) by decide +kernel), bd (show G_four 1000 [] = some f4 from rfl)]
  rw [bd (show Q_Next 1000 f4 0 = some (0, 3, 0) by decide +kernel), bd (show G_wrong 1000 = some ⟨1, 0, 1, 2, 2⟩ from rfl), bd (show G_four 1000 [⟨1, 0, 1, 2, 2⟩] = some f6 from rfl), bd (show Q_First 1000 f6 = some (2, 0) by decide +kernel)]
  rw [bd (show G_wrong 1000 = some ⟨1, 0, 1, 2, 2⟩ from rfl), bd (show G_four 1000 [⟨1, 0, 1, 2, 2⟩] = some f6 from rfl), bd (show Q_Leave 1000 f6 = some ([0], 0) by decide +kernel)]
  decide +kernel
end Go.Proofs.Ythogdgkafaclaaa
end
section
namespace Go.Proofs.Ythogdgkafaclaaa
theorem sureE_ok {f : Fld} (h : sureE f = 0) : check f = 0 ∧ refs f ≠ [] := by
  unfold sureE at h
  split at h
  · exact absurd h ‹_›
  · rename_i hc
    have hc : check f = 0 := Decidable.byContradiction hc
    refine ⟨hc, fun e => ?_⟩
    rw [if_pos e] at h
    cases h
end Go.Proofs.Ythogdgkafaclaaa
end
section
namespace Go.Proofs.Ythogdgkafaclaaa
/-- The places of the bits that are set. -/
def bitsL (s : Nat) : List Int := ((List.range 8).filter fun x => s / 2 ^ x % 2 == 1).map fun x : Nat => (x : Int)
def lexB : List Int → List Int → Bool
  | a :: as1, b :: bs1 => if a = b then lexB as1 bs1 else decide (a < b)
  | [], _ :: _ => true
  | _, [] => false
/-- Shorter, or as1 long and before it. -/
def sh (a b : List Int) : Bool := decide (a.length < b.length) || (a.length == b.length && lexB a b)
theorem lexB_irr : ∀ a : List Int, lexB a a = false
  | [] => rfl
  | a :: as1 => by rw [lexB, if_pos rfl, lexB_irr as1]
theorem lexB_trans : ∀ a b c : List Int, lexB a b = true → lexB b c = true → lexB a c = true
  | [], b, [], h1, h2 => by cases b <;> cases h1; cases h2
  | [], b, c :: cs1, h1, h2 => rfl
  | a :: as1, [], c, h1, h2 => by cases h1
  | a :: as1, b :: bs1, [], h1, h2 => by cases h2
  | a :: as1, b :: bs1, c :: cs1, h1, h2 => by
    rw [lexB] at h1 h2 ⊢
    by_cases e : a = b
    · subst e
      rw [if_pos rfl] at h1
      by_cases e2 : a = c
      · subst e2
        rw [if_pos rfl] at h2 ⊢
        exact lexB_trans as1 bs1 cs1 h1 h2
      · rw [if_neg e2] at h2 ⊢; exact h2
    · rw [if_neg e, decide_eq_true_eq] at h1
      by_cases e2 : b = c
      · subst e2
        rw [if_neg e, decide_eq_true_eq]; exact h1
      · rw [if_neg e2, decide_eq_true_eq] at h2
        rw [if_neg (by omega), decide_eq_true_eq]; omega
theorem sh_iff {a b : List Int} : sh a b = true ↔ a.length < b.length ∨ (a.length = b.length ∧ lexB a b = true) := by simp [sh]
theorem sh_irr (a : List Int) : sh a a = false := by
  rw [Bool.eq_false_iff]; intro h
  rcases sh_iff.1 h with h | h
  · omega
  · rw [lexB_irr] at h; cases h.2
theorem sh_trans {a b c : List Int} (h : sh a b = true) (g : sh b c = true) : sh a c = true := by
  rw [sh_iff] at h g ⊢
  rcases h with h | h <;> rcases g with g | g
  · exact .inl (by omega)
  · exact .inl (by omega)
  · exact .inl (by omega)
  · exact .inr ⟨by omega, lexB_trans _ _ _ h.2 g.2⟩
theorem cand_in : ∀ n : Nat, n < 8 → ∀ s : Nat, s < 2 ^ n → bitsL s ∈ candAll (n : Int) (n + 1) := by decide +kernel
theorem cand_of : ∀ n : Nat, n < 8 → ∀ l ∈ candAll (n : Int) (n + 1), ∃ s : Nat, s < 2 ^ n ∧ bitsL s = l := by decide +kernel
theorem cand_sorted : ∀ n : Nat, n < 8 → (candAll (n : Int) (n + 1)).Pairwise fun a b => sh a b = true := by decide +kernel
theorem bits_len : ∀ s : Nat, (bitsL s).length ≤ 8 := fun s => by
  unfold bitsL
  rw [List.length_map]
  exact Nat.le_trans (List.length_filter_le _ _) (by simp)
theorem fnd_spec {p : List Int → Bool} : ∀ {L : List (List Int)} (cur : List Int), L.any p = true → ∃ A x B, L = A ++ x :: B ∧ p x = true ∧ (∀ a ∈ A, p a = false) ∧ fnd p cur L = x
  | [], cur, h => by cases h
  | c :: L, cur, h => by
    by_cases hc : p c = true
    · exact ⟨[], c, L, rfl, hc, by simp, by rw [fnd, if_pos hc]⟩
    · have hc' : p c = false := by simpa using hc
      rw [List.any_cons, hc', Bool.false_or] at h
      obtain ⟨A, x, B, h1, h2, h3, h4⟩ := fnd_spec c h
      refine ⟨c :: A, x, B, by rw [h1]; rfl, h2, ?_, by rw [fnd, if_neg hc]; exact h4⟩
      intro a ha
      rcases List.mem_cons.1 ha with rfl | ha
      · exact hc'
      · exact h3 a ha
/-- In turn, the reference takes a shorter list that passes. -/
def pickF (p : List Int → Bool) (cur : List Int) (s : Nat) : List Int := if (sh (bitsL s) cur && p (bitsL s)) = true then bitsL s else cur
theorem pick_inv {n : Nat} (hn : n < 8) {p : List Int → Bool} {c0 : List Int} (h0 : c0 ∈ candAll (n : Int) (n + 1)) (hp : p c0 = true) : ∀ k, k ≤ 2 ^ n →
    (List.range k).foldl (pickF p) c0 ∈ candAll (n : Int) (n + 1) ∧ p ((List.range k).foldl (pickF p) c0) = true ∧ ∀ s, s < k → p (bitsL s) = true → sh (bitsL s) ((List.range k).foldl (pickF p) c0) = false
  | 0, _ => ⟨h0, hp, fun s hs => by omega⟩
  | k + 1, hk => by
    obtain ⟨h1, h2, h3⟩ := pick_inv hn h0 hp k (by omega)
    rw [range_fold]
    generalize (List.range k).foldl (pickF p) c0 = cur at h1 h2 h3
    unfold pickF
    by_cases hc : (sh (bitsL k) cur && p (bitsL k)) = true
    · rw [if_pos hc]
      rw [Bool.and_eq_true] at hc
      refine ⟨cand_in n hn k (by omega), hc.2, fun s hs hps => ?_⟩
      rcases Nat.lt_or_ge s k with h | h
      · rw [Bool.eq_false_iff]
        intro hh
        have := h3 s h hps
        rw [sh_trans hh hc.1] at this
        cases this
      · obtain rfl : s = k := by omega
        exact sh_irr _
    · rw [if_neg hc]
      refine ⟨h1, h2, fun s hs hps => ?_⟩
      rcases Nat.lt_or_ge s k with h | h
      · exact h3 s h hps
      · obtain rfl : s = k := by omega
        rw [hps, Bool.and_true] at hc
        simpa using hc
theorem pick_fnd {n : Nat} (hn : n < 8) {p : List Int → Bool} {c0 : List Int} (h0 : c0 ∈ candAll (n : Int) (n + 1)) (hp : p c0 = true) (cur : List Int) : (List.range (2 ^ n)).foldl (pickF p) c0 = fnd p cur (candAll (n : Int) (n + 1)) := by
  obtain ⟨h1, h2, h3⟩ := pick_inv hn h0 hp (2 ^ n) (Nat.le_refl _)
  obtain ⟨A, x, B, g1, g2, g3, g4⟩ := fnd_spec (p := p) cur (List.any_eq_true.2 ⟨c0, h0, hp⟩)
  rw [g4]
  generalize (List.range (2 ^ n)).foldl (pickF p) c0 = c at h1 h2 h3
  have hs := cand_sorted n hn
  have hx : x ∈ candAll (n : Int) (n + 1) := by rw [g1]; simp
  obtain ⟨s, hs1, rfl⟩ := cand_of n hn x hx
  have h4 := h3 s hs1 g2
  rw [g1] at h1 hs
  rw [List.pairwise_append] at hs
  rcases List.mem_append.1 h1 with h | h
  · rw [g3 c h] at h2; cases h2
  · rcases List.mem_cons.1 h with h | h
    · exact h
    · have := (List.pairwise_cons.1 hs.2.1).1 c h
      rw [this] at h4; cases h4
theorem shortest_pick {n : Nat} (hn : n < 8) {p : List Int → Bool} {c0 : List Int} (h0 : c0 ∈ candAll (n : Int) (n + 1)) (hp : p c0 = true) : shortestL (n : Int) p = (List.range (2 ^ n)).foldl (pickF p) c0 := by
  unfold shortestL
  rw [show ((n : Int) + 1).toNat = n + 1 by omega, pick_fnd hn h0 hp]
end Go.Proofs.Ythogdgkafaclaaa
end
section
namespace Go.Proofs.Ythogdgkafaclaaa
/-- Two lists say the same of the rows that are asked about. -/
def alike (s : Nat) (fr n : Nat) (a b : List Int) : Bool := (List.range' fr n).all fun x => s / 2 ^ x % 2 == 0 || a.getD x 0 == b.getD x 0
theorem gd {T : List (List Int)} {i : Nat} (h : i < T.length) : T[i] = T.getD i [] := by simp [List.getElem?_eq_getElem h]
theorem gd0 {l : List Int} {i : Nat} (h : i < l.length) : l[i] = l.getD i 0 := by simp [List.getElem?_eq_getElem h]
/-- Two lists differ in somebody's number, and say the same. -/
def clash (T : List (List Int)) (who : Int) (s k i j : Nat) : Bool := ((part (T.getD i []) who 0 k : Nat) : Int) != ((part (T.getD j []) who 0 k : Nat) : Int) && alike s 0 k (T.getD i []) (T.getD j [])
/-- The reference's word whether some rows settle somebody's number. -/
def setR (T : List (List Int)) (who : Int) (k s : Nat) : Bool := !((List.range T.length).any fun i => (List.range i).any (clash T who s k i))
theorem alike_iff {s k : Nat} {a b : List Int} : alike s 0 k a b = true ↔ ∀ x, x < k → s / 2 ^ x % 2 = 0 ∨ a.getD x 0 = b.getD x 0 := by
  unfold alike
  rw [← List.range_eq_range']
  simp [List.all_eq_true]
theorem alike_comm (s k : Nat) (a b : List Int) : alike s 0 k a b = alike s 0 k b a := by
  rw [Bool.eq_iff_iff, alike_iff, alike_iff]
  exact ⟨fun h x hx => (h x hx).imp id Eq.symm, fun h x hx => (h x hx).imp id Eq.symm⟩
theorem setR_iff {T : List (List Int)} {who : Int} {k s : Nat} : setR T who k s = true ↔ ∀ a ∈ T, ∀ b ∈ T, alike s 0 k a b = true → part a who 0 k = part b who 0 k := by
  unfold setR
  rw [Bool.not_eq_true', Bool.eq_false_iff]
  constructor
  · intro h a ha b hb hab
    refine Decidable.byContradiction fun hne => h ?_
    obtain ⟨i, hi, rfl⟩ := List.mem_iff_getElem.1 ha
    obtain ⟨j, hj, rfl⟩ := List.mem_iff_getElem.1 hb
    have hij : i ≠ j := by rintro rfl; exact hne rfl
    rw [List.any_eq_true]
    rcases Nat.lt_or_gt_of_ne hij with hlt | hlt
    · refine ⟨j, by simpa using hj, List.any_eq_true.2 ⟨i, by simpa using hlt, ?_⟩⟩
      unfold clash
      rw [← gd hi, ← gd hj, alike_comm, hab, Bool.and_true]
      simp only [bne_iff_ne, ne_eq]
      omega
    · refine ⟨i, by simpa using hi, List.any_eq_true.2 ⟨j, by simpa using hlt, ?_⟩⟩
      unfold clash
      rw [← gd hi, ← gd hj, hab, Bool.and_true]
      simp only [bne_iff_ne, ne_eq]
      omega
  · intro h hc
    rw [List.any_eq_true] at hc
    obtain ⟨i, hi, hc⟩ := hc
    rw [List.any_eq_true] at hc
    obtain ⟨j, hj, hc⟩ := hc
    have hi : i < T.length := by simpa using hi
    have hj : j < i := by simpa using hj
    unfold clash at hc
    rw [← gd hi, ← gd (by omega : j < T.length), Bool.and_eq_true] at hc
    have := h _ (List.getElem_mem hi) _ (List.getElem_mem (by omega : j < T.length)) hc.2
    simp [this] at hc
theorem foldl_set_get (a : List Int) (i : Nat) (hi : i < 7) : ∀ (l z : List Int), z.length = 7 → (l.foldl (fun key r => key.set r.toNat (a.getD r.toNat 0)) z).getD i 0 = if l.any (fun r => r.toNat == i) = true then a.getD i 0 else z.getD i 0
  | [], z, _ => rfl
  | r :: l, z, hz => by
    rw [List.foldl_cons, foldl_set_get a i hi l _ (by simpa using hz), List.any_cons]
    by_cases h : l.any (fun r => r.toNat == i) = true
    · rw [if_pos h, if_pos (by simp [h])]
    · rw [if_neg h]
      by_cases hr : r.toNat = i
      · rw [if_pos (by simp [hr]), hr, getD_set_eq (by omega)]
      · rw [if_neg (by simp [hr]; simpa using h), getD_set_ne2 (Ne.symm hr)]
theorem keyOf_get (rows a : List Int) {i : Nat} (hi : i < 7) : (keyOf rows a).getD i 0 = if rows.any (fun r => r.toNat == i) = true then a.getD i 0 else 0 := by
  unfold keyOf
  rw [foldl_set_get a i hi rows _ (by simp)]
  congr 1
  have : ∀ i, i < 7 → (List.replicate 7 (0 : Int)).getD i 0 = 0 := by decide
  exact this i hi
theorem keyOf_eq {rows a b : List Int} (h : ∀ r ∈ rows, 0 ≤ r ∧ r ≤ 6) : keyOf rows a = keyOf rows b ↔ ∀ r ∈ rows, a.getD r.toNat 0 = b.getD r.toNat 0 := by
  constructor
  · intro e r hr
    have hr7 := h r hr
    have h1 := keyOf_get rows a (i := r.toNat) (by omega)
    have h2 := keyOf_get rows b (i := r.toNat) (by omega)
    have ha : rows.any (fun x => x.toNat == r.toNat) = true := List.any_eq_true.2 ⟨r, hr, by simp⟩
    rw [if_pos ha] at h1 h2
    rw [← h1, ← h2, e]
  · intro e
    refine List.ext_getElem (by rw [keyOf_len, keyOf_len]) fun i h1 h2 => ?_
    have hi : i < 7 := by rw [keyOf_len] at h1; exact h1
    rw [gd0 h1, gd0 h2, keyOf_get rows a hi, keyOf_get rows b hi]
    by_cases hc : rows.any (fun r => r.toNat == i) = true
    · rw [if_pos hc, if_pos hc]
      obtain ⟨r, hr, hri⟩ := List.any_eq_true.1 hc
      have := e r hr
      have hri : r.toNat = i := by simpa using hri
      rw [hri] at this
      exact this
    · rw [if_neg hc, if_neg hc]
theorem mem_bits {s : Nat} {r : Int} : r ∈ bitsL s ↔ ∃ x : Nat, x < 8 ∧ s / 2 ^ x % 2 = 1 ∧ r = x := by
  unfold bitsL
  simp only [List.mem_map, List.mem_filter, List.mem_range, beq_iff_eq]
  constructor
  · rintro ⟨x, ⟨h1, h2⟩, rfl⟩; exact ⟨x, h1, h2, rfl⟩
  · rintro ⟨x, h1, h2, rfl⟩; exact ⟨x, ⟨h1, h2⟩, rfl⟩
theorem bit_lt {s x k : Nat} (hs : s < 2 ^ k) (h : s / 2 ^ x % 2 = 1) : x < k := by
  refine Decidable.byContradiction fun hx => ?_
  have : s < 2 ^ x := Nat.lt_of_lt_of_le hs (Nat.pow_le_pow_right (by omega) (by omega))
  rw [Nat.div_eq_of_lt this] at h
  cases h
/-- Both say the same. -/
theorem settles_refs {f : Fld} (hc : check f = 0) (who : Int) {s : Nat} (hs : s < 2 ^ f.rows.toNat) : settlesB f (truths f []) who (bitsL s) = setR (refs f) who f.rows.toNat s := by
  obtain ⟨hr2, hw, _⟩ := check_ok hc
  have hlen : ∀ l ∈ refs f, (l.length : Int) = f.rows := fun l hl => (tru_alw ((mem_refs hc).1 hl)).2.1
  have hb : ∀ r ∈ bitsL s, 0 ≤ r ∧ r ≤ 6 := fun r hr => by
    obtain ⟨x, _, h2, rfl⟩ := mem_bits.1 hr
    have := bit_lt hs h2
    omega
  have hal : ∀ a ∈ refs f, ∀ b ∈ refs f, (keyOf (bitsL s) (pad a) = keyOf (bitsL s) (pad b) ↔ alike s 0 f.rows.toNat a b = true) := fun a ha b hb2 => by
    have h1 := hlen a ha
    have h2 := hlen b hb2
    rw [keyOf_eq hb, alike_iff]
    constructor
    · intro h x hx
      rcases Nat.mod_two_eq_zero_or_one (s / 2 ^ x) with h0 | h0
      · exact .inl h0
      · have := h (x : Int) (mem_bits.2 ⟨x, by omega, h0, rfl⟩)
        rw [show (x : Int).toNat = x by omega] at this
        unfold pad at this
        rw [getD_app (by omega), getD_app (by omega)] at this
        exact .inr this
    · intro h r hr
      obtain ⟨x, _, h0, rfl⟩ := mem_bits.1 hr
      have hx := bit_lt hs h0
      rw [show (x : Int).toNat = x by omega]
      unfold pad
      rw [getD_app (by omega), getD_app (by omega)]
      rcases h x hx with h | h
      · omega
      · exact h
  have hpt : ∀ a ∈ refs f, cntr f (pad a) who = ((part a who 0 f.rows.toNat : Nat) : Int) := fun a ha => by
    have h1 := hlen a ha
    rw [cntr_pad h1, show a.length = f.rows.toNat by omega]
  rw [Bool.eq_iff_iff, settles_iff, setR_iff]
  constructor
  · intro h a ha b hb2 hab
    have := h (pad a) ((mem_truths hc).2 ⟨a, ha, rfl⟩) (pad b) ((mem_truths hc).2 ⟨b, hb2, rfl⟩) ((hal a ha b hb2).2 hab)
    rw [hpt a ha, hpt b hb2] at this
    omega
  · intro h a ha b hb2 hab
    obtain ⟨x, hx, rfl⟩ := (mem_truths hc).1 ha
    obtain ⟨y, hy, rfl⟩ := (mem_truths hc).1 hb2
    rw [hpt x hx, hpt y hy]
    have := h x hx y hy ((hal x hx y hy).1 hab)
    omega
end Go.Proofs.Ythogdgkafaclaaa
end
section
namespace Go.Proofs.Ythogdgkafaclaaa
theorem full_all : ∀ r : Nat, r < 8 → ∀ x : Nat, x < r → (2 ^ r - 1) / 2 ^ x % 2 = 1 := by decide +kernel
theorem settles_full {f : Fld} (hc : check f = 0) (who : Int) : setR (refs f) who f.rows.toNat (2 ^ f.rows.toNat - 1) = true := by
  obtain ⟨hr2, hw, _⟩ := check_ok hc
  rw [setR_iff]
  intro a ha b hb hab
  have h1 := (tru_alw ((mem_refs hc).1 ha)).2.1
  have h2 := (tru_alw ((mem_refs hc).1 hb)).2.1
  rw [alike_iff] at hab
  have : a = b := by
    refine List.ext_getElem (by omega) fun i g1 g2 => ?_
    rw [gd0 g1, gd0 g2]
    rcases hab i (by omega) with h | h
    · rw [full_all f.rows.toNat (by omega) i (by omega)] at h; cases h
    · exact h
  rw [this]
end Go.Proofs.Ythogdgkafaclaaa
end
section
namespace Go.Proofs.Ythogdgkafaclaaa
/-- The field with other tallies. -/
theorem check_sub {f : Fld} (hc : check f = 0) {ts : List Tly} (h5 : ts.length ≤ 5) (ht : ∀ t ∈ ts, talOk f t = true) : check { f with ts := ts } = 0 := by
  obtain ⟨hr, hw, h6, ht2, hl, hm⟩ := check_ok hc
  unfold check
  rw [if_neg, if_neg, if_neg]
  · show ¬ 2500 < many f; omega
  · simp only [bad, Bool.or_eq_true, decide_eq_true_eq, Bool.not_eq_true', not_or, Bool.not_eq_false, List.all_eq_true]
    exact ⟨by omega, by omega, hl, ht⟩
  · simp only [big, Bool.or_eq_true, decide_eq_true_eq, not_or]
    omega
theorem shortest_spec {n : Nat} (hn : n < 8) {p : List Int → Bool} {s0 : Nat} (h0 : s0 < 2 ^ n) (hp : p (bitsL s0) = true) :
    ∃ s, s < 2 ^ n ∧ shortestL (n : Int) p = bitsL s ∧ p (bitsL s) = true ∧ ∀ s', s' < 2 ^ n → p (bitsL s') = true → sh (bitsL s') (bitsL s) = false := by
  rw [shortest_pick hn (cand_in n hn s0 h0) hp]
  obtain ⟨h1, h2, h3⟩ := pick_inv hn (cand_in n hn s0 h0) hp (2 ^ n) (Nat.le_refl _)
  obtain ⟨s, hs, he⟩ := cand_of n hn _ h1
  refine ⟨s, hs, he.symm, ?_, fun s' hs' hp' => ?_⟩
  · rw [he]; exact h2
  · rw [he]; exact h3 s' hs' hp'
theorem sh_len {a b : List Int} (h : sh a b = false) : b.length ≤ a.length := by
  rw [Bool.eq_false_iff] at h
  refine Decidable.byContradiction fun hh => h (sh_iff.2 (.inl (by omega)))
end Go.Proofs.Ythogdgkafaclaaa
end
section
namespace Go.Proofs.Ythogdgkafaclaaa
/-- By so many questions c can be known of what is in S; g says what is answered. -/
def Qn (c : List Int → Int) (g : List Int → Nat → Int) (R : Nat) : Nat → (List Int → Prop) → Prop
  | 0, S => ∀ a b, S a → S b → c a = c b
  | m + 1, S => (∀ a b, S a → S b → c a = c b) ∨ ∃ r, r < R ∧ ∀ v, Qn c g R m (fun a => S a ∧ g a r = v)
theorem Qn_rel {c c' : List Int → Int} {g g' : List Int → Nat → Int} {R : Nat} : ∀ (m : Nat) (S S' : List Int → Prop), (∀ a', S' a' → ∃ a, S a ∧ c a = c' a' ∧ ∀ r, r < R → g a r = g' a' r) → Qn c g R m S → Qn c' g' R m S'
  | 0, S, S', h, hq => fun a' b' ha hb => by
    obtain ⟨a, h1, h2, _⟩ := h a' ha
    obtain ⟨b, h3, h4, _⟩ := h b' hb
    rw [← h2, ← h4]; exact hq a b h1 h3
  | m + 1, S, S', h, hq => by
    rcases hq with hq | ⟨r, hr, hq⟩
    · left
      intro a' b' ha hb
      obtain ⟨a, h1, h2, _⟩ := h a' ha
      obtain ⟨b, h3, h4, _⟩ := h b' hb
      rw [← h2, ← h4]; exact hq a b h1 h3
    · right
      refine ⟨r, hr, fun v => Qn_rel m _ _ ?_ (hq v)⟩
      rintro a' ⟨ha, hv⟩
      obtain ⟨a, h1, h2, h3⟩ := h a' ha
      exact ⟨a, ⟨h1, by rw [h3 r hr]; exact hv⟩, h2, h3⟩
section
variable {c : List Int → Int} {g : List Int → Nat → Int} {R : Nat} {S S' : List Int → Prop}
theorem Qn_sub {m : Nat} (h : ∀ a, S' a → S a) (hq : Qn c g R m S) : Qn c g R m S' := Qn_rel m S S' (fun a ha => ⟨a, h a ha, rfl, fun _ _ => rfl⟩) hq
theorem Qn_stl {m : Nat} (h : ∀ a b, S a → S b → c a = c b) : Qn c g R m S := by
  cases m with
  | zero => exact h
  | succ m => exact .inl h
theorem Qn_succ : ∀ (m : Nat) (S : List Int → Prop), Qn c g R m S → Qn c g R (m + 1) S
  | 0, S, h => .inl h
  | m + 1, S, h => by
    rcases h with h | ⟨r, hr, h⟩
    · exact .inl h
    · exact .inr ⟨r, hr, fun v => Qn_succ m _ (h v)⟩
theorem Qn_mono {m m' : Nat} (hm : m ≤ m') (h : Qn c g R m S) : Qn c g R m' S := by
  induction hm with
  | refl => exact h
  | step _ ih => exact Qn_succ _ _ ih
theorem Qn_all (hc : ∀ a b, S a → S b → (∀ r, r < R → g a r = g b r) → c a = c b) : Qn c g R R S := by
  have key : ∀ (k : Nat), k ≤ R → ∀ (S : List Int → Prop), (∀ a b, S a → S b → (∀ r, r < R → g a r = g b r) → c a = c b) → (∀ a b, S a → S b → ∀ r, k ≤ r → r < R → g a r = g b r) → Qn c g R k S := by
    intro k
    induction k with
    | zero => exact fun _ S h1 h2 a b ha hb => h1 a b ha hb fun r hr => h2 a b ha hb r (Nat.zero_le _) hr
    | succ k ih =>
      intro hk S h1 h2
      refine .inr ⟨k, by omega, fun v => ih (by omega) _ (fun a b ha hb => h1 a b ha.1 hb.1) fun a b ha hb r hr1 hr2 => ?_⟩
      rcases Nat.lt_or_ge k r with h | h
      · exact h2 a b ha.1 hb.1 r h hr2
      · obtain rfl : r = k := by omega
        rw [ha.2, hb.2]
  exact key R (Nat.le_refl _) S hc fun a b _ _ r h1 h2 => by omega
/-- The fewest questions. -/
def IsV (c : List Int → Int) (g : List Int → Nat → Int) (R : Nat) (S : List Int → Prop) (m : Nat) : Prop := Qn c g R m S ∧ ∀ m', Qn c g R m' S → m ≤ m'
theorem isV_some {n : Nat} (h : Qn c g R n S) : ∃ m, m ≤ n ∧ IsV c g R S m := by
  induction n with
  | zero => exact ⟨0, Nat.le_refl _, h, fun _ _ => Nat.zero_le _⟩
  | succ n ih =>
    by_cases h2 : Qn c g R n S
    · obtain ⟨m, h3, h4⟩ := ih h2
      exact ⟨m, by omega, h4⟩
    · refine ⟨n + 1, Nat.le_refl _, h, fun m' h3 => ?_⟩
      rcases Nat.lt_or_ge n m' with h4 | h4
      · exact h4
      · exact absurd (Qn_mono h4 h3) h2
/-- The first row by which so many questions are left. -/
def Best (c : List Int → Int) (g : List Int → Nat → Int) (R : Nat) (S : List Int → Prop) (m r : Nat) : Prop :=
  r < R ∧ (∀ v, Qn c g R m (fun a => S a ∧ g a r = v)) ∧ ∀ r', r' < r → ¬ ∀ v, Qn c g R m (fun a => S a ∧ g a r' = v)
/-- What is answered: a row, or -1, and how many questions. -/
def Ans (c : List Int → Int) (g : List Int → Nat → Int) (R : Nat) (S : List Int → Prop) (x : Int × Int) : Prop :=
  ∃ m, IsV c g R S m ∧ x.2 = m ∧ ((m = 0 ∧ x.1 = -1) ∨ ∃ m' r : Nat, m = m' + 1 ∧ Best c g R S m' r ∧ x.1 = r)
theorem isV_stl (h : ∀ a b, S a → S b → c a = c b) : IsV c g R S 0 := ⟨h, fun _ _ => Nat.zero_le _⟩
theorem ans_stl (h : ∀ a b, S a → S b → c a = c b) : Ans c g R S (-1, 0) := ⟨0, isV_stl h, rfl, .inl ⟨rfl, rfl⟩⟩
theorem isV_pos {m : Nat} (h : IsV c g R S (m + 1)) : ∃ r, r < R ∧ ∀ v, Qn c g R m (fun a => S a ∧ g a r = v) := by
  rcases h.1 with h1 | h1
  · have := h.2 0 h1; omega
  · exact h1
theorem isV_rel {c' : List Int → Int} {g' : List Int → Nat → Int} {m : Nat} (h1 : ∀ a', S' a' → ∃ a, S a ∧ c a = c' a' ∧ ∀ r, r < R → g a r = g' a' r) (h2 : ∀ a, S a → ∃ a', S' a' ∧ c' a' = c a ∧ ∀ r, r < R → g' a' r = g a r) (h : IsV c g R S m) : IsV c' g' R S' m :=
  ⟨Qn_rel m _ _ h1 h.1, fun m' hm => h.2 m' (Qn_rel m' _ _ h2 hm)⟩
theorem ans_rel {c' : List Int → Int} {g' : List Int → Nat → Int} {x : Int × Int} (h1 : ∀ a', S' a' → ∃ a, S a ∧ c a = c' a' ∧ ∀ r, r < R → g a r = g' a' r) (h2 : ∀ a, S a → ∃ a', S' a' ∧ c' a' = c a ∧ ∀ r, r < R → g' a' r = g a r) (h : Ans c g R S x) : Ans c' g' R S' x := by
  obtain ⟨m, h3, h4, h5⟩ := h
  have key : ∀ r, r < R → ∀ k, (∀ v, Qn c g R k (fun a => S a ∧ g a r = v)) ↔ (∀ v, Qn c' g' R k (fun a => S' a ∧ g' a r = v)) := by
    intro r hr k
    refine ⟨fun h v => Qn_rel k _ _ ?_ (h v), fun h v => Qn_rel k _ _ ?_ (h v)⟩
    · rintro a' ⟨ha, hv⟩
      obtain ⟨a, g1, g2, g3⟩ := h1 a' ha
      exact ⟨a, ⟨g1, by rw [g3 r hr]; exact hv⟩, g2, g3⟩
    · rintro a ⟨ha, hv⟩
      obtain ⟨a', g1, g2, g3⟩ := h2 a ha
      exact ⟨a', ⟨g1, by rw [g3 r hr]; exact hv⟩, g2, g3⟩
  refine ⟨m, isV_rel h1 h2 h3, h4, ?_⟩
  rcases h5 with h5 | ⟨m', r, h5, h6, h7⟩
  · exact .inl h5
  · refine .inr ⟨m', r, h5, ⟨h6.1, (key r h6.1 m').1 h6.2.1, fun r' hr' h8 => h6.2.2 r' hr' ((key r' (by have := h6.1; omega) m').2 h8)⟩, h7⟩
end
theorem qlp_min (f : Fld) (g : Nat → Int) (ans : List Int) {m : Int} (hm : m < f.rows + 1) : ∀ k : Nat, (∀ i, i < k → ans.getD i 0 = -2 → m ≤ 1 + g i) →
    (∀ r, r < k → ans.getD r 0 = -2 → 1 + g r = m → (∀ i, i < r → ans.getD i 0 = -2 → 1 + g i ≠ m) → qlp f g ans k = ((r : Int), m)) ∧ ((∀ i, i < k → ans.getD i 0 = -2 → 1 + g i ≠ m) → m < (qlp f g ans k).2)
  | 0, _ => ⟨fun r hr => by omega, fun _ => hm⟩
  | k + 1, h => by
    obtain ⟨h1, h2⟩ := qlp_min f g ans hm k fun i hi => h i (by omega)
    rw [qlp_succ]
    constructor
    · intro r hr ha he hf
      rcases Nat.lt_or_ge r k with hlt | hge
      · rw [h1 r hlt ha he hf]
        by_cases hk : ans.getD k 0 = -2
        · have := h k (by omega) hk
          rw [if_pos hk, if_neg (by show ¬ 1 + g k < m; omega)]
        · rw [if_neg hk]
      · obtain rfl : r = k := by omega
        have := h2 hf
        rw [if_pos ha, if_pos (by omega), he]
    · intro hn
      have h3 := h2 fun i hi => hn i (by omega)
      by_cases hk : ans.getD k 0 = -2
      · have h4 := h k (by omega) hk
        have h5 := hn k (by omega) hk
        rw [if_pos hk]
        by_cases h6 : 1 + g k < (qlp f g ans k).2
        · rw [if_pos h6]; show m < 1 + g k; omega
        · rw [if_neg h6]; exact h3
      · rw [if_neg hk]; exact h3
theorem same_iff (f : Fld) (n : Int) (l : List (List Int)) : l.all (sameD f n l) = true ↔ ∀ a b, a ∈ l → b ∈ l → cntr f a n = cntr f b n := by
  rw [List.all_eq_true]
  unfold sameD
  simp only [beq_iff_eq]
  constructor
  · intro h a b ha hb; rw [h a ha, h b hb]
  · intro h a ha
    refine h a _ ha ?_
    cases l with
    | nil => cases ha
    | cons x l => simp
theorem cntr_ext {f : Fld} {a b : List Int} (ha : a.length = 7) (hb : b.length = 7) (h : ∀ r, r < f.rows.toNat → a.getD r 0 = b.getD r 0) (n : Int) : cntr f a n = cntr f b n := by
  have : a.take f.rows.toNat = b.take f.rows.toNat := by
    refine List.ext_getElem (by simp [ha, hb]) fun i h1 h2 => ?_
    simp only [List.length_take] at h1 h2
    have := h i (by omega)
    rw [List.getElem_take, List.getElem_take, gd0 (by omega), gd0 (by omega)]
    exact this
  unfold cntr; rw [this]
theorem wst_spec {f : Fld} {n : Int} {T : List (List Int)} {k : Nat} {ans : List Int} {i : Nat}
    (ih : ∀ j : Nat, j < 4 → ∃ m : Nat, IsV (cntr f · n) (fun a r => a.getD r 0) f.rows.toNat (· ∈ filt T (ans.set i ((j : Int) - 1))) m ∧ (qst f n T k (ans.set i ((j : Int) - 1))).2 = m) :
    ∀ j, j ≤ 4 → ∃ W : Nat, wst (qst f n T k) T ans i j = W ∧ (∀ j', j' < j → Qn (cntr f · n) (fun a r => a.getD r 0) f.rows.toNat W (· ∈ filt T (ans.set i ((j' : Int) - 1)))) ∧
      ∀ M, (∀ j', j' < j → Qn (cntr f · n) (fun a r => a.getD r 0) f.rows.toNat M (· ∈ filt T (ans.set i ((j' : Int) - 1)))) → W ≤ M
  | 0, _ => ⟨0, rfl, fun j' h => by omega, fun M _ => Nat.zero_le _⟩
  | j + 1, hj => by
    obtain ⟨W, h1, h2, h3⟩ := wst_spec ih j (by omega)
    obtain ⟨m, h4, h5⟩ := ih j (by omega)
    rw [wst_succ, h1, h5]
    by_cases he : filt T (ans.set i ((j : Int) - 1)) = []
    · rw [if_pos he]
      refine ⟨W, rfl, fun j' hj' => ?_, fun M hM => h3 M fun j' hj' => hM j' (by omega)⟩
      rcases Nat.lt_or_ge j' j with h | h
      · exact h2 j' h
      · obtain rfl : j' = j := by omega
        rw [he]
        exact Qn_stl fun a b ha => by cases ha
    · rw [if_neg he]
      refine ⟨max W m, by omega, fun j' hj' => ?_, fun M hM => ?_⟩
      · rcases Nat.lt_or_ge j' j with h | h
        · exact Qn_mono (Nat.le_max_left _ _) (h2 j' h)
        · obtain rfl : j' = j := by omega
          exact Qn_mono (Nat.le_max_right _ _) h4.1
      · exact Nat.max_le.2 ⟨h3 M fun j' hj' => hM j' (by omega), h4.2 M (hM j (by omega))⟩
theorem qst_ans {f : Fld} (hr : 0 ≤ f.rows ∧ f.rows ≤ 7) (hw : f.wd ≤ 3) {n : Int} {T : List (List Int)} (hT : ∀ a ∈ T, a.length = 7 ∧ ∀ i, i < f.rows.toNat → -1 ≤ a.getD i 0 ∧ a.getD i 0 ≤ f.wd - 1) : ∀ (k : Nat) (ans : List Int), ans.length = 7 → unask f ans = k →
    Ans (cntr f · n) (fun a r => a.getD r 0) f.rows.toNat (· ∈ filt T ans) (qst f n T k ans) := by
  have hfT : ∀ ans a, a ∈ filt T ans → a ∈ T ∧ agree ans a = true := fun ans a ha => List.mem_filter.1 ha
  intro k
  induction k with
  | zero =>
    intro ans hl hu
    have hs : (filt T ans).all (sameD f n (filt T ans)) = true := by
      rw [same_iff]
      intro a b ha hb
      refine cntr_ext (hT a (hfT _ _ ha).1).1 (hT b (hfT _ _ hb).1).1 (fun r hr2 => ?_) n
      have h1 := agree_iff.1 (hfT _ _ ha).2 r (by omega)
      have h2 := agree_iff.1 (hfT _ _ hb).2 r (by omega)
      have h3 : ¬ ans.getD r 0 = -2 := fun e => by
        have := unask_pos hr2 e; omega
      rcases h1 with h1 | h1
      · exact absurd h1 h3
      · rcases h2 with h2 | h2
        · exact absurd h2 h3
        · rw [h1, h2]
    unfold qst
    rw [if_pos hs]
    exact ans_stl ((same_iff f n _).1 hs)
  | succ k ih =>
    intro ans hl hu
    unfold qst
    by_cases hs : (filt T ans).all (sameD f n (filt T ans)) = true
    · rw [if_pos hs]
      exact ans_stl ((same_iff f n _).1 hs)
    · rw [if_neg hs]
      have hQR : Qn (cntr f · n) (fun a r => a.getD r 0) f.rows.toNat f.rows.toNat (· ∈ filt T ans) := Qn_all fun a b ha hb h => cntr_ext (hT a (hfT _ _ ha).1).1 (hT b (hfT _ _ hb).1).1 h n
      obtain ⟨m, hm1, hm2⟩ := isV_some hQR
      obtain ⟨m', rfl⟩ : ∃ m', m = m' + 1 := by
        cases m with
        | zero => exact absurd ((same_iff f n _).2 hm2.1) hs
        | succ m' => exact ⟨m', rfl⟩
      -- what is left behind each row
      have hW : ∀ i, i < f.rows.toNat → ans.getD i 0 = -2 → ∃ W : Nat, wst (qst f n T k) T ans i 4 = W ∧ (∀ v, Qn (cntr f · n) (fun a r => a.getD r 0) f.rows.toNat W (fun a => a ∈ filt T ans ∧ a.getD i 0 = v)) ∧
          ∀ M, (∀ v, Qn (cntr f · n) (fun a r => a.getD r 0) f.rows.toNat M (fun a => a ∈ filt T ans ∧ a.getD i 0 = v)) → W ≤ M := by
        intro i hi ha
        have hfs : ∀ j : Nat, ∀ a, a ∈ filt T (ans.set i ((j : Int) - 1)) ↔ a ∈ filt T ans ∧ a.getD i 0 = (j : Int) - 1 := fun j a => by
          rw [filt_set hl (by omega) ha (by omega), List.mem_filter, beq_iff_eq]
        obtain ⟨W, h1, h2, h3⟩ := wst_spec (f := f) (n := n) (T := T) (k := k) (ans := ans) (i := i) (fun j hj => by
          have hv2 : ((j : Nat) : Int) - 1 ≠ -2 := by omega
          have hr7 : f.rows ≤ 7 := hr.2
          have hu2 := unask_set hl hi hr7 ha hv2
          obtain ⟨m, g1, g2, _⟩ := ih (ans.set i ((j : Int) - 1)) (by simpa using hl) (by omega)
          exact ⟨m, g1, g2⟩) 4 (Nat.le_refl _)
        refine ⟨W, h1, fun v => ?_, fun M hM => h3 M fun j hj => Qn_sub (fun a ha => (hfs j a).1 ha) (hM _)⟩
        by_cases hv : -1 ≤ v ∧ v ≤ 2
        · have e : v = ((v + 1).toNat : Int) - 1 := by omega
          refine Qn_sub (fun a ha => ?_) (h2 (v + 1).toNat (by omega))
          rw [hfs]; exact ⟨ha.1, by rw [ha.2]; exact e⟩
        · refine Qn_stl fun a b ha => ?_
          have := (hT a (hfT _ _ ha.1).1).2 i hi
          have := ha.2
          omega
      -- the least
      have hge : ∀ i, i < f.rows.toNat → ans.getD i 0 = -2 → ((m' + 1 : Nat) : Int) ≤ 1 + wst (qst f n T k) T ans i 4 := by
        intro i hi ha
        obtain ⟨W, h1, h2, _⟩ := hW i hi ha
        have := hm2.2 (W + 1) (.inr ⟨i, hi, h2⟩)
        rw [h1]; omega
      have hun : ∀ r, r < f.rows.toNat → (∀ v, Qn (cntr f · n) (fun a r => a.getD r 0) f.rows.toNat m' (fun a => a ∈ filt T ans ∧ a.getD r 0 = v)) → ans.getD r 0 = -2 := by
        intro r hr2 h
        refine Decidable.byContradiction fun hne => ?_
        have : Qn (cntr f · n) (fun a r => a.getD r 0) f.rows.toNat m' (· ∈ filt T ans) := by
          refine Qn_sub (fun a ha => ⟨ha, ?_⟩) (h (ans.getD r 0))
          rcases agree_iff.1 (hfT _ _ ha).2 r (by omega) with h1 | h1
          · exact absurd h1 hne
          · exact h1
        have := hm2.2 _ this
        omega
      have heq : ∀ i, i < f.rows.toNat → ans.getD i 0 = -2 → (1 + wst (qst f n T k) T ans i 4 = ((m' + 1 : Nat) : Int) ↔ ∀ v, Qn (cntr f · n) (fun a r => a.getD r 0) f.rows.toNat m' (fun a => a ∈ filt T ans ∧ a.getD i 0 = v)) := by
        intro i hi ha
        have h0 := hge i hi ha
        obtain ⟨W, h1, h2, h3⟩ := hW i hi ha
        rw [h1] at h0 ⊢
        constructor
        · intro e
          have : W = m' := by omega
          rw [← this]; exact h2
        · intro h
          have := h3 _ h
          omega
      -- the first one
      have hfirst : ∀ N, N ≤ f.rows.toNat → (∃ r, r < N ∧ ∀ v, Qn (cntr f · n) (fun a r => a.getD r 0) f.rows.toNat m' (fun a => a ∈ filt T ans ∧ a.getD r 0 = v)) → ∃ r, Best (cntr f · n) (fun a r => a.getD r 0) f.rows.toNat (· ∈ filt T ans) m' r := by
        intro N
        induction N with
        | zero => rintro _ ⟨r, hr2, _⟩; omega
        | succ N ihN =>
          rintro hN ⟨r, hr2, h⟩
          by_cases hex : ∃ r, r < N ∧ ∀ v, Qn (cntr f · n) (fun a r => a.getD r 0) f.rows.toNat m' (fun a => a ∈ filt T ans ∧ a.getD r 0 = v)
          · exact ihN (by omega) hex
          · refine ⟨r, by omega, h, fun r' hr' h' => hex ⟨r', by omega, h'⟩⟩
      obtain ⟨r, hb⟩ := hfirst _ (Nat.le_refl _) (isV_pos hm2)
      have hra := hun r hb.1 hb.2.1
      have hq := (qlp_min f (fun i => wst (qst f n T k) T ans i 4) ans (m := ((m' + 1 : Nat) : Int)) (by omega) f.rows.toNat hge).1 r hb.1 hra ((heq r hb.1 hra).2 hb.2.1) (fun i hi ha e => hb.2.2 i hi ((heq i (by have := hb.1; omega) ha).1 e))
      rw [hq]
      exact ⟨m' + 1, hm2, rfl, .inr ⟨m', r, rfl, hb, rfl⟩⟩
end Go.Proofs.Ythogdgkafaclaaa
end
section
namespace Go.Proofs.Ythogdgkafaclaaa
/-- All lists, by their numbers. -/
def lists (f : Fld) : List (List Int) := (List.range (many f).toNat).map fun i : Nat => nthL (f.wd + 1) f.rows.toNat (i : Int)
end Go.Proofs.Ythogdgkafaclaaa
end
section
namespace Go.Proofs.Ythogdgkafaclaaa
/-- The reference's lists: their numbers, and what they say. -/
abbrev cR (who : Int) : List Int → Int := fun a => ((part a who 0 a.length : Nat) : Int)
abbrev gR : List Int → Nat → Int := fun a r => a.getD r 0
section
variable {f : Fld} {T : List (List Int)} {who : Int}
/-- What the lists at hand are. -/
def OkT (f : Fld) (T : List (List Int)) : Prop := T.length ≤ 250 ∧ ∀ a ∈ T, (a.length : Int) = f.rows ∧ ∀ r, r < f.rows.toNat → -1 ≤ a.getD r 0 ∧ a.getD r 0 ≤ f.wd - 1
theorem OkT.filt (h : OkT f T) (p : List Int → Bool) : OkT f (T.filter p) := ⟨Nat.le_trans (List.length_filter_le _ _) h.1, fun a ha => h.2 a (List.mem_filter.1 ha).1⟩
theorem cR_ext {a b : List Int} (ha : (a.length : Int) = f.rows) (hb : (b.length : Int) = f.rows) (h : ∀ r, r < f.rows.toNat → gR a r = gR b r) : cR who a = cR who b := by
  have : a = b := by
    refine List.ext_getElem (by omega) fun i h1 h2 => ?_
    rw [gd0 h1, gd0 h2]; exact h i (by omega)
  rw [this]
theorem OkT.all (h : OkT f T) : Qn (cR who) gR f.rows.toNat f.rows.toNat (· ∈ T) := Qn_all fun a b ha hb hh => cR_ext (h.2 a ha).1 (h.2 b hb).1 hh
/-- What is left behind a row, for an answer. -/
abbrev prt' (T : List (List Int)) (r : Nat) (v : Int) : List Int → Prop := fun a => a ∈ T ∧ gR a r = v
end
theorem refs_ok {f : Fld} (hc : check f = 0) (hm : many f ≤ 250) : OkT f (refs f) := by
  obtain ⟨hr, hw, _⟩ := check_ok hc
  have := refs_len f hc
  refine ⟨by omega, fun a ha => ?_⟩
  obtain ⟨h1, h2, _⟩ := tru_alw ((mem_refs hc).1 ha)
  refine ⟨h2, fun r hr2 => ?_⟩
  have hra : r < a.length := by omega
  rw [← gd0 hra]
  have := h1 _ (List.getElem_mem hra)
  rw [okWho_in f _ hw.1, inR_iff] at this
  exact this
theorem getD_pad {a : List Int} {r : Nat} (h : r < a.length) : (pad a).getD r 0 = a.getD r 0 := by unfold pad; exact getD_app h
/-- The program's answer is the reference's. -/
theorem nextF_ans {f : Fld} (hc : check f = 0) (n : Int) : Ans (cR n) gR f.rows.toNat (· ∈ refs f) (nextF f n) := by
  obtain ⟨hr, hw, _⟩ := check_ok hc
  have h := qst_ans (f := f) ⟨by omega, hr.2⟩ hw.2 (n := n) (T := truths f []) (fun a ha => ⟨truths_len hr.2 a ha, truths_bd (by omega) a ha⟩) (unask f (List.replicate 7 (-2))) (List.replicate 7 (-2)) (by simp) rfl
  rw [filt_none] at h
  have hlen : ∀ l ∈ refs f, (l.length : Int) = f.rows := fun l hl => (tru_alw ((mem_refs hc).1 hl)).2.1
  refine ans_rel ?_ ?_ h
  · intro a ha
    have hl := hlen a ha
    exact ⟨pad a, (mem_truths hc).2 ⟨a, ha, rfl⟩, cntr_pad hl, fun r hr2 => getD_pad (by omega)⟩
  · intro a ha
    obtain ⟨l, hl, rfl⟩ := (mem_truths hc).1 ha
    have hll := hlen l hl
    exact ⟨l, hl, (cntr_pad hll).symm, fun r hr2 => (getD_pad (by omega)).symm⟩
end Go.Proofs.Ythogdgkafaclaaa
end
section
namespace Go.Proofs.Ythogdgkafaclaaa
/-- The fewest rows. -/
def askL (f : Fld) (n : Int) : List Int := shortestL f.rows (fun rows => settlesB f (truths f []) n rows)
theorem ask_spec {f : Fld} (hc : check f = 0) (n : Int) : ∃ s, s < 2 ^ f.rows.toNat ∧ askL f n = bitsL s ∧ setR (refs f) n f.rows.toNat s = true ∧ ∀ s', s' < 2 ^ f.rows.toNat → setR (refs f) n f.rows.toNat s' = true → sh (bitsL s') (bitsL s) = false := by
  obtain ⟨hr, hw, _⟩ := check_ok hc
  have h1 := settles_full hc n
  have h2 : 1 ≤ 2 ^ f.rows.toNat := Nat.one_le_two_pow
  rw [← settles_refs hc n (by omega)] at h1
  obtain ⟨s, hs, e, hp, hmin⟩ := shortest_spec (n := f.rows.toNat) (by omega) (p := fun rows => settlesB f (truths f []) n rows) (s0 := 2 ^ f.rows.toNat - 1) (by omega) h1
  refine ⟨s, hs, ?_, by rw [← settles_refs hc n hs]; exact hp, fun s' hs' hp' => hmin s' hs' (by rw [← settles_refs hc n hs'] at hp'; exact hp')⟩
  unfold askL
  rw [show f.rows = (f.rows.toNat : Int) by omega]; exact e
theorem askL_len {f : Fld} (hc : check f = 0) (n : Int) : (askL f n).length ≤ 8 := by
  obtain ⟨s, _, e, _⟩ := ask_spec hc n
  rw [e]; exact bits_len s
theorem q_Ask (K : Nat) (f : Fld) (n : Int) : Q_Ask K f n = some (if askE f (whoB f n) = 0 then (askL f n, 0) else ([], askE f (whoB f n))) := rfl
theorem g_ready (f : Fld) : G_ready 1000 f = some (thin f && check f == 0) := by
  unfold G_ready
  rw [bd (g_Thin (Nat.le_refl _))]
  cases thin f with
  | false => rfl
  | true => rw [ct rfl, bd (g_fault (Nat.le_refl _))]; rfl
theorem cv8 {β : Type} {g : Unit → Option β} {x : Int} (h : 0 ≤ x ∧ x < 256) : (cvO .i64 x).bind g = g () := bd (by
  have : ∀ x : Nat, x < 256 → cvO .i64 (x : Int) = some () := by decide +kernel
  have h2 := this x.toNat (by omega)
  rwa [show ((x.toNat : Nat) : Int) = x by omega] at h2)
theorem refs_nil {f : Fld} (hc : check f = 0) : sureE f = if refs f = [] then 11 else 0 := by unfold sureE; rw [if_neg (by simp [hc])]
end Go.Proofs.Ythogdgkafaclaaa
end
section
namespace Go.Proofs.Ythogdgkafaclaaa
theorem mod_nat {x m : Int} (hm : 0 < m) : ∃ k : Nat, x % m = k ∧ (k : Int) < m := by
  have h1 := Int.emod_nonneg x (show m ≠ 0 by omega)
  have h2 := Int.emod_lt_of_pos x hm
  exact ⟨(x % m).toNat, by omega, by omega⟩
end Go.Proofs.Ythogdgkafaclaaa
end
section
set_option linter.unusedVariables false
set_option linter.unusedSimpArgs false
namespace Go.Proofs.Ythogdgkafaclaaa
open Go.RowKit
def G_WeedAnswer_L42 (K_ : Nat) (p0 : Fld) (p1 : Int) (r21 : Int × Int × Int) : Nat → Int → Int → Option ((Bool) ⊕ (Int))
  | 0, _, _ => none
  | m_ + 1, s42_11, s42_12 => cond (decide (s42_12 < p0.wd)) ((G_answered K_ p0 r21.1 s42_12).bind fun r44 => (G_Field K_ r44).bind fun r46 => (Q_Next K_ r46 (p1 % p0.wd)).bind fun r48 => cond (r48.2.2 != 0) (cond (r48.2.2 != 11) (some (.inl false)) (cond (r48.2.2 == 0) (cond (decide (r21.2.1 ≤ r48.2.1)) (some (.inl false)) ((i64 (s42_12 + 1)).bind fun _ => G_WeedAnswer_L42 K_ p0 p1 r21 m_ (max s42_11 r48.2.1) (s42_12 + 1))) ((i64 (s42_12 + 1)).bind fun _ => G_WeedAnswer_L42 K_ p0 p1 r21 m_ s42_11 (s42_12 + 1)))) (cond (r48.2.2 == 0) (cond (decide (r21.2.1 ≤ r48.2.1)) (some (.inl false)) ((i64 (s42_12 + 1)).bind fun _ => G_WeedAnswer_L42 K_ p0 p1 r21 m_ (max s42_11 r48.2.1) (s42_12 + 1))) ((i64 (s42_12 + 1)).bind fun _ => G_WeedAnswer_L42 K_ p0 p1 r21 m_ s42_11 (s42_12 + 1)))) (some (.inr s42_11))
def G_WeedAnswer (K_ : Nat) (p0 : Fld) (p1 : Int) : Option (Bool) :=
  (G_ready K_ p0).bind fun r2 => cond (!r2) ((ifo (G_awake K_ = some true)).bind fun _ => some (true)) ((i64 ((p0.ts.length : Int) + p0.wd)).bind fun _ => cond (decide (5 < ((p0.ts.length : Int) + p0.wd))) ((ifo (G_awake K_ = some true)).bind fun _ => some (true)) ((cvO .i64 p1).bind fun _ => (rem p1 p0.wd).bind fun _ => (G_Field K_ p0).bind fun r15 => (Q_Ask K_ r15 (p1 % p0.wd)).bind fun r17 => (G_Field K_ p0).bind fun r19 => (Q_Next K_ r19 (p1 % p0.wd)).bind fun r21 => cond (r17.2 != 0) (cond (r17.2 == 11) (cond (r21.2.2 == 11) ((ifo (G_awake K_ = some true)).bind fun _ => some (true)) (some (false))) (some (false))) (cond (r21.2.2 != 0) (some (false)) (cond (decide (r21.2.1 < 0)) (some (false)) (cond (decide ((r17.1.length : Int) < r21.2.1)) (some (false)) (cond ((r21.2.1 == 0) != ((r17.1.length : Int) == 0)) (some (false)) (cond (r21.2.1 == 0) (cond (r21.1 == (-1)) ((ifo (G_awake K_ = some true)).bind fun _ => some (true)) (some (false))) ((i64 (p0.rows - 1)).bind fun _ => (G_In K_ r21.1 0 (p0.rows - 1)).bind fun r37 => cond (!r37) (some (false)) ((G_WeedAnswer_L42 K_ p0 p1 r21 K_ (0 : Int) (-1)).bind fun z => Sum.elim (fun q42 => some (q42)) (fun q42 => (i64 (r21.2.1 - 1)).bind fun _ => cond (q42 == (r21.2.1 - 1)) ((ifo (G_awake K_ = some true)).bind fun _ => some (true)) (some (false))) z)))))))))
end Go.Proofs.Ythogdgkafaclaaa
end
section
namespace Go.Proofs.Ythogdgkafaclaaa
theorem Qn_settle {c : List Int → Int} {g : List Int → Nat → Int} {R : Nat} : ∀ (L : List Nat) (S : List Int → Prop), (∀ r ∈ L, r < R) → (∀ a b, S a → S b → (∀ r ∈ L, g a r = g b r) → c a = c b) → Qn c g R L.length S
  | [], S, _, h => fun a b ha hb => h a b ha hb (by simp)
  | r :: L, S, hR, h => .inr ⟨r, hR r (List.mem_cons_self ..), fun v => Qn_settle L _ (fun x hx => hR x (List.mem_cons_of_mem _ hx)) fun a b ha hb he => h a b ha.1 hb.1 fun x hx => by
      rcases List.mem_cons.1 hx with rfl | hx
      · rw [ha.2, hb.2]
      · exact he x hx⟩
/-- Further tallies that tell what was answered. -/
def extraT (row who : Int) (i n : Nat) : List Tly := (List.range' i n).flatMap fun i : Nat => (if (i : Int) = who then [(⟨i, row, row, 1, 1⟩ : Tly)] else []) ++ (if who < 0 then [(⟨i, row, row, 0, 0⟩ : Tly)] else [])
def answF (f : Fld) (row who : Int) : Fld := { f with ts := f.ts ++ extraT row who 0 f.wd.toNat }
theorem extraT_succ (row who : Int) (i n : Nat) : extraT row who i (n + 1) = ((if (i : Int) = who then [(⟨i, row, row, 1, 1⟩ : Tly)] else []) ++ (if who < 0 then [(⟨i, row, row, 0, 0⟩ : Tly)] else [])) ++ extraT row who (i + 1) n := by
  unfold extraT; rw [List.range'_succ, List.flatMap_cons]
theorem extraT_len (row who : Int) : ∀ n i, (extraT row who i n).length ≤ n
  | 0, i => by simp [extraT]
  | n + 1, i => by
    have ih := extraT_len row who n (i + 1)
    rw [extraT_succ, List.length_append, List.length_append]
    split <;> split <;> simp only [List.length_cons, List.length_nil] <;> omega
theorem l_answ (f : Fld) (hw : 1 ≤ f.wd ∧ f.wd ≤ 3) (row who : Int) : ∀ (n m i : Nat) (acc : List Tly), f.wd = i + n → n < m → acc.length ≤ 5 + 2 * i → G_answered_L10 f row who m (i : Int) acc = some (acc ++ extraT row who i n)
  | n, 0, i, acc, h, hm, _ => by omega
  | 0, m + 1, i, acc, h, hm, _ => by
    unfold G_answered_L10
    rw [cf (df (by omega))]
    simp [extraT]
  | n + 1, m + 1, i, acc, h, hm, ha => by
    unfold G_answered_L10
    have e : ((i : Int) + 1) = ((i + 1 : Nat) : Int) := by omega
    rw [ct (dt (by omega)), extraT_succ]
    by_cases h1 : (i : Int) = who
    · have h2 : ¬ who < 0 := by omega
      rw [ct (by rw [beq_iff_eq]; exact h1), ifob (by simp; omega), cf (df h2), i64b (by omega) (by omega), e, l_answ f hw row who n m (i + 1) _ (by omega) (by omega) (by simp; omega), if_pos h1, if_neg h2]
      simp
    · rw [cf (by rw [beq_eq_false_iff_ne]; exact h1), if_neg h1]
      by_cases h2 : who < 0
      · rw [ct (dt h2), ifob (by simp; omega), i64b (by omega) (by omega), e, l_answ f hw row who n m (i + 1) _ (by omega) (by omega) (by simp; omega), if_pos h2]
        simp
      · rw [cf (df h2), i64b (by omega) (by omega), e, l_answ f hw row who n m (i + 1) acc (by omega) (by omega) (by omega), if_neg h2]
        simp
theorem g_answ {f : Fld} (hw : 1 ≤ f.wd ∧ f.wd ≤ 3) (h5 : f.ts.length ≤ 5) (row who : Int) : G_answered 1000 f row who = some (answF f row who) := by
  unfold G_answered
  have := l_answ f hw row who f.wd.toNat 1000 0 f.ts (by omega) (by omega) (by omega)
  rw [Int.natCast_zero] at this
  rw [ifob (by simp; omega), List.nil_append, bd this]; rfl
theorem mem_extra {row who : Int} {n : Nat} {t : Tly} : t ∈ extraT row who 0 n ↔ ∃ i : Nat, i < n ∧ (((i : Int) = who ∧ t = ⟨i, row, row, 1, 1⟩) ∨ (who < 0 ∧ t = ⟨i, row, row, 0, 0⟩)) := by
  unfold extraT
  rw [List.mem_flatMap]
  constructor
  · rintro ⟨i, hi, h⟩
    rw [List.mem_range'_1] at hi
    refine ⟨i, by omega, ?_⟩
    rcases List.mem_append.1 h with h | h
    · split at h
      · exact .inl ⟨‹_›, by simpa using h⟩
      · cases h
    · split at h
      · exact .inr ⟨‹_›, by simpa using h⟩
      · cases h
  · rintro ⟨i, hi, h⟩
    refine ⟨i, by rw [List.mem_range'_1]; omega, ?_⟩
    rcases h with ⟨h1, rfl⟩ | ⟨h1, rfl⟩
    · rw [if_pos h1]; simp
    · rw [if_pos h1]; simp
theorem check_answ {f : Fld} (hc : check f = 0) (hl : (f.ts.length : Int) + f.wd ≤ 5) {row : Nat} (hrow : (row : Int) < f.rows) (who : Int) : check (answF f row who) = 0 := by
  obtain ⟨hr, hw, h5, ht, _⟩ := check_ok hc
  have hx := extraT_len (row : Int) who f.wd.toNat 0
  refine check_sub hc (by rw [List.length_append]; omega) fun t h => ?_
  rcases List.mem_append.1 h with h | h
  · exact ht t h
  · obtain ⟨i, hi, h⟩ := mem_extra.1 h
    unfold talOk rngOk
    rcases h with ⟨h1, rfl⟩ | ⟨h1, rfl⟩
    · simp only [Bool.and_eq_true, inR_iff, decide_eq_true_eq]
      refine ⟨⟨⟨⟨?_, ?_⟩, ?_⟩, ?_⟩, ?_⟩ <;> omega
    · simp only [Bool.and_eq_true, inR_iff, decide_eq_true_eq]
      refine ⟨⟨⟨⟨?_, ?_⟩, ?_⟩, ?_⟩, ?_⟩ <;> omega
theorem part_one {l : List Int} {row : Nat} (h : row < l.length) (who : Int) : part l who row 1 = if l.getD row 0 = who then 1 else 0 := by
  rw [part_succ l who row 0 h, gd0 h]
  simp [part, cnt]
theorem mem_refs_answ {f : Fld} (hc : check f = 0) (hl : (f.ts.length : Int) + f.wd ≤ 5) {row : Nat} (hrow : (row : Int) < f.rows) {j : Nat} (hj : (j : Int) < f.wd + 1) {l : List Int} : l ∈ refs (answF f row ((j : Int) - 1)) ↔ l ∈ refs f ∧ l.getD row 0 = (j : Int) - 1 := by
  obtain ⟨hr, hw, h5, ht, _⟩ := check_ok hc
  rw [mem_refs (check_answ hc hl hrow _), mem_refs hc]
  have ha : alw (answF f row ((j : Int) - 1)) l = alw f l := rfl
  have e1 : ((row : Int) + 1 - row).toNat = 1 := by omega
  have e2 : (row : Int).toNat = row := by omega
  unfold tru
  rw [ha, Bool.and_eq_true, Bool.and_eq_true]
  constructor
  · rintro ⟨h1, h2⟩
    have h3 : (f.ts ++ extraT row ((j : Int) - 1) 0 f.wd.toNat).all (fun t => inR (tdid l t) t.lo t.hi) = true := h2
    rw [List.all_append, Bool.and_eq_true] at h3
    refine ⟨⟨h1, h3.1⟩, ?_⟩
    have h4 := List.all_eq_true.1 h3.2
    simp only [alw, Bool.and_eq_true, decide_eq_true_eq, List.all_eq_true] at h1
    have hrl : row < l.length := by omega
    have hv := h1.1 _ (List.getElem_mem hrl)
    rw [okWho_in f _ hw.1, inR_iff, gd0 hrl] at hv
    cases j with
    | zero =>
      refine Decidable.byContradiction fun hne => ?_
      have := h4 ⟨l.getD row 0, row, row, 0, 0⟩ (mem_extra.2 ⟨(l.getD row 0).toNat, by omega, .inr ⟨by omega, by rw [Int.toNat_of_nonneg (by omega)]⟩⟩)
      rw [inR_iff] at this
      unfold tdid at this
      simp only [e1, e2] at this
      rw [part_one hrl, if_pos rfl] at this
      omega
    | succ j =>
      have e3 : (((j + 1 : Nat) : Int) - 1) = j := by omega
      have := h4 ⟨j, row, row, 1, 1⟩ (mem_extra.2 ⟨j, by omega, .inl ⟨by omega, rfl⟩⟩)
      rw [inR_iff] at this
      unfold tdid at this
      simp only [e1, e2] at this
      rw [part_one hrl] at this
      rw [e3]
      refine Decidable.byContradiction fun hne => ?_
      rw [if_neg hne] at this
      omega
  · rintro ⟨⟨h1, h2⟩, h3⟩
    refine ⟨h1, ?_⟩
    show (f.ts ++ extraT row ((j : Int) - 1) 0 f.wd.toNat).all (fun t => inR (tdid l t) t.lo t.hi) = true
    rw [List.all_append, h2, Bool.true_and, List.all_eq_true]
    intro t h
    simp only [alw, Bool.and_eq_true, decide_eq_true_eq, List.all_eq_true] at h1
    have hrl : row < l.length := by omega
    obtain ⟨i, hi, h⟩ := mem_extra.1 h
    rw [inR_iff]
    rcases h with ⟨h4, rfl⟩ | ⟨h4, rfl⟩
    · unfold tdid
      simp only [e1, e2]
      rw [part_one hrl, if_pos (by omega)]
      omega
    · unfold tdid
      simp only [e1, e2]
      rw [part_one hrl, if_neg (by omega)]
      omega
theorem q_Next {K : Nat} {f : Fld} {n : Int} (h : inR n 0 (f.wd - 1) = true) : Q_Next K f n = some (if sureE f = 0 then ((nextF f n).1, (nextF f n).2, 0) else (0, 0, sureE f)) := by
  unfold Q_Next whoB
  rw [h, askE_true]
theorem l_Answer {f : Fld} (hc : check f = 0) (hl : (f.ts.length : Int) + f.wd ≤ 5) {p1 : Int} {k : Nat} (hk : p1 % f.wd = k) (hkw : (k : Int) < f.wd) {row m' : Nat} (hb : Best (cR (k : Int)) gR f.rows.toNat (· ∈ refs f) m' row) (r : Int × Int × Int) (hr1 : r.1 = row) (hr2 : r.2.1 = ((m' + 1 : Nat) : Int)) (hm7 : m' ≤ 7) :
    ∀ (n m j W : Nat), f.wd + 1 = j + n → n < m → W ≤ m' → (∀ j', j' < j → Qn (cR (k : Int)) gR f.rows.toNat W (prt' (refs f) row ((j' : Int) - 1))) →
    ∃ W' : Nat, G_WeedAnswer_L42 1000 f p1 r m (W : Int) ((j : Int) - 1) = some (.inr (W' : Int)) ∧ W' ≤ m' ∧ ∀ j' : Nat, (j' : Int) < f.wd + 1 → Qn (cR (k : Int)) gR f.rows.toNat W' (prt' (refs f) row ((j' : Int) - 1))
  | n, 0, j, W, h, hm, _, _ => by omega
  | 0, m + 1, j, W, h, hm, hW, hq => by
    refine ⟨W, ?_, hW, fun j' hj' => hq j' (by omega)⟩
    unfold G_WeedAnswer_L42
    rw [cf (df (by omega))]
  | n + 1, m + 1, j, W, h, hm, hW, hq => by
    obtain ⟨hr, hw, h5, ht, _⟩ := check_ok hc
    have hrow : (row : Int) < f.rows := by have := hb.1; omega
    have e : ((j : Int) - 1 + 1) = ((j + 1 : Nat) : Int) - 1 := by omega
    have hca := check_answ hc hl hrow ((j : Int) - 1)
    have hmem := fun l => mem_refs_answ hc hl hrow (j := j) (by omega) (l := l)
    have hal : (answF f row ((j : Int) - 1)).ts.length ≤ 5 := (check_ok hca).2.2.1
    have hin : inR (k : Int) 0 ((answF f row ((j : Int) - 1)).wd - 1) = true := inR_iff.2 ⟨by omega, by show (k : Int) ≤ f.wd - 1; omega⟩
    unfold G_WeedAnswer_L42
    rw [ct (dt (by omega)), hr1, bd (g_answ hw h5 _ _), bd (g_Field (Nat.le_refl _) (by omega)), hk, bd (q_Next (K := 1000) hin)]
    by_cases hn : refs (answF f row ((j : Int) - 1)) = []
    · have hs : sureE (answF f row ((j : Int) - 1)) = 11 := by rw [refs_nil hca, if_pos hn]
      rw [hs, if_neg (by decide)]
      simp only []
      rw [ct (by decide), cf (by decide), cf (by decide), i64b (by omega) (by omega), e]
      refine l_Answer hc hl hk hkw hb r hr1 hr2 hm7 n m (j + 1) W (by omega) (by omega) hW fun j' hj' => ?_
      rcases Nat.lt_or_ge j' j with h3 | h3
      · exact hq j' h3
      · obtain rfl : j' = j := by omega
        refine Qn_stl fun a b ha => ?_
        have : a ∈ refs (answF f row ((j' : Int) - 1)) := (hmem a).2 ha
        rw [hn] at this; cases this
    · have hs : sureE (answF f row ((j : Int) - 1)) = 0 := by rw [refs_nil hca, if_neg hn]
      obtain ⟨v, hv1, hv2, _⟩ := nextF_ans hca (k : Int)
      have hR : (answF f row ((j : Int) - 1)).rows.toNat = f.rows.toNat := rfl
      rw [hR] at hv1
      have hvm : v ≤ m' := hv1.2 m' (Qn_sub (fun a ha => (hmem a).1 ha) (hb.2.1 ((j : Int) - 1)))
      have hmx : max (W : Int) (v : Int) = ((max W v : Nat) : Int) := by omega
      rw [hs, if_pos rfl, hv2, hr2]
      simp only []
      rw [cf (by decide), ct (by decide), cf (df (by omega)), i64b (by omega) (by omega), e, hmx]
      refine l_Answer hc hl hk hkw hb r hr1 hr2 hm7 n m (j + 1) (max W v) (by omega) (by omega) (Nat.max_le.2 ⟨hW, hvm⟩) fun j' hj' => ?_
      rcases Nat.lt_or_ge j' j with h3 | h3
      · exact Qn_mono (Nat.le_max_left _ _) (hq j' h3)
      · obtain rfl : j' = j := by omega
        exact Qn_mono (Nat.le_max_right _ _) (Qn_sub (fun a ha => (hmem a).2 ha) hv1.1)
/-- No more questions than rows. -/
theorem ask_next {f : Fld} (hc : check f = 0) (n : Int) : Qn (cR n) gR f.rows.toNat (askL f n).length (· ∈ refs f) := by
  obtain ⟨hr, hw, _⟩ := check_ok hc
  obtain ⟨s, hs1, hs2, hs3, _⟩ := ask_spec hc n
  have := Qn_settle (c := cR n) (g := gR) (R := f.rows.toNat) ((List.range 8).filter fun x => s / 2 ^ x % 2 == 1) (· ∈ refs f) (fun r hr2 => bit_lt hs1 (by simpa using (List.mem_filter.1 hr2).2)) (fun a b ha hb hab => ?_)
  · rw [hs2]
    unfold bitsL
    rw [List.length_map]; exact this
  · have h1 := (tru_alw ((mem_refs hc).1 ha)).2.1
    have h2 := (tru_alw ((mem_refs hc).1 hb)).2.1
    have := setR_iff.1 hs3 a ha b hb (alike_iff.2 fun x hx => ?_)
    · show ((part a n 0 a.length : Nat) : Int) = ((part b n 0 b.length : Nat) : Int)
      rw [show a.length = f.rows.toNat by omega, show b.length = f.rows.toNat by omega, this]
    · by_cases hbit : s / 2 ^ x % 2 = 0
      · exact .inl hbit
      · exact .inr (hab x (List.mem_filter.2 ⟨by simp; omega, by simp; omega⟩))
theorem ask_nil {f : Fld} (hc : check f = 0) (n : Int) (h : ∀ a b, a ∈ refs f → b ∈ refs f → cR n a = cR n b) : (askL f n).length = 0 := by
  obtain ⟨s, hs1, hs2, hs3, hs4⟩ := ask_spec hc n
  have h0 : setR (refs f) n f.rows.toNat 0 = true := by
    rw [setR_iff]
    intro a ha b hb _
    have h1 := (tru_alw ((mem_refs hc).1 ha)).2.1
    have h2 := (tru_alw ((mem_refs hc).1 hb)).2.1
    have := h a b ha hb
    have h3 : ((part a n 0 a.length : Nat) : Int) = ((part b n 0 b.length : Nat) : Int) := this
    rw [show a.length = f.rows.toNat by omega, show b.length = f.rows.toNat by omega] at h3
    omega
  have := sh_len (hs4 0 Nat.one_le_two_pow h0)
  rw [hs2]
  have e : (bitsL 0).length = 0 := by decide
  omega
theorem weedAnswer_plain (f : Fld) (w : Int) (hw0 : 0 ≤ w ∧ w < 256) : G_WeedAnswer 1000 f w = some true := by
  unfold G_WeedAnswer
  rw [bd (g_ready f)]
  cases hrd : (thin f && check f == 0) with
  | false => rw [nf, ifob awake_1000]
  | true =>
    rw [Bool.and_eq_true, beq_iff_eq] at hrd
    obtain ⟨ht, hc⟩ := hrd
    obtain ⟨hr, hw, h5, _⟩ := check_ok hc
    have hmany := thin_many ht hc
    rw [nt, i64b (by omega) (by omega)]
    by_cases hl : 5 < (f.ts.length : Int) + f.wd
    · rw [ct (dt hl), ifob awake_1000]
    · obtain ⟨k, hk, hkw⟩ := mod_nat (x := w) (m := f.wd) (by omega)
      have hin : inR (k : Int) 0 (f.wd - 1) = true := inR_iff.2 (by omega)
      have hwB : whoB f (k : Int) = true := hin
      rw [cf (df hl), cv8 hw0, remb hw0.1 (by omega), bd (g_Field (Nat.le_refl _) (thin_len ht)), hk, bd (q_Ask 1000 f _), bd (g_Field (Nat.le_refl _) (thin_len ht)), bd (q_Next (K := 1000) hin), hwB, askE_true]
      by_cases hs : sureE f = 0
      · have hn := (sureE_ok hs).2
        obtain ⟨m, h1, h2, h3⟩ := nextF_ans hc (k : Int)
        have hml := h1.2 _ (ask_next hc (k : Int))
        have ha8 := askL_len hc (k : Int)
        have hm0 : m = 0 ↔ (askL f (k : Int)).length = 0 := by
          constructor
          · rintro rfl; exact ask_nil hc _ h1.1
          · intro h; omega
        rw [if_pos hs, if_pos hs]
        simp only []
        rw [cf (by decide), cf (by decide), cf (df (by omega)), cf (df (by omega)), h2]
        have hbb : (((m : Int) == 0) != (((askL f (k : Int)).length : Int) == 0)) = false := by
          rw [bne_eq_false_iff_eq, Bool.eq_iff_iff, beq_iff_eq, beq_iff_eq]
          omega
        rw [cf hbb]
        rcases h3 with ⟨hm, h4⟩ | ⟨m', row, hm, hb, h4⟩
        · rw [ct (by rw [beq_iff_eq]; omega), ct (by rw [beq_iff_eq]; exact h4), ifob awake_1000]
        · have hrow := hb.1
          obtain ⟨W, g1, g2, g3⟩ := l_Answer hc (by omega) hk hkw hb ((nextF f (k : Int)).1, (m : Int), 0) h4 (by show (m : Int) = _; rw [hm]) (by omega) (f.wd + 1).toNat 1000 0 0 (by omega) (by omega) (Nat.zero_le _) (fun j' hj' => by omega)
          rw [show (((0 : Nat) : Int) - 1) = -1 by omega, Int.natCast_zero] at g1
          have hge : m ≤ W + 1 := h1.2 _ (.inr ⟨row, hrow, fun v => by
            by_cases hv : -1 ≤ v ∧ v ≤ f.wd - 1
            · have := g3 (v + 1).toNat (by omega)
              rwa [show ((v + 1).toNat : Int) - 1 = v by omega] at this
            · refine Qn_stl fun a b ha => ?_
              have h5 := ((refs_ok hc hmany).2 a ha.1).2 row hrow
              have h6 : a.getD row 0 = v := ha.2
              omega⟩)
          rw [cf (by rw [beq_eq_false_iff_ne]; omega), i64b (by omega) (by omega), bd (g_In ..), h4, inR_iff.2 (by omega), nt]
          rw [h4] at g1
          rw [bd g1, Sum.elim_inr, i64b (by omega) (by omega), ct (by rw [beq_iff_eq]; omega), ifob awake_1000]
      · have hs2 : sureE f = 11 := by
          rw [refs_nil hc] at hs ⊢
          split
          · rfl
          · rw [if_neg ‹_›] at hs; exact absurd rfl hs
        rw [if_neg hs, if_neg hs, hs2, ct (by decide), ct (by decide), ct (by decide), ifob awake_1000]
theorem weedAnswer_true (f : Fld) (w : Int) (hw0 : 0 ≤ w ∧ w < 256) : ∃ K, G_WeedAnswer K f w = some true := ⟨1000, weedAnswer_plain f w hw0⟩
end Go.Proofs.Ythogdgkafaclaaa
end
section
set_option linter.unusedVariables false
set_option linter.unusedSimpArgs false
namespace Go.Proofs.Ythogdgkafaclaaa
open Go.RowKit
open AF
attribute [local irreducible] Ex1 WL CC CW LV Ret ObOp Agg One Own
theorem a8 (K_ : Nat) (p0 : Fld) (p1 : Int) (A0_0 : Option Addr) (c0_0 : Nat) (Z : Nat → Prop) (w : World) (hS0_0 : Sl eTly w Z A0_0 c0_0 p0.ts) (hG : G_WeedAnswer K_ p0 p1 = some true) :
    Ret Try.prog 8 #[.agg #[I p0.rows, I p0.wd, I p0.lo, I p0.hi, .slice A0_0 p0.ts.length c0_0], .int .u8 p1] w (fun v w' => Ext w w' ∧ v = .bool true) := by
 unfold G_WeedAnswer at hG
 refine ret_of_cc (N := 137) Try.func8 rfl rfl (by simp) ?_
 intro fr0 ha hdf
 have hp_0 := sl_arg (i := 0) (v := .agg #[I p0.rows, I p0.wd, I p0.lo, I p0.hi, .slice A0_0 p0.ts.length c0_0]) ha rfl
 have hp_1 := sl_arg (i := 1) (v := .int .u8 p1) ha rfl
 clear ha
 have hp0 := Hp.refl w
 have hS0_0_0 := hS0_0.mv (mv_start w)
 refine cc_seq <| cc_region <| we rfl (fun st => x_box (v := .agg #[I p0.rows, I p0.wd, I p0.lo, I p0.hi, .slice A0_0 p0.ts.length c0_0]) (cs := #[I p0.rows, I p0.wd, I p0.lo, I p0.hi, .slice A0_0 p0.ts.length c0_0]) (ee st hp_0) rfl) ?_
 rintro _ w1 ⟨b1, rfl, nb1⟩
 have hp1 : Hp w [some b1] w1 := hp0.new nb1.gr (Nat.le_of_eq nb1.b_eq.symm) (Nat.lt_of_lt_of_eq (Nat.lt_succ_self _) nb1.sz.symm)
 refine wa rfl (v := .bool false) rfl <| wl_end <| lv_next <| cc_seq <| cc_seq <| cc_region <| wd rfl (fun st => x_loadn (l := [I p0.rows, I p0.wd, I p0.lo, I p0.hi, .slice A0_0 p0.ts.length c0_0]) agg_26 (ee st rfl) nb1.bk rfl rfl) ?_
 have hS0_0_1 : Sl eTly w1 (ZZ Z w.heap.size [some b1]) A0_0 c0_0 p0.ts := (hS0_0_0.mv (mv_new nb1.gr (Nat.le_of_eq nb1.b_eq.symm)))
 replace hG := bind_some hG; obtain ⟨r2, hr2, hG⟩ := hG
 refine we rfl (fun st => x_call0 own_39 (ee st rfl) (am1 (ee st rfl)) (a39 K_ p0 A0_0 c0_0 ZA _ hS0_0_1.all r2 hr2)) ?_
 rintro _ w3 ⟨hx2, rfl⟩
 have hp2 : Hp w [some b1] w3 := hp1.ext hx2
 refine wd rfl (fun st => x_not (ee st rfl)) <| wm rfl (v := .bool !r2) rfl ?_
 rcases bool_cases (!r2) with hc4 | hc4
 ·replace hG := cond_t hG hc4
  have hc4_5 : r2 = false := by simpa using hc4
  refine wl_skip (c := true) rfl rfl (guard_eq rfl hc4) (by decide) rfl (by decide) <| wl_skip (c := true) rfl rfl (guard_eq rfl hc4) (by decide) rfl (by decide) <| wl_skip (c := true) rfl rfl (guard_eq rfl hc4) (by decide) rfl (by decide) <| wl_skip (c := true) rfl rfl (guard_eq rfl hc4) (by decide) rfl (by decide) <| wl_skip (c := true) rfl rfl (guard_eq rfl hc4) (by decide) rfl (by decide) <| wl_skip (c := true) rfl rfl (guard_eq rfl hc4) (by decide) rfl (by decide) <| wl_skip (c := true) rfl rfl (guard_eq rfl hc4) (by decide) rfl (by decide) <| wd rfl (fun st => x_pick_t (v := .bool true) (ee st rfl) hc4 (ee st rfl)) <| wl_end <| lv_next <| cc_cond_t rfl rfl <| cc_seq <| cc_region ?_
  replace hG := ifo_bind hG; obtain ⟨hw6, hG⟩ := hG
  refine we rfl (fun st => x_call0 own_21 (ee st rfl) am0 (a21 K_ ZA _ hw6)) ?_
  rintro _ w7 ⟨hx6, rfl⟩
  have hp3 : Hp w [some b1] w7 := hp2.ext hx6
  refine wa rfl (v := .bool true) rfl <| wl_end <| lv_next <| cc_ret <| lv_then_ret ?_
  have hr_ := Option.some.inj hG
  refine lv_ret1 rfl rfl ?_
  exact ⟨hp3.fin, congrArg Value.bool hr_⟩
 ·replace hG := cond_f hG hc4
  have hc4_8 : r2 = true := by simpa using hc4
  refine wl_detg rfl rfl (guard_eq rfl hc4) rfl (by decide) (fun st => x_fieldAddr (ee st rfl) (fz_26_3 _ _)) ?_
  have bk1_2 : Bk w3 b1 26 #[I p0.rows, I p0.wd, I p0.lo, I p0.hi, .slice A0_0 p0.ts.length c0_0] := (nb1.bk.ext hx2)
  refine wl_detg rfl rfl (guard_eq rfl hc4) rfl (by decide) (fun st => x_load1 (v := .slice A0_0 p0.ts.length c0_0) one_24 (ee st rfl) bk1_2 rfl) <| wl_detg rfl rfl (guard_eq rfl hc4) rfl (by decide) (fun st => x_len Try.underlying24 (ee st rfl)) <| wl_detg rfl rfl (guard_eq rfl hc4) rfl (by decide) (fun st => x_fieldAddr (ee st rfl) (fz_26_1 _ _)) <| wl_detg rfl rfl (guard_eq rfl hc4) rfl (by decide) (fun st => x_load1 (v := I p0.wd) one_3 (ee st rfl) bk1_2 rfl) ?_
  replace hG := i64_bind hG; obtain ⟨hf9, hG⟩ := hG
  refine wl_detg rfl rfl (guard_eq rfl hc4) rfl (by decide) (fun st => x_add (ee st rfl) (ee st rfl) hf9) <| wl_detg rfl rfl (guard_eq rfl hc4) rfl (by decide) (fun st => x_gtr (ee st rfl) (ee st rfl)) <| wd rfl (fun st => x_pick_f (v := .bool (decide (5 < ((p0.ts.length : Int) + p0.wd)))) (ee st rfl) hc4 (ee st rfl)) <| wl_end <| lv_next ?_
  rcases bool_cases (decide (5 < ((p0.ts.length : Int) + p0.wd))) with hc10 | hc10
  ·replace hG := cond_t hG hc10
   refine cc_cond_t rfl hc10 <| cc_seq <| cc_region ?_
   replace hG := ifo_bind hG; obtain ⟨hw11, hG⟩ := hG
   refine we rfl (fun st => x_call0 own_21 (ee st rfl) am0 (a21 K_ ZA _ hw11)) ?_
   rintro _ w12 ⟨hx11, rfl⟩
   have hp4 : Hp w [some b1] w12 := hp2.ext hx11
   refine wa rfl (v := .bool true) rfl <| wl_end <| lv_next <| cc_ret <| lv_then_ret ?_
   have hr_ := Option.some.inj hG
   refine lv_ret1 rfl rfl ?_
   exact ⟨hp4.fin, congrArg Value.bool hr_⟩
  ·replace hG := cond_f hG hc10
   refine cc_cond_f rfl hc10 <| cc_skip <| lv_next <| cc_seq <| cc_region <| wm rfl (v := .int .u8 p1) hp_1 ?_
   replace hG := cvO_bind hG; obtain ⟨hf13, hG⟩ := hG
   refine wd rfl (fun st => x_conv (k := .i64) sm_5 Try.underlying3 (ee st rfl) hf13) <| wd rfl (fun st => x_fieldAddr (ee st rfl) (fz_26_1 _ _)) <| wd rfl (fun st => x_load1 (v := I p0.wd) one_3 (ee st rfl) bk1_2 rfl) ?_
   replace hG := rem_bind hG; obtain ⟨hf14, hG⟩ := hG
   refine wd rfl (fun st => x_rem (ee st rfl) (ee st rfl) hf14.1 hf14.2) <| wa rfl (v := I (p1 % p0.wd)) rfl <| wl_end <| lv_next <| cc_seq <| cc_region <| wd rfl (fun st => x_loadn (l := [I p0.rows, I p0.wd, I p0.lo, I p0.hi, .slice A0_0 p0.ts.length c0_0]) agg_26 (ee st rfl) bk1_2 rfl rfl) ?_
   have hS0_0_2 : Sl eTly w3 (ZZ Z w.heap.size [some b1]) A0_0 c0_0 p0.ts := (hS0_0_1.mv (mv_ext hx2))
   replace hG := bind_some hG; obtain ⟨r15, hr15, hG⟩ := hG
   refine we rfl (fun st => x_call0 own_23 (ee st rfl) (am1 (ee st rfl)) (a23 K_ p0 A0_0 c0_0 (ZZ Z w.heap.size [some b1]) _ hS0_0_2 r15 hr15)) ?_
   rintro _ w16 ⟨hx15, ⟨_, rfl, ⟨A15_r0, c15_r0, rfl, hS15_r0⟩⟩⟩
   have hp5 : Hp w [some b1] w16 := hp2.ext hx15
   have hS15_r0 := hS15_r0.mv (hp2.call (Nat.le_refl _))
   refine wm rfl (v := I (p1 % p0.wd)) rfl ?_
   replace hG := bind_some hG; obtain ⟨r17, hr17, hG⟩ := hG
   refine we rfl (fun st => x_call0 own_42 (ee st rfl) (am2 (ee st rfl) (ee st rfl)) (a42 K_ r15 (p1 % p0.wd) A15_r0 c15_r0 (ZZ Z w.heap.size [some b1]) _ hS15_r0 r17 hr17)) ?_
   rintro _ w18 ⟨hx17, _, _, rfl, ⟨A17_ra, c17_ra, rfl, hS17_ra⟩, rfl⟩
   have hp6 : Hp w [some b1] w18 := hp5.ext hx17
   have hS17_ra := hS17_ra.mv (hp5.call (Nat.le_refl _))
   refine wm rfl (v := .tuple #[.slice A17_ra r17.1.length c17_ra, I r17.2]) rfl <| wd rfl (fun st => x_extract (v := .slice A17_ra r17.1.length c17_ra) (ee st rfl) rfl) <| wd rfl (fun st => x_extract (v := I r17.2) (ee st rfl) rfl) <| wa rfl (v := .slice A17_ra r17.1.length c17_ra) rfl <| wa rfl (v := I r17.2) rfl <| wl_end <| lv_next <| cc_seq <| cc_region ?_
   have bk1_6 : Bk w18 b1 26 #[I p0.rows, I p0.wd, I p0.lo, I p0.hi, .slice A0_0 p0.ts.length c0_0] := ((bk1_2.ext hx15).ext hx17)
   refine wd rfl (fun st => x_loadn (l := [I p0.rows, I p0.wd, I p0.lo, I p0.hi, .slice A0_0 p0.ts.length c0_0]) agg_26 (ee st rfl) bk1_6 rfl rfl) ?_
   have hS0_0_6 : Sl eTly w18 (ZZ Z w.heap.size [some b1]) A0_0 c0_0 p0.ts := ((hS0_0_2.mv (mv_ext hx15)).mv (mv_ext hx17))
   replace hG := bind_some hG; obtain ⟨r19, hr19, hG⟩ := hG
   refine we rfl (fun st => x_call0 own_23 (ee st rfl) (am1 (ee st rfl)) (a23 K_ p0 A0_0 c0_0 (ZZ Z w.heap.size [some b1]) _ hS0_0_6 r19 hr19)) ?_
   rintro _ w20 ⟨hx19, ⟨_, rfl, ⟨A19_r0, c19_r0, rfl, hS19_r0⟩⟩⟩
   have hp7 : Hp w [some b1] w20 := hp6.ext hx19
   have hS19_r0 := hS19_r0.mv (hp6.call (Nat.le_refl _))
   refine wm rfl (v := I (p1 % p0.wd)) rfl ?_
   replace hG := bind_some hG; obtain ⟨r21, hr21, hG⟩ := hG
   refine we rfl (fun st => x_call0 own_32 (ee st rfl) (am2 (ee st rfl) (ee st rfl)) (a32 K_ r19 (p1 % p0.wd) A19_r0 c19_r0 ZA _ hS19_r0.all r21 hr21)) ?_
   rintro _ w22 ⟨hx21, _, _, _, rfl, rfl, rfl, rfl⟩
   have hp8 : Hp w [some b1] w22 := hp7.ext hx21
   refine wm rfl (v := .tuple #[I r21.1, I r21.2.1, I r21.2.2]) rfl <| wd rfl (fun st => x_extract (v := I r21.1) (ee st rfl) rfl) <| wd rfl (fun st => x_extract (v := I r21.2.1) (ee st rfl) rfl) <| wd rfl (fun st => x_extract (v := I r21.2.2) (ee st rfl) rfl) <| wa rfl (v := I r21.1) rfl <| wa rfl (v := I r21.2.1) rfl <| wa rfl (v := I r21.2.2) rfl <| wl_end <| lv_next <| cc_seq <| cc_seq <| cc_region <| wm rfl (v := I r17.2) rfl <| wd rfl (fun st => x_neq (ee st rfl) (ee st rfl)) <| wl_end <| lv_next ?_
   rcases bool_cases (r17.2 != 0) with hc23 | hc23
   ·replace hG := cond_t hG hc23
    refine cc_cond_t rfl hc23 <| cc_seq <| cc_region <| wm rfl (v := I r17.2) rfl <| wd rfl (fun st => x_eql (ee st rfl) (ee st rfl)) <| wm rfl (v := .bool (r17.2 == 11)) rfl ?_
    rcases bool_cases (r17.2 == 11) with hc24 | hc24
    ·replace hG := cond_t hG hc24
     refine wl_detg rfl rfl (guard_eq rfl hc24) rfl (by decide) (fun st => x_move (v := I r21.2.2) (ee st rfl)) <| wl_detg rfl rfl (guard_eq rfl hc24) rfl (by decide) (fun st => x_eql (ee st rfl) (ee st rfl)) <| wd rfl (fun st => x_pick_t (v := .bool (r21.2.2 == 11)) (ee st rfl) hc24 (ee st rfl)) <| wm rfl (v := .bool (r21.2.2 == 11)) rfl ?_
     rcases bool_cases (r21.2.2 == 11) with hc25 | hc25
     ·replace hG := cond_t hG hc25
      replace hG := ifo_bind hG; obtain ⟨hw26, hG⟩ := hG
      refine wl_exg rfl rfl (guard_eq rfl hc25) rfl (by decide) (fun st => x_call0 own_21 (ee st rfl) am0 (a21 K_ ZA _ hw26)) ?_
      rintro _ w27 ⟨hx26, rfl⟩
      have hp9 : Hp w [some b1] w27 := hp8.ext hx26
      refine wd rfl (fun st => x_pick_t (v := .bool true) (ee st rfl) hc25 (ee st rfl)) <| wa rfl (v := .bool true) rfl <| wl_end <| lv_next <| cc_ret <| lv_then_ret ?_
      have hr_ := Option.some.inj hG
      refine lv_ret1 rfl rfl ?_
      exact ⟨hp9.fin, congrArg Value.bool hr_⟩
     ·replace hG := cond_f hG hc25
      exact absurd (Option.some.inj hG) (by decide)
    ·replace hG := cond_f hG hc24
     exact absurd (Option.some.inj hG) (by decide)
   ·replace hG := cond_f hG hc23
    refine cc_cond_f rfl hc23 <| cc_skip <| lv_next <| cc_seq <| cc_seq <| cc_region <| wm rfl (v := I r21.2.2) rfl <| wd rfl (fun st => x_neq (ee st rfl) (ee st rfl)) <| wm rfl (v := .bool (r21.2.2 != 0)) rfl ?_
    rcases bool_cases (r21.2.2 != 0) with hc28 | hc28
    ·replace hG := cond_t hG hc28
     exact absurd (Option.some.inj hG) (by decide)
    ·replace hG := cond_f hG hc28
     refine wl_detg rfl rfl (guard_eq rfl hc28) rfl (by decide) (fun st => x_move (v := I r21.2.1) (ee st rfl)) <| wl_detg rfl rfl (guard_eq rfl hc28) rfl (by decide) (fun st => x_lss (ee st rfl) (ee st rfl)) <| wd rfl (fun st => x_pick_f (v := .bool (decide (r21.2.1 < 0))) (ee st rfl) hc28 (ee st rfl)) <| wm rfl (v := .bool (decide (r21.2.1 < 0))) rfl ?_
     rcases bool_cases (decide (r21.2.1 < 0)) with hc29 | hc29
     ·replace hG := cond_t hG hc29
      exact absurd (Option.some.inj hG) (by decide)
     ·replace hG := cond_f hG hc29
      refine wl_detg rfl rfl (guard_eq rfl hc29) rfl (by decide) (fun st => x_move (v := I r21.2.1) (ee st rfl)) <| wl_detg rfl rfl (guard_eq rfl hc29) rfl (by decide) (fun st => x_move (v := .slice A17_ra r17.1.length c17_ra) (ee st rfl)) <| wl_detg rfl rfl (guard_eq rfl hc29) rfl (by decide) (fun st => x_len Try.underlying43 (ee st rfl)) <| wl_detg rfl rfl (guard_eq rfl hc29) rfl (by decide) (fun st => x_gtr (ee st rfl) (ee st rfl)) <| wd rfl (fun st => x_pick_f (v := .bool (decide ((r17.1.length : Int) < r21.2.1))) (ee st rfl) hc29 (ee st rfl)) <| wm rfl (v := .bool (decide ((r17.1.length : Int) < r21.2.1))) rfl ?_
      rcases bool_cases (decide ((r17.1.length : Int) < r21.2.1)) with hc30 | hc30
      ·replace hG := cond_t hG hc30
       exact absurd (Option.some.inj hG) (by decide)
      ·replace hG := cond_f hG hc30
       refine wl_detg rfl rfl (guard_eq rfl hc30) rfl (by decide) (fun st => x_move (v := I r21.2.1) (ee st rfl)) <| wl_detg rfl rfl (guard_eq rfl hc30) rfl (by decide) (fun st => x_eql (ee st rfl) (ee st rfl)) <| wl_detg rfl rfl (guard_eq rfl hc30) rfl (by decide) (fun st => x_move (v := .slice A17_ra r17.1.length c17_ra) (ee st rfl)) <| wl_detg rfl rfl (guard_eq rfl hc30) rfl (by decide) (fun st => x_len Try.underlying43 (ee st rfl)) <| wl_detg rfl rfl (guard_eq rfl hc30) rfl (by decide) (fun st => x_eql (ee st rfl) (ee st rfl)) <| wl_detg rfl rfl (guard_eq rfl hc30) rfl (by decide) (fun st => x_neB eqb_4 (ee st rfl) (ee st rfl)) <| wd rfl (fun st => x_pick_f (v := .bool ((r21.2.1 == 0) != ((r17.1.length : Int) == 0))) (ee st rfl) hc30 (ee st rfl)) <| wl_end <| lv_next ?_
       rcases bool_cases ((r21.2.1 == 0) != ((r17.1.length : Int) == 0)) with hc31 | hc31
       ·replace hG := cond_t hG hc31
        exact absurd (Option.some.inj hG) (by decide)
       ·replace hG := cond_f hG hc31
        refine cc_cond_f rfl hc31 <| cc_skip <| lv_next <| cc_seq <| cc_seq <| cc_region <| wm rfl (v := I r21.2.1) rfl <| wd rfl (fun st => x_eql (ee st rfl) (ee st rfl)) <| wl_end <| lv_next ?_
        rcases bool_cases (r21.2.1 == 0) with hc32 | hc32
        ·replace hG := cond_t hG hc32
         refine cc_cond_t rfl hc32 <| cc_seq <| cc_region <| wm rfl (v := I r21.1) rfl <| wd rfl (fun st => x_eql (ee st rfl) (ee st rfl)) <| wm rfl (v := .bool (r21.1 == (-1))) rfl ?_
         rcases bool_cases (r21.1 == (-1)) with hc33 | hc33
         ·replace hG := cond_t hG hc33
          replace hG := ifo_bind hG; obtain ⟨hw34, hG⟩ := hG
          refine wl_exg rfl rfl (guard_eq rfl hc33) rfl (by decide) (fun st => x_call0 own_21 (ee st rfl) am0 (a21 K_ ZA _ hw34)) ?_
          rintro _ w35 ⟨hx34, rfl⟩
          have hp10 : Hp w [some b1] w35 := hp8.ext hx34
          refine wd rfl (fun st => x_pick_t (v := .bool true) (ee st rfl) hc33 (ee st rfl)) <| wa rfl (v := .bool true) rfl <| wl_end <| lv_next <| cc_ret <| lv_then_ret ?_
          have hr_ := Option.some.inj hG
          refine lv_ret1 rfl rfl ?_
          exact ⟨hp10.fin, congrArg Value.bool hr_⟩
         ·replace hG := cond_f hG hc33
          exact absurd (Option.some.inj hG) (by decide)
        ·replace hG := cond_f hG hc32
         refine cc_cond_f rfl hc32 <| cc_skip <| lv_next <| cc_seq <| cc_seq <| cc_region <| wm rfl (v := I r21.1) rfl <| wd rfl (fun st => x_fieldAddr (ee st rfl) (fz_26_0 _ _)) ?_
         have bk1_8 : Bk w22 b1 26 #[I p0.rows, I p0.wd, I p0.lo, I p0.hi, .slice A0_0 p0.ts.length c0_0] := ((bk1_6.ext hx19).ext hx21)
         refine wd rfl (fun st => x_load1 (v := I p0.rows) one_3 (ee st rfl) bk1_8 rfl) ?_
         replace hG := i64_bind hG; obtain ⟨hf36, hG⟩ := hG
         refine wd rfl (fun st => x_sub (ee st rfl) (ee st rfl) hf36) ?_
         replace hG := bind_some hG; obtain ⟨r37, hr37, hG⟩ := hG
         refine we rfl (fun st => x_call0 own_29 (ee st rfl) (am3 (ee st rfl) (ee st rfl) (ee st rfl)) (a29 K_ r21.1 0 (p0.rows - 1) ZA _ r37 hr37)) ?_
         rintro _ w38 ⟨hx37, rfl⟩
         have hp11 : Hp w [some b1] w38 := hp8.ext hx37
         refine wd rfl (fun st => x_not (ee st rfl)) <| wl_end <| lv_next ?_
         rcases bool_cases (!r37) with hc39 | hc39
         ·replace hG := cond_t hG hc39
          exact absurd (Option.some.inj hG) (by decide)
         ·replace hG := cond_f hG hc39
          have hc39_41 : r37 = true := by simpa using hc39
          refine cc_cond_f rfl hc39 <| cc_skip <| lv_next <| cc_seq <| cc_region <| wa rfl (v := I 0) rfl <| wl_end <| lv_next <| cc_seq <| cc_seq <| cc_region <| wa rfl (v := I (-1)) rfl <| wl_end <| lv_next <| cc_block ?_
          replace hG := bind_some hG; obtain ⟨z42, hL42, hG⟩ := hG
          refine cc_join (fun e_ fr_ w_ => (e_ = .ret ∧ ∃ q42, z42 = .inl q42 ∧ fr_.tmps.size = 137 ∧ fr_.defers = [] ∧ sl fr_ 4 = .bool q42 ∧ Hp w [some b1] w_) ∨ (e_ = .exit 0 ∧ ∃ q42, z42 = .inr q42 ∧ fr_.tmps.size = 137 ∧ fr_.defers = [] ∧ sl fr_ 9 = I r21.2.1 ∧ sl fr_ 11 = I q42 ∧ Hp w [some b1] w_)) ?lp42 ?af42
          case lp42 =>
           clear hG
           refine cc_loop (fun (m_ : Nat) (fr_ : Act) (w_ : World) => ∃ s42_11, ∃ s42_12, G_WeedAnswer_L42 K_ p0 p1 r21 m_ s42_11 s42_12 = some z42 ∧ fr_.tmps.size = 137 ∧ fr_.defers = [] ∧ sl fr_ 2 = pt b1 0 ∧ sl fr_ 5 = I (p1 % p0.wd) ∧ sl fr_ 8 = I r21.1 ∧ sl fr_ 9 = I r21.2.1 ∧ sl fr_ 11 = I s42_11 ∧ sl fr_ 12 = I s42_12 ∧ Hp w [some b1] w_ ∧ Bk w_ b1 26 #[I p0.rows, I p0.wd, I p0.lo, I p0.hi, .slice A0_0 p0.ts.length c0_0] ∧ Sl eTly w_ (ZZ Z w.heap.size [some b1]) A0_0 c0_0 p0.ts) K_ ?in42 ?rd42
           case in42 =>
            intro st
            have bk1_11 : Bk w38 b1 26 #[I p0.rows, I p0.wd, I p0.lo, I p0.hi, .slice A0_0 p0.ts.length c0_0] := (bk1_8.ext hx37)
            have hS0_0_11 : Sl eTly w38 (ZZ Z w.heap.size [some b1]) A0_0 c0_0 p0.ts := (((hS0_0_6.mv (mv_ext hx19)).mv (mv_ext hx21)).mv (mv_ext hx37))
            exact ⟨(0 : Int), (-1), hL42, (puts_size _ _).trans st.sz, (puts_defers _ _).trans st.df, (sl_puts st 2).trans rfl, (sl_puts st 5).trans rfl, (sl_puts st 8).trans rfl, (sl_puts st 9).trans rfl, (sl_puts st 11).trans rfl, (sl_puts st 12).trans rfl, hp11, bk1_11, hS0_0_11⟩
           case rd42 =>
            rintro (_ | m_) fr42 w42r ⟨s42_11, s42_12, hL42, hsz42, hdf42, hs42_2, hs42_5, hs42_8, hs42_9, hs42_11, hs42_12, hp12, f42_bk1, f42_hS0_0⟩
            ·exact absurd (show none = some _ from hL42) (by simp)
            rw [G_WeedAnswer_L42.eq_2] at hL42
            have hG := hL42; clear hL42
            refine round_cc (N := 137) hsz42 hdf42 <| cc_seq <| cc_seq <| cc_region <| wm rfl (v := I s42_12) hs42_12 <| wd rfl (fun st => x_fieldAddr (ee st hs42_2) (fz_26_1 _ _)) <| wd rfl (fun st => x_load1 (v := I p0.wd) one_3 (ee st rfl) f42_bk1 rfl) <| wd rfl (fun st => x_lss (ee st rfl) (ee st rfl)) <| wl_end <| lv_next ?_
            rcases bool_cases (decide (s42_12 < p0.wd)) with hc43 | hc43
            ·replace hG := cond_t hG hc43
             refine cc_cond_t rfl hc43 <| cc_skip <| lv_next <| cc_seq <| cc_block <| cc_seq <| cc_region <| wd rfl (fun st => x_loadn (l := [I p0.rows, I p0.wd, I p0.lo, I p0.hi, .slice A0_0 p0.ts.length c0_0]) agg_26 (ee st hs42_2) f42_bk1 rfl rfl) <| wm rfl (v := I r21.1) hs42_8 <| wm rfl (v := I s42_12) hs42_12 ?_
             replace hG := bind_some hG; obtain ⟨r44, hr44, hG⟩ := hG
             refine we rfl (fun st => x_call0 own_43 (ee st rfl) (am3 (ee st rfl) (ee st rfl) (ee st rfl)) (a43 K_ p0 r21.1 s42_12 A0_0 c0_0 (ZZ Z w.heap.size [some b1]) _ f42_hS0_0 r44 hr44)) ?_
             rintro _ w45 ⟨hx44, ⟨_, rfl, ⟨A44_r0, c44_r0, rfl, hS44_r0⟩⟩⟩
             have hp13 : Hp w [some b1] w45 := hp12.ext hx44
             have hS44_r0 := hS44_r0.mv (hp12.call (Nat.le_refl _))
             replace hG := bind_some hG; obtain ⟨r46, hr46, hG⟩ := hG
             refine we rfl (fun st => x_call0 own_23 (ee st rfl) (am1 (ee st rfl)) (a23 K_ r44 A44_r0 c44_r0 (ZZ Z w.heap.size [some b1]) _ hS44_r0 r46 hr46)) ?_
             rintro _ w47 ⟨hx46, ⟨_, rfl, ⟨A46_r0, c46_r0, rfl, hS46_r0⟩⟩⟩
             have hp14 : Hp w [some b1] w47 := hp13.ext hx46
             have hS46_r0 := hS46_r0.mv (hp13.call (Nat.le_refl _))
             refine wm rfl (v := I (p1 % p0.wd)) hs42_5 ?_
             replace hG := bind_some hG; obtain ⟨r48, hr48, hG⟩ := hG
             refine we rfl (fun st => x_call0 own_32 (ee st rfl) (am2 (ee st rfl) (ee st rfl)) (a32 K_ r46 (p1 % p0.wd) A46_r0 c46_r0 ZA _ hS46_r0.all r48 hr48)) ?_
             rintro _ w49 ⟨hx48, _, _, _, rfl, rfl, rfl, rfl⟩
             have hp15 : Hp w [some b1] w49 := hp14.ext hx48
             refine wm rfl (v := .tuple #[I r48.1, I r48.2.1, I r48.2.2]) rfl <| wd rfl (fun st => x_extract (v := I r48.1) (ee st rfl) rfl) <| wd rfl (fun st => x_extract (v := I r48.2.1) (ee st rfl) rfl) <| wd rfl (fun st => x_extract (v := I r48.2.2) (ee st rfl) rfl) <| wa rfl (v := I r48.1) rfl <| wa rfl (v := I r48.2.1) rfl <| wa rfl (v := I r48.2.2) rfl <| wl_end <| lv_next <| cc_seq <| cc_seq <| cc_region <| wm rfl (v := I r48.2.2) rfl <| wd rfl (fun st => x_neq (ee st rfl) (ee st rfl)) <| wm rfl (v := .bool (r48.2.2 != 0)) rfl ?_
             rcases bool_cases (r48.2.2 != 0) with hc50 | hc50
             ·replace hG := cond_t hG hc50
              refine wl_detg rfl rfl (guard_eq rfl hc50) rfl (by decide) (fun st => x_move (v := I r48.2.2) (ee st rfl)) <| wl_detg rfl rfl (guard_eq rfl hc50) rfl (by decide) (fun st => x_neq (ee st rfl) (ee st rfl)) <| wd rfl (fun st => x_pick_t (v := .bool (r48.2.2 != 11)) (ee st rfl) hc50 (ee st rfl)) <| wm rfl (v := .bool (r48.2.2 != 11)) rfl ?_
              rcases bool_cases (r48.2.2 != 11) with hc51 | hc51
              ·replace hG := cond_t hG hc51
               refine wl_skip (c := true) rfl rfl (guard_eq rfl hc51) (by decide) rfl (by decide) <| wl_skip (c := true) rfl rfl (guard_eq rfl hc51) (by decide) rfl (by decide) <| wl_skip (c := true) rfl rfl (guard_eq rfl hc51) (by decide) rfl (by decide) <| wl_skip_u rfl rfl rfl rfl (by decide) <| wl_skip_u rfl rfl rfl rfl (by decide) <| wl_skip_u rfl rfl rfl rfl (by decide) <| wl_skip (c := true) rfl rfl (guard_eq rfl hc51) (by decide) rfl (by decide) <| wd rfl (fun st => x_pick_t (v := .bool true) (ee st rfl) hc51 (ee st rfl)) <| wl_end <| lv_next <| cc_cond_t rfl rfl <| cc_seq <| cc_region <| wa rfl (v := .bool false) rfl <| wl_end <| lv_next <| cc_ret <| lv_then_ret <| lv_block_ret <| lv_then_ret <| lv_then_ret ?_
               obtain rfl := Option.some.inj hG
               refine lv_to (fun st => ?_)
               exact .inl ⟨rfl, false, rfl, (puts_size _ _).trans st.sz, (puts_defers _ _).trans st.df, (sl_puts st 4).trans rfl, hp15⟩
              ·replace hG := cond_f hG hc51
               refine wl_detg rfl rfl (guard_eq rfl hc51) rfl (by decide) (fun st => x_move (v := I r48.2.2) (ee st rfl)) <| wl_detg rfl rfl (guard_eq rfl hc51) rfl (by decide) (fun st => x_eql (ee st rfl) (ee st rfl)) <| wl_detg rfl rfl (guard_eq rfl hc51) rfl (by decide) (fun st => x_move (v := .bool (r48.2.2 == 0)) (ee st rfl)) ?_
               rcases bool_cases (r48.2.2 == 0) with hc52 | hc52
               ·replace hG := cond_t hG hc52
                refine wl_detg rfl rfl (guard_eq rfl hc52) rfl (by decide) (fun st => x_move (v := I r48.2.1) (ee st rfl)) <| wl_detg rfl rfl (guard_eq rfl hc52) rfl (by decide) (fun st => x_move (v := I r21.2.1) (ee st hs42_9)) <| wl_detg rfl rfl (guard_eq rfl hc52) rfl (by decide) (fun st => x_geq (ee st rfl) (ee st rfl)) <| wl_detg rfl rfl (guard_eq rfl hc51) rfl (by decide) (fun st => x_pick_t (v := .bool (decide (r21.2.1 ≤ r48.2.1))) (ee st rfl) hc52 (ee st rfl)) <| wd rfl (fun st => x_pick_f (v := .bool (decide (r21.2.1 ≤ r48.2.1))) (ee st rfl) hc51 (ee st rfl)) <| wl_end <| lv_next ?_
                rcases bool_cases (decide (r21.2.1 ≤ r48.2.1)) with hc53 | hc53
                ·replace hG := cond_t hG hc53
                 refine cc_cond_t rfl hc53 <| cc_seq <| cc_region <| wa rfl (v := .bool false) rfl <| wl_end <| lv_next <| cc_ret <| lv_then_ret <| lv_block_ret <| lv_then_ret <| lv_then_ret ?_
                 obtain rfl := Option.some.inj hG
                 refine lv_to (fun st => ?_)
                 exact .inl ⟨rfl, false, rfl, (puts_size _ _).trans st.sz, (puts_defers _ _).trans st.df, (sl_puts st 4).trans rfl, hp15⟩
                ·replace hG := cond_f hG hc53
                 refine cc_cond_f rfl hc53 <| cc_skip <| lv_next <| cc_seq <| cc_region <| wm rfl (v := I r48.2.2) rfl <| wd rfl (fun st => x_eql (ee st rfl) (ee st rfl)) <| wl_end <| lv_next <| cc_cond_t rfl hc52 <| cc_region <| wm rfl (v := I s42_11) hs42_11 <| wm rfl (v := I r48.2.1) rfl <| wd rfl (fun st => x_max (ee st rfl) (ee st rfl)) <| wa rfl (v := I (max s42_11 r48.2.1)) rfl <| wl_end <| lv_block <| lv_next <| cc_region <| wm rfl (v := I s42_12) hs42_12 ?_
                 replace hG := i64_bind hG; obtain ⟨hf54, hG⟩ := hG
                 refine wd rfl (fun st => x_add (ee st rfl) (ee st rfl) hf54) <| wa rfl (v := I (s42_12 + 1)) rfl <| wl_end ?_
                 have bk1_15 : Bk w49 b1 26 #[I p0.rows, I p0.wd, I p0.lo, I p0.hi, .slice A0_0 p0.ts.length c0_0] := (((f42_bk1.ext hx44).ext hx46).ext hx48)
                 have hS0_0_15 : Sl eTly w49 (ZZ Z w.heap.size [some b1]) A0_0 c0_0 p0.ts := (((f42_hS0_0.mv (mv_ext hx44)).mv (mv_ext hx46)).mv (mv_ext hx48))
                 refine lv_round m_ (Nat.lt_succ_self _) (fun st => ?_)
                 exact ⟨(max s42_11 r48.2.1), (s42_12 + 1), hG, (puts_size _ _).trans st.sz, (puts_defers _ _).trans st.df, (sl_puts st 2).trans hs42_2, (sl_puts st 5).trans hs42_5, (sl_puts st 8).trans hs42_8, (sl_puts st 9).trans hs42_9, (sl_puts st 11).trans rfl, (sl_puts st 12).trans rfl, hp15, bk1_15, hS0_0_15⟩
               ·replace hG := cond_f hG hc52
                refine wl_skip (c := false) rfl rfl (guard_eq rfl hc52) (by decide) rfl (by decide) <| wl_skip (c := false) rfl rfl (guard_eq rfl hc52) (by decide) rfl (by decide) <| wl_skip (c := false) rfl rfl (guard_eq rfl hc52) (by decide) rfl (by decide) <| wl_detg rfl rfl (guard_eq rfl hc51) rfl (by decide) (fun st => x_pick_f (v := .bool false) (ee st rfl) hc52 (ee st rfl)) <| wd rfl (fun st => x_pick_f (v := .bool false) (ee st rfl) hc51 (ee st rfl)) <| wl_end <| lv_next <| cc_cond_f rfl rfl <| cc_skip <| lv_next <| cc_seq <| cc_region <| wm rfl (v := I r48.2.2) rfl <| wd rfl (fun st => x_eql (ee st rfl) (ee st rfl)) <| wl_end <| lv_next <| cc_cond_f rfl hc52 <| cc_skip <| lv_block <| lv_next <| cc_region <| wm rfl (v := I s42_12) hs42_12 ?_
                replace hG := i64_bind hG; obtain ⟨hf55, hG⟩ := hG
                refine wd rfl (fun st => x_add (ee st rfl) (ee st rfl) hf55) <| wa rfl (v := I (s42_12 + 1)) rfl <| wl_end ?_
                have bk1_15 : Bk w49 b1 26 #[I p0.rows, I p0.wd, I p0.lo, I p0.hi, .slice A0_0 p0.ts.length c0_0] := (((f42_bk1.ext hx44).ext hx46).ext hx48)
                have hS0_0_15 : Sl eTly w49 (ZZ Z w.heap.size [some b1]) A0_0 c0_0 p0.ts := (((f42_hS0_0.mv (mv_ext hx44)).mv (mv_ext hx46)).mv (mv_ext hx48))
                refine lv_round m_ (Nat.lt_succ_self _) (fun st => ?_)
                exact ⟨s42_11, (s42_12 + 1), hG, (puts_size _ _).trans st.sz, (puts_defers _ _).trans st.df, (sl_puts st 2).trans hs42_2, (sl_puts st 5).trans hs42_5, (sl_puts st 8).trans hs42_8, (sl_puts st 9).trans hs42_9, (sl_puts st 11).trans hs42_11, (sl_puts st 12).trans rfl, hp15, bk1_15, hS0_0_15⟩
             ·replace hG := cond_f hG hc50
              refine wl_skip (c := false) rfl rfl (guard_eq rfl hc50) (by decide) rfl (by decide) <| wl_skip (c := false) rfl rfl (guard_eq rfl hc50) (by decide) rfl (by decide) <| wd rfl (fun st => x_pick_f (v := .bool false) (ee st rfl) hc50 (ee st rfl)) <| wm rfl (v := .bool false) rfl <| wl_detg rfl rfl rfl rfl (by decide) (fun st => x_move (v := I r48.2.2) (ee st rfl)) <| wl_detg rfl rfl rfl rfl (by decide) (fun st => x_eql (ee st rfl) (ee st rfl)) <| wl_detg rfl rfl rfl rfl (by decide) (fun st => x_move (v := .bool (r48.2.2 == 0)) (ee st rfl)) ?_
              rcases bool_cases (r48.2.2 == 0) with hc56 | hc56
              ·replace hG := cond_t hG hc56
               refine wl_detg rfl rfl (guard_eq rfl hc56) rfl (by decide) (fun st => x_move (v := I r48.2.1) (ee st rfl)) <| wl_detg rfl rfl (guard_eq rfl hc56) rfl (by decide) (fun st => x_move (v := I r21.2.1) (ee st hs42_9)) <| wl_detg rfl rfl (guard_eq rfl hc56) rfl (by decide) (fun st => x_geq (ee st rfl) (ee st rfl)) <| wl_detg rfl rfl rfl rfl (by decide) (fun st => x_pick_t (v := .bool (decide (r21.2.1 ≤ r48.2.1))) (ee st rfl) hc56 (ee st rfl)) <| wd rfl (fun st => x_pick_f (v := .bool (decide (r21.2.1 ≤ r48.2.1))) (ee st rfl) rfl (ee st rfl)) <| wl_end <| lv_next ?_
               rcases bool_cases (decide (r21.2.1 ≤ r48.2.1)) with hc57 | hc57
               ·replace hG := cond_t hG hc57
                refine cc_cond_t rfl hc57 <| cc_seq <| cc_region <| wa rfl (v := .bool false) rfl <| wl_end <| lv_next <| cc_ret <| lv_then_ret <| lv_block_ret <| lv_then_ret <| lv_then_ret ?_
                obtain rfl := Option.some.inj hG
                refine lv_to (fun st => ?_)
                exact .inl ⟨rfl, false, rfl, (puts_size _ _).trans st.sz, (puts_defers _ _).trans st.df, (sl_puts st 4).trans rfl, hp15⟩
               ·replace hG := cond_f hG hc57
                refine cc_cond_f rfl hc57 <| cc_skip <| lv_next <| cc_seq <| cc_region <| wm rfl (v := I r48.2.2) rfl <| wd rfl (fun st => x_eql (ee st rfl) (ee st rfl)) <| wl_end <| lv_next <| cc_cond_t rfl hc56 <| cc_region <| wm rfl (v := I s42_11) hs42_11 <| wm rfl (v := I r48.2.1) rfl <| wd rfl (fun st => x_max (ee st rfl) (ee st rfl)) <| wa rfl (v := I (max s42_11 r48.2.1)) rfl <| wl_end <| lv_block <| lv_next <| cc_region <| wm rfl (v := I s42_12) hs42_12 ?_
                replace hG := i64_bind hG; obtain ⟨hf58, hG⟩ := hG
                refine wd rfl (fun st => x_add (ee st rfl) (ee st rfl) hf58) <| wa rfl (v := I (s42_12 + 1)) rfl <| wl_end ?_
                have bk1_15 : Bk w49 b1 26 #[I p0.rows, I p0.wd, I p0.lo, I p0.hi, .slice A0_0 p0.ts.length c0_0] := (((f42_bk1.ext hx44).ext hx46).ext hx48)
                have hS0_0_15 : Sl eTly w49 (ZZ Z w.heap.size [some b1]) A0_0 c0_0 p0.ts := (((f42_hS0_0.mv (mv_ext hx44)).mv (mv_ext hx46)).mv (mv_ext hx48))
                refine lv_round m_ (Nat.lt_succ_self _) (fun st => ?_)
                exact ⟨(max s42_11 r48.2.1), (s42_12 + 1), hG, (puts_size _ _).trans st.sz, (puts_defers _ _).trans st.df, (sl_puts st 2).trans hs42_2, (sl_puts st 5).trans hs42_5, (sl_puts st 8).trans hs42_8, (sl_puts st 9).trans hs42_9, (sl_puts st 11).trans rfl, (sl_puts st 12).trans rfl, hp15, bk1_15, hS0_0_15⟩
              ·replace hG := cond_f hG hc56
               refine wl_skip (c := false) rfl rfl (guard_eq rfl hc56) (by decide) rfl (by decide) <| wl_skip (c := false) rfl rfl (guard_eq rfl hc56) (by decide) rfl (by decide) <| wl_skip (c := false) rfl rfl (guard_eq rfl hc56) (by decide) rfl (by decide) <| wl_detg rfl rfl rfl rfl (by decide) (fun st => x_pick_f (v := .bool false) (ee st rfl) hc56 (ee st rfl)) <| wd rfl (fun st => x_pick_f (v := .bool false) (ee st rfl) rfl (ee st rfl)) <| wl_end <| lv_next <| cc_cond_f rfl rfl <| cc_skip <| lv_next <| cc_seq <| cc_region <| wm rfl (v := I r48.2.2) rfl <| wd rfl (fun st => x_eql (ee st rfl) (ee st rfl)) <| wl_end <| lv_next <| cc_cond_f rfl hc56 <| cc_skip <| lv_block <| lv_next <| cc_region <| wm rfl (v := I s42_12) hs42_12 ?_
               replace hG := i64_bind hG; obtain ⟨hf59, hG⟩ := hG
               refine wd rfl (fun st => x_add (ee st rfl) (ee st rfl) hf59) <| wa rfl (v := I (s42_12 + 1)) rfl <| wl_end ?_
               have bk1_15 : Bk w49 b1 26 #[I p0.rows, I p0.wd, I p0.lo, I p0.hi, .slice A0_0 p0.ts.length c0_0] := (((f42_bk1.ext hx44).ext hx46).ext hx48)
               have hS0_0_15 : Sl eTly w49 (ZZ Z w.heap.size [some b1]) A0_0 c0_0 p0.ts := (((f42_hS0_0.mv (mv_ext hx44)).mv (mv_ext hx46)).mv (mv_ext hx48))
               refine lv_round m_ (Nat.lt_succ_self _) (fun st => ?_)
               exact ⟨s42_11, (s42_12 + 1), hG, (puts_size _ _).trans st.sz, (puts_defers _ _).trans st.df, (sl_puts st 2).trans hs42_2, (sl_puts st 5).trans hs42_5, (sl_puts st 8).trans hs42_8, (sl_puts st 9).trans hs42_9, (sl_puts st 11).trans hs42_11, (sl_puts st 12).trans rfl, hp15, bk1_15, hS0_0_15⟩
            ·replace hG := cond_f hG hc43
             refine cc_cond_f rfl hc43 <| cc_exit <| lv_then_exit <| lv_then_exit ?_
             obtain rfl := Option.some.inj hG
             refine lv_to (fun st => ?_)
             exact .inr ⟨rfl, s42_11, rfl, (puts_size _ _).trans st.sz, (puts_defers _ _).trans st.df, (sl_puts st 9).trans hs42_9, (sl_puts st 11).trans hs42_11, hp12⟩
          case af42 =>
           rintro e_ fr42a w42a (⟨rfl, q42, rfl, hsz42a, hdf42a, hs42a_4, hp42a⟩ | ⟨rfl, q42, rfl, hsz42a, hdf42a, hs42a_9, hs42a_11, hp42a⟩)
           ·skip
            replace hG := inl_some hG
            refine lv_fr (X := X0) (N := 137) hsz42a hdf42a <| lv_block_ret <| lv_then_ret ?_
            have hr_ := Option.some.inj hG
            refine lv_ret1 rfl hs42a_4 ?_
            exact ⟨hp42a.fin, congrArg Value.bool hr_⟩
           ·skip
            replace hG := inr_some hG
            refine lv_fr (X := X0) (N := 137) hsz42a hdf42a <| lv_block_hit <| lv_next <| cc_seq <| cc_region <| wm rfl (v := I q42) hs42a_11 <| wm rfl (v := I r21.2.1) hs42a_9 ?_
            replace hG := i64_bind hG; obtain ⟨hf60, hG⟩ := hG
            refine wd rfl (fun st => x_sub (ee st rfl) (ee st rfl) hf60) <| wd rfl (fun st => x_eql (ee st rfl) (ee st rfl)) <| wm rfl (v := .bool (q42 == (r21.2.1 - 1))) rfl ?_
            rcases bool_cases (q42 == (r21.2.1 - 1)) with hc61 | hc61
            ·replace hG := cond_t hG hc61
             replace hG := ifo_bind hG; obtain ⟨hw62, hG⟩ := hG
             refine wl_exg rfl rfl (guard_eq rfl hc61) rfl (by decide) (fun st => x_call0 own_21 (ee st rfl) am0 (a21 K_ ZA _ hw62)) ?_
             rintro _ w63 ⟨hx62, rfl⟩
             have hp18 : Hp w [some b1] w63 := hp42a.ext hx62
             refine wd rfl (fun st => x_pick_t (v := .bool true) (ee st rfl) hc61 (ee st rfl)) <| wa rfl (v := .bool true) rfl <| wl_end <| lv_next <| cc_ret ?_
             have hr_ := Option.some.inj hG
             refine lv_ret1 rfl rfl ?_
             exact ⟨hp18.fin, congrArg Value.bool hr_⟩
            ·replace hG := cond_f hG hc61
             exact absurd (Option.some.inj hG) (by decide)
end Go.Proofs.Ythogdgkafaclaaa
end
section
namespace Go.Proofs.Ythogdgkafaclaaa
open Go.RowKit Go.ChangeShapes Go.WideShapes
theorem mapM_all {α β : Type} {g : α → Option β} : ∀ {l : List α} {r : List β}, l.mapM g = some r → ∀ x ∈ l, ∃ y, g x = some y
  | [], _, _, x, hx => by cases hx
  | a :: l, r, h, x, hx => by
    rw [List.mapM_cons] at h
    obtain ⟨y, hy, h2⟩ := Option.bind_eq_some_iff.1 h
    obtain ⟨ys, hys, _⟩ := Option.bind_eq_some_iff.1 h2
    rcases List.mem_cons.1 hx with rfl | hx
    · exact ⟨y, hy⟩
    · exact mapM_all hys x hx
/-- A reading of this type is data of this kind. -/
def Opn {α : Type} (P : Program) (t : TypeId) (e : Enc α) (wf : α → Prop) : Prop :=
  ∀ (H : Type) (enc : TypeId × Value → H) (w : World) (sp : Nat → Bool) (fuel : Nat) (cs : List Value) (x : DataW H × List MemPlace), DataW.trod enc P w 0 sp true fuel t cs = some x → ∃ a, e.R w ZA cs a ∧ wf a
def wfI (k : IntKind) (n : Int) : Prop := (Lit.int k n).wf = true
section
variable {P : Program} {t : TypeId}
theorem opn_int {k : IntKind} (ht : P.underlying t = some (.int k)) : Opn P t (eInt k) (wfI k) := by
  intro H enc w sp fuel cs x h
  obtain ⟨n, h1, _, h3⟩ := DataW.trod_int ht h
  exact ⟨n, h1, h3⟩
/-- A struct's fields. -/
theorem trod_fields {fs : Array Field} (ht : P.underlying t = some (.struct fs)) {H : Type} {enc : TypeId × Value → H} {w : World} {sp : Nat → Bool} {fuel : Nat} {cs : List Value} {x : DataW H × List MemPlace} (h : DataW.trod enc P w 0 sp true fuel t cs = some x) :
    cs.length = P.cellsOf t ∧ ∃ fuel', ∀ (i ft off : Nat), (fs[i]?).map (fun f => (f.type, f.offset)) = some (ft, off) → ∃ y, DataW.trod enc P w 0 sp true fuel' ft ((cs.drop off).take (P.cellsOf ft)) = some y := by
  cases fuel with
  | zero => simp [DataW.trod] at h
  | succ fuel =>
    unfold DataW.trod at h
    simp only [ht] at h
    split at h
    · rename_i hl
      obtain ⟨xs, hx, _⟩ := Option.map_eq_some_iff.1 h
      refine ⟨hl, fuel, fun i ft off hf => ?_⟩
      obtain ⟨f, hf', he⟩ := Option.map_eq_some_iff.1 hf
      obtain ⟨e1, e2⟩ : f.type = ft ∧ f.offset = off := by simpa using he
      have hm : f ∈ fs.toList := by rw [← Array.getElem?_toList] at hf'; exact List.mem_of_getElem? hf'
      have := mapM_all hx f hm
      rw [e1, e2] at this
      exact this
    · cases h
theorem cells_cell {w : World} {a : Addr} {n : Nat} {cs : List Value} (h : w.cells? 0 a n = some cs) : cs.length = n ∧ ∀ j u, cs[j]? = some u → w.cell? (a.add j) = some u := by
  unfold World.cells? at h
  rw [if_pos (Nat.zero_le _)] at h
  have hl := mapM_some_length h
  refine ⟨by simpa using hl, ?_⟩
  have key : ∀ (l : List Nat) (r : List Value), l.mapM (fun i => w.cell? (a.add i)) = some r → ∀ (j i : Nat) (u : Value), l[j]? = some i → r[j]? = some u → w.cell? (a.add i) = some u := by
    intro l
    induction l with
    | nil => intro r _ j i u hj; simp at hj
    | cons b l ih =>
      intro r h j i u hj hr
      rw [List.mapM_cons] at h
      obtain ⟨y, hy, h2⟩ := Option.bind_eq_some_iff.1 h
      obtain ⟨ys, hys, h3⟩ := Option.bind_eq_some_iff.1 h2
      obtain rfl : y :: ys = r := by simpa using h3
      cases j with
      | zero =>
        obtain rfl : b = i := by simpa using hj
        obtain rfl : y = u := by simpa using hr
        exact hy
      | succ j => exact ih ys hys j i u (by simpa using hj) (by simpa using hr)
  intro j u hj
  have hlt : j < n := by
    have := (List.getElem?_eq_some_iff.1 hj).1
    have h2 : cs.length = n := by simpa using hl
    omega
  exact key _ _ h j j u (by simp [hlt]) hj
theorem cell_none {w : World} {a : Addr} {u : Value} (h : w.cell? a = some u) : ∃ b o, a = ⟨b, o, none⟩ ∧ b < w.heap.size := by
  obtain ⟨b, o, pt⟩ := a
  cases pt with
  | none =>
    refine ⟨b, o, rfl, ?_⟩
    unfold World.cell? at h
    cases hq : w.heap[b]? with
    | none => simp [hq] at h
    | some o => exact (Array.getElem?_eq_some_iff.1 hq).1
  | some q =>
    unfold World.cell? at h
    cases hq : w.heap[b]? with
    | none => simp [hq] at h
    | some ob => cases ob <;> simp [hq] at h
theorem add_add {a : Addr} {k j : Nat} (h : k ≤ j) : (a.add k).add (j - k) = a.add j := by
  obtain ⟨b, o, pt⟩ := a
  cases pt with
  | none => rw [addr_add, addr_add, addr_add]; congr 1; omega
  | some q =>
    unfold Addr.add
    by_cases hj : j = 0
    · have : k = 0 := by omega
      subst this; subst hj; simp
    · by_cases hk : k = 0
      · subst hk; simp [hj]
      · by_cases hjk : j - k = 0
        · have : j = k := by omega
          subst this; simp [hk]
        · simp [hj, hk, hjk]; omega
/-- Slices of what can be read. -/
theorem opn_slice {α : Type} {e : TypeId} {ee : Enc α} {wf : α → Prop} (ht : P.underlying t = some (.slice e)) (hc : P.cellsOf e = ee.sz) (h0 : 0 < ee.sz) (ho : Opn P e ee wf) : Opn P t (eSl ee) (fun xs => xs.length ≤ maxLen ∧ ∀ x ∈ xs, wf x) := by
  intro H enc w sp fuel cs x h
  rcases Go.Deep.open_slice ht h with ⟨rfl, _⟩ | ⟨a, len, cap, m, n0, D, Pl, rfl, _, hlc, hcm, hm, _, hall⟩
  · exact ⟨[], ⟨none, 0, rfl, Sl.nil _ _ _⟩, by simp, by simp⟩
  · have hlm : len ≤ m := by rw [hm]; split <;> omega
    have key : ∀ n, n ≤ len → ∃ css xs, R2 ee w ZA css xs ∧ xs.length = n ∧ (∀ x ∈ xs, wf x) ∧ ∀ j u, css.flatten[j]? = some u → w.cell? (a.add j) = some u := by
      intro n
      induction n with
      | zero => exact fun _ => ⟨[], [], trivial, rfl, by simp, by simp⟩
      | succ n ih =>
        intro hn
        obtain ⟨css, xs, h1, h2, h3, h4⟩ := ih (by omega)
        obtain ⟨ds, hd, hy2⟩ := hall n (by omega)
        obtain ⟨z, hz, hwz⟩ := ho _ _ _ _ _ _ _ hy2
        obtain ⟨hl, hcell⟩ := cells_cell hd
        refine ⟨css ++ [ds], xs ++ [z], h1.append ⟨hz, trivial⟩, by simp [h2], ?_, ?_⟩
        · intro x hx
          rcases List.mem_append.1 hx with hx | hx
          · exact h3 x hx
          · rw [List.mem_singleton.1 hx]; exact hwz
        · intro j u hj
          rw [List.flatten_append] at hj
          rcases Nat.lt_or_ge j css.flatten.length with hlt | hge
          · rw [List.getElem?_append_left hlt] at hj
            exact h4 j u hj
          · rw [List.getElem?_append_right hge] at hj
            have h5 := hcell (j - css.flatten.length) u (by simpa using hj)
            have hfl : css.flatten.length = n * ee.sz := by rw [h1.flen, h2]
            rw [hfl] at h5 hge
            rw [hc] at h5
            rw [add_add hge] at h5
            exact h5
    obtain ⟨css, xs, h1, h2, h3, h4⟩ := key len (Nat.le_refl _)
    refine ⟨xs, ⟨some a, cap, by rw [h2], by rw [h2]; exact hlc, (fun e => by cases e), css, h1, ?_⟩, by rw [h2]; exact Nat.le_trans hlc hcm, h3⟩
    cases hf : css.flatten with
    | nil => exact .inl rfl
    | cons u us =>
      have hu := h4 0 u (by rw [hf]; rfl)
      obtain ⟨b, o, hab, hlt⟩ := cell_none hu
      have ha : a = ⟨b, o, none⟩ := by
        obtain ⟨b', o', pt⟩ := a
        cases pt <;> simp [Addr.add] at hab ⊢
        exact hab
      subst ha
      refine .inr ⟨b, o, rfl, trivial, hlt, fun j u hj => ?_⟩
      have := h4 j u (by rw [hf]; exact hj)
      rw [addr_add] at this
      exact this
end
section
variable {H : Type} {enc : TypeId × Value → H} {P : Program} {W W' : World}
theorem trodAll_carry {sp : Nat → Bool} : ∀ {ts : List TypeId} {vs : List Value} {ds : List (DataW H)} {ps : List MemPlace}, DataW.TrodAll enc P W 0 sp true ts vs ds ps → (∀ p ∈ ps, W.sameAt W' p) → DataW.TrodAll enc P W' 0 sp true ts vs ds ps
  | [], _, _, _, h, _ => by
    obtain ⟨rfl, rfl, rfl⟩ := trodAll_nil h
    exact rfl
  | _ :: _, _, _, _, h, hs => by
    obtain ⟨v, vs1, d, ds1, a, b, rfl, rfl, rfl, ⟨n, hn⟩, h2⟩ := trodAll_cons h
    exact ⟨a, b, ⟨n, DataW.trod_carry n _ _ _ hn fun p hp => hs p (List.mem_append_left _ hp)⟩, trodAll_carry h2 fun p hp => hs p (List.mem_append_right _ hp), rfl⟩
theorem args_read (K : Kids P (· < P.types.size)) (hz : ∀ t e, t < P.types.size → P.underlying t = some (.slice e) → 0 < P.cellsOf e) {ts : List TypeId} {vs : List Value} {ds : List (DataW H)} {ps : List MemPlace} (hT : ∀ t ∈ ts, t < P.types.size)
    (hA : DataW.TrodAll enc P W 0 (fun _ => true) true ts vs ds ps) (hb : Ext W W') (hlt : ∀ p ∈ ps, p.block < W.heap.size) (sp : Nat → Bool) (hs : ∀ p ∈ ps, sp p.block = true) : DataW.TrodAll enc P W' 0 sp true ts vs ds ps :=
  trodAll_carry (DataW.TrodAll.respare K hz hT hA hs) fun p hp => (below_of_ext hb).same (hlt p hp)
variable {α : Type} {e : Enc α} {wf : α → Prop} {t : TypeId} {b0 : Nat} {v : Value} {d : DataW H} {p : List MemPlace} {sp : Nat → Bool}
theorem val_agg {fs : Array Field} (ht : P.underlying t = some (.struct fs)) (ho : Opn P t e wf) (hv : Value.okWide P W .any b0 t v) (h : DataW.Trod enc P W 0 sp true t v d p) : ∃ a cs, v = .agg cs.toArray ∧ e.R W ZA cs a ∧ wf a := by
  unfold Value.okWide at hv
  rw [ht] at hv
  obtain ⟨cs, rfl, _⟩ := hv
  obtain ⟨n, hn⟩ := h
  obtain ⟨a, h1, h2⟩ := ho _ _ _ _ _ _ _ hn
  exact ⟨a, cs.toList, by simp, h1, h2⟩
theorem val_int {k : IntKind} (ht : P.underlying t = some (.int k)) (hv : Value.okWide P W .any b0 t v) (h : DataW.Trod enc P W 0 sp true t v d p) : ∃ n, v = .int k n ∧ wfI k n := by
  obtain ⟨n, h1, _, _, h4⟩ := open_int ht hv h
  exact ⟨n, h1, h4⟩
/-- The row's end: the call has laid new blocks alone. -/
theorem post_of_ext {f : Func} {s : ChangeSpec} {apart fresh handsOn again : Bool} {args : Array Value} {v : Value} {ds gs : List (DataW H)} {before pa pv : List MemPlace}
    (hW : DataW.Whole enc P f.params.toList s.vars apart W args.toList ds gs before)
    (hres : ∀ (b : Nat) (sp : Nat → Bool) (hd : Bool), DataW.TrodAll enc P W' b sp hd f.resultTypes.toList (v.resultList f.resultTypes.size) (s.fn H (ds ++ gs)).results [])
    (hargs : ∀ sp : Nat → Bool, (∀ p ∈ before, sp p.block = true) → DataW.TrodAll enc P W' 0 sp true f.params.toList args.toList (s.fn H (ds ++ gs)).args pa)
    (hvars : ∀ sp : Nat → Bool, (∀ p ∈ before, sp p.block = true) → DataW.TrodVars enc P W' sp s.vars (s.fn H (ds ++ gs)).vars pv)
    (hps : before = pa ++ pv) (hx : Ext W W')
    (hok : ∀ (j : Nat) (t : TypeId) (r : Value), f.resultTypes[j]? = some t → (v.resultList f.resultTypes.size)[j]? = some r → Value.okWide P W' .any 0 t r) :
    s.post enc P f apart fresh handsOn again W args v W' := by
  have hb := below_of_ext hx
  have hlt : ∀ p ∈ before, p.block < W.heap.size := fun p hp => hW.lt p hp
  have hold : ∀ p ∈ before, (fun b => decide (b < W.heap.size)) p.block = true := fun p hp => by simpa using hlt p hp
  refine ⟨ds, gs, before, [], pa, pv, hW, hres _ _ _, hargs _ hold, hvars _ hold, World.keptBut_mono (fun p hp => ⟨hp, ?_⟩) (hb.frame (· ∈ before)), fun _ => ?_⟩
  · rw [hps, List.mem_append] at hp
    exact Or.inr hp
  · obtain ⟨_, _, _, _, _, hz, hn⟩ := hW
    refine ⟨hok, _, _, ([] ++ pa) ++ pv, ⟨[] ++ pa, pv, trodAll_append (hargs _ (fun _ _ => rfl)) (hres _ _ _), hvars _ (fun _ _ => rfl), rfl, ?_, ?_⟩, ?_⟩
    · intro b off hp
      have hin : MemPlace.cell b off ∈ before := by rw [hps]; simpa using hp
      rw [hb.frozen (hlt _ hin)]
      exact hz b off hin
    · intro ha
      have := hn ha
      rw [hps] at this
      simpa using this
    · intro p hp _
      rw [hps]
      simpa using hp
theorem ret_calls {f : FuncId} {args : Array Value} {w : World} {R : Value → World → Prop} (h : Ret P f args w R) : Calls P f args w (fun e w' => ∃ v, e = .returned v ∧ R v w') := h
end
end Go.Proofs.Ythogdgkafaclaaa
end
section
set_option linter.unusedVariables false
set_option linter.unusedSimpArgs false
namespace Go.Proofs.Ythogdgkafaclaaa
open Go.RowKit
open Go.RowKit Go.ChangeShapes Go.WideShapes
theorem len_2 : ∀ {cs : List Value}, cs.length = 2 → ∃ a0 a1, cs = [a0, a1]
  | [a0, a1], _ => ⟨a0, a1, rfl⟩
theorem len_5 : ∀ {cs : List Value}, cs.length = 5 → ∃ a0 a1 a2 a3 a4, cs = [a0, a1, a2, a3, a4]
  | [a0, a1, a2, a3, a4], _ => ⟨a0, a1, a2, a3, a4, rfl⟩
theorem opn_23 : Opn Try.prog 23 eR (fun x => (wfI .i64 x.1 ∧ wfI .i64 x.2)) := by
  intro H enc w sp fuel cs x h
  obtain ⟨hl, fuel', hf⟩ := trod_fields Try.underlying23 h
  have hc : Try.prog.cellsOf 23 = 2 := by kernel_rfl
  rw [hc] at hl
  have k3 : Try.prog.cellsOf 3 = 1 := by kernel_rfl
  obtain ⟨a0, a1, rfl⟩ := len_2 hl
  obtain ⟨y0, hy0⟩ := hf 0 3 0 rfl
  simp only [k3, List.drop_zero, List.drop_succ_cons, List.take_succ_cons, List.take_zero] at hy0
  obtain ⟨n0, h0, w0⟩ := (opn_int Try.underlying3) _ _ _ _ _ _ _ hy0
  cases h0
  obtain ⟨y1, hy1⟩ := hf 1 3 1 rfl
  simp only [k3, List.drop_zero, List.drop_succ_cons, List.take_succ_cons, List.take_zero] at hy1
  obtain ⟨n1, h1, w1⟩ := (opn_int Try.underlying3) _ _ _ _ _ _ _ hy1
  cases h1
  exact ⟨⟨n0, n1⟩, rfl, w0, w1⟩
theorem opn_68 : Opn Try.prog 68 eTly (fun x => (wfI .i64 x.who ∧ wfI .i64 x.fr ∧ wfI .i64 x.to ∧ (wfI .i64 ((⟨x.lo, x.hi⟩ : (Int × Int)).1) ∧ wfI .i64 ((⟨x.lo, x.hi⟩ : (Int × Int)).2)))) := by
  intro H enc w sp fuel cs x h
  obtain ⟨hl, fuel', hf⟩ := trod_fields Try.underlying68 h
  have hc : Try.prog.cellsOf 68 = 5 := by kernel_rfl
  rw [hc] at hl
  have k3 : Try.prog.cellsOf 3 = 1 := by kernel_rfl
  have k23 : Try.prog.cellsOf 23 = 2 := by kernel_rfl
  obtain ⟨a0, a1, a2, a3, a4, rfl⟩ := len_5 hl
  obtain ⟨y0, hy0⟩ := hf 0 3 0 rfl
  simp only [k3, List.drop_zero, List.drop_succ_cons, List.take_succ_cons, List.take_zero] at hy0
  obtain ⟨n0, h0, w0⟩ := (opn_int Try.underlying3) _ _ _ _ _ _ _ hy0
  cases h0
  obtain ⟨y1, hy1⟩ := hf 1 3 1 rfl
  simp only [k3, List.drop_zero, List.drop_succ_cons, List.take_succ_cons, List.take_zero] at hy1
  obtain ⟨n1, h1, w1⟩ := (opn_int Try.underlying3) _ _ _ _ _ _ _ hy1
  cases h1
  obtain ⟨y2, hy2⟩ := hf 2 3 2 rfl
  simp only [k3, List.drop_zero, List.drop_succ_cons, List.take_succ_cons, List.take_zero] at hy2
  obtain ⟨n2, h2, w2⟩ := (opn_int Try.underlying3) _ _ _ _ _ _ _ hy2
  cases h2
  obtain ⟨y3, hy3⟩ := hf 3 23 3 rfl
  simp only [k23, List.drop_zero, List.drop_succ_cons, List.take_succ_cons, List.take_zero] at hy3
  obtain ⟨n3, h3, w3⟩ := opn_23 _ _ _ _ _ _ _ hy3
  cases h3
  exact ⟨⟨n0, n1, n2, n3.1, n3.2⟩, rfl, w0, w1, w2, w3⟩
theorem opn_26 : Opn Try.prog 26 eFld (fun x => (wfI .i64 x.rows ∧ wfI .i64 x.wd ∧ (wfI .i64 ((⟨x.lo, x.hi⟩ : (Int × Int)).1) ∧ wfI .i64 ((⟨x.lo, x.hi⟩ : (Int × Int)).2)) ∧ (x.ts.length ≤ maxLen ∧ ∀ y ∈ x.ts, (wfI .i64 y.who ∧ wfI .i64 y.fr ∧ wfI .i64 y.to ∧ (wfI .i64 ((⟨y.lo, y.hi⟩ : (Int × Int)).1) ∧ wfI .i64 ((⟨y.lo, y.hi⟩ : (Int × Int)).2)))))) := by
  intro H enc w sp fuel cs x h
  obtain ⟨hl, fuel', hf⟩ := trod_fields Try.underlying26 h
  have hc : Try.prog.cellsOf 26 = 5 := by kernel_rfl
  rw [hc] at hl
  have k3 : Try.prog.cellsOf 3 = 1 := by kernel_rfl
  have k23 : Try.prog.cellsOf 23 = 2 := by kernel_rfl
  have k24 : Try.prog.cellsOf 24 = 1 := by kernel_rfl
  obtain ⟨a0, a1, a2, a3, a4, rfl⟩ := len_5 hl
  obtain ⟨y0, hy0⟩ := hf 0 3 0 rfl
  simp only [k3, List.drop_zero, List.drop_succ_cons, List.take_succ_cons, List.take_zero] at hy0
  obtain ⟨n0, h0, w0⟩ := (opn_int Try.underlying3) _ _ _ _ _ _ _ hy0
  cases h0
  obtain ⟨y1, hy1⟩ := hf 1 3 1 rfl
  simp only [k3, List.drop_zero, List.drop_succ_cons, List.take_succ_cons, List.take_zero] at hy1
  obtain ⟨n1, h1, w1⟩ := (opn_int Try.underlying3) _ _ _ _ _ _ _ hy1
  cases h1
  obtain ⟨y2, hy2⟩ := hf 2 23 2 rfl
  simp only [k23, List.drop_zero, List.drop_succ_cons, List.take_succ_cons, List.take_zero] at hy2
  obtain ⟨n2, h2, w2⟩ := opn_23 _ _ _ _ _ _ _ hy2
  cases h2
  obtain ⟨y3, hy3⟩ := hf 3 24 4 rfl
  simp only [k24, List.drop_zero, List.drop_succ_cons, List.take_succ_cons, List.take_zero] at hy3
  obtain ⟨n3, ⟨A3, c3, h3, s3⟩, w3⟩ := (opn_slice Try.underlying24 (by kernel_rfl) (by decide) opn_68) _ _ _ _ _ _ _ hy3
  cases h3
  exact ⟨⟨n0, n1, n2.1, n2.2, n3⟩, ⟨A3, c3, rfl, s3⟩, w0, w1, w2, w3⟩
theorem ownT : ownKnob Try.prog.godebug = none := by kernel_rfl
theorem kidsT : Kids Try.prog (· < Try.prog.types.size) := kids_rows (by kernel_rfl) (by kernel_rfl)
theorem fullT : ∀ t e, t < Try.prog.types.size → Try.prog.underlying t = some (.slice e) → 0 < Try.prog.cellsOf e := slices_full_of Try.prog (by kernel_rfl)
end Go.Proofs.Ythogdgkafaclaaa
end
section
namespace Go.Proofs.Ythogdgkafaclaaa
theorem wf8 {x : Int} (h : wfI .u8 x) : 0 ≤ x ∧ x < 256 := by
  have h2 : (decide (IntKind.u8.min ≤ x) && decide (x ≤ IntKind.u8.max)) = true := h
  rw [Bool.and_eq_true, decide_eq_true_eq, decide_eq_true_eq] at h2
  have e1 : IntKind.u8.min = 0 := by decide
  have e2 : IntKind.u8.max = 255 := by decide
  omega
end Go.Proofs.Ythogdgkafaclaaa
end
section
set_option linter.unusedVariables false
set_option linter.unusedSimpArgs false
namespace Go.Proofs.Ythogdgkafaclaaa
open Go.RowKit
open Go.RowKit Go.ChangeShapes Go.WideShapes Go.ChangeAt
theorem weedAnswer_row (f : Fld) (w : Int) (h1 : wfI .u8 w) : ∃ K, G_WeedAnswer K f w = some true := weedAnswer_true f w (wf8 h1)
set_option maxRecDepth 100000 in
theorem weedAnswer_lifted (os : Os) (started : os.Started) (H : Type) (enc : TypeId × Value → H) :
    ReturnsInHanded {} Try.checked os 8 .any (Rows.weedAnswerSpec.pre6 enc Try.prog Try.f8 Rows.weedAnswerRow.domain false) (Rows.weedAnswerSpec.post enc Try.prog Try.f8 false true false false) := by
  refine returnsInHanded_of_change (C := Try.checked) ownT started (by kernel_rfl) Try.func8
    (ChangeSpec.witness6 (enc := enc) (C := Try.checked) false ⟨#[], #[.agg #[.int .i64 0, .int .i64 0, .int .i64 0, .int .i64 0, .slice none 0 0], .int .u8 0], []⟩ 8 (by kernel_rfl) (by kernel_rfl) (by kernel_rfl) (by kernel_rfl)) ?_
  intro W base args ds gs before hval0 hW hcnd _
  have hval : ∀ (j : Nat) t v, Try.f8.params[j]? = some t → args[j]? = some v → Value.okWide Try.prog W .any base t v := hval0
  have hW' := hW
  obtain ⟨p, q, hA0, hV, rfl, hfz, hnd⟩ := hW
  have hA : DataW.TrodAll enc Try.prog W 0 (fun _ => true) true Try.f8.params.toList args.toList ds p := hA0
  obtain ⟨rfl, rfl⟩ := trodVars_none hV
  simp only [List.append_nil] at hW'
  have hlt : ∀ x ∈ p, x.block < W.heap.size := fun x hx => by simpa using hW'.lt x hx
  have hAk := hA
  rw [Try.params8] at hA hval
  obtain ⟨v0, v1, d0, d1, p0, p1, rfl, rfl, rfl, h0, h1⟩ := trodAll_two hA
  obtain ⟨x0, cs0, hv0, ⟨A0_0, c0_0, rfl, s0_0⟩, w0⟩ := val_agg Try.underlying26 opn_26 (hval 0 26 v0 rfl rfl) h0
  obtain ⟨x1, hv1, w1⟩ := val_int Try.underlying5 (hval 1 5 v1 rfl rfl) h1
  subst hv0
  subst hv1
  obtain ⟨K, hG⟩ := weedAnswer_row x0 x1 w1
  refine (ret_calls (a8 K x0 x1 A0_0 c0_0 ZA W s0_0 hG)).mono fun e W' ⟨v, he, hx, hv⟩ => ?_
  subst he
  subst hv
  exact ⟨_, rfl, post_of_ext (pa := (p0 ++ p1)) (pv := []) hW' (fun _ _ _ => trodAll_mk1 (shut_bool Try.underlying4 _)) (fun sp hs => args_read kidsT fullT (by rw [Try.params8]; decide) hAk hx hlt sp (fun x hx' => hs x (by simpa using hx'))) (fun _ _ => rfl) (by simp) hx (ok_one (by kernel_rfl) rfl (okWide_bool_mk Try.underlying4 _))⟩
theorem weedAnswer_holds : Rows.WeedAnswerSaid :=
  OpenClaim.holds_of_wide 8 Try.f8 rfl rfl rfl rfl rfl rfl rfl ⟨rfl, rfl, rfl, rfl, rfl⟩ rfl rfl rfl rfl rfl (by kernel_rfl) Try.func8 (by kernel_rfl)
    (of_decide_eq_true (by kernel_rfl)) (by unfold Func.isWrapper; first | (rw [if_pos (by decide +kernel)]; kernel_rfl) | (rw [if_neg (by decide +kernel)]; exact ⟨rfl, rfl⟩))
    (fun os started H enc _ => weedAnswer_lifted os started H enc)
end Go.Proofs.Ythogdgkafaclaaa
end
