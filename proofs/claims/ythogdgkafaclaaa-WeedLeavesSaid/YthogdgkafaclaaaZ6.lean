import Derived.Test.YthogdgkafaclaaaBC5
import Derived.ProofKit
import Derived.ChangeSame
import Derived.Deep.Slices
import Derived.Test.YthogdgkafaclaaaProg
import Derived.Test.YthogdgkafaclaaaRows
/-
  Proved: the law WeedLeaves returns true for every argument that the row hands over, and leaves every argument as it was; no condition beside the row's own.
-/
set_option linter.all false
section
namespace Go.Proofs.Ythogdgkafaclaaa
theorem bd {α β : Type} {x : Option α} {a : α} {f : α → Option β} (h : x = some a) : x.bind f = f a := by rw [h]; rfl
theorem i64b {β : Type} {x : Int} {f : Int → Option β} (h0 : -9223372036854775808 ≤ x) (h1 : x ≤ 9223372036854775807) : (i64 x).bind f = f x := bd (i64_eq h0 h1)
theorem idxb {α β : Type} {xs : List α} {k : Nat} {f : α → Option β} (h : k < xs.length) : (idx xs (k : Int)).bind f = f xs[k] := bd (idx_eq h)
theorem ifob {β : Type} {p : Prop} [Decidable p] {f : Unit → Option β} (h : p) : (ifo p).bind f = f () := bd (if_pos h)
theorem remb {β : Type} {a b : Int} {f : Int → Option β} (h0 : 0 ≤ a) (h1 : 1 ≤ b) : (rem a b).bind f = f (a % b) := bd (if_pos ⟨h0, h1⟩)
theorem quob {β : Type} {a b : Int} {f : Int → Option β} (h0 : 0 ≤ a) (h1 : 1 ≤ b) : (quo a b).bind f = f (a / b) := bd (if_pos ⟨h0, h1⟩)
theorem cond_eq {α : Type} {b : Bool} {x y z : α} (h1 : b = true → x = z) (h2 : b = false → y = z) : cond b x y = z := by cases b; exact h2 rfl; exact h1 rfl
theorem ct {α : Type} {b : Bool} {x y : α} (h : b = true) : cond b x y = x := by rw [h]; rfl
theorem cf {α : Type} {b : Bool} {x y : α} (h : b = false) : cond b x y = y := by rw [h]; rfl
theorem nt {α : Type} {x y : α} : cond (!true) x y = y := rfl
theorem nf {α : Type} {x y : α} : cond (!false) x y = x := rfl
theorem dt {p : Prop} [Decidable p] (h : p) : decide p = true := decide_eq_true h
theorem df {p : Prop} [Decidable p] (h : ¬ p) : decide p = false := decide_eq_false h
theorem g_In (K : Nat) (n a b : Int) : G_In K n a b = some (inR n a b) := by unfold G_In inR; cases decide (a ≤ n) <;> rfl
theorem g_Within (K : Nat) (f : Fld) (lo hi : Int) : G_Within K (⟨lo, hi⟩ : Int × Int) 0 f.rows = some (rngOk f lo hi) := by
  unfold G_Within rngOk
  simp only []
  cases decide ((0 : Int) ≤ lo) <;> cases decide (lo ≤ hi) <;> rfl
/-- How often somebody stands in a part of a list. -/
def part (l : List Int) (who : Int) (fr n : Nat) : Nat := cnt who ((l.drop fr).take n)
theorem part_succ (l : List Int) (who : Int) (fr n : Nat) (h : fr < l.length) : part l who fr (n + 1) = (if l[fr] = who then 1 else 0) + part l who (fr + 1) n := by
  unfold part cnt
  rw [List.drop_eq_getElem_cons h, List.take_succ_cons, List.countP_cons]
  simp only [beq_iff_eq]
  omega
theorem l_Did (l : List Int) (who to : Int) : ∀ (n m i : Nat) (s : Int), to + 1 = i + n → n < m → 0 ≤ s → s + n ≤ 1000000 → i + n ≤ l.length → i + n ≤ 1000000 → G_Did_L1 l who to m s (i : Int) = some (s + (part l who i n : Nat))
  | n, 0, i, s, h, hm, _, _, _, _ => by omega
  | 0, m + 1, i, s, h, hm, h0, h1, hl, hl2 => by
    unfold G_Did_L1
    rw [cf (df (by omega))]
    simp [part, cnt]
  | n + 1, m + 1, i, s, h, hm, h0, h1, hl, hl2 => by
    unfold G_Did_L1
    have hi : i < l.length := by omega
    rw [ct (dt (by omega)), idxb hi]
    have e : ((i : Int) + 1) = ((i + 1 : Nat) : Int) := by omega
    rw [part_succ l who i n hi]
    refine cond_eq (fun hb => ?_) (fun hb => ?_)
    · rw [i64b (by omega) (by omega), i64b (by omega) (by omega), e, l_Did l who to n m (i + 1) (s + 1) (by omega) (by omega) (by omega) (by omega) (by omega) (by omega)]
      rw [if_pos (by simpa using hb)]
      congr 1; omega
    · rw [i64b (by omega) (by omega), e, l_Did l who to n m (i + 1) s (by omega) (by omega) (by omega) (by omega) (by omega) (by omega)]
      rw [if_neg (by simpa using hb)]
      congr 1; omega
theorem g_Did {K : Nat} {l : List Int} {who : Int} {fr n : Nat} {to : Int} (ht : to + 1 = fr + n) (hK : n < K) (hl : fr + n ≤ l.length) (hb : fr + n ≤ 1000000) : G_Did K l who (fr : Int) to = some (part l who fr n : Nat) := by
  unfold G_Did
  rw [l_Did l who to n K fr 0 ht hK (by omega) (by omega) hl hb]
  simp
theorem g_Did0 {K : Nat} {l : List Int} {who : Int} {n : Nat} {to : Int} (ht : to + 1 = n) (hK : n < K) (hl : n ≤ l.length) (hb : n ≤ 1000000) : G_Did K l who 0 to = some (part l who 0 n : Nat) := by
  have := g_Did (K := K) (l := l) (who := who) (fr := 0) (n := n) (to := to) (by omega) hK (by omega) (by omega)
  simpa using this
theorem l_Many (f : Fld) (hw : 0 ≤ f.wd) (hw3 : f.wd ≤ 3) (hr : f.rows ≤ 7) : ∀ (n m i : Nat) (s : Int), f.rows = i + n → n < m → 0 ≤ s → s * (f.wd + 1) ^ n ≤ 1000000 → G_Many_L2 f m s (i : Int) = some (s * (f.wd + 1) ^ n)
  | n, 0, i, s, h, hm, _, _ => by omega
  | 0, m + 1, i, s, h, hm, h0, h1 => by
    unfold G_Many_L2
    rw [cf (df (by omega))]
    simp
  | n + 1, m + 1, i, s, h, hm, h0, h1 => by
    unfold G_Many_L2
    have hp : 1 ≤ (f.wd + 1) ^ n := by
      have h9 : 0 < (f.wd + 1) ^ n := Int.pow_pos (by omega)
      omega
    have hs : s * (f.wd + 1) * (f.wd + 1) ^ n ≤ 1000000 := by
      rw [Int.mul_assoc]; rw [Int.pow_succ, Int.mul_comm ((f.wd + 1) ^ n)] at h1; exact h1
    have h2 : 0 ≤ s * (f.wd + 1) := Int.mul_nonneg h0 (by omega)
    have h3 : s * (f.wd + 1) ≤ 1000000 := by
      have h4 := Int.mul_le_mul_of_nonneg_left hp h2
      omega
    rw [ct (dt (by omega)), i64b (by omega) (by omega), i64b (by omega) (by omega), i64b (by omega) (by omega)]
    have e : ((i : Int) + 1) = ((i + 1 : Nat) : Int) := by omega
    rw [e, l_Many f hw hw3 hr n m (i + 1) (s * (f.wd + 1)) (by omega) (by omega) h2 hs]
    rw [Int.mul_assoc, Int.pow_succ, Int.mul_comm ((f.wd + 1) ^ n)]
theorem g_Many {K : Nat} {f : Fld} (hK : 1000 ≤ K) (hw : 0 ≤ f.wd) (hw3 : f.wd ≤ 3) (hr0 : 0 ≤ f.rows) (hr : f.rows ≤ 7) : G_Many K f = some (many f) := by
  unfold G_Many
  have h := (pow_bd7 (f.wd + 1) (by omega) (by omega) f.rows.toNat (by omega)).2
  have := l_Many f hw hw3 hr f.rows.toNat K 0 1 (by omega) (by omega) (by omega) (by omega)
  rw [Int.natCast_zero] at this
  rw [this]
  simp [many]
theorem talOk_ref (f : Fld) (t : Tly) : talOk f t = (inR t.who 0 (f.wd - 1) && (inR t.fr 0 (f.rows - 1) && (inR t.to t.fr (f.rows - 1) && rngOk f t.lo t.hi))) := by
  rw [Bool.eq_iff_iff]
  unfold talOk
  simp only [Bool.and_eq_true, inR_iff, decide_eq_true_eq]
  constructor
  · rintro ⟨⟨⟨⟨h1, h2⟩, h3⟩, h4⟩, h5⟩; exact ⟨h1, h2, ⟨h4, h3.2⟩, h5⟩
  · rintro ⟨h1, h2, ⟨h3, h4⟩, h5⟩; exact ⟨⟨⟨⟨h1, h2⟩, by omega, h4⟩, h3⟩, h5⟩
theorem l_Fault (K : Nat) (f : Fld) (hr : 1 ≤ f.rows ∧ f.rows ≤ 7) (hw : 1 ≤ f.wd ∧ f.wd ≤ 3) (hl : f.ts.length ≤ 1000000) : ∀ (n m i : Nat), f.ts.length = i + n → n < m → G_Fault_L12 K f m (i : Int) = some (if (f.ts.drop i).all (talOk f) = true then .inr () else .inl 1)
  | n, 0, i, h, hm => by omega
  | 0, m + 1, i, h, hm => by
    unfold G_Fault_L12
    rw [cf (df (by omega)), List.drop_eq_nil_of_le (by omega)]
    rfl
  | n + 1, m + 1, i, h, hm => by
    unfold G_Fault_L12
    have hi : i < f.ts.length := by omega
    rw [ct (dt (by omega)), idxb hi, i64b (by omega) (by omega), bd (g_In ..), List.drop_eq_getElem_cons hi, List.all_cons, talOk_ref]
    cases h1 : inR f.ts[i].who 0 (f.wd - 1) with
    | false => rfl
    | true =>
      rw [nt, i64b (by omega) (by omega), bd (g_In ..)]
      cases h2 : inR f.ts[i].fr 0 (f.rows - 1) with
      | false => rfl
      | true =>
        rw [nt, i64b (by omega) (by omega), bd (g_In ..)]
        cases h3 : inR f.ts[i].to f.ts[i].fr (f.rows - 1) with
        | false => rfl
        | true =>
          rw [nt, bd (g_Within ..)]
          cases h4 : rngOk f f.ts[i].lo f.ts[i].hi with
          | false => rfl
          | true =>
            have e : ((i : Int) + 1) = ((i + 1 : Nat) : Int) := by omega
            rw [nt, i64b (by omega) (by omega), e, l_Fault K f hr hw hl n m (i + 1) (by omega) (by omega)]
            rfl
theorem g_Fault {K : Nat} {f : Fld} (hK : 1000 ≤ K) : G_Fault K f = some (check f) := by
  unfold G_Fault check
  by_cases hb : big f = true
  · rw [if_pos hb]
    simp only [big, Bool.or_eq_true, decide_eq_true_eq] at hb
    by_cases h1 : 7 < f.rows
    · rw [ct (dt h1)]
    · rw [cf (df h1)]
      by_cases h2 : 3 < f.wd
      · rw [ct (dt h2)]
      · rw [cf (df h2), ct (dt (by omega))]
  · rw [if_neg hb]
    simp only [big, Bool.or_eq_true, decide_eq_true_eq, not_or] at hb
    rw [cf (df hb.1), cf (df hb.2.1), cf (df hb.2.2)]
    by_cases hr : f.rows < 1
    · rw [ct (dt hr), if_pos (by simp [bad, hr])]
    · by_cases hw : f.wd < 1
      · rw [cf (df hr), ct (dt hw), if_pos (by simp [bad, hw])]
      · rw [cf (df hr), cf (df hw), bd (g_Within ..)]
        have hbad : bad f = (!rngOk f f.lo f.hi || !f.ts.all (talOk f)) := by simp [bad, hr, hw]
        rw [hbad]
        cases h3 : rngOk f f.lo f.hi with
        | false => rfl
        | true =>
          have := l_Fault K f ⟨by omega, by omega⟩ ⟨by omega, by omega⟩ (by omega) f.ts.length K 0 (by omega) (by omega)
          rw [Int.natCast_zero] at this
          rw [nt, bd this, List.drop_zero]
          cases h4 : f.ts.all (talOk f) with
          | false => rfl
          | true =>
            rw [if_pos rfl, if_neg (by decide)]
            show (G_Many K f).bind _ = _
            rw [bd (g_Many hK (by omega) (by omega) (by omega) (by omega))]
            by_cases h5 : 2500 < many f
            · rw [ct (dt h5), if_pos h5]
            · rw [cf (df h5), if_neg h5]
theorem g_fault {K : Nat} {f : Fld} (hK : 1000 ≤ K) : G_fault K f = some (check f) := by unfold G_fault; rw [bd (g_Fault hK)]
/-- The fields that the laws go through. -/
def thin (f : Fld) : Bool := decide (f.ts.length ≤ 7) && (decide (check f ≠ 0) || decide (many f ≤ 250))
theorem g_Thin {K : Nat} {f : Fld} (hK : 1000 ≤ K) : G_Thin K f = some (thin f) := by
  unfold G_Thin thin
  by_cases h1 : f.ts.length ≤ 7
  · rw [ct (dt (by omega)), bd (g_Fault hK)]
    by_cases h2 : check f = 0
    · obtain ⟨hr, hw, _⟩ := check_ok h2
      rw [cf (by simp [h2]), bd (g_Many hK (by omega) (by omega) (by omega) (by omega))]
      simp [h1, h2]
    · rw [ct (by simp [h2])]
      simp [h1, h2]
  · rw [cf (df (by omega))]
    simp [h1]
theorem thin_len {f : Fld} (h : thin f = true) : f.ts.length ≤ 7 := by
  simp only [thin, Bool.and_eq_true, decide_eq_true_eq] at h; exact h.1
theorem thin_many {f : Fld} (h : thin f = true) (hc : check f = 0) : many f ≤ 250 := by
  simp only [thin, Bool.and_eq_true, Bool.or_eq_true, decide_eq_true_eq] at h
  rcases h.2 with h2 | h2
  · exact absurd hc h2
  · exact h2
theorem g_to (K : Nat) (r : Int × Int) : G_to K r = some r := rfl
theorem l_Field (K : Nat) (f : Fld) (hl : f.ts.length ≤ 7) : ∀ (n m i : Nat), f.ts.length = i + n → n < m → G_Field_L7 K f m (i : Int) (f.ts.take i) = some f.ts
  | n, 0, i, h, hm => by omega
  | 0, m + 1, i, h, hm => by
    unfold G_Field_L7
    rw [cf (df (by omega)), List.take_of_length_le (by omega)]
  | n + 1, m + 1, i, h, hm => by
    unfold G_Field_L7
    have hi : i < f.ts.length := by omega
    have e : ((i : Int) + 1) = ((i + 1 : Nat) : Int) := by omega
    rw [ct (dt (by omega)), idxb hi, bd (g_to ..), ifob (by simp; omega), i64b (by omega) (by omega), e]
    have ht : f.ts.take i ++ [(⟨f.ts[i].who, f.ts[i].fr, f.ts[i].to, f.ts[i].lo, f.ts[i].hi⟩ : Tly)] = f.ts.take (i + 1) := (List.take_succ_eq_append_getElem hi).symm
    show G_Field_L7 K f m ((i + 1 : Nat) : Int) (f.ts.take i ++ [(⟨f.ts[i].who, f.ts[i].fr, f.ts[i].to, f.ts[i].lo, f.ts[i].hi⟩ : Tly)]) = _
    rw [ht, l_Field K f hl n m (i + 1) (by omega) (by omega)]
theorem g_Field {K : Nat} {f : Fld} (hK : 1000 ≤ K) (hl : f.ts.length ≤ 7) : G_Field K f = some f := by
  unfold G_Field
  have := l_Field K f hl f.ts.length K 0 (by omega) (by omega)
  rw [Int.natCast_zero, List.take_zero] at this
  rw [bd (g_to ..), bd this]
/-- Somebody's rows in a tally's stretch. -/
def tdid (l : List Int) (t : Tly) : Int := (part l t.who t.fr.toNat (t.to + 1 - t.fr).toNat : Nat)
theorem didK_part (l : List Int) (t : Tly) (h : 0 ≤ t.fr ∧ t.fr ≤ t.to) : didK l [t.who, t.fr, t.to] = tdid l t := by
  unfold didK tdid part
  have : (t.to + 1).toNat - t.fr.toNat = (t.to + 1 - t.fr).toNat := by omega
  simp only [this]
theorem part_pad (l : List Int) (who : Int) (fr n : Nat) (h : fr + n ≤ l.length) : part (pad l) who fr n = part l who fr n := by
  unfold part pad
  rw [List.drop_append_of_le_length (by omega), List.take_append_of_le_length (by simp; omega)]
theorem tdid_pad (f : Fld) (l : List Int) (t : Tly) (hl : (l.length : Int) = f.rows) (h : talOk f t = true) : tdid (pad l) t = tdid l t := by
  have := talOk_bd h
  unfold tdid
  rw [part_pad _ _ _ _ (by omega)]
/-- What the reference calls allowed, and a truth. -/
def alw (f : Fld) (l : List Int) : Bool := l.all (okWho f) && (decide ((l.length : Int) = f.rows) && inR ((part l (-1) 0 l.length : Nat) : Int) f.lo f.hi)
theorem okWho_in (f : Fld) (n : Int) (hw : 1 ≤ f.wd) : okWho f n = inR n (-1) (f.wd - 1) := by
  rw [Bool.eq_iff_iff]
  simp only [okWho, Bool.or_eq_true, beq_iff_eq, inR_iff]
  omega
theorem l_IsAllowed (K : Nat) (f : Fld) (hw : 1 ≤ f.wd ∧ f.wd ≤ 3) (l : List Int) (hl : l.length ≤ 1000) : ∀ (n m i : Nat), l.length = i + n → n < m → G_IsAllowed_L2 K f l m (i : Int) = some (if (l.drop i).all (okWho f) = true then .inr () else .inl false)
  | n, 0, i, h, hm => by omega
  | 0, m + 1, i, h, hm => by
    unfold G_IsAllowed_L2
    rw [cf (df (by omega)), List.drop_eq_nil_of_le (by omega)]
    rfl
  | n + 1, m + 1, i, h, hm => by
    unfold G_IsAllowed_L2
    have hi : i < l.length := by omega
    have e : ((i : Int) + 1) = ((i + 1 : Nat) : Int) := by omega
    rw [ct (dt (by omega)), idxb hi, i64b (by omega) (by omega), bd (g_In ..), List.drop_eq_getElem_cons hi, List.all_cons, okWho_in f l[i] hw.1]
    cases h1 : inR l[i] (-1) (f.wd - 1) with
    | false => rfl
    | true =>
      rw [nt, i64b (by omega) (by omega), e, l_IsAllowed K f hw l hl n m (i + 1) (by omega) (by omega)]
      rfl
theorem g_IsAllowed {K : Nat} {f : Fld} {l : List Int} (hK : 1000 ≤ K) (hw : 1 ≤ f.wd ∧ f.wd ≤ 3) (hr : 1 ≤ f.rows ∧ f.rows ≤ 7) (hl : l.length ≤ 250) : G_IsAllowed K f l = some (alw f l) := by
  unfold G_IsAllowed alw
  have := l_IsAllowed K f hw l (by omega) l.length K 0 (by omega) (by omega)
  rw [Int.natCast_zero] at this
  rw [bd this, List.drop_zero]
  cases h1 : l.all (okWho f) with
  | false => rfl
  | true =>
    rw [if_pos rfl]
    show cond _ _ _ = _
    by_cases h2 : (l.length : Int) = f.rows
    · rw [ct (by simpa using h2), i64b (by omega) (by omega), bd (g_Did0 (n := l.length) (by omega) (by omega) (by omega) (by omega)), bd (g_In ..)]
      simp [h2]
    · rw [cf (by simpa using h2)]
      simp [h2]
theorem g_Right {K : Nat} {f : Fld} {l : List Int} {t : Tly} (hK : 1000 ≤ K) (hr : f.rows ≤ 7) (ht : talOk f t = true) (hl : (l.length : Int) = f.rows) : G_Right K l t = some (inR (tdid l t) t.lo t.hi) := by
  unfold G_Right
  have h := talOk_bd ht
  have := g_Did (K := K) (l := l) (who := t.who) (fr := t.fr.toNat) (n := (t.to + 1 - t.fr).toNat) (to := t.to) (by omega) (by omega) (by omega) (by omega)
  rw [Int.toNat_of_nonneg h.2.1.1] at this
  rw [bd this, bd (g_In ..)]
  rfl
end Go.Proofs.Ythogdgkafaclaaa
end
section
namespace Go.Proofs.Ythogdgkafaclaaa
/-- The i-th list of so many numbers. -/
def nthL (b : Int) : Nat → Int → List Int
  | 0, _ => []
  | n + 1, i => (i % b - 1) :: nthL b n (i / b)
theorem nthL_len (b : Int) : ∀ (n : Nat) (i : Int), (nthL b n i).length = n
  | 0, _ => rfl
  | n + 1, i => by simp [nthL, nthL_len b n]
theorem nthL_surj (b : Int) (hb : 1 ≤ b) : ∀ (l : List Int), (∀ x ∈ l, -1 ≤ x ∧ x ≤ b - 2) → ∃ i : Nat, (i : Int) < b ^ l.length ∧ nthL b l.length i = l
  | [], _ => ⟨0, by simp, rfl⟩
  | x :: l, h => by
    obtain ⟨i, hi, he⟩ := nthL_surj b hb l fun y hy => h y (List.mem_cons_of_mem _ hy)
    have hx := h x (List.mem_cons_self ..)
    have h0 : 0 ≤ (x + 1) + b * (i : Int) := by
      have : 0 ≤ b * (i : Int) := Int.mul_nonneg (by omega) (by omega)
      omega
    refine ⟨((x + 1) + b * (i : Int)).toNat, ?_, ?_⟩
    · have h2 : b ^ (l.length + 1) = b * b ^ l.length := by rw [Int.pow_succ, Int.mul_comm]
      rw [Int.toNat_of_nonneg h0, List.length_cons, h2]
      have h1 : b * ((i : Int) + 1) ≤ b * b ^ l.length := Int.mul_le_mul_of_nonneg_left (by omega) (by omega)
      rw [Int.mul_add, Int.mul_one] at h1
      omega
    · rw [Int.toNat_of_nonneg h0]
      simp only [List.length_cons, nthL]
      rw [Int.add_mul_emod_self_left, Int.add_mul_ediv_left _ _ (by omega), Int.emod_eq_of_lt (by omega) (by omega), Int.ediv_eq_zero_of_lt (by omega) (by omega), Int.zero_add, he]
      congr 1
      omega
theorem l_Nth (f : Fld) (hw : 1 ≤ f.wd ∧ f.wd ≤ 3) (hr : f.rows ≤ 7) : ∀ (n m i : Nat) (s : Int) (acc : List Int), f.rows = i + n → n < m → 0 ≤ s → s ≤ 1000000 → acc.length ≤ i → G_Nth_L2 f m s acc (i : Int) = some (acc ++ nthL (f.wd + 1) n s)
  | n, 0, i, s, acc, h, hm, _, _, _ => by omega
  | 0, m + 1, i, s, acc, h, hm, h0, h1, hl => by
    unfold G_Nth_L2
    rw [cf (df (by omega))]
    simp [nthL]
  | n + 1, m + 1, i, s, acc, h, hm, h0, h1, hl => by
    unfold G_Nth_L2
    have h2 : 0 ≤ s % (f.wd + 1) := Int.emod_nonneg _ (by omega)
    have h3 : s % (f.wd + 1) < f.wd + 1 := Int.emod_lt_of_pos _ (by omega)
    have h4 : 0 ≤ s / (f.wd + 1) := Int.ediv_nonneg h0 (by omega)
    have h5 : s / (f.wd + 1) ≤ s := Int.ediv_le_self _ h0
    have e : ((i : Int) + 1) = ((i + 1 : Nat) : Int) := by omega
    rw [ct (dt (by omega)), i64b (by omega) (by omega), remb h0 (by omega), i64b (by omega) (by omega), ifob (by simp; omega), i64b (by omega) (by omega), quob h0 (by omega), i64b (by omega) (by omega), i64b (by omega) (by omega), e,
      l_Nth f hw hr n m (i + 1) _ _ (by omega) (by omega) h4 (by omega) (by simp; omega)]
    simp [nthL]
theorem g_Nth {K : Nat} {f : Fld} {i : Int} (hK : 1000 ≤ K) (hc : check f = 0) (h0 : 0 ≤ i) (h1 : i ≤ 1000000) : G_Nth K f i = some (nthL (f.wd + 1) f.rows.toNat i) := by
  obtain ⟨hr, hw, _⟩ := check_ok hc
  unfold G_Nth
  have := l_Nth f hw hr.2 f.rows.toNat K 0 i [] (by omega) (by omega) h0 h1 (by simp)
  rw [Int.natCast_zero, List.nil_append] at this
  rw [bd this]
theorem many_nn {f : Fld} (hc : check f = 0) : 0 ≤ many f := by
  obtain ⟨hr, hw, _⟩ := check_ok hc
  exact (pow_bd7 (f.wd + 1) (by omega) (by omega) f.rows.toNat (by omega)).1
theorem mem_whos {wd x : Int} (hw : 0 ≤ wd) : x ∈ whos wd ↔ -1 ≤ x ∧ x ≤ wd - 1 := by
  simp only [whos, List.mem_map, List.mem_range]
  constructor
  · rintro ⟨j, hj, rfl⟩; omega
  · intro h; exact ⟨(x + 1).toNat, by omega, by omega⟩
theorem mem_enum (p : List Int → Bool) (wd : Int) : ∀ (k : Nat) (pre a : List Int), a ∈ enum p wd k pre ↔ ∃ t : List Int, t.length = k ∧ (∀ x ∈ t, x ∈ whos wd) ∧ p (pad (pre ++ t)) = true ∧ a = pad (pre ++ t)
  | 0, pre, a => by
    unfold enum
    constructor
    · intro h
      split at h
      · rename_i hp
        exact ⟨[], rfl, by simp, by simpa using hp, by simpa using h⟩
      · cases h
    · rintro ⟨t, ht, _, hp, rfl⟩
      obtain rfl := List.length_eq_zero_iff.1 ht
      rw [List.append_nil] at hp ⊢
      rw [if_pos hp]; simp
  | k + 1, pre, a => by
    simp only [enum, List.mem_flatMap]
    constructor
    · rintro ⟨x, hx, h⟩
      obtain ⟨t, h1, h2, h3, h4⟩ := (mem_enum p wd k _ a).1 h
      rw [List.append_assoc, List.singleton_append] at h3 h4
      exact ⟨x :: t, by simp [h1], by simpa using ⟨hx, h2⟩, h3, h4⟩
    · rintro ⟨t, h1, h2, h3, h4⟩
      cases t with
      | nil => simp at h1
      | cons x t =>
        refine ⟨x, h2 x (List.mem_cons_self ..), (mem_enum p wd k _ a).2 ⟨t, by simpa using h1, fun y hy => h2 y (List.mem_cons_of_mem _ hy), ?_, ?_⟩⟩
        · rw [List.append_assoc, List.singleton_append]; exact h3
        · rw [List.append_assoc, List.singleton_append]; exact h4
end Go.Proofs.Ythogdgkafaclaaa
end
section
namespace Go.Proofs.Ythogdgkafaclaaa
theorem sorted_ext : ∀ {l m : List Int}, l.Pairwise (· < ·) → m.Pairwise (· < ·) → (∀ x, x ∈ l ↔ x ∈ m) → l = m
  | [], [], _, _, _ => rfl
  | [], b :: m, _, _, h => by have := (h b).2 (List.mem_cons_self ..); cases this
  | a :: l, [], _, _, h => by have := (h a).1 (List.mem_cons_self ..); cases this
  | a :: l, b :: m, h1, h2, h => by
    rw [List.pairwise_cons] at h1 h2
    have hab : a = b := by
      rcases List.mem_cons.1 ((h a).1 (List.mem_cons_self ..)) with e | e
      · exact e
      · rcases List.mem_cons.1 ((h b).2 (List.mem_cons_self ..)) with e2 | e2
        · exact e2.symm
        · have := h1.1 b e2; have := h2.1 a e; omega
    subst hab
    congr 1
    refine sorted_ext h1.2 h2.2 fun x => ⟨fun hx => ?_, fun hx => ?_⟩
    · rcases List.mem_cons.1 ((h x).1 (List.mem_cons_of_mem _ hx)) with e | e
      · have := h1.1 x hx; omega
      · exact e
    · rcases List.mem_cons.1 ((h x).2 (List.mem_cons_of_mem _ hx)) with e | e
      · have := h2.1 x hx; omega
      · exact e
theorem getI {zs : List Int} {m : Nat} (h : m < zs.length) : zs.toArray[m]! = zs[m] := by
  rw [getElem!_pos zs.toArray m (by simpa using h)]; simp
theorem compact_inv {zs : List Int} (hs : zs.Pairwise (· ≤ ·)) : ∀ m, m ≤ zs.length → (Lib.compactUpTo zs.toArray m).Pairwise (· < ·) ∧ ∀ x, x ∈ Lib.compactUpTo zs.toArray m ↔ x ∈ zs.take m
  | 0, _ => by simp [Lib.compactUpTo]
  | m + 1, h => by
    obtain ⟨h1, h2⟩ := compact_inv hs m (by omega)
    have hm : m < zs.length := by omega
    rw [Lib.compactUpTo_succ, List.take_succ_eq_append_getElem hm, getI hm]
    have hle : ∀ x ∈ zs.take m, x ≤ zs[m] := fun x hx => by
      obtain ⟨i, hi, rfl⟩ := List.mem_iff_getElem.1 hx
      rw [List.getElem_take]
      simp at hi
      exact (List.pairwise_iff_getElem.1 hs) i m _ hm (by omega)
    by_cases hk : Lib.keeps zs.toArray m = true
    · rw [if_pos hk]
      refine ⟨?_, fun x => by rw [List.mem_append, List.mem_append, h2]⟩
      rw [List.pairwise_append]
      refine ⟨h1, by simp, fun x hx y hy => ?_⟩
      obtain rfl : y = zs[m] := by simpa using hy
      have hx2 := (h2 x).1 hx
      have hx3 := hle x hx2
      simp only [Lib.keeps, decide_eq_true_eq] at hk
      rcases hk with rfl | hk
      · simp at hx2
      · have hm1 : 0 < m := by
          rcases Nat.eq_zero_or_pos m with rfl | h0
          · simp at hx2
          · exact h0
        rw [getI hm, getI (by omega : m - 1 < zs.length)] at hk
        obtain ⟨i, hi, rfl⟩ := List.mem_iff_getElem.1 hx2
        rw [List.getElem_take] at hx3 ⊢
        simp at hi
        have h5 : zs[m - 1] ≤ zs[m] := (List.pairwise_iff_getElem.1 hs) (m - 1) m _ hm (by omega)
        have h4 : zs[i] ≤ zs[m - 1] := by
          by_cases e : i = m - 1
          · subst e; exact Int.le_refl _
          · exact (List.pairwise_iff_getElem.1 hs) i (m - 1) _ _ (by omega)
        have h6 : zs[m] ≠ zs[m - 1] := hk
        show zs[i] < zs[m]
        omega
    · rw [if_neg hk, List.append_nil]
      refine ⟨h1, fun x => ?_⟩
      rw [h2]
      have hk2 : ¬ (m = 0 ∨ zs.toArray[m]! ≠ zs.toArray[m - 1]!) := by simpa [Lib.keeps] using hk
      have hm1 : 0 < m := by
        rcases Nat.eq_zero_or_pos m with rfl | h0
        · exact absurd (.inl rfl) hk2
        · exact h0
      have he : zs.toArray[m]! = zs.toArray[m - 1]! := Decidable.byContradiction fun e => hk2 (.inr e)
      rw [getI hm, getI (by omega : m - 1 < zs.length)] at he
      have hin : zs[m] ∈ zs.take m := by
        rw [he, List.mem_iff_getElem]
        exact ⟨m - 1, by simp; omega, by simp⟩
      simp only [List.mem_append, List.mem_singleton]
      exact ⟨.inl, fun h => h.elim id fun e => e ▸ hin⟩
theorem whos_sorted (wd : Int) : (whos wd).Pairwise (· < ·) := by
  unfold whos
  rw [List.pairwise_map]
  exact List.pairwise_lt_range.imp fun h => by omega
/-- Who stands in a row of some lists. -/
def whoS (wd : Int) (T : List (List Int)) (row : Nat) : List Int := (whos wd).filter fun x => T.any fun a => a.getD row 0 == x
theorem whoF_eq {wd : Int} {T : List (List Int)} {row : Int} (hw : 0 ≤ wd) (hb : ∀ a ∈ T, -1 ≤ a.getD row.toNat 0 ∧ a.getD row.toNat 0 ≤ wd - 1) : whoF T row = whoS wd T row.toNat := by
  unfold whoF
  have hs : ((T.map fun a : List Int => a.getD row.toNat 0).mergeSort fun x y => decide (x ≤ y)).Pairwise (· ≤ ·) := by
    have := List.pairwise_mergeSort (le := fun x y : Int => decide (x ≤ y)) (fun a b c h1 h2 => by simp at *; omega) (fun a b => by simp; omega) (T.map fun a : List Int => a.getD row.toNat 0)
    exact this.imp fun h => by simpa using h
  obtain ⟨h1, h2⟩ := compact_inv hs _ (Nat.le_refl _)
  refine sorted_ext h1 ((whos_sorted wd).filter _) fun x => ?_
  rw [show Lib.compact ((T.map fun a : List Int => a.getD row.toNat 0).mergeSort fun x y => decide (x ≤ y)) = Lib.compactUpTo ((T.map fun a : List Int => a.getD row.toNat 0).mergeSort fun x y => decide (x ≤ y)).toArray ((T.map fun a : List Int => a.getD row.toNat 0).mergeSort fun x y => decide (x ≤ y)).length from rfl, h2, List.take_length, List.mem_mergeSort]
  unfold whoS
  simp only [List.mem_map, List.mem_filter, mem_whos hw, List.any_eq_true, beq_iff_eq]
  constructor
  · rintro ⟨a, ha, rfl⟩; exact ⟨hb a ha, a, ha, rfl⟩
  · rintro ⟨_, a, ha, e⟩; exact ⟨a, ha, e⟩
def f4 : Fld := ⟨4, 2, 0, 0, [⟨0, 0, 2, 2, 3⟩, ⟨1, 2, 3, 1, 2⟩]⟩
def f5 : Fld := ⟨4, 2, 0, 0, [⟨0, 0, 2, 2, 3⟩, ⟨1, 2, 3, 1, 2⟩, ⟨0, 0, 1, 2, 2⟩]⟩
def f6 : Fld := ⟨4, 2, 0, 0, [⟨0, 0, 2, 2, 3⟩, ⟨1, 2, 3, 1, 2⟩, ⟨1, 0, 1, 2, 2⟩]⟩
theorem who4 : whoF (truths f4 []) 3 = [0, 1] := by
  rw [whoF_eq (wd := 2) (by omega) (by decide +kernel)]
  decide +kernel
theorem awake_1000 : G_awake 1000 = some true := by
  unfold G_awake
  rw [bd (show G_four 1000 [] = some f4 from rfl), bd (show Q_Done 1000 f4 = some ([(2, 3), (1, 2)], 0) by decide +kernel), bd (show G_four 1000 [] = some f4 from rfl)]
  rw [bd (show Q_Who 1000 f4 3 = some ([0, 1], 0) by unfold Q_Who; rw [who4]; decide +kernel)]
  rw [bd (show G_two 1000 = some ⟨0, 0, 1, 2, 2⟩ from rfl), bd (show G_four 1000 [⟨0, 0, 1, 2, 2⟩] = some f5 from rfl), bd (show Q_Ask 1000 f5 0 = some ([2, 3], 0) by decide +kernel), bd (show G_four 1000 [] = some f4 from rfl)]
  rw [bd (show Q_Next 1000 f4 0 = some (0, 3, 0) by decide +kernel), bd (show G_wrong 1000 = some ⟨1, 0, 1, 2, 2⟩ from rfl), bd (show G_four 1000 [⟨1, 0, 1, 2, 2⟩] = some f6 from rfl), bd (show Q_First 1000 f6 = some (2, 0) by decide +kernel)]
  rw [bd (show G_wrong 1000 = some ⟨1, 0, 1, 2, 2⟩ from rfl), bd (show G_four 1000 [⟨1, 0, 1, 2, 2⟩] = some f6 from rfl), bd (show Q_Leave 1000 f6 = some ([0], 0) by decide +kernel)]
  decide +kernel
end Go.Proofs.Ythogdgkafaclaaa
end
section
namespace Go.Proofs.Ythogdgkafaclaaa
theorem l_same (l : List Int) (hl : l.length ≤ 900) : ∀ (n m i : Nat), l.length = i + n → n < m → G_same_L2 l l m (i : Int) = some (.inr ())
  | n, 0, i, h, hm => by omega
  | 0, m + 1, i, h, hm => by
    unfold G_same_L2
    rw [cf (df (by omega))]
  | n + 1, m + 1, i, h, hm => by
    unfold G_same_L2
    have hi : i < l.length := by omega
    have e : ((i : Int) + 1) = ((i + 1 : Nat) : Int) := by omega
    rw [ct (dt (by omega)), idxb hi, idxb hi, cf (by simp), i64b (by omega) (by omega), e, l_same l hl n m (i + 1) (by omega) (by omega)]
theorem g_same {K : Nat} (hK : 1000 ≤ K) {l : List Int} (hl : l.length ≤ 900) : G_same K l l = some true := by
  unfold G_same
  have := l_same l hl l.length K 0 (by omega) (by omega)
  rw [Int.natCast_zero] at this
  rw [cf (by simp), bd this]
  rfl
end Go.Proofs.Ythogdgkafaclaaa
end
section
namespace Go.Proofs.Ythogdgkafaclaaa
/-- The places of the bits that are set. -/
def bitsL (s : Nat) : List Int := ((List.range 8).filter fun x => s / 2 ^ x % 2 == 1).map fun x : Nat => (x : Int)
def lexB : List Int → List Int → Bool
  | a :: as1, b :: bs1 => if a = b then lexB as1 bs1 else decide (a < b)
  | [], _ :: _ => true
  | _, [] => false
/-- Shorter, or as1 long and before it. -/
def sh (a b : List Int) : Bool := decide (a.length < b.length) || (a.length == b.length && lexB a b)
theorem lexB_irr : ∀ a : List Int, lexB a a = false
  | [] => rfl
  | a :: as1 => by rw [lexB, if_pos rfl, lexB_irr as1]
theorem lexB_trans : ∀ a b c : List Int, lexB a b = true → lexB b c = true → lexB a c = true
  | [], b, [], h1, h2 => by cases b <;> cases h1; cases h2
  | [], b, c :: cs1, h1, h2 => rfl
  | a :: as1, [], c, h1, h2 => by cases h1
  | a :: as1, b :: bs1, [], h1, h2 => by cases h2
  | a :: as1, b :: bs1, c :: cs1, h1, h2 => by
    rw [lexB] at h1 h2 ⊢
    by_cases e : a = b
    · subst e
      rw [if_pos rfl] at h1
      by_cases e2 : a = c
      · subst e2
        rw [if_pos rfl] at h2 ⊢
        exact lexB_trans as1 bs1 cs1 h1 h2
      · rw [if_neg e2] at h2 ⊢; exact h2
    · rw [if_neg e, decide_eq_true_eq] at h1
      by_cases e2 : b = c
      · subst e2
        rw [if_neg e, decide_eq_true_eq]; exact h1
      · rw [if_neg e2, decide_eq_true_eq] at h2
        rw [if_neg (by omega), decide_eq_true_eq]; omega
theorem sh_iff {a b : List Int} : sh a b = true ↔ a.length < b.length ∨ (a.length = b.length ∧ lexB a b = true) := by simp [sh]
theorem sh_irr (a : List Int) : sh a a = false := by
  rw [Bool.eq_false_iff]; intro h
  rcases sh_iff.1 h with h | h
  · omega
  · rw [lexB_irr] at h; cases h.2
theorem sh_trans {a b c : List Int} (h : sh a b = true) (g : sh b c = true) : sh a c = true := by
  rw [sh_iff] at h g ⊢
  rcases h with h | h <;> rcases g with g | g
  · exact .inl (by omega)
  · exact .inl (by omega)
  · exact .inl (by omega)
  · exact .inr ⟨by omega, lexB_trans _ _ _ h.2 g.2⟩
theorem l_Before (a b : List Int) (ha : a.length ≤ 900) (hb : b.length ≤ 900) : ∀ (n m i : Nat), a.length = i + n → i ≤ b.length → n < m →
    (G_Before_L1 a b m (i : Int)).bind (fun z => Sum.elim (fun q1 => some q1) (fun _ => some (decide ((a.length : Int) < (b.length : Int)))) z) = some (lexB (a.drop i) (b.drop i))
  | n, 0, i, h, _, hm => by omega
  | 0, m + 1, i, h, hib, hm => by
    unfold G_Before_L1
    rw [cf (df (by omega)), List.drop_eq_nil_of_le (by omega : a.length ≤ i)]
    show some _ = _
    by_cases e : i < b.length
    · rw [List.drop_eq_getElem_cons e, dt (by omega)]; rfl
    · rw [List.drop_eq_nil_of_le (by omega : b.length ≤ i), df (by omega)]; rfl
  | n + 1, m + 1, i, h, hib, hm => by
    unfold G_Before_L1
    have hi : i < a.length := by omega
    have e : ((i : Int) + 1) = ((i + 1 : Nat) : Int) := by omega
    rw [ct (dt (by omega)), List.drop_eq_getElem_cons hi]
    by_cases hj : i < b.length
    · rw [ct (dt (by omega)), idxb hi, idxb hj, List.drop_eq_getElem_cons hj, lexB]
      by_cases he : a[i] = b[i]
      · rw [if_pos he, cf (by simp [he]), i64b (by omega) (by omega), e]
        exact l_Before a b ha hb n m (i + 1) (by omega) (by omega) (by omega)
      · rw [if_neg he, ct (by simp [he]), idxb hi, idxb hj]
        rfl
    · rw [cf (df (by omega)), List.drop_eq_nil_of_le (by omega : b.length ≤ i)]
      show some _ = _
      rw [df (by omega)]; rfl
theorem g_Before {K : Nat} (hK : 1000 ≤ K) {a b : List Int} (ha : a.length ≤ 900) (hb : b.length ≤ 900) : G_Before K a b = some (lexB a b) := by
  unfold G_Before
  have := l_Before a b ha hb a.length K 0 (by omega) (by omega) (by omega)
  rw [Int.natCast_zero, List.drop_zero, List.drop_zero] at this
  exact this
theorem g_Shorter {K : Nat} (hK : 1000 ≤ K) {a b : List Int} (ha : a.length ≤ 900) (hb : b.length ≤ 900) : G_Shorter K a b = some (sh a b) := by
  unfold G_Shorter sh
  by_cases h : a.length < b.length
  · rw [ct (dt (by omega)), dt h]; rfl
  · rw [cf (df (by omega)), df h, Bool.false_or]
    by_cases h2 : a.length = b.length
    · rw [ct (by simp [h2]), bd (g_Before hK ha hb)]
      simp [h2]
    · rw [cf (by simp; omega)]
      simp [h2]
theorem bits_all : ∀ s : Nat, s < 256 → G_Bits 1000 (s : Int) = some (bitsL s) := by decide +kernel
theorem cand_in : ∀ n : Nat, n < 8 → ∀ s : Nat, s < 2 ^ n → bitsL s ∈ candAll (n : Int) (n + 1) := by decide +kernel
theorem cand_of : ∀ n : Nat, n < 8 → ∀ l ∈ candAll (n : Int) (n + 1), ∃ s : Nat, s < 2 ^ n ∧ bitsL s = l := by decide +kernel
theorem cand_sorted : ∀ n : Nat, n < 8 → (candAll (n : Int) (n + 1)).Pairwise fun a b => sh a b = true := by decide +kernel
theorem bits_len : ∀ s : Nat, (bitsL s).length ≤ 8 := fun s => by
  unfold bitsL
  rw [List.length_map]
  exact Nat.le_trans (List.length_filter_le _ _) (by simp)
theorem fnd_spec {p : List Int → Bool} : ∀ {L : List (List Int)} (cur : List Int), L.any p = true → ∃ A x B, L = A ++ x :: B ∧ p x = true ∧ (∀ a ∈ A, p a = false) ∧ fnd p cur L = x
  | [], cur, h => by cases h
  | c :: L, cur, h => by
    by_cases hc : p c = true
    · exact ⟨[], c, L, rfl, hc, by simp, by rw [fnd, if_pos hc]⟩
    · have hc' : p c = false := by simpa using hc
      rw [List.any_cons, hc', Bool.false_or] at h
      obtain ⟨A, x, B, h1, h2, h3, h4⟩ := fnd_spec c h
      refine ⟨c :: A, x, B, by rw [h1]; rfl, h2, ?_, by rw [fnd, if_neg hc]; exact h4⟩
      intro a ha
      rcases List.mem_cons.1 ha with rfl | ha
      · exact hc'
      · exact h3 a ha
/-- In turn, the reference takes a shorter list that passes. -/
def pickF (p : List Int → Bool) (cur : List Int) (s : Nat) : List Int := if (sh (bitsL s) cur && p (bitsL s)) = true then bitsL s else cur
theorem pick_inv {n : Nat} (hn : n < 8) {p : List Int → Bool} {c0 : List Int} (h0 : c0 ∈ candAll (n : Int) (n + 1)) (hp : p c0 = true) : ∀ k, k ≤ 2 ^ n →
    (List.range k).foldl (pickF p) c0 ∈ candAll (n : Int) (n + 1) ∧ p ((List.range k).foldl (pickF p) c0) = true ∧ ∀ s, s < k → p (bitsL s) = true → sh (bitsL s) ((List.range k).foldl (pickF p) c0) = false
  | 0, _ => ⟨h0, hp, fun s hs => by omega⟩
  | k + 1, hk => by
    obtain ⟨h1, h2, h3⟩ := pick_inv hn h0 hp k (by omega)
    rw [range_fold]
    generalize (List.range k).foldl (pickF p) c0 = cur at h1 h2 h3
    unfold pickF
    by_cases hc : (sh (bitsL k) cur && p (bitsL k)) = true
    · rw [if_pos hc]
      rw [Bool.and_eq_true] at hc
      refine ⟨cand_in n hn k (by omega), hc.2, fun s hs hps => ?_⟩
      rcases Nat.lt_or_ge s k with h | h
      · rw [Bool.eq_false_iff]
        intro hh
        have := h3 s h hps
        rw [sh_trans hh hc.1] at this
        cases this
      · obtain rfl : s = k := by omega
        exact sh_irr _
    · rw [if_neg hc]
      refine ⟨h1, h2, fun s hs hps => ?_⟩
      rcases Nat.lt_or_ge s k with h | h
      · exact h3 s h hps
      · obtain rfl : s = k := by omega
        rw [hps, Bool.and_true] at hc
        simpa using hc
theorem pick_fnd {n : Nat} (hn : n < 8) {p : List Int → Bool} {c0 : List Int} (h0 : c0 ∈ candAll (n : Int) (n + 1)) (hp : p c0 = true) (cur : List Int) : (List.range (2 ^ n)).foldl (pickF p) c0 = fnd p cur (candAll (n : Int) (n + 1)) := by
  obtain ⟨h1, h2, h3⟩ := pick_inv hn h0 hp (2 ^ n) (Nat.le_refl _)
  obtain ⟨A, x, B, g1, g2, g3, g4⟩ := fnd_spec (p := p) cur (List.any_eq_true.2 ⟨c0, h0, hp⟩)
  rw [g4]
  generalize (List.range (2 ^ n)).foldl (pickF p) c0 = c at h1 h2 h3
  have hs := cand_sorted n hn
  have hx : x ∈ candAll (n : Int) (n + 1) := by rw [g1]; simp
  obtain ⟨s, hs1, rfl⟩ := cand_of n hn x hx
  have h4 := h3 s hs1 g2
  rw [g1] at h1 hs
  rw [List.pairwise_append] at hs
  rcases List.mem_append.1 h1 with h | h
  · rw [g3 c h] at h2; cases h2
  · rcases List.mem_cons.1 h with h | h
    · exact h
    · have := (List.pairwise_cons.1 hs.2.1).1 c h
      rw [this] at h4; cases h4
theorem shortest_pick {n : Nat} (hn : n < 8) {p : List Int → Bool} {c0 : List Int} (h0 : c0 ∈ candAll (n : Int) (n + 1)) (hp : p c0 = true) : shortestL (n : Int) p = (List.range (2 ^ n)).foldl (pickF p) c0 := by
  unfold shortestL
  rw [show ((n : Int) + 1).toNat = n + 1 by omega, pick_fnd hn h0 hp]
end Go.Proofs.Ythogdgkafaclaaa
end
section
namespace Go.Proofs.Ythogdgkafaclaaa
theorem cvU {β : Type} {f : Unit → Option β} {x : Nat} (h : x < 64) : (cvO .u64 (x : Int)).bind f = f () := bd (by
  have : ∀ x : Nat, x < 64 → cvO .u64 (x : Int) = some () := by decide +kernel
  exact this x h)
theorem mem_bits {s : Nat} {r : Int} : r ∈ bitsL s ↔ ∃ x : Nat, x < 8 ∧ s / 2 ^ x % 2 = 1 ∧ r = x := by
  unfold bitsL
  simp only [List.mem_map, List.mem_filter, List.mem_range, beq_iff_eq]
  constructor
  · rintro ⟨x, ⟨h1, h2⟩, rfl⟩; exact ⟨x, h1, h2, rfl⟩
  · rintro ⟨x, h1, h2, rfl⟩; exact ⟨x, ⟨h1, h2⟩, rfl⟩
end Go.Proofs.Ythogdgkafaclaaa
end
section
namespace Go.Proofs.Ythogdgkafaclaaa
theorem allAt_iff (l out : List Int) : ∀ (ts : List Tly) (i : Nat), allAt l out i ts = true ↔ ∀ k t, ts[k]? = some t → okAt l out (i + k) t = true
  | [], i => by simp [allAt]
  | s :: ts, i => by
    rw [allAt, Bool.and_eq_true, allAt_iff l out ts (i + 1)]
    constructor
    · rintro ⟨h1, h2⟩ k t hk
      cases k with
      | zero =>
        obtain rfl : s = t := by simpa using hk
        simpa using h1
      | succ k =>
        have := h2 k t (by simpa using hk)
        rw [show i + (k + 1) = i + 1 + k by omega]; exact this
    · intro h
      exact ⟨by simpa using h 0 s rfl, fun k t hk => by
        have := h (k + 1) t (by simpa using hk)
        rw [show i + 1 + k = i + (k + 1) by omega]; exact this⟩
/-- A tally is right in a list. -/
def rt (l : List Int) (t : Tly) : Bool := inR (tdid l t) t.lo t.hi
theorem mem_truthsO {f : Fld} (hc : check f = 0) {out a : List Int} : a ∈ truths f out ↔ ∃ l, alw f l = true ∧ (∀ (k : Nat) t, f.ts[k]? = some t → out.contains (k : Int) = true ∨ rt l t = true) ∧ a = pad l := by
  obtain ⟨hr, hw, _, ht, _⟩ := check_ok hc
  have key : ∀ l : List Int, (l.length : Int) = f.rows → (rightB f (pad l) out = true ↔ inR ((part l (-1) 0 l.length : Nat) : Int) f.lo f.hi = true ∧ ∀ (k : Nat) t, f.ts[k]? = some t → out.contains (k : Int) = true ∨ rt l t = true) := by
    intro l hl
    unfold rightB
    rw [Bool.and_eq_true, allAt_iff]
    have h3 : (pad l).take f.rows.toNat = l.take l.length := by
      unfold pad; rw [show f.rows.toNat = l.length by omega, List.take_append_of_le_length (Nat.le_refl _)]
    rw [h3]
    have hp : part l (-1) 0 l.length = cnt (-1) (l.take l.length) := by unfold part; rw [List.drop_zero]
    rw [hp, and_comm]
    refine and_congr Iff.rfl ⟨fun h k t hk => ?_, fun h k t hk => ?_⟩
    · have h2 := h k t hk
      have h4 := talOk_bd (ht t (List.mem_of_getElem? hk))
      unfold okAt at h2
      rw [Bool.or_eq_true, didK_part _ _ ⟨h4.2.1.1, h4.2.1.2.1⟩, tdid_pad f l t hl (ht t (List.mem_of_getElem? hk)), Nat.zero_add] at h2
      exact h2
    · have h2 := h k t hk
      have h4 := talOk_bd (ht t (List.mem_of_getElem? hk))
      unfold okAt
      rw [Bool.or_eq_true, didK_part _ _ ⟨h4.2.1.1, h4.2.1.2.1⟩, tdid_pad f l t hl (ht t (List.mem_of_getElem? hk)), Nat.zero_add]
      exact h2
  have hall : ∀ l : List Int, l.all (okWho f) = true ↔ ∀ x ∈ l, x ∈ whos f.wd := fun l => by
    rw [List.all_eq_true]
    refine ⟨fun h x hx => ?_, fun h x hx => ?_⟩
    · have := h x hx
      rw [okWho_in f x hw.1, inR_iff] at this
      exact (mem_whos (by omega)).2 (by omega)
    · rw [okWho_in f x hw.1, inR_iff]
      have := (mem_whos (by omega)).1 (h x hx)
      omega
  unfold truths
  rw [mem_enum]
  constructor
  · rintro ⟨t, h1, h2, h3, h4⟩
    rw [List.nil_append] at h3 h4
    have hl : (t.length : Int) = f.rows := by omega
    obtain ⟨h5, h6⟩ := (key t hl).1 h3
    refine ⟨t, ?_, h6, h4⟩
    unfold alw
    rw [(hall t).2 h2, h5]
    simp [hl]
  · rintro ⟨l, h1, h2, rfl⟩
    simp only [alw, Bool.and_eq_true, decide_eq_true_eq] at h1
    refine ⟨l, by omega, (hall l).1 h1.1, ?_, by simp⟩
    rw [List.nil_append]
    exact (key l h1.2.1).2 ⟨h1.2.2, h2⟩
theorem truths_ne {f : Fld} (hc : check f = 0) {out : List Int} : truths f out ≠ [] ↔ ∃ l, alw f l = true ∧ ∀ (k : Nat) t, f.ts[k]? = some t → out.contains (k : Int) = true ∨ rt l t = true := by
  constructor
  · intro h
    obtain ⟨a, ha⟩ := List.exists_mem_of_ne_nil _ h
    obtain ⟨l, h1, h2, _⟩ := (mem_truthsO hc).1 ha
    exact ⟨l, h1, h2⟩
  · rintro ⟨l, h1, h2⟩ e
    have := (mem_truthsO hc (out := out) (a := pad l)).2 ⟨l, h1, h2, rfl⟩
    rw [e] at this
    cases this
/-- The field with other tallies. -/
theorem check_sub {f : Fld} (hc : check f = 0) {ts : List Tly} (h5 : ts.length ≤ 5) (ht : ∀ t ∈ ts, talOk f t = true) : check { f with ts := ts } = 0 := by
  obtain ⟨hr, hw, h6, ht2, hl, hm⟩ := check_ok hc
  unfold check
  rw [if_neg, if_neg, if_neg]
  · show ¬ 2500 < many f; omega
  · simp only [bad, Bool.or_eq_true, decide_eq_true_eq, Bool.not_eq_true', not_or, Bool.not_eq_false, List.all_eq_true]
    exact ⟨by omega, by omega, hl, ht⟩
  · simp only [big, Bool.or_eq_true, decide_eq_true_eq, not_or]
    omega
/-- Some list is allowed. -/
theorem alw_some {f : Fld} (hc : check f = 0) : ∃ l, alw f l = true := by
  obtain ⟨hr, hw, h6, ht2, hl, hm⟩ := check_ok hc
  simp only [rngOk, Bool.and_eq_true, decide_eq_true_eq] at hl
  refine ⟨List.replicate f.lo.toNat (-1) ++ List.replicate (f.rows - f.lo).toNat 0, ?_⟩
  have h1 : part (List.replicate f.lo.toNat (-1) ++ List.replicate (f.rows - f.lo).toNat 0) (-1) 0 (List.replicate f.lo.toNat (-1 : Int) ++ List.replicate (f.rows - f.lo).toNat 0).length = f.lo.toNat := by
    unfold part cnt
    rw [List.drop_zero, List.take_length, List.countP_append, List.countP_replicate, List.countP_replicate]
    simp
  unfold alw
  rw [h1]
  simp only [Bool.and_eq_true, decide_eq_true_eq, List.all_eq_true, inR_iff, List.length_append, List.length_replicate]
  refine ⟨fun x hx => ?_, by omega, by omega⟩
  rw [okWho_in f x hw.1, inR_iff]
  rcases List.mem_append.1 hx with h | h
  · have := (List.mem_replicate.1 h).2; omega
  · have := (List.mem_replicate.1 h).2; omega
theorem shortest_spec {n : Nat} (hn : n < 8) {p : List Int → Bool} {s0 : Nat} (h0 : s0 < 2 ^ n) (hp : p (bitsL s0) = true) :
    ∃ s, s < 2 ^ n ∧ shortestL (n : Int) p = bitsL s ∧ p (bitsL s) = true ∧ ∀ s', s' < 2 ^ n → p (bitsL s') = true → sh (bitsL s') (bitsL s) = false := by
  rw [shortest_pick hn (cand_in n hn s0 h0) hp]
  obtain ⟨h1, h2, h3⟩ := pick_inv hn (cand_in n hn s0 h0) hp (2 ^ n) (Nat.le_refl _)
  obtain ⟨s, hs, he⟩ := cand_of n hn _ h1
  refine ⟨s, hs, he.symm, ?_, fun s' hs' hp' => ?_⟩
  · rw [he]; exact h2
  · rw [he]; exact h3 s' hs' hp'
theorem bits_has {s x : Nat} (hx : x < 8) : (bitsL s).contains (x : Int) = (s / 2 ^ x % 2 == 1) := by
  rw [Bool.eq_iff_iff, List.contains_iff_mem, mem_bits, beq_iff_eq]
  constructor
  · rintro ⟨y, hy, h, e⟩
    obtain rfl : x = y := by omega
    exact h
  · intro h; exact ⟨x, hx, h, rfl⟩
end Go.Proofs.Ythogdgkafaclaaa
end
section
set_option linter.unusedVariables false
set_option linter.unusedSimpArgs false
namespace Go.Proofs.Ythogdgkafaclaaa
open Go.RowKit
def G_WeedLeaves (K_ : Nat) (p0 : Fld) : Option (Bool) :=
  (G_Thin K_ p0).bind fun r2 => cond (!r2) ((ifo (G_awake K_ = some true)).bind fun _ => some (true)) ((G_Field K_ p0).bind fun r9 => (Q_First K_ r9).bind fun r11 => (G_Field K_ p0).bind fun r13 => (Q_Leave K_ r13).bind fun r15 => (G_fault K_ p0).bind fun r17 => cond (r17 != 0) (cond (r11.2 == r17) (cond (r11.1 == 0) (cond (r15.2 == r17) (cond ((r15.1.length : Int) == 0) ((ifo (G_awake K_ = some true)).bind fun _ => some (true)) (some (false))) (some (false))) (some (false))) (some (false))) ((G_All K_ p0).bind fun r26 => cond (r15.2 != 0) (some (false)) ((G_Leave K_ p0 r26).bind fun r29 => (G_same K_ r15.1 r29).bind fun r31 => cond (!r31) (some (false)) ((G_First K_ p0 r26).bind fun r36 => cond (decide (r36 < 0)) (cond (r11.2 == 7) (cond (r11.1 == 0) ((ifo (G_awake K_ = some true)).bind fun _ => some (true)) (some (false))) (some (false))) (cond (r11.2 == 0) (cond (r11.1 == r36) ((ifo (G_awake K_ = some true)).bind fun _ => some (true)) (some (false))) (some (false)))))))
end Go.Proofs.Ythogdgkafaclaaa
end
section
namespace Go.Proofs.Ythogdgkafaclaaa
theorem bitb {β : Type} {f : Unit → Option β} {a b : Nat} (ha : a < 1000000) (hb : b < 1000000) : (bitO (a : Int) (b : Int)).bind f = f () := bd (if_pos ⟨⟨by omega, by omega⟩, by omega, by omega⟩)
theorem orN (a b : Nat) : orI (a : Int) (b : Int) = ((a ||| b : Nat) : Int) := by unfold orI; rw [Int.toNat_natCast, Int.toNat_natCast]
theorem andN (a b : Nat) : andI (a : Int) (b : Int) = ((a &&& b : Nat) : Int) := by unfold andI; rw [Int.toNat_natCast, Int.toNat_natCast]
theorem andNotN (a b : Nat) : andNotI (a : Int) (b : Int) = ((a ^^^ (a &&& b) : Nat) : Int) := by unfold andNotI; rw [Int.toNat_natCast, Int.toNat_natCast]
theorem tb (s i : Nat) : (s / 2 ^ i % 2 == 1) = s.testBit i := by rw [Nat.testBit_eq_decide_div_mod_eq]; rfl
def nT : Tly := ⟨0, 0, 0, 0, 0⟩
theorem gdT {ts : List Tly} {i : Nat} (h : i < ts.length) : ts[i] = ts.getD i nT := by simp [List.getElem?_eq_getElem h]
/-- Which tallies are right in a list, by bits. -/
def rbN (l : List Int) (ts : List Tly) : Nat → Nat
  | 0 => 0
  | i + 1 => if rt l (ts.getD i nT) = true then rbN l ts i ||| 2 ^ i else rbN l ts i
theorem rbN_lt (l : List Int) (ts : List Tly) : ∀ n, rbN l ts n < 2 ^ n
  | 0 => by simp [rbN]
  | n + 1 => by
    have h := rbN_lt l ts n
    have h2 : (2 : Nat) ^ n < 2 ^ (n + 1) := Nat.pow_lt_pow_right (by omega) (by omega)
    unfold rbN
    split
    · exact Nat.or_lt_two_pow (by omega) h2
    · omega
theorem rbN_bit (l : List Int) (ts : List Tly) : ∀ n x, x < n → (rbN l ts n).testBit x = rt l (ts.getD x nT)
  | 0, x, h => by omega
  | n + 1, x, h => by
    unfold rbN
    rcases Nat.lt_or_ge x n with h1 | h1
    · have ih := rbN_bit l ts n x h1
      split
      · rw [Nat.testBit_or, Nat.testBit_two_pow, ih, df (by omega), Bool.or_false]
      · exact ih
    · obtain rfl : x = n := by omega
      have h0 := Nat.testBit_lt_two_pow (rbN_lt l ts x)
      split
      · rename_i hr
        rw [Nat.testBit_or, Nat.testBit_two_pow, h0, hr, dt rfl]; rfl
      · rename_i hr
        rw [h0]; exact (Bool.eq_false_iff.2 hr).symm
theorem shl_all : ∀ r : Nat, r < 8 → shlO 1 (r : Int) = some () ∧ shlI 1 (r : Int) = ((2 ^ r : Nat) : Int) ∧ shlO 2 (r : Int) = some () ∧ shlI 2 (r : Int) - 1 = ((2 ^ (r + 1) - 1 : Nat) : Int) ∧ 2 ^ r ≤ 128 ∧ 2 ^ (r + 1) ≤ 256 ∧ 1 ≤ 2 ^ r := by decide +kernel
theorem l_All15 {f : Fld} (hc : check f = 0) {l : List Int} (hl : (l.length : Int) = f.rows) : ∀ (n m i : Nat), f.ts.length = i + n → n < m → G_All_L15 1000 f l m ((rbN l f.ts i : Nat) : Int) (i : Int) = some ((rbN l f.ts f.ts.length : Nat) : Int)
  | n, 0, i, h, hm => by omega
  | 0, m + 1, i, h, hm => by
    unfold G_All_L15
    obtain rfl : i = f.ts.length := by omega
    rw [cf (df (by omega))]
  | n + 1, m + 1, i, h, hm => by
    obtain ⟨hr, hw, h5, ht, _⟩ := check_ok hc
    unfold G_All_L15
    have hi : i < f.ts.length := by omega
    have e : ((i : Int) + 1) = ((i + 1 : Nat) : Int) := by omega
    have hb := rbN_lt l f.ts i
    have hp : (2 : Nat) ^ i ≤ 2 ^ 5 := Nat.pow_le_pow_right (by omega) (by omega)
    rw [ct (dt (by omega)), idxb hi, bd (g_Right (Nat.le_refl _) hr.2 (ht _ (List.getElem_mem hi)) hl)]
    have hg : rt l (f.ts.getD i nT) = inR (tdid l f.ts[i]) f.ts[i].lo f.ts[i].hi := by rw [← gdT hi]; rfl
    cases h1 : inR (tdid l f.ts[i]) f.ts[i].lo f.ts[i].hi with
    | true =>
      obtain ⟨s1, s2, _⟩ := shl_all i (by omega)
      have hn : rbN l f.ts (i + 1) = rbN l f.ts i ||| 2 ^ i := by rw [rbN, if_pos (by rw [hg, h1])]
      rw [ct rfl, cvU (by omega), bd s1, s2, bitb (by omega) (by omega), i64b (by omega) (by omega), e, orN, ← hn]
      exact l_All15 hc hl n m (i + 1) (by omega) (by omega)
    | false =>
      have hn : rbN l f.ts (i + 1) = rbN l f.ts i := by rw [rbN, if_neg (by rw [hg, h1]; decide)]
      rw [cf rfl, i64b (by omega) (by omega), e, ← hn]
      exact l_All15 hc hl n m (i + 1) (by omega) (by omega)
/-- All lists, by their numbers. -/
def lists (f : Fld) : List (List Int) := (List.range (many f).toNat).map fun i : Nat => nthL (f.wd + 1) f.rows.toNat (i : Int)
theorem mem_lists {f : Fld} (hc : check f = 0) {l : List Int} (h : alw f l = true) : l ∈ lists f := by
  obtain ⟨hr, hw, _⟩ := check_ok hc
  simp only [alw, Bool.and_eq_true, decide_eq_true_eq, List.all_eq_true] at h
  obtain ⟨i, hi, he⟩ := nthL_surj (f.wd + 1) (by omega) l fun x hx => by
    have := h.1 x hx
    rw [okWho_in f x hw.1, inR_iff] at this
    omega
  have hl : f.rows.toNat = l.length := by omega
  unfold lists
  rw [List.mem_map]
  refine ⟨i, ?_, by rw [hl]; exact he⟩
  have h0 := many_nn hc
  have hm : many f = (f.wd + 1) ^ l.length := by unfold many; rw [hl]
  rw [List.mem_range]
  omega
def allB (f : Fld) : List Nat := ((lists f).filter (alw f)).map fun l => rbN l f.ts f.ts.length
def toI (xs : List Nat) : List Int := xs.map fun x : Nat => (x : Int)
theorem l_All2 {f : Fld} (hc : check f = 0) (hm2 : many f ≤ 250) : ∀ (n m i : Nat) (acc : List Nat), many f = i + n → n < m → acc.length ≤ i →
    G_All_L2 1000 f m (toI acc) (i : Int) = some (toI (acc ++ (((List.range' i n).map fun i : Nat => nthL (f.wd + 1) f.rows.toNat (i : Int)).filter (alw f)).map fun l => rbN l f.ts f.ts.length))
  | n, 0, i, acc, h, hm, _ => by omega
  | 0, m + 1, i, acc, h, hm, hl => by
    obtain ⟨hr, hw, _⟩ := check_ok hc
    unfold G_All_L2
    rw [bd (g_Many (Nat.le_refl _) (by omega) (by omega) (by omega) (by omega)), cf (df (by omega))]
    simp
  | n + 1, m + 1, i, acc, h, hm, hl => by
    obtain ⟨hr, hw, h5, _⟩ := check_ok hc
    unfold G_All_L2
    have e : ((i : Int) + 1) = ((i + 1 : Nat) : Int) := by omega
    have hnl : ((nthL (f.wd + 1) f.rows.toNat (i : Int)).length : Int) = f.rows := by rw [nthL_len]; omega
    rw [bd (g_Many (Nat.le_refl _) (by omega) (by omega) (by omega) (by omega)), ct (dt (by omega)), bd (g_Nth (Nat.le_refl _) hc (by omega) (by omega)), bd (g_IsAllowed (Nat.le_refl _) hw hr (by rw [nthL_len]; omega)), List.range'_succ, List.map_cons, List.filter_cons]
    cases h1 : alw f (nthL (f.wd + 1) f.rows.toNat (i : Int)) with
    | false =>
      rw [nf, i64b (by omega) (by omega), e, l_All2 hc hm2 n m (i + 1) acc (by omega) (by omega) (by omega)]
      rfl
    | true =>
      have h15 : G_All_L15 1000 f (nthL (f.wd + 1) f.rows.toNat (i : Int)) 1000 0 0 = some _ := l_All15 hc hnl f.ts.length 1000 0 (by omega) (by omega)
      have hcast : toI acc ++ [((rbN (nthL (f.wd + 1) f.rows.toNat (i : Int)) f.ts f.ts.length : Nat) : Int)] = toI (acc ++ [rbN (nthL (f.wd + 1) f.rows.toNat (i : Int)) f.ts f.ts.length]) := by simp [toI]
      rw [nt, bd h15, ifob (by simp [toI]; omega), i64b (by omega) (by omega), e, hcast, l_All2 hc hm2 n m (i + 1) _ (by omega) (by omega) (by simp; omega)]
      simp
theorem g_All {f : Fld} (hc : check f = 0) (hm : many f ≤ 250) : G_All 1000 f = some (toI (allB f)) := by
  have h0 := many_nn hc
  unfold G_All
  have := l_All2 hc hm (many f).toNat 1000 0 [] (by omega) (by omega) (by simp)
  rw [Int.natCast_zero, List.nil_append] at this
  have e : toI [] = ([] : List Int) := rfl
  rw [e] at this
  rw [bd this]
  unfold allB lists
  rw [List.range_eq_range']
theorem allB_len {f : Fld} (hc : check f = 0) : ((allB f).length : Int) ≤ many f := by
  have h0 := many_nn hc
  have h1 : (allB f).length ≤ (many f).toNat := by
    unfold allB
    rw [List.length_map]
    refine Nat.le_trans (List.length_filter_le _ _) ?_
    simp [lists]
  omega
theorem allB_lt {f : Fld} : ∀ x ∈ allB f, x < 2 ^ f.ts.length := fun x hx => by
  unfold allB at hx
  obtain ⟨l, _, rfl⟩ := List.mem_map.1 hx
  exact rbN_lt _ _ _
/-- Some tallies are right together. -/
def canB (f : Fld) (s : Nat) : Bool := (allB f).any fun x => x &&& s == s
theorem l_Can (xs : List Nat) (hx : ∀ x ∈ xs, x < 1000) (hl : xs.length ≤ 900) (s : Nat) (hs : s < 1000) : ∀ (n m i : Nat), xs.length = i + n → n < m → G_Can_L1 (toI xs) (s : Int) m (i : Int) = some (if (xs.drop i).any (fun x => x &&& s == s) = true then .inl true else .inr ())
  | n, 0, i, h, hm => by omega
  | 0, m + 1, i, h, hm => by
    unfold G_Can_L1
    rw [cf (df (by simp [toI]; omega)), List.drop_eq_nil_of_le (by omega)]
    rfl
  | n + 1, m + 1, i, h, hm => by
    unfold G_Can_L1
    have hi : i < xs.length := by omega
    have hi2 : i < (toI xs).length := by simpa [toI] using hi
    have e : ((i : Int) + 1) = ((i + 1 : Nat) : Int) := by omega
    have hg : (toI xs)[i] = ((xs[i] : Nat) : Int) := by simp [toI]
    have hb := hx _ (List.getElem_mem hi)
    rw [ct (dt (by omega)), idxb hi2, hg, bitb (by omega) (by omega), andN, List.drop_eq_getElem_cons hi, List.any_cons]
    cases h1 : xs[i] &&& s == s with
    | true =>
      have : (((xs[i] &&& s : Nat) : Int) == (s : Int)) = true := by
        rw [beq_iff_eq] at h1 ⊢; rw [h1]
      rw [ct this]; rfl
    | false =>
      have : (((xs[i] &&& s : Nat) : Int) == (s : Int)) = false := by
        rw [beq_eq_false_iff_ne] at h1 ⊢; exact fun e => h1 (by omega)
      rw [cf this, i64b (by omega) (by omega), e, l_Can xs hx hl s hs n m (i + 1) (by omega) (by omega), Bool.false_or]
theorem g_Can {f : Fld} (hc : check f = 0) (hm : many f ≤ 250) {s : Nat} (hs : s < 1000) : G_Can 1000 (toI (allB f)) (s : Int) = some (canB f s) := by
  obtain ⟨hr, hw, h5, _⟩ := check_ok hc
  have hl := allB_len hc
  unfold G_Can canB
  have hp : (2 : Nat) ^ f.ts.length ≤ 2 ^ 5 := Nat.pow_le_pow_right (by omega) (by omega)
  have := l_Can (allB f) (fun x hx => by have := allB_lt x hx; omega) (by omega) s hs (allB f).length 1000 0 (by omega) (by omega)
  rw [Int.natCast_zero, List.drop_zero] at this
  rw [bd this]
  cases (allB f).any fun x => x &&& s == s <;> rfl
theorem canB_iff {f : Fld} (hc : check f = 0) {s : Nat} (hs : s < 2 ^ f.ts.length) : canB f s = true ↔ ∃ l, alw f l = true ∧ ∀ (i : Nat) t, f.ts[i]? = some t → s.testBit i = false ∨ rt l t = true := by
  have key : ∀ l, (rbN l f.ts f.ts.length &&& s == s) = true ↔ ∀ (i : Nat) t, f.ts[i]? = some t → s.testBit i = false ∨ rt l t = true := fun l => by
    rw [beq_iff_eq]
    constructor
    · intro h i t hi
      obtain ⟨hlt, rfl⟩ := List.getElem?_eq_some_iff.1 hi
      have h1 := congrArg (Nat.testBit · i) h
      simp only [Nat.testBit_and, rbN_bit l f.ts _ i hlt, ← gdT hlt] at h1
      cases hb : s.testBit i with
      | false => exact .inl rfl
      | true => rw [hb, Bool.and_true] at h1; exact .inr h1
    · intro h
      refine Nat.eq_of_testBit_eq fun i => ?_
      rw [Nat.testBit_and]
      rcases Nat.lt_or_ge i f.ts.length with hi | hi
      · rw [rbN_bit l f.ts _ i hi, ← gdT hi]
        rcases h i _ (List.getElem?_eq_getElem hi) with h1 | h1
        · rw [h1, Bool.and_false]
        · rw [h1, Bool.true_and]
      · have : s.testBit i = false := Nat.testBit_lt_two_pow (Nat.lt_of_lt_of_le hs (Nat.pow_le_pow_right (by omega) hi))
        rw [this, Bool.and_false]
  unfold canB allB
  rw [List.any_map, List.any_eq_true]
  constructor
  · rintro ⟨l, hl, h⟩
    exact ⟨l, (List.mem_filter.1 hl).2, (key l).1 h⟩
  · rintro ⟨l, hl, h⟩
    exact ⟨l, List.mem_filter.2 ⟨mem_lists hc hl, hl⟩, (key l).2 h⟩
theorem g_Full {f : Fld} (h5 : f.ts.length ≤ 5) : G_Full 1000 f = some ((2 ^ f.ts.length - 1 : Nat) : Int) := by
  obtain ⟨s1, s2, s3, s4, s5, s6, s7⟩ := shl_all f.ts.length (by omega)
  unfold G_Full
  rw [cvU (by omega), bd s1, s2, i64b (by omega) (by omega)]
  congr 1; omega
/-- There is a truth without some tallies. -/
def posB (f : Fld) (out : List Int) : Bool := decide (truths f out ≠ [])
theorem posB_iff {f : Fld} (hc : check f = 0) {s : Nat} : posB f (bitsL s) = true ↔ ∃ l, alw f l = true ∧ ∀ (i : Nat) t, f.ts[i]? = some t → s.testBit i = true ∨ rt l t = true := by
  obtain ⟨hr, hw, h5, _⟩ := check_ok hc
  unfold posB
  rw [decide_eq_true_eq, truths_ne hc]
  refine exists_congr fun l => and_congr Iff.rfl ?_
  refine forall_congr' fun i => forall_congr' fun t => ⟨fun h hi => ?_, fun h hi => ?_⟩
  · obtain ⟨hlt, _⟩ := List.getElem?_eq_some_iff.1 hi
    have := h hi
    rw [bits_has (by omega), tb] at this; exact this
  · obtain ⟨hlt, _⟩ := List.getElem?_eq_some_iff.1 hi
    rw [bits_has (by omega), tb]; exact h hi
theorem posB_can {f : Fld} (hc : check f = 0) {s : Nat} : posB f (bitsL s) = canB f ((2 ^ f.ts.length - 1) ^^^ ((2 ^ f.ts.length - 1) &&& s)) := by
  have h2 : 1 ≤ 2 ^ f.ts.length := Nat.one_le_two_pow
  rw [Bool.eq_iff_iff, posB_iff hc, canB_iff hc (Nat.xor_lt_two_pow (by omega) (Nat.lt_of_le_of_lt Nat.and_le_left (by omega)))]
  refine exists_congr fun l => and_congr Iff.rfl (forall_congr' fun i => forall_congr' fun t => ⟨fun h hi => ?_, fun h hi => ?_⟩)
  · obtain ⟨hlt, _⟩ := List.getElem?_eq_some_iff.1 hi
    rw [Nat.testBit_xor, Nat.testBit_and, Nat.testBit_two_pow_sub_one, dt hlt, Bool.true_and, Bool.true_xor]
    rcases h hi with h1 | h1
    · exact .inl (by rw [h1]; rfl)
    · exact .inr h1
  · obtain ⟨hlt, _⟩ := List.getElem?_eq_some_iff.1 hi
    have := h hi
    rw [Nat.testBit_xor, Nat.testBit_and, Nat.testBit_two_pow_sub_one, dt hlt, Bool.true_and, Bool.true_xor] at this
    rcases this with h1 | h1
    · exact .inl (by simpa using h1)
    · exact .inr h1
theorem posB_full {f : Fld} (hc : check f = 0) : posB f (bitsL (2 ^ f.ts.length - 1)) = true := by
  rw [posB_iff hc]
  obtain ⟨l, hl⟩ := alw_some hc
  refine ⟨l, hl, fun i t hi => ?_⟩
  obtain ⟨hlt, _⟩ := List.getElem?_eq_some_iff.1 hi
  exact .inl (by rw [Nat.testBit_two_pow_sub_one, dt hlt])
theorem l_Leave {f : Fld} (hc : check f = 0) (hm : many f ≤ 250) : ∀ (n m i : Nat) (cur : List Int), 2 ^ f.ts.length = i + n → n < m → cur.length ≤ 8 →
    G_Leave_L6 1000 f (toI (allB f)) m cur (i : Int) = some ((List.range' i n).foldl (pickF (posB f)) cur)
  | n, 0, i, cur, h, hm, _ => by omega
  | 0, m + 1, i, cur, h, hm, hl => by
    obtain ⟨hr, hw, h5, _⟩ := check_ok hc
    unfold G_Leave_L6
    have h2 : 1 ≤ 2 ^ f.ts.length := Nat.one_le_two_pow
    rw [bd (g_Full h5), cf (df (by omega))]
    rfl
  | n + 1, m + 1, i, cur, h, hm2, hl => by
    obtain ⟨hr, hw, h5, _⟩ := check_ok hc
    have e : ((i : Int) + 1) = ((i + 1 : Nat) : Int) := by omega
    have h2 : 1 ≤ 2 ^ f.ts.length := Nat.one_le_two_pow
    have hp : (2 : Nat) ^ f.ts.length ≤ 2 ^ 5 := Nat.pow_le_pow_right (by omega) (by omega)
    have hb := bits_len i
    unfold G_Leave_L6
    rw [bd (g_Full h5), ct (dt (by omega)), bd (bits_all i (by omega)), bd (g_Shorter (Nat.le_refl _) (by omega) (by omega)), List.range'_succ, List.foldl_cons]
    cases h1 : sh (bitsL i) cur with
    | false =>
      have : pickF (posB f) cur i = cur := by unfold pickF; rw [h1, Bool.false_and, if_neg Bool.false_ne_true]
      rw [this, cf rfl, i64b (by omega) (by omega), e]
      exact l_Leave hc hm n m (i + 1) cur (by omega) (by omega) hl
    | true =>
      have hlt : (2 ^ f.ts.length - 1) ^^^ ((2 ^ f.ts.length - 1) &&& i) < 2 ^ f.ts.length := Nat.xor_lt_two_pow (by omega) (Nat.lt_of_le_of_lt Nat.and_le_left (by omega))
      rw [ct rfl, bd (g_Full h5), bitb (by omega) (by omega), andNotN, bd (g_Can hc hm (by omega)), ← posB_can hc]
      cases h3 : posB f (bitsL i) with
      | false =>
        have : pickF (posB f) cur i = cur := by unfold pickF; rw [h1, h3, Bool.and_false, if_neg Bool.false_ne_true]
        rw [this, cf rfl, i64b (by omega) (by omega), e]
        exact l_Leave hc hm n m (i + 1) cur (by omega) (by omega) hl
      | true =>
        have : pickF (posB f) cur i = bitsL i := by unfold pickF; rw [h1, h3, Bool.and_true, if_pos rfl]
        rw [this, ct rfl, i64b (by omega) (by omega), e]
        exact l_Leave hc hm n m (i + 1) _ (by omega) (by omega) hb
/-- The smallest set. -/
def leaveL (f : Fld) : List Int := shortestL (f.ts.length : Int) (posB f)
theorem leave_spec {f : Fld} (hc : check f = 0) : ∃ s, s < 2 ^ f.ts.length ∧ leaveL f = bitsL s ∧ posB f (bitsL s) = true ∧ ∀ s', s' < 2 ^ f.ts.length → posB f (bitsL s') = true → sh (bitsL s') (bitsL s) = false := by
  obtain ⟨hr, hw, h5, _⟩ := check_ok hc
  have h2 : 1 ≤ 2 ^ f.ts.length := Nat.one_le_two_pow
  exact shortest_spec (by omega) (s0 := 2 ^ f.ts.length - 1) (by omega) (posB_full hc)
theorem g_Leave {f : Fld} (hc : check f = 0) (hm : many f ≤ 250) : G_Leave 1000 f (toI (allB f)) = some (leaveL f) := by
  obtain ⟨hr, hw, h5, _⟩ := check_ok hc
  have h2 : 1 ≤ 2 ^ f.ts.length := Nat.one_le_two_pow
  have hp : (2 : Nat) ^ f.ts.length ≤ 2 ^ 5 := Nat.pow_le_pow_right (by omega) (by omega)
  unfold G_Leave
  have := l_Leave hc hm (2 ^ f.ts.length) 1000 0 (bitsL (2 ^ f.ts.length - 1)) (by omega) (by omega) (bits_len _)
  rw [Int.natCast_zero, ← List.range_eq_range'] at this
  rw [bd (g_Full h5), bd (bits_all _ (by omega)), bd this, leaveL, shortest_pick (n := f.ts.length) (by omega) (cand_in _ (by omega) (2 ^ f.ts.length - 1) (by omega)) (posB_full hc)]
theorem alw_up (f : Fld) (k : Nat) (l : List Int) : alw (upF f k) l = alw f l := rfl
theorem check_up {f : Fld} (hc : check f = 0) (k : Nat) : check (upF f k) = 0 := by
  obtain ⟨hr, hw, h5, ht, _⟩ := check_ok hc
  exact check_sub hc (by simp; omega) fun t h => ht t (List.mem_of_mem_take h)
/-- The first so many tallies are right together. -/
theorem up_iff {f : Fld} (hc : check f = 0) (k : Nat) : truths (upF f k) [] ≠ [] ↔ ∃ l, alw f l = true ∧ ∀ (i : Nat) t, f.ts[i]? = some t → i < k → rt l t = true := by
  rw [truths_ne (check_up hc k)]
  refine exists_congr fun l => and_congr (by rw [alw_up]) (forall_congr' fun i => forall_congr' fun t => ?_)
  show ((f.ts.take k)[i]? = some t → _) ↔ _
  rw [List.getElem?_take]
  constructor
  · intro h hi hk
    rw [if_pos hk] at h
    rcases h hi with h1 | h1
    · simp at h1
    · exact h1
  · intro h hi
    split at hi
    · exact .inr (h hi ‹_›)
    · cases hi
theorem firstP_can {f : Fld} (hc : check f = 0) {i : Nat} (hi : i < f.ts.length) : firstP f i = !canB f (2 ^ (i + 1) - 1) := by
  have hlt : 2 ^ (i + 1) - 1 < 2 ^ f.ts.length := by
    have h1 : (2 : Nat) ^ (i + 1) ≤ 2 ^ f.ts.length := Nat.pow_le_pow_right (by omega) (by omega)
    have h2 : 1 ≤ 2 ^ (i + 1) := Nat.one_le_two_pow
    omega
  unfold firstP
  congr 1
  rw [Bool.eq_iff_iff, decide_eq_true_eq, up_iff hc, canB_iff hc hlt]
  refine exists_congr fun l => and_congr Iff.rfl (forall_congr' fun x => forall_congr' fun t => ⟨fun h hx => ?_, fun h hx hk => ?_⟩)
  · rw [Nat.testBit_two_pow_sub_one]
    rcases Nat.lt_or_ge x (i + 1) with h1 | h1
    · exact .inr (h hx h1)
    · exact .inl (df (by omega))
  · have := h hx
    rw [Nat.testBit_two_pow_sub_one, dt hk] at this
    rcases this with h1 | h1
    · cases h1
    · exact h1
theorem l_First {f : Fld} (hc : check f = 0) (hm : many f ≤ 250) : ∀ (n m i : Nat), f.ts.length = i + n → n < m → G_First_L2 1000 f (toI (allB f)) m (i : Int) = some (match (List.range' i n).find? (firstP f) with | some j => .inl (j : Int) | none => .inr ())
  | n, 0, i, h, hm => by omega
  | 0, m + 1, i, h, hm => by
    unfold G_First_L2
    rw [cf (df (by omega))]
    rfl
  | n + 1, m + 1, i, h, hm2 => by
    obtain ⟨hr, hw, h5, _⟩ := check_ok hc
    have e : ((i : Int) + 1) = ((i + 1 : Nat) : Int) := by omega
    obtain ⟨s1, s2, s3, s4, s5, s6, s7⟩ := shl_all i (by omega)
    have h7 : 1 ≤ 2 ^ (i + 1) := Nat.one_le_two_pow
    unfold G_First_L2
    rw [ct (dt (by omega)), cvU (by omega), bd s3, s4, i64b (by omega) (by omega), bd (g_Can hc hm (by omega)), ← firstP_can hc (by omega), List.range'_succ, List.find?_cons]
    cases h1 : firstP f i with
    | true => rfl
    | false =>
      rw [cf rfl, i64b (by omega) (by omega), e]
      exact l_First hc hm n m (i + 1) (by omega) (by omega)
theorem g_First {f : Fld} (hc : check f = 0) (hm : many f ≤ 250) : G_First 1000 f (toI (allB f)) = some (match firstF f with | some j => (j : Int) | none => -1) := by
  obtain ⟨hr, hw, h5, _⟩ := check_ok hc
  unfold G_First
  have := l_First hc hm f.ts.length 1000 0 (by omega) (by omega)
  rw [Int.natCast_zero, ← List.range_eq_range'] at this
  rw [bd this]
  show _ = some (match (List.range f.ts.length).find? (firstP f) with | some j => (j : Int) | none => -1)
  cases (List.range f.ts.length).find? (firstP f) <;> rfl
theorem leaveL_len {f : Fld} (hc : check f = 0) : (leaveL f).length ≤ 8 := by
  obtain ⟨s, _, e, _⟩ := leave_spec hc
  rw [e]; exact bits_len s
theorem q_Leave (K : Nat) (f : Fld) : Q_Leave K f = some (if check f = 0 then (leaveL f, 0) else ([], check f)) := rfl
theorem weedLeaves_plain (f : Fld) : G_WeedLeaves 1000 f = some true := by
  unfold G_WeedLeaves
  rw [bd (g_Thin (Nat.le_refl _))]
  cases ht : thin f with
  | false => rw [nf, ifob awake_1000]
  | true =>
    rw [nt, bd (g_Field (Nat.le_refl _) (thin_len ht))]
    unfold Q_First
    rw [Option.bind_some, bd (g_Field (Nat.le_refl _) (thin_len ht)), bd (q_Leave 1000 f), bd (g_fault (Nat.le_refl _))]
    by_cases hc : check f = 0
    · have hm := thin_many ht hc
      rw [if_pos hc, if_pos hc, hc, cf (by decide), bd (g_All hc hm), cf (show ((leaveL f, (0 : Int)).2 != 0) = false from rfl), bd (g_Leave hc hm), bd (g_same (l := leaveL f) (Nat.le_refl _) (Nat.le_trans (leaveL_len hc) (by decide))), nt, bd (g_First hc hm)]
      cases firstF f with
      | none => rw [ct (by simp), ct (by simp), ct (by simp), ifob awake_1000]
      | some j => rw [cf (by simp), ct (by simp), ct (by simp), ifob awake_1000]
    · rw [if_neg hc, if_neg hc, ct (by simp [hc]), ct (by simp), ct (by simp), ct (by simp), ct (by simp), ifob awake_1000]
theorem weedLeaves_true (f : Fld) : ∃ K, G_WeedLeaves K f = some true := ⟨1000, weedLeaves_plain f⟩
end Go.Proofs.Ythogdgkafaclaaa
end
section
set_option linter.unusedVariables false
set_option linter.unusedSimpArgs false
namespace Go.Proofs.Ythogdgkafaclaaa
open Go.RowKit
open AF
attribute [local irreducible] Ex1 WL CC CW LV Ret ObOp Agg One Own
theorem a6 (K_ : Nat) (p0 : Fld) (A0_0 : Option Addr) (c0_0 : Nat) (Z : Nat → Prop) (w : World) (hS0_0 : Sl eTly w Z A0_0 c0_0 p0.ts) (hG : G_WeedLeaves K_ p0 = some true) :
    Ret Try.prog 6 #[.agg #[I p0.rows, I p0.wd, I p0.lo, I p0.hi, .slice A0_0 p0.ts.length c0_0]] w (fun v w' => Ext w w' ∧ v = .bool true) := by
 unfold G_WeedLeaves at hG
 refine ret_of_cc (N := 86) Try.func6 rfl rfl (by simp) ?_
 intro fr0 ha hdf
 have hp_0 := sl_arg (i := 0) (v := .agg #[I p0.rows, I p0.wd, I p0.lo, I p0.hi, .slice A0_0 p0.ts.length c0_0]) ha rfl
 clear ha
 have hp0 := Hp.refl w
 have hS0_0_0 := hS0_0.mv (mv_start w)
 refine cc_seq <| cc_region <| we rfl (fun st => x_box (v := .agg #[I p0.rows, I p0.wd, I p0.lo, I p0.hi, .slice A0_0 p0.ts.length c0_0]) (cs := #[I p0.rows, I p0.wd, I p0.lo, I p0.hi, .slice A0_0 p0.ts.length c0_0]) (ee st hp_0) rfl) ?_
 rintro _ w1 ⟨b1, rfl, nb1⟩
 have hp1 : Hp w [some b1] w1 := hp0.new nb1.gr (Nat.le_of_eq nb1.b_eq.symm) (Nat.lt_of_lt_of_eq (Nat.lt_succ_self _) nb1.sz.symm)
 refine wa rfl (v := .bool false) rfl <| wl_end <| lv_next <| cc_seq <| cc_seq <| cc_region <| wd rfl (fun st => x_loadn (l := [I p0.rows, I p0.wd, I p0.lo, I p0.hi, .slice A0_0 p0.ts.length c0_0]) agg_26 (ee st rfl) nb1.bk rfl rfl) ?_
 have hS0_0_1 : Sl eTly w1 (ZZ Z w.heap.size [some b1]) A0_0 c0_0 p0.ts := (hS0_0_0.mv (mv_new nb1.gr (Nat.le_of_eq nb1.b_eq.symm)))
 replace hG := bind_some hG; obtain ⟨r2, hr2, hG⟩ := hG
 refine we rfl (fun st => x_call0 own_20 (ee st rfl) (am1 (ee st rfl)) (a20 K_ p0 A0_0 c0_0 ZA _ hS0_0_1.all r2 hr2)) ?_
 rintro _ w3 ⟨hx2, rfl⟩
 have hp2 : Hp w [some b1] w3 := hp1.ext hx2
 refine wd rfl (fun st => x_not (ee st rfl)) <| wl_end <| lv_next ?_
 rcases bool_cases (!r2) with hc4 | hc4
 ·replace hG := cond_t hG hc4
  have hc4_5 : r2 = false := by simpa using hc4
  refine cc_cond_t rfl hc4 <| cc_seq <| cc_region ?_
  replace hG := ifo_bind hG; obtain ⟨hw6, hG⟩ := hG
  refine we rfl (fun st => x_call0 own_21 (ee st rfl) am0 (a21 K_ ZA _ hw6)) ?_
  rintro _ w7 ⟨hx6, rfl⟩
  have hp3 : Hp w [some b1] w7 := hp2.ext hx6
  refine wa rfl (v := .bool true) rfl <| wl_end <| lv_next <| cc_ret <| lv_then_ret ?_
  have hr_ := Option.some.inj hG
  refine lv_ret1 rfl rfl ?_
  exact ⟨hp3.fin, congrArg Value.bool hr_⟩
 ·replace hG := cond_f hG hc4
  have hc4_8 : r2 = true := by simpa using hc4
  refine cc_cond_f rfl hc4 <| cc_skip <| lv_next <| cc_seq <| cc_region ?_
  have bk1_2 : Bk w3 b1 26 #[I p0.rows, I p0.wd, I p0.lo, I p0.hi, .slice A0_0 p0.ts.length c0_0] := (nb1.bk.ext hx2)
  refine wd rfl (fun st => x_loadn (l := [I p0.rows, I p0.wd, I p0.lo, I p0.hi, .slice A0_0 p0.ts.length c0_0]) agg_26 (ee st rfl) bk1_2 rfl rfl) ?_
  have hS0_0_2 : Sl eTly w3 (ZZ Z w.heap.size [some b1]) A0_0 c0_0 p0.ts := (hS0_0_1.mv (mv_ext hx2))
  replace hG := bind_some hG; obtain ⟨r9, hr9, hG⟩ := hG
  refine we rfl (fun st => x_call0 own_23 (ee st rfl) (am1 (ee st rfl)) (a23 K_ p0 A0_0 c0_0 (ZZ Z w.heap.size [some b1]) _ hS0_0_2 r9 hr9)) ?_
  rintro _ w10 ⟨hx9, ⟨_, rfl, ⟨A9_r0, c9_r0, rfl, hS9_r0⟩⟩⟩
  have hp4 : Hp w [some b1] w10 := hp2.ext hx9
  have hS9_r0 := hS9_r0.mv (hp2.call (Nat.le_refl _))
  replace hG := bind_some hG; obtain ⟨r11, hr11, hG⟩ := hG
  refine we rfl (fun st => x_call0 own_34 (ee st rfl) (am1 (ee st rfl)) (a34 K_ r9 A9_r0 c9_r0 ZA _ hS9_r0.all r11 hr11)) ?_
  rintro _ w12 ⟨hx11, _, _, rfl, rfl, rfl⟩
  have hp5 : Hp w [some b1] w12 := hp4.ext hx11
  refine wm rfl (v := .tuple #[I r11.1, I r11.2]) rfl <| wd rfl (fun st => x_extract (v := I r11.1) (ee st rfl) rfl) <| wd rfl (fun st => x_extract (v := I r11.2) (ee st rfl) rfl) <| wa rfl (v := I r11.1) rfl <| wa rfl (v := I r11.2) rfl <| wl_end <| lv_next <| cc_seq <| cc_region ?_
  have bk1_5 : Bk w12 b1 26 #[I p0.rows, I p0.wd, I p0.lo, I p0.hi, .slice A0_0 p0.ts.length c0_0] := ((bk1_2.ext hx9).ext hx11)
  refine wd rfl (fun st => x_loadn (l := [I p0.rows, I p0.wd, I p0.lo, I p0.hi, .slice A0_0 p0.ts.length c0_0]) agg_26 (ee st rfl) bk1_5 rfl rfl) ?_
  have hS0_0_5 : Sl eTly w12 (ZZ Z w.heap.size [some b1]) A0_0 c0_0 p0.ts := ((hS0_0_2.mv (mv_ext hx9)).mv (mv_ext hx11))
  replace hG := bind_some hG; obtain ⟨r13, hr13, hG⟩ := hG
  refine we rfl (fun st => x_call0 own_23 (ee st rfl) (am1 (ee st rfl)) (a23 K_ p0 A0_0 c0_0 (ZZ Z w.heap.size [some b1]) _ hS0_0_5 r13 hr13)) ?_
  rintro _ w14 ⟨hx13, ⟨_, rfl, ⟨A13_r0, c13_r0, rfl, hS13_r0⟩⟩⟩
  have hp6 : Hp w [some b1] w14 := hp5.ext hx13
  have hS13_r0 := hS13_r0.mv (hp5.call (Nat.le_refl _))
  replace hG := bind_some hG; obtain ⟨r15, hr15, hG⟩ := hG
  refine we rfl (fun st => x_call0 own_35 (ee st rfl) (am1 (ee st rfl)) (a35 K_ r13 A13_r0 c13_r0 (ZZ Z w.heap.size [some b1]) _ hS13_r0 r15 hr15)) ?_
  rintro _ w16 ⟨hx15, _, _, rfl, ⟨A15_ra, c15_ra, rfl, hS15_ra⟩, rfl⟩
  have hp7 : Hp w [some b1] w16 := hp6.ext hx15
  have hS15_ra := hS15_ra.mv (hp6.call (Nat.le_refl _))
  refine wm rfl (v := .tuple #[.slice A15_ra r15.1.length c15_ra, I r15.2]) rfl <| wd rfl (fun st => x_extract (v := .slice A15_ra r15.1.length c15_ra) (ee st rfl) rfl) <| wd rfl (fun st => x_extract (v := I r15.2) (ee st rfl) rfl) <| wa rfl (v := .slice A15_ra r15.1.length c15_ra) rfl <| wa rfl (v := I r15.2) rfl <| wl_end <| lv_next <| cc_seq <| cc_seq <| cc_region ?_
  have bk1_7 : Bk w16 b1 26 #[I p0.rows, I p0.wd, I p0.lo, I p0.hi, .slice A0_0 p0.ts.length c0_0] := ((bk1_5.ext hx13).ext hx15)
  refine wd rfl (fun st => x_loadn (l := [I p0.rows, I p0.wd, I p0.lo, I p0.hi, .slice A0_0 p0.ts.length c0_0]) agg_26 (ee st rfl) bk1_7 rfl rfl) ?_
  have hS0_0_7 : Sl eTly w16 (ZZ Z w.heap.size [some b1]) A0_0 c0_0 p0.ts := ((hS0_0_5.mv (mv_ext hx13)).mv (mv_ext hx15))
  replace hG := bind_some hG; obtain ⟨r17, hr17, hG⟩ := hG
  refine we rfl (fun st => x_call0 own_28 (ee st rfl) (am1 (ee st rfl)) (a28 K_ p0 A0_0 c0_0 ZA _ hS0_0_7.all r17 hr17)) ?_
  rintro _ w18 ⟨hx17, rfl⟩
  have hp8 : Hp w [some b1] w18 := hp7.ext hx17
  refine wa rfl (v := I r17) rfl <| wl_end <| lv_next <| cc_seq <| cc_region <| wm rfl (v := I r17) rfl <| wd rfl (fun st => x_neq (ee st rfl) (ee st rfl)) <| wl_end <| lv_next ?_
  rcases bool_cases (r17 != 0) with hc19 | hc19
  ·replace hG := cond_t hG hc19
   refine cc_cond_t rfl hc19 <| cc_seq <| cc_region <| wm rfl (v := I r11.2) rfl <| wm rfl (v := I r17) rfl <| wd rfl (fun st => x_eql (ee st rfl) (ee st rfl)) <| wm rfl (v := .bool (r11.2 == r17)) rfl ?_
   rcases bool_cases (r11.2 == r17) with hc20 | hc20
   ·replace hG := cond_t hG hc20
    refine wl_detg rfl rfl (guard_eq rfl hc20) rfl (by decide) (fun st => x_move (v := I r11.1) (ee st rfl)) <| wl_detg rfl rfl (guard_eq rfl hc20) rfl (by decide) (fun st => x_eql (ee st rfl) (ee st rfl)) <| wd rfl (fun st => x_pick_t (v := .bool (r11.1 == 0)) (ee st rfl) hc20 (ee st rfl)) <| wm rfl (v := .bool (r11.1 == 0)) rfl ?_
    rcases bool_cases (r11.1 == 0) with hc21 | hc21
    ·replace hG := cond_t hG hc21
     refine wl_detg rfl rfl (guard_eq rfl hc21) rfl (by decide) (fun st => x_move (v := I r15.2) (ee st rfl)) <| wl_detg rfl rfl (guard_eq rfl hc21) rfl (by decide) (fun st => x_move (v := I r17) (ee st rfl)) <| wl_detg rfl rfl (guard_eq rfl hc21) rfl (by decide) (fun st => x_eql (ee st rfl) (ee st rfl)) <| wd rfl (fun st => x_pick_t (v := .bool (r15.2 == r17)) (ee st rfl) hc21 (ee st rfl)) <| wm rfl (v := .bool (r15.2 == r17)) rfl ?_
     rcases bool_cases (r15.2 == r17) with hc22 | hc22
     ·replace hG := cond_t hG hc22
      refine wl_detg rfl rfl (guard_eq rfl hc22) rfl (by decide) (fun st => x_move (v := .slice A15_ra r15.1.length c15_ra) (ee st rfl)) <| wl_detg rfl rfl (guard_eq rfl hc22) rfl (by decide) (fun st => x_len Try.underlying43 (ee st rfl)) <| wl_detg rfl rfl (guard_eq rfl hc22) rfl (by decide) (fun st => x_eql (ee st rfl) (ee st rfl)) <| wd rfl (fun st => x_pick_t (v := .bool ((r15.1.length : Int) == 0)) (ee st rfl) hc22 (ee st rfl)) <| wm rfl (v := .bool ((r15.1.length : Int) == 0)) rfl ?_
      rcases bool_cases ((r15.1.length : Int) == 0) with hc23 | hc23
      ·replace hG := cond_t hG hc23
       replace hG := ifo_bind hG; obtain ⟨hw24, hG⟩ := hG
       refine wl_exg rfl rfl (guard_eq rfl hc23) rfl (by decide) (fun st => x_call0 own_21 (ee st rfl) am0 (a21 K_ ZA _ hw24)) ?_
       rintro _ w25 ⟨hx24, rfl⟩
       have hp9 : Hp w [some b1] w25 := hp8.ext hx24
       refine wd rfl (fun st => x_pick_t (v := .bool true) (ee st rfl) hc23 (ee st rfl)) <| wa rfl (v := .bool true) rfl <| wl_end <| lv_next <| cc_ret <| lv_then_ret ?_
       have hr_ := Option.some.inj hG
       refine lv_ret1 rfl rfl ?_
       exact ⟨hp9.fin, congrArg Value.bool hr_⟩
      ·replace hG := cond_f hG hc23
       exact absurd (Option.some.inj hG) (by decide)
     ·replace hG := cond_f hG hc22
      exact absurd (Option.some.inj hG) (by decide)
    ·replace hG := cond_f hG hc21
     exact absurd (Option.some.inj hG) (by decide)
   ·replace hG := cond_f hG hc20
    exact absurd (Option.some.inj hG) (by decide)
  ·replace hG := cond_f hG hc19
   refine cc_cond_f rfl hc19 <| cc_skip <| lv_next <| cc_seq <| cc_region ?_
   have bk1_8 : Bk w18 b1 26 #[I p0.rows, I p0.wd, I p0.lo, I p0.hi, .slice A0_0 p0.ts.length c0_0] := (bk1_7.ext hx17)
   refine wd rfl (fun st => x_loadn (l := [I p0.rows, I p0.wd, I p0.lo, I p0.hi, .slice A0_0 p0.ts.length c0_0]) agg_26 (ee st rfl) bk1_8 rfl rfl) ?_
   have hS0_0_8 : Sl eTly w18 (ZZ Z w.heap.size [some b1]) A0_0 c0_0 p0.ts := (hS0_0_7.mv (mv_ext hx17))
   replace hG := bind_some hG; obtain ⟨r26, hr26, hG⟩ := hG
   refine we rfl (fun st => x_call0 own_36 (ee st rfl) (am1 (ee st rfl)) (a36 K_ p0 A0_0 c0_0 (ZZ Z w.heap.size [some b1]) _ hS0_0_8 r26 hr26)) ?_
   rintro _ w27 ⟨hx26, ⟨A26_r, c26_r, rfl, hS26_r⟩⟩
   have hp10 : Hp w [some b1] w27 := hp8.ext hx26
   have hS26_r := hS26_r.mv (hp8.call (Nat.le_refl _))
   refine wa rfl (v := .slice A26_r r26.length c26_r) rfl <| wl_end <| lv_next <| cc_seq <| cc_seq <| cc_region <| wm rfl (v := I r15.2) rfl <| wd rfl (fun st => x_neq (ee st rfl) (ee st rfl)) <| wm rfl (v := .bool (r15.2 != 0)) rfl ?_
   rcases bool_cases (r15.2 != 0) with hc28 | hc28
   ·replace hG := cond_t hG hc28
    exact absurd (Option.some.inj hG) (by decide)
   ·replace hG := cond_f hG hc28
    refine wl_detg rfl rfl (guard_eq rfl hc28) rfl (by decide) (fun st => x_move (v := .slice A15_ra r15.1.length c15_ra) (ee st rfl)) ?_
    have bk1_10 : Bk w27 b1 26 #[I p0.rows, I p0.wd, I p0.lo, I p0.hi, .slice A0_0 p0.ts.length c0_0] := (bk1_8.ext hx26)
    refine wl_detg rfl rfl (guard_eq rfl hc28) rfl (by decide) (fun st => x_loadn (l := [I p0.rows, I p0.wd, I p0.lo, I p0.hi, .slice A0_0 p0.ts.length c0_0]) agg_26 (ee st rfl) bk1_10 rfl rfl) <| wl_detg rfl rfl (guard_eq rfl hc28) rfl (by decide) (fun st => x_move (v := .slice A26_r r26.length c26_r) (ee st rfl)) ?_
    have hS0_0_10 : Sl eTly w27 (ZZ Z w.heap.size [some b1]) A0_0 c0_0 p0.ts := (hS0_0_8.mv (mv_ext hx26))
    replace hG := bind_some hG; obtain ⟨r29, hr29, hG⟩ := hG
    refine wl_exg rfl rfl (guard_eq rfl hc28) rfl (by decide) (fun st => x_call0 own_37 (ee st rfl) (am2 (ee st rfl) (ee st rfl)) (a37 K_ p0 r26 A0_0 c0_0 A26_r c26_r (ZZ Z w.heap.size [some b1]) _ hS0_0_10 hS26_r r29 hr29)) ?_
    rintro _ w30 ⟨hx29, ⟨A29_r, c29_r, rfl, hS29_r⟩⟩
    have hp11 : Hp w [some b1] w30 := hp10.ext hx29
    have hS29_r := hS29_r.mv (hp10.call (Nat.le_refl _))
    have hS15_ra_11 : Sl (eInt .i64) w30 (ZZ Z w.heap.size [some b1]) A15_ra c15_ra r15.1 := (((hS15_ra.mv (mv_ext hx17)).mv (mv_ext hx26)).mv (mv_ext hx29))
    replace hG := bind_some hG; obtain ⟨r31, hr31, hG⟩ := hG
    refine wl_exg rfl rfl (guard_eq rfl hc28) rfl (by decide) (fun st => x_call0 own_30 (ee st rfl) (am2 (ee st rfl) (ee st rfl)) (a30 K_ r15.1 r29 A15_ra c15_ra A29_r c29_r ZA _ hS15_ra_11.all hS29_r.all r31 hr31)) ?_
    rintro _ w32 ⟨hx31, rfl⟩
    have hp12 : Hp w [some b1] w32 := hp11.ext hx31
    refine wl_detg rfl rfl (guard_eq rfl hc28) rfl (by decide) (fun st => x_not (ee st rfl)) <| wd rfl (fun st => x_pick_f (v := .bool !r31) (ee st rfl) hc28 (ee st rfl)) <| wl_end <| lv_next ?_
    rcases bool_cases (!r31) with hc33 | hc33
    ·replace hG := cond_t hG hc33
     exact absurd (Option.some.inj hG) (by decide)
    ·replace hG := cond_f hG hc33
     have hc33_35 : r31 = true := by simpa using hc33
     refine cc_cond_f rfl hc33 <| cc_skip <| lv_next <| cc_seq <| cc_region ?_
     have bk1_12 : Bk w32 b1 26 #[I p0.rows, I p0.wd, I p0.lo, I p0.hi, .slice A0_0 p0.ts.length c0_0] := ((bk1_10.ext hx29).ext hx31)
     refine wd rfl (fun st => x_loadn (l := [I p0.rows, I p0.wd, I p0.lo, I p0.hi, .slice A0_0 p0.ts.length c0_0]) agg_26 (ee st rfl) bk1_12 rfl rfl) <| wm rfl (v := .slice A26_r r26.length c26_r) rfl ?_
     have hS0_0_12 : Sl eTly w32 (ZZ Z w.heap.size [some b1]) A0_0 c0_0 p0.ts := ((hS0_0_10.mv (mv_ext hx29)).mv (mv_ext hx31))
     have hS26_r_12 : Sl (eInt .i64) w32 (ZZ Z w.heap.size [some b1]) A26_r c26_r r26 := ((hS26_r.mv (mv_ext hx29)).mv (mv_ext hx31))
     replace hG := bind_some hG; obtain ⟨r36, hr36, hG⟩ := hG
     refine we rfl (fun st => x_call0 own_38 (ee st rfl) (am2 (ee st rfl) (ee st rfl)) (a38 K_ p0 r26 A0_0 c0_0 A26_r c26_r ZA _ hS0_0_12.all hS26_r_12.all r36 hr36)) ?_
     rintro _ w37 ⟨hx36, rfl⟩
     have hp13 : Hp w [some b1] w37 := hp12.ext hx36
     refine wa rfl (v := I r36) rfl <| wl_end <| lv_next <| cc_seq <| cc_seq <| cc_region <| wm rfl (v := I r36) rfl <| wd rfl (fun st => x_lss (ee st rfl) (ee st rfl)) <| wl_end <| lv_next ?_
     rcases bool_cases (decide (r36 < 0)) with hc38 | hc38
     ·replace hG := cond_t hG hc38
      refine cc_cond_t rfl hc38 <| cc_seq <| cc_region <| wm rfl (v := I r11.2) rfl <| wd rfl (fun st => x_eql (ee st rfl) (ee st rfl)) <| wm rfl (v := .bool (r11.2 == 7)) rfl ?_
      rcases bool_cases (r11.2 == 7) with hc39 | hc39
      ·replace hG := cond_t hG hc39
       refine wl_detg rfl rfl (guard_eq rfl hc39) rfl (by decide) (fun st => x_move (v := I r11.1) (ee st rfl)) <| wl_detg rfl rfl (guard_eq rfl hc39) rfl (by decide) (fun st => x_eql (ee st rfl) (ee st rfl)) <| wd rfl (fun st => x_pick_t (v := .bool (r11.1 == 0)) (ee st rfl) hc39 (ee st rfl)) <| wm rfl (v := .bool (r11.1 == 0)) rfl ?_
       rcases bool_cases (r11.1 == 0) with hc40 | hc40
       ·replace hG := cond_t hG hc40
        replace hG := ifo_bind hG; obtain ⟨hw41, hG⟩ := hG
        refine wl_exg rfl rfl (guard_eq rfl hc40) rfl (by decide) (fun st => x_call0 own_21 (ee st rfl) am0 (a21 K_ ZA _ hw41)) ?_
        rintro _ w42 ⟨hx41, rfl⟩
        have hp14 : Hp w [some b1] w42 := hp13.ext hx41
        refine wd rfl (fun st => x_pick_t (v := .bool true) (ee st rfl) hc40 (ee st rfl)) <| wa rfl (v := .bool true) rfl <| wl_end <| lv_next <| cc_ret <| lv_then_ret ?_
        have hr_ := Option.some.inj hG
        refine lv_ret1 rfl rfl ?_
        exact ⟨hp14.fin, congrArg Value.bool hr_⟩
       ·replace hG := cond_f hG hc40
        exact absurd (Option.some.inj hG) (by decide)
      ·replace hG := cond_f hG hc39
       exact absurd (Option.some.inj hG) (by decide)
     ·replace hG := cond_f hG hc38
      refine cc_cond_f rfl hc38 <| cc_skip <| lv_next <| cc_seq <| cc_region <| wm rfl (v := I r11.2) rfl <| wd rfl (fun st => x_eql (ee st rfl) (ee st rfl)) <| wm rfl (v := .bool (r11.2 == 0)) rfl ?_
      rcases bool_cases (r11.2 == 0) with hc43 | hc43
      ·replace hG := cond_t hG hc43
       refine wl_detg rfl rfl (guard_eq rfl hc43) rfl (by decide) (fun st => x_move (v := I r11.1) (ee st rfl)) <| wl_detg rfl rfl (guard_eq rfl hc43) rfl (by decide) (fun st => x_move (v := I r36) (ee st rfl)) <| wl_detg rfl rfl (guard_eq rfl hc43) rfl (by decide) (fun st => x_eql (ee st rfl) (ee st rfl)) <| wd rfl (fun st => x_pick_t (v := .bool (r11.1 == r36)) (ee st rfl) hc43 (ee st rfl)) <| wm rfl (v := .bool (r11.1 == r36)) rfl ?_
       rcases bool_cases (r11.1 == r36) with hc44 | hc44
       ·replace hG := cond_t hG hc44
        replace hG := ifo_bind hG; obtain ⟨hw45, hG⟩ := hG
        refine wl_exg rfl rfl (guard_eq rfl hc44) rfl (by decide) (fun st => x_call0 own_21 (ee st rfl) am0 (a21 K_ ZA _ hw45)) ?_
        rintro _ w46 ⟨hx45, rfl⟩
        have hp15 : Hp w [some b1] w46 := hp13.ext hx45
        refine wd rfl (fun st => x_pick_t (v := .bool true) (ee st rfl) hc44 (ee st rfl)) <| wa rfl (v := .bool true) rfl <| wl_end <| lv_next <| cc_ret ?_
        have hr_ := Option.some.inj hG
        refine lv_ret1 rfl rfl ?_
        exact ⟨hp15.fin, congrArg Value.bool hr_⟩
       ·replace hG := cond_f hG hc44
        exact absurd (Option.some.inj hG) (by decide)
      ·replace hG := cond_f hG hc43
       exact absurd (Option.some.inj hG) (by decide)
end Go.Proofs.Ythogdgkafaclaaa
end
section
namespace Go.Proofs.Ythogdgkafaclaaa
open Go.RowKit Go.ChangeShapes Go.WideShapes
theorem mapM_all {α β : Type} {g : α → Option β} : ∀ {l : List α} {r : List β}, l.mapM g = some r → ∀ x ∈ l, ∃ y, g x = some y
  | [], _, _, x, hx => by cases hx
  | a :: l, r, h, x, hx => by
    rw [List.mapM_cons] at h
    obtain ⟨y, hy, h2⟩ := Option.bind_eq_some_iff.1 h
    obtain ⟨ys, hys, _⟩ := Option.bind_eq_some_iff.1 h2
    rcases List.mem_cons.1 hx with rfl | hx
    · exact ⟨y, hy⟩
    · exact mapM_all hys x hx
/-- A reading of this type is data of this kind. -/
def Opn {α : Type} (P : Program) (t : TypeId) (e : Enc α) (wf : α → Prop) : Prop :=
  ∀ (H : Type) (enc : TypeId × Value → H) (w : World) (sp : Nat → Bool) (fuel : Nat) (cs : List Value) (x : DataW H × List MemPlace), DataW.trod enc P w 0 sp true fuel t cs = some x → ∃ a, e.R w ZA cs a ∧ wf a
def wfI (k : IntKind) (n : Int) : Prop := (Lit.int k n).wf = true
section
variable {P : Program} {t : TypeId}
theorem opn_int {k : IntKind} (ht : P.underlying t = some (.int k)) : Opn P t (eInt k) (wfI k) := by
  intro H enc w sp fuel cs x h
  obtain ⟨n, h1, _, h3⟩ := DataW.trod_int ht h
  exact ⟨n, h1, h3⟩
/-- A struct's fields. -/
theorem trod_fields {fs : Array Field} (ht : P.underlying t = some (.struct fs)) {H : Type} {enc : TypeId × Value → H} {w : World} {sp : Nat → Bool} {fuel : Nat} {cs : List Value} {x : DataW H × List MemPlace} (h : DataW.trod enc P w 0 sp true fuel t cs = some x) :
    cs.length = P.cellsOf t ∧ ∃ fuel', ∀ (i ft off : Nat), (fs[i]?).map (fun f => (f.type, f.offset)) = some (ft, off) → ∃ y, DataW.trod enc P w 0 sp true fuel' ft ((cs.drop off).take (P.cellsOf ft)) = some y := by
  cases fuel with
  | zero => simp [DataW.trod] at h
  | succ fuel =>
    unfold DataW.trod at h
    simp only [ht] at h
    split at h
    · rename_i hl
      obtain ⟨xs, hx, _⟩ := Option.map_eq_some_iff.1 h
      refine ⟨hl, fuel, fun i ft off hf => ?_⟩
      obtain ⟨f, hf', he⟩ := Option.map_eq_some_iff.1 hf
      obtain ⟨e1, e2⟩ : f.type = ft ∧ f.offset = off := by simpa using he
      have hm : f ∈ fs.toList := by rw [← Array.getElem?_toList] at hf'; exact List.mem_of_getElem? hf'
      have := mapM_all hx f hm
      rw [e1, e2] at this
      exact this
    · cases h
theorem cells_cell {w : World} {a : Addr} {n : Nat} {cs : List Value} (h : w.cells? 0 a n = some cs) : cs.length = n ∧ ∀ j u, cs[j]? = some u → w.cell? (a.add j) = some u := by
  unfold World.cells? at h
  rw [if_pos (Nat.zero_le _)] at h
  have hl := mapM_some_length h
  refine ⟨by simpa using hl, ?_⟩
  have key : ∀ (l : List Nat) (r : List Value), l.mapM (fun i => w.cell? (a.add i)) = some r → ∀ (j i : Nat) (u : Value), l[j]? = some i → r[j]? = some u → w.cell? (a.add i) = some u := by
    intro l
    induction l with
    | nil => intro r _ j i u hj; simp at hj
    | cons b l ih =>
      intro r h j i u hj hr
      rw [List.mapM_cons] at h
      obtain ⟨y, hy, h2⟩ := Option.bind_eq_some_iff.1 h
      obtain ⟨ys, hys, h3⟩ := Option.bind_eq_some_iff.1 h2
      obtain rfl : y :: ys = r := by simpa using h3
      cases j with
      | zero =>
        obtain rfl : b = i := by simpa using hj
        obtain rfl : y = u := by simpa using hr
        exact hy
      | succ j => exact ih ys hys j i u (by simpa using hj) (by simpa using hr)
  intro j u hj
  have hlt : j < n := by
    have := (List.getElem?_eq_some_iff.1 hj).1
    have h2 : cs.length = n := by simpa using hl
    omega
  exact key _ _ h j j u (by simp [hlt]) hj
theorem cell_none {w : World} {a : Addr} {u : Value} (h : w.cell? a = some u) : ∃ b o, a = ⟨b, o, none⟩ ∧ b < w.heap.size := by
  obtain ⟨b, o, pt⟩ := a
  cases pt with
  | none =>
    refine ⟨b, o, rfl, ?_⟩
    unfold World.cell? at h
    cases hq : w.heap[b]? with
    | none => simp [hq] at h
    | some o => exact (Array.getElem?_eq_some_iff.1 hq).1
  | some q =>
    unfold World.cell? at h
    cases hq : w.heap[b]? with
    | none => simp [hq] at h
    | some ob => cases ob <;> simp [hq] at h
theorem add_add {a : Addr} {k j : Nat} (h : k ≤ j) : (a.add k).add (j - k) = a.add j := by
  obtain ⟨b, o, pt⟩ := a
  cases pt with
  | none => rw [addr_add, addr_add, addr_add]; congr 1; omega
  | some q =>
    unfold Addr.add
    by_cases hj : j = 0
    · have : k = 0 := by omega
      subst this; subst hj; simp
    · by_cases hk : k = 0
      · subst hk; simp [hj]
      · by_cases hjk : j - k = 0
        · have : j = k := by omega
          subst this; simp [hk]
        · simp [hj, hk, hjk]; omega
/-- Slices of what can be read. -/
theorem opn_slice {α : Type} {e : TypeId} {ee : Enc α} {wf : α → Prop} (ht : P.underlying t = some (.slice e)) (hc : P.cellsOf e = ee.sz) (h0 : 0 < ee.sz) (ho : Opn P e ee wf) : Opn P t (eSl ee) (fun xs => xs.length ≤ maxLen ∧ ∀ x ∈ xs, wf x) := by
  intro H enc w sp fuel cs x h
  rcases Go.Deep.open_slice ht h with ⟨rfl, _⟩ | ⟨a, len, cap, m, n0, D, Pl, rfl, _, hlc, hcm, hm, _, hall⟩
  · exact ⟨[], ⟨none, 0, rfl, Sl.nil _ _ _⟩, by simp, by simp⟩
  · have hlm : len ≤ m := by rw [hm]; split <;> omega
    have key : ∀ n, n ≤ len → ∃ css xs, R2 ee w ZA css xs ∧ xs.length = n ∧ (∀ x ∈ xs, wf x) ∧ ∀ j u, css.flatten[j]? = some u → w.cell? (a.add j) = some u := by
      intro n
      induction n with
      | zero => exact fun _ => ⟨[], [], trivial, rfl, by simp, by simp⟩
      | succ n ih =>
        intro hn
        obtain ⟨css, xs, h1, h2, h3, h4⟩ := ih (by omega)
        obtain ⟨ds, hd, hy2⟩ := hall n (by omega)
        obtain ⟨z, hz, hwz⟩ := ho _ _ _ _ _ _ _ hy2
        obtain ⟨hl, hcell⟩ := cells_cell hd
        refine ⟨css ++ [ds], xs ++ [z], h1.append ⟨hz, trivial⟩, by simp [h2], ?_, ?_⟩
        · intro x hx
          rcases List.mem_append.1 hx with hx | hx
          · exact h3 x hx
          · rw [List.mem_singleton.1 hx]; exact hwz
        · intro j u hj
          rw [List.flatten_append] at hj
          rcases Nat.lt_or_ge j css.flatten.length with hlt | hge
          · rw [List.getElem?_append_left hlt] at hj
            exact h4 j u hj
          · rw [List.getElem?_append_right hge] at hj
            have h5 := hcell (j - css.flatten.length) u (by simpa using hj)
            have hfl : css.flatten.length = n * ee.sz := by rw [h1.flen, h2]
            rw [hfl] at h5 hge
            rw [hc] at h5
            rw [add_add hge] at h5
            exact h5
    obtain ⟨css, xs, h1, h2, h3, h4⟩ := key len (Nat.le_refl _)
    refine ⟨xs, ⟨some a, cap, by rw [h2], by rw [h2]; exact hlc, (fun e => by cases e), css, h1, ?_⟩, by rw [h2]; exact Nat.le_trans hlc hcm, h3⟩
    cases hf : css.flatten with
    | nil => exact .inl rfl
    | cons u us =>
      have hu := h4 0 u (by rw [hf]; rfl)
      obtain ⟨b, o, hab, hlt⟩ := cell_none hu
      have ha : a = ⟨b, o, none⟩ := by
        obtain ⟨b', o', pt⟩ := a
        cases pt <;> simp [Addr.add] at hab ⊢
        exact hab
      subst ha
      refine .inr ⟨b, o, rfl, trivial, hlt, fun j u hj => ?_⟩
      have := h4 j u (by rw [hf]; exact hj)
      rw [addr_add] at this
      exact this
end
section
variable {H : Type} {enc : TypeId × Value → H} {P : Program} {W W' : World}
theorem trodAll_carry {sp : Nat → Bool} : ∀ {ts : List TypeId} {vs : List Value} {ds : List (DataW H)} {ps : List MemPlace}, DataW.TrodAll enc P W 0 sp true ts vs ds ps → (∀ p ∈ ps, W.sameAt W' p) → DataW.TrodAll enc P W' 0 sp true ts vs ds ps
  | [], _, _, _, h, _ => by
    obtain ⟨rfl, rfl, rfl⟩ := trodAll_nil h
    exact rfl
  | _ :: _, _, _, _, h, hs => by
    obtain ⟨v, vs1, d, ds1, a, b, rfl, rfl, rfl, ⟨n, hn⟩, h2⟩ := trodAll_cons h
    exact ⟨a, b, ⟨n, DataW.trod_carry n _ _ _ hn fun p hp => hs p (List.mem_append_left _ hp)⟩, trodAll_carry h2 fun p hp => hs p (List.mem_append_right _ hp), rfl⟩
theorem args_read (K : Kids P (· < P.types.size)) (hz : ∀ t e, t < P.types.size → P.underlying t = some (.slice e) → 0 < P.cellsOf e) {ts : List TypeId} {vs : List Value} {ds : List (DataW H)} {ps : List MemPlace} (hT : ∀ t ∈ ts, t < P.types.size)
    (hA : DataW.TrodAll enc P W 0 (fun _ => true) true ts vs ds ps) (hb : Ext W W') (hlt : ∀ p ∈ ps, p.block < W.heap.size) (sp : Nat → Bool) (hs : ∀ p ∈ ps, sp p.block = true) : DataW.TrodAll enc P W' 0 sp true ts vs ds ps :=
  trodAll_carry (DataW.TrodAll.respare K hz hT hA hs) fun p hp => (below_of_ext hb).same (hlt p hp)
variable {α : Type} {e : Enc α} {wf : α → Prop} {t : TypeId} {b0 : Nat} {v : Value} {d : DataW H} {p : List MemPlace} {sp : Nat → Bool}
theorem val_agg {fs : Array Field} (ht : P.underlying t = some (.struct fs)) (ho : Opn P t e wf) (hv : Value.okWide P W .any b0 t v) (h : DataW.Trod enc P W 0 sp true t v d p) : ∃ a cs, v = .agg cs.toArray ∧ e.R W ZA cs a ∧ wf a := by
  unfold Value.okWide at hv
  rw [ht] at hv
  obtain ⟨cs, rfl, _⟩ := hv
  obtain ⟨n, hn⟩ := h
  obtain ⟨a, h1, h2⟩ := ho _ _ _ _ _ _ _ hn
  exact ⟨a, cs.toList, by simp, h1, h2⟩
/-- The row's end: the call has laid new blocks alone. -/
theorem post_of_ext {f : Func} {s : ChangeSpec} {apart fresh handsOn again : Bool} {args : Array Value} {v : Value} {ds gs : List (DataW H)} {before pa pv : List MemPlace}
    (hW : DataW.Whole enc P f.params.toList s.vars apart W args.toList ds gs before)
    (hres : ∀ (b : Nat) (sp : Nat → Bool) (hd : Bool), DataW.TrodAll enc P W' b sp hd f.resultTypes.toList (v.resultList f.resultTypes.size) (s.fn H (ds ++ gs)).results [])
    (hargs : ∀ sp : Nat → Bool, (∀ p ∈ before, sp p.block = true) → DataW.TrodAll enc P W' 0 sp true f.params.toList args.toList (s.fn H (ds ++ gs)).args pa)
    (hvars : ∀ sp : Nat → Bool, (∀ p ∈ before, sp p.block = true) → DataW.TrodVars enc P W' sp s.vars (s.fn H (ds ++ gs)).vars pv)
    (hps : before = pa ++ pv) (hx : Ext W W')
    (hok : ∀ (j : Nat) (t : TypeId) (r : Value), f.resultTypes[j]? = some t → (v.resultList f.resultTypes.size)[j]? = some r → Value.okWide P W' .any 0 t r) :
    s.post enc P f apart fresh handsOn again W args v W' := by
  have hb := below_of_ext hx
  have hlt : ∀ p ∈ before, p.block < W.heap.size := fun p hp => hW.lt p hp
  have hold : ∀ p ∈ before, (fun b => decide (b < W.heap.size)) p.block = true := fun p hp => by simpa using hlt p hp
  refine ⟨ds, gs, before, [], pa, pv, hW, hres _ _ _, hargs _ hold, hvars _ hold, World.keptBut_mono (fun p hp => ⟨hp, ?_⟩) (hb.frame (· ∈ before)), fun _ => ?_⟩
  · rw [hps, List.mem_append] at hp
    exact Or.inr hp
  · obtain ⟨_, _, _, _, _, hz, hn⟩ := hW
    refine ⟨hok, _, _, ([] ++ pa) ++ pv, ⟨[] ++ pa, pv, trodAll_append (hargs _ (fun _ _ => rfl)) (hres _ _ _), hvars _ (fun _ _ => rfl), rfl, ?_, ?_⟩, ?_⟩
    · intro b off hp
      have hin : MemPlace.cell b off ∈ before := by rw [hps]; simpa using hp
      rw [hb.frozen (hlt _ hin)]
      exact hz b off hin
    · intro ha
      have := hn ha
      rw [hps] at this
      simpa using this
    · intro p hp _
      rw [hps]
      simpa using hp
theorem ret_calls {f : FuncId} {args : Array Value} {w : World} {R : Value → World → Prop} (h : Ret P f args w R) : Calls P f args w (fun e w' => ∃ v, e = .returned v ∧ R v w') := h
end
end Go.Proofs.Ythogdgkafaclaaa
end
section
set_option linter.unusedVariables false
set_option linter.unusedSimpArgs false
namespace Go.Proofs.Ythogdgkafaclaaa
open Go.RowKit
open Go.RowKit Go.ChangeShapes Go.WideShapes
theorem len_2 : ∀ {cs : List Value}, cs.length = 2 → ∃ a0 a1, cs = [a0, a1]
  | [a0, a1], _ => ⟨a0, a1, rfl⟩
theorem len_5 : ∀ {cs : List Value}, cs.length = 5 → ∃ a0 a1 a2 a3 a4, cs = [a0, a1, a2, a3, a4]
  | [a0, a1, a2, a3, a4], _ => ⟨a0, a1, a2, a3, a4, rfl⟩
theorem opn_23 : Opn Try.prog 23 eR (fun x => (wfI .i64 x.1 ∧ wfI .i64 x.2)) := by
  intro H enc w sp fuel cs x h
  obtain ⟨hl, fuel', hf⟩ := trod_fields Try.underlying23 h
  have hc : Try.prog.cellsOf 23 = 2 := by kernel_rfl
  rw [hc] at hl
  have k3 : Try.prog.cellsOf 3 = 1 := by kernel_rfl
  obtain ⟨a0, a1, rfl⟩ := len_2 hl
  obtain ⟨y0, hy0⟩ := hf 0 3 0 rfl
  simp only [k3, List.drop_zero, List.drop_succ_cons, List.take_succ_cons, List.take_zero] at hy0
  obtain ⟨n0, h0, w0⟩ := (opn_int Try.underlying3) _ _ _ _ _ _ _ hy0
  cases h0
  obtain ⟨y1, hy1⟩ := hf 1 3 1 rfl
  simp only [k3, List.drop_zero, List.drop_succ_cons, List.take_succ_cons, List.take_zero] at hy1
  obtain ⟨n1, h1, w1⟩ := (opn_int Try.underlying3) _ _ _ _ _ _ _ hy1
  cases h1
  exact ⟨⟨n0, n1⟩, rfl, w0, w1⟩
theorem opn_68 : Opn Try.prog 68 eTly (fun x => (wfI .i64 x.who ∧ wfI .i64 x.fr ∧ wfI .i64 x.to ∧ (wfI .i64 ((⟨x.lo, x.hi⟩ : (Int × Int)).1) ∧ wfI .i64 ((⟨x.lo, x.hi⟩ : (Int × Int)).2)))) := by
  intro H enc w sp fuel cs x h
  obtain ⟨hl, fuel', hf⟩ := trod_fields Try.underlying68 h
  have hc : Try.prog.cellsOf 68 = 5 := by kernel_rfl
  rw [hc] at hl
  have k3 : Try.prog.cellsOf 3 = 1 := by kernel_rfl
  have k23 : Try.prog.cellsOf 23 = 2 := by kernel_rfl
  obtain ⟨a0, a1, a2, a3, a4, rfl⟩ := len_5 hl
  obtain ⟨y0, hy0⟩ := hf 0 3 0 rfl
  simp only [k3, List.drop_zero, List.drop_succ_cons, List.take_succ_cons, List.take_zero] at hy0
  obtain ⟨n0, h0, w0⟩ := (opn_int Try.underlying3) _ _ _ _ _ _ _ hy0
  cases h0
  obtain ⟨y1, hy1⟩ := hf 1 3 1 rfl
  simp only [k3, List.drop_zero, List.drop_succ_cons, List.take_succ_cons, List.take_zero] at hy1
  obtain ⟨n1, h1, w1⟩ := (opn_int Try.underlying3) _ _ _ _ _ _ _ hy1
  cases h1
  obtain ⟨y2, hy2⟩ := hf 2 3 2 rfl
  simp only [k3, List.drop_zero, List.drop_succ_cons, List.take_succ_cons, List.take_zero] at hy2
  obtain ⟨n2, h2, w2⟩ := (opn_int Try.underlying3) _ _ _ _ _ _ _ hy2
  cases h2
  obtain ⟨y3, hy3⟩ := hf 3 23 3 rfl
  simp only [k23, List.drop_zero, List.drop_succ_cons, List.take_succ_cons, List.take_zero] at hy3
  obtain ⟨n3, h3, w3⟩ := opn_23 _ _ _ _ _ _ _ hy3
  cases h3
  exact ⟨⟨n0, n1, n2, n3.1, n3.2⟩, rfl, w0, w1, w2, w3⟩
theorem opn_26 : Opn Try.prog 26 eFld (fun x => (wfI .i64 x.rows ∧ wfI .i64 x.wd ∧ (wfI .i64 ((⟨x.lo, x.hi⟩ : (Int × Int)).1) ∧ wfI .i64 ((⟨x.lo, x.hi⟩ : (Int × Int)).2)) ∧ (x.ts.length ≤ maxLen ∧ ∀ y ∈ x.ts, (wfI .i64 y.who ∧ wfI .i64 y.fr ∧ wfI .i64 y.to ∧ (wfI .i64 ((⟨y.lo, y.hi⟩ : (Int × Int)).1) ∧ wfI .i64 ((⟨y.lo, y.hi⟩ : (Int × Int)).2)))))) := by
  intro H enc w sp fuel cs x h
  obtain ⟨hl, fuel', hf⟩ := trod_fields Try.underlying26 h
  have hc : Try.prog.cellsOf 26 = 5 := by kernel_rfl
  rw [hc] at hl
  have k3 : Try.prog.cellsOf 3 = 1 := by kernel_rfl
  have k23 : Try.prog.cellsOf 23 = 2 := by kernel_rfl
  have k24 : Try.prog.cellsOf 24 = 1 := by kernel_rfl
  obtain ⟨a0, a1, a2, a3, a4, rfl⟩ := len_5 hl
  obtain ⟨y0, hy0⟩ := hf 0 3 0 rfl
  simp only [k3, List.drop_zero, List.drop_succ_cons, List.take_succ_cons, List.take_zero] at hy0
  obtain ⟨n0, h0, w0⟩ := (opn_int Try.underlying3) _ _ _ _ _ _ _ hy0
  cases h0
  obtain ⟨y1, hy1⟩ := hf 1 3 1 rfl
  simp only [k3, List.drop_zero, List.drop_succ_cons, List.take_succ_cons, List.take_zero] at hy1
  obtain ⟨n1, h1, w1⟩ := (opn_int Try.underlying3) _ _ _ _ _ _ _ hy1
  cases h1
  obtain ⟨y2, hy2⟩ := hf 2 23 2 rfl
  simp only [k23, List.drop_zero, List.drop_succ_cons, List.take_succ_cons, List.take_zero] at hy2
  obtain ⟨n2, h2, w2⟩ := opn_23 _ _ _ _ _ _ _ hy2
  cases h2
  obtain ⟨y3, hy3⟩ := hf 3 24 4 rfl
  simp only [k24, List.drop_zero, List.drop_succ_cons, List.take_succ_cons, List.take_zero] at hy3
  obtain ⟨n3, ⟨A3, c3, h3, s3⟩, w3⟩ := (opn_slice Try.underlying24 (by kernel_rfl) (by decide) opn_68) _ _ _ _ _ _ _ hy3
  cases h3
  exact ⟨⟨n0, n1, n2.1, n2.2, n3⟩, ⟨A3, c3, rfl, s3⟩, w0, w1, w2, w3⟩
theorem ownT : ownKnob Try.prog.godebug = none := by kernel_rfl
theorem kidsT : Kids Try.prog (· < Try.prog.types.size) := kids_rows (by kernel_rfl) (by kernel_rfl)
theorem fullT : ∀ t e, t < Try.prog.types.size → Try.prog.underlying t = some (.slice e) → 0 < Try.prog.cellsOf e := slices_full_of Try.prog (by kernel_rfl)
end Go.Proofs.Ythogdgkafaclaaa
end
section
set_option linter.unusedVariables false
set_option linter.unusedSimpArgs false
namespace Go.Proofs.Ythogdgkafaclaaa
open Go.RowKit
open Go.RowKit Go.ChangeShapes Go.WideShapes Go.ChangeAt
set_option maxRecDepth 100000 in
theorem weedLeaves_lifted (os : Os) (started : os.Started) (H : Type) (enc : TypeId × Value → H) :
    ReturnsInHanded {} Try.checked os 6 .any (Rows.weedLeavesSpec.pre6 enc Try.prog Try.f6 Rows.weedLeavesRow.domain false) (Rows.weedLeavesSpec.post enc Try.prog Try.f6 false true false false) := by
  refine returnsInHanded_of_change (C := Try.checked) ownT started (by kernel_rfl) Try.func6
    (ChangeSpec.witness6 (enc := enc) (C := Try.checked) false ⟨#[], #[.agg #[.int .i64 0, .int .i64 0, .int .i64 0, .int .i64 0, .slice none 0 0]], []⟩ 8 (by kernel_rfl) (by kernel_rfl) (by kernel_rfl) (by kernel_rfl)) ?_
  intro W base args ds gs before hval0 hW hcnd _
  have hval : ∀ (j : Nat) t v, Try.f6.params[j]? = some t → args[j]? = some v → Value.okWide Try.prog W .any base t v := hval0
  have hW' := hW
  obtain ⟨p, q, hA0, hV, rfl, hfz, hnd⟩ := hW
  have hA : DataW.TrodAll enc Try.prog W 0 (fun _ => true) true Try.f6.params.toList args.toList ds p := hA0
  obtain ⟨rfl, rfl⟩ := trodVars_none hV
  simp only [List.append_nil] at hW'
  have hlt : ∀ x ∈ p, x.block < W.heap.size := fun x hx => by simpa using hW'.lt x hx
  have hAk := hA
  rw [Try.params6] at hA hval
  obtain ⟨v0, d0, rfl, rfl, h0⟩ := trodAll_one hA
  obtain ⟨x0, cs0, hv0, ⟨A0_0, c0_0, rfl, s0_0⟩, w0⟩ := val_agg Try.underlying26 opn_26 (hval 0 26 v0 rfl rfl) h0
  subst hv0
  obtain ⟨K, hG⟩ := weedLeaves_true x0
  refine (ret_calls (a6 K x0 A0_0 c0_0 ZA W s0_0 hG)).mono fun e W' ⟨v, he, hx, hv⟩ => ?_
  subst he
  subst hv
  exact ⟨_, rfl, post_of_ext (pa := p) (pv := []) hW' (fun _ _ _ => trodAll_mk1 (shut_bool Try.underlying4 _)) (fun sp hs => args_read kidsT fullT (by rw [Try.params6]; decide) hAk hx hlt sp (fun x hx' => hs x (by simpa using hx'))) (fun _ _ => rfl) (by simp) hx (ok_one (by kernel_rfl) rfl (okWide_bool_mk Try.underlying4 _))⟩
theorem weedLeaves_holds : Rows.WeedLeavesSaid :=
  OpenClaim.holds_of_wide 6 Try.f6 rfl rfl rfl rfl rfl rfl rfl ⟨rfl, rfl, rfl, rfl, rfl⟩ rfl rfl rfl rfl rfl (by kernel_rfl) Try.func6 (by kernel_rfl)
    (of_decide_eq_true (by kernel_rfl)) (by unfold Func.isWrapper; first | (rw [if_pos (by decide +kernel)]; kernel_rfl) | (rw [if_neg (by decide +kernel)]; exact ⟨rfl, rfl⟩))
    (fun os started H enc _ => weedLeaves_lifted os started H enc)
end Go.Proofs.Ythogdgkafaclaaa
end
