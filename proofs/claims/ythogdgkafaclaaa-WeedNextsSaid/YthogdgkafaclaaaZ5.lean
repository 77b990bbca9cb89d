import Derived.Test.YthogdgkafaclaaaBC5
import Derived.ProofKit
import Derived.ChangeSame
import Derived.Deep.Slices
import Derived.Test.YthogdgkafaclaaaProg
import Derived.Test.YthogdgkafaclaaaRows
/-
  Proved: the law WeedNexts returns true for every argument that the row hands over, and leaves every argument as it was; no condition beside the row's own.
-/
set_option linter.all false
section
namespace Go.Proofs.Ythogdgkafaclaaa
theorem bd {α β : Type} {x : Option α} {a : α} {f : α → Option β} (h : x = some a) : x.bind f = f a := by rw [h]; rfl
theorem i64b {β : Type} {x : Int} {f : Int → Option β} (h0 : -9223372036854775808 ≤ x) (h1 : x ≤ 9223372036854775807) : (i64 x).bind f = f x := bd (i64_eq h0 h1)
theorem idxb {α β : Type} {xs : List α} {k : Nat} {f : α → Option β} (h : k < xs.length) : (idx xs (k : Int)).bind f = f xs[k] := bd (idx_eq h)
theorem ifob {β : Type} {p : Prop} [Decidable p] {f : Unit → Option β} (h : p) : (ifo p).bind f = f () := bd (if_pos h)
theorem remb {β : Type} {a b : Int} {f : Int → Option β} (h0 : 0 ≤ a) (h1 : 1 ≤ b) : (rem a b).bind f = f (a % b) := bd (if_pos ⟨h0, h1⟩)
theorem quob {β : Type} {a b : Int} {f : Int → Option β} (h0 : 0 ≤ a) (h1 : 1 ≤ b) : (quo a b).bind f = f (a / b) := bd (if_pos ⟨h0, h1⟩)
theorem cond_eq {α : Type} {b : Bool} {x y z : α} (h1 : b = true → x = z) (h2 : b = false → y = z) : cond b x y = z := by cases b; exact h2 rfl; exact h1 rfl
theorem ct {α : Type} {b : Bool} {x y : α} (h : b = true) : cond b x y = x := by rw [h]; rfl
theorem cf {α : Type} {b : Bool} {x y : α} (h : b = false) : cond b x y = y := by rw [h]; rfl
theorem nt {α : Type} {x y : α} : cond (!true) x y = y := rfl
theorem nf {α : Type} {x y : α} : cond (!false) x y = x := rfl
theorem dt {p : Prop} [Decidable p] (h : p) : decide p = true := decide_eq_true h
theorem df {p : Prop} [Decidable p] (h : ¬ p) : decide p = false := decide_eq_false h
theorem g_In (K : Nat) (n a b : Int) : G_In K n a b = some (inR n a b) := by unfold G_In inR; cases decide (a ≤ n) <;> rfl
theorem g_Within (K : Nat) (f : Fld) (lo hi : Int) : G_Within K (⟨lo, hi⟩ : Int × Int) 0 f.rows = some (rngOk f lo hi) := by
  unfold G_Within rngOk
  simp only []
  cases decide ((0 : Int) ≤ lo) <;> cases decide (lo ≤ hi) <;> rfl
/-- How often somebody stands in a part of a list. -/
def part (l : List Int) (who : Int) (fr n : Nat) : Nat := cnt who ((l.drop fr).take n)
theorem part_succ (l : List Int) (who : Int) (fr n : Nat) (h : fr < l.length) : part l who fr (n + 1) = (if l[fr] = who then 1 else 0) + part l who (fr + 1) n := by
  unfold part cnt
  rw [List.drop_eq_getElem_cons h, List.take_succ_cons, List.countP_cons]
  simp only [beq_iff_eq]
  omega
theorem part_le (l : List Int) (who : Int) (fr n : Nat) : part l who fr n ≤ n := by
  unfold part cnt
  exact Nat.le_trans List.countP_le_length (by simp; omega)
theorem l_Did (l : List Int) (who to : Int) : ∀ (n m i : Nat) (s : Int), to + 1 = i + n → n < m → 0 ≤ s → s + n ≤ 1000000 → i + n ≤ l.length → i + n ≤ 1000000 → G_Did_L1 l who to m s (i : Int) = some (s + (part l who i n : Nat))
  | n, 0, i, s, h, hm, _, _, _, _ => by omega
  | 0, m + 1, i, s, h, hm, h0, h1, hl, hl2 => by
    unfold G_Did_L1
    rw [cf (df (by omega))]
    simp [part, cnt]
  | n + 1, m + 1, i, s, h, hm, h0, h1, hl, hl2 => by
    unfold G_Did_L1
    have hi : i < l.length := by omega
    rw [ct (dt (by omega)), idxb hi]
    have e : ((i : Int) + 1) = ((i + 1 : Nat) : Int) := by omega
    rw [part_succ l who i n hi]
    refine cond_eq (fun hb => ?_) (fun hb => ?_)
    · rw [i64b (by omega) (by omega), i64b (by omega) (by omega), e, l_Did l who to n m (i + 1) (s + 1) (by omega) (by omega) (by omega) (by omega) (by omega) (by omega)]
      rw [if_pos (by simpa using hb)]
      congr 1; omega
    · rw [i64b (by omega) (by omega), e, l_Did l who to n m (i + 1) s (by omega) (by omega) (by omega) (by omega) (by omega) (by omega)]
      rw [if_neg (by simpa using hb)]
      congr 1; omega
theorem g_Did {K : Nat} {l : List Int} {who : Int} {fr n : Nat} {to : Int} (ht : to + 1 = fr + n) (hK : n < K) (hl : fr + n ≤ l.length) (hb : fr + n ≤ 1000000) : G_Did K l who (fr : Int) to = some (part l who fr n : Nat) := by
  unfold G_Did
  rw [l_Did l who to n K fr 0 ht hK (by omega) (by omega) hl hb]
  simp
theorem g_Did0 {K : Nat} {l : List Int} {who : Int} {n : Nat} {to : Int} (ht : to + 1 = n) (hK : n < K) (hl : n ≤ l.length) (hb : n ≤ 1000000) : G_Did K l who 0 to = some (part l who 0 n : Nat) := by
  have := g_Did (K := K) (l := l) (who := who) (fr := 0) (n := n) (to := to) (by omega) hK (by omega) (by omega)
  simpa using this
theorem l_Many (f : Fld) (hw : 0 ≤ f.wd) (hw3 : f.wd ≤ 3) (hr : f.rows ≤ 7) : ∀ (n m i : Nat) (s : Int), f.rows = i + n → n < m → 0 ≤ s → s * (f.wd + 1) ^ n ≤ 1000000 → G_Many_L2 f m s (i : Int) = some (s * (f.wd + 1) ^ n)
  | n, 0, i, s, h, hm, _, _ => by omega
  | 0, m + 1, i, s, h, hm, h0, h1 => by
    unfold G_Many_L2
    rw [cf (df (by omega))]
    simp
  | n + 1, m + 1, i, s, h, hm, h0, h1 => by
    unfold G_Many_L2
    have hp : 1 ≤ (f.wd + 1) ^ n := by
      have h9 : 0 < (f.wd + 1) ^ n := Int.pow_pos (by omega)
      omega
    have hs : s * (f.wd + 1) * (f.wd + 1) ^ n ≤ 1000000 := by
      rw [Int.mul_assoc]; rw [Int.pow_succ, Int.mul_comm ((f.wd + 1) ^ n)] at h1; exact h1
    have h2 : 0 ≤ s * (f.wd + 1) := Int.mul_nonneg h0 (by omega)
    have h3 : s * (f.wd + 1) ≤ 1000000 := by
      have h4 := Int.mul_le_mul_of_nonneg_left hp h2
      omega
    rw [ct (dt (by omega)), i64b (by omega) (by omega), i64b (by omega) (by omega), i64b (by omega) (by omega)]
    have e : ((i : Int) + 1) = ((i + 1 : Nat) : Int) := by omega
    rw [e, l_Many f hw hw3 hr n m (i + 1) (s * (f.wd + 1)) (by omega) (by omega) h2 hs]
    rw [Int.mul_assoc, Int.pow_succ, Int.mul_comm ((f.wd + 1) ^ n)]
theorem g_Many {K : Nat} {f : Fld} (hK : 1000 ≤ K) (hw : 0 ≤ f.wd) (hw3 : f.wd ≤ 3) (hr0 : 0 ≤ f.rows) (hr : f.rows ≤ 7) : G_Many K f = some (many f) := by
  unfold G_Many
  have h := (pow_bd7 (f.wd + 1) (by omega) (by omega) f.rows.toNat (by omega)).2
  have := l_Many f hw hw3 hr f.rows.toNat K 0 1 (by omega) (by omega) (by omega) (by omega)
  rw [Int.natCast_zero] at this
  rw [this]
  simp [many]
theorem talOk_ref (f : Fld) (t : Tly) : talOk f t = (inR t.who 0 (f.wd - 1) && (inR t.fr 0 (f.rows - 1) && (inR t.to t.fr (f.rows - 1) && rngOk f t.lo t.hi))) := by
  rw [Bool.eq_iff_iff]
  unfold talOk
  simp only [Bool.and_eq_true, inR_iff, decide_eq_true_eq]
  constructor
  · rintro ⟨⟨⟨⟨h1, h2⟩, h3⟩, h4⟩, h5⟩; exact ⟨h1, h2, ⟨h4, h3.2⟩, h5⟩
  · rintro ⟨h1, h2, ⟨h3, h4⟩, h5⟩; exact ⟨⟨⟨⟨h1, h2⟩, by omega, h4⟩, h3⟩, h5⟩
theorem l_Fault (K : Nat) (f : Fld) (hr : 1 ≤ f.rows ∧ f.rows ≤ 7) (hw : 1 ≤ f.wd ∧ f.wd ≤ 3) (hl : f.ts.length ≤ 1000000) : ∀ (n m i : Nat), f.ts.length = i + n → n < m → G_Fault_L12 K f m (i : Int) = some (if (f.ts.drop i).all (talOk f) = true then .inr () else .inl 1)
  | n, 0, i, h, hm => by omega
  | 0, m + 1, i, h, hm => by
    unfold G_Fault_L12
    rw [cf (df (by omega)), List.drop_eq_nil_of_le (by omega)]
    rfl
  | n + 1, m + 1, i, h, hm => by
    unfold G_Fault_L12
    have hi : i < f.ts.length := by omega
    rw [ct (dt (by omega)), idxb hi, i64b (by omega) (by omega), bd (g_In ..), List.drop_eq_getElem_cons hi, List.all_cons, talOk_ref]
    cases h1 : inR f.ts[i].who 0 (f.wd - 1) with
    | false => rfl
    | true =>
      rw [nt, i64b (by omega) (by omega), bd (g_In ..)]
      cases h2 : inR f.ts[i].fr 0 (f.rows - 1) with
      | false => rfl
      | true =>
        rw [nt, i64b (by omega) (by omega), bd (g_In ..)]
        cases h3 : inR f.ts[i].to f.ts[i].fr (f.rows - 1) with
        | false => rfl
        | true =>
          rw [nt, bd (g_Within ..)]
          cases h4 : rngOk f f.ts[i].lo f.ts[i].hi with
          | false => rfl
          | true =>
            have e : ((i : Int) + 1) = ((i + 1 : Nat) : Int) := by omega
            rw [nt, i64b (by omega) (by omega), e, l_Fault K f hr hw hl n m (i + 1) (by omega) (by omega)]
            rfl
theorem g_Fault {K : Nat} {f : Fld} (hK : 1000 ≤ K) : G_Fault K f = some (check f) := by
  unfold G_Fault check
  by_cases hb : big f = true
  · rw [if_pos hb]
    simp only [big, Bool.or_eq_true, decide_eq_true_eq] at hb
    by_cases h1 : 7 < f.rows
    · rw [ct (dt h1)]
    · rw [cf (df h1)]
      by_cases h2 : 3 < f.wd
      · rw [ct (dt h2)]
      · rw [cf (df h2), ct (dt (by omega))]
  · rw [if_neg hb]
    simp only [big, Bool.or_eq_true, decide_eq_true_eq, not_or] at hb
    rw [cf (df hb.1), cf (df hb.2.1), cf (df hb.2.2)]
    by_cases hr : f.rows < 1
    · rw [ct (dt hr), if_pos (by simp [bad, hr])]
    · by_cases hw : f.wd < 1
      · rw [cf (df hr), ct (dt hw), if_pos (by simp [bad, hw])]
      · rw [cf (df hr), cf (df hw), bd (g_Within ..)]
        have hbad : bad f = (!rngOk f f.lo f.hi || !f.ts.all (talOk f)) := by simp [bad, hr, hw]
        rw [hbad]
        cases h3 : rngOk f f.lo f.hi with
        | false => rfl
        | true =>
          have := l_Fault K f ⟨by omega, by omega⟩ ⟨by omega, by omega⟩ (by omega) f.ts.length K 0 (by omega) (by omega)
          rw [Int.natCast_zero] at this
          rw [nt, bd this, List.drop_zero]
          cases h4 : f.ts.all (talOk f) with
          | false => rfl
          | true =>
            rw [if_pos rfl, if_neg (by decide)]
            show (G_Many K f).bind _ = _
            rw [bd (g_Many hK (by omega) (by omega) (by omega) (by omega))]
            by_cases h5 : 2500 < many f
            · rw [ct (dt h5), if_pos h5]
            · rw [cf (df h5), if_neg h5]
theorem g_fault {K : Nat} {f : Fld} (hK : 1000 ≤ K) : G_fault K f = some (check f) := by unfold G_fault; rw [bd (g_Fault hK)]
/-- The fields that the laws go through. -/
def thin (f : Fld) : Bool := decide (f.ts.length ≤ 7) && (decide (check f ≠ 0) || decide (many f ≤ 250))
theorem g_Thin {K : Nat} {f : Fld} (hK : 1000 ≤ K) : G_Thin K f = some (thin f) := by
  unfold G_Thin thin
  by_cases h1 : f.ts.length ≤ 7
  · rw [ct (dt (by omega)), bd (g_Fault hK)]
    by_cases h2 : check f = 0
    · obtain ⟨hr, hw, _⟩ := check_ok h2
      rw [cf (by simp [h2]), bd (g_Many hK (by omega) (by omega) (by omega) (by omega))]
      simp [h1, h2]
    · rw [ct (by simp [h2])]
      simp [h1, h2]
  · rw [cf (df (by omega))]
    simp [h1]
theorem thin_len {f : Fld} (h : thin f = true) : f.ts.length ≤ 7 := by
  simp only [thin, Bool.and_eq_true, decide_eq_true_eq] at h; exact h.1
theorem thin_many {f : Fld} (h : thin f = true) (hc : check f = 0) : many f ≤ 250 := by
  simp only [thin, Bool.and_eq_true, Bool.or_eq_true, decide_eq_true_eq] at h
  rcases h.2 with h2 | h2
  · exact absurd hc h2
  · exact h2
theorem g_to (K : Nat) (r : Int × Int) : G_to K r = some r := rfl
theorem l_Field (K : Nat) (f : Fld) (hl : f.ts.length ≤ 7) : ∀ (n m i : Nat), f.ts.length = i + n → n < m → G_Field_L7 K f m (i : Int) (f.ts.take i) = some f.ts
  | n, 0, i, h, hm => by omega
  | 0, m + 1, i, h, hm => by
    unfold G_Field_L7
    rw [cf (df (by omega)), List.take_of_length_le (by omega)]
  | n + 1, m + 1, i, h, hm => by
    unfold G_Field_L7
    have hi : i < f.ts.length := by omega
    have e : ((i : Int) + 1) = ((i + 1 : Nat) : Int) := by omega
    rw [ct (dt (by omega)), idxb hi, bd (g_to ..), ifob (by simp; omega), i64b (by omega) (by omega), e]
    have ht : f.ts.take i ++ [(⟨f.ts[i].who, f.ts[i].fr, f.ts[i].to, f.ts[i].lo, f.ts[i].hi⟩ : Tly)] = f.ts.take (i + 1) := (List.take_succ_eq_append_getElem hi).symm
    show G_Field_L7 K f m ((i + 1 : Nat) : Int) (f.ts.take i ++ [(⟨f.ts[i].who, f.ts[i].fr, f.ts[i].to, f.ts[i].lo, f.ts[i].hi⟩ : Tly)]) = _
    rw [ht, l_Field K f hl n m (i + 1) (by omega) (by omega)]
theorem g_Field {K : Nat} {f : Fld} (hK : 1000 ≤ K) (hl : f.ts.length ≤ 7) : G_Field K f = some f := by
  unfold G_Field
  have := l_Field K f hl f.ts.length K 0 (by omega) (by omega)
  rw [Int.natCast_zero, List.take_zero] at this
  rw [bd (g_to ..), bd this]
/-- All tallies but none. -/
theorem allAt_nil (l : List Int) : ∀ (ts : List Tly) (i : Nat), allAt l [] i ts = ts.all fun t => inR (didK l [t.who, t.fr, t.to]) t.lo t.hi
  | [], _ => rfl
  | t :: ts, i => by
    rw [allAt, allAt_nil l ts (i + 1), List.all_cons]
    rfl
/-- Somebody's rows in a tally's stretch. -/
def tdid (l : List Int) (t : Tly) : Int := (part l t.who t.fr.toNat (t.to + 1 - t.fr).toNat : Nat)
theorem didK_part (l : List Int) (t : Tly) (h : 0 ≤ t.fr ∧ t.fr ≤ t.to) : didK l [t.who, t.fr, t.to] = tdid l t := by
  unfold didK tdid part
  have : (t.to + 1).toNat - t.fr.toNat = (t.to + 1 - t.fr).toNat := by omega
  simp only [this]
theorem part_pad (l : List Int) (who : Int) (fr n : Nat) (h : fr + n ≤ l.length) : part (pad l) who fr n = part l who fr n := by
  unfold part pad
  rw [List.drop_append_of_le_length (by omega), List.take_append_of_le_length (by simp; omega)]
theorem tdid_pad (f : Fld) (l : List Int) (t : Tly) (hl : (l.length : Int) = f.rows) (h : talOk f t = true) : tdid (pad l) t = tdid l t := by
  have := talOk_bd h
  unfold tdid
  rw [part_pad _ _ _ _ (by omega)]
/-- What the reference calls allowed, and a truth. -/
def alw (f : Fld) (l : List Int) : Bool := l.all (okWho f) && (decide ((l.length : Int) = f.rows) && inR ((part l (-1) 0 l.length : Nat) : Int) f.lo f.hi)
def tru (f : Fld) (l : List Int) : Bool := alw f l && f.ts.all fun t => inR (tdid l t) t.lo t.hi
theorem okWho_in (f : Fld) (n : Int) (hw : 1 ≤ f.wd) : okWho f n = inR n (-1) (f.wd - 1) := by
  rw [Bool.eq_iff_iff]
  simp only [okWho, Bool.or_eq_true, beq_iff_eq, inR_iff]
  omega
theorem l_IsAllowed (K : Nat) (f : Fld) (hw : 1 ≤ f.wd ∧ f.wd ≤ 3) (l : List Int) (hl : l.length ≤ 1000) : ∀ (n m i : Nat), l.length = i + n → n < m → G_IsAllowed_L2 K f l m (i : Int) = some (if (l.drop i).all (okWho f) = true then .inr () else .inl false)
  | n, 0, i, h, hm => by omega
  | 0, m + 1, i, h, hm => by
    unfold G_IsAllowed_L2
    rw [cf (df (by omega)), List.drop_eq_nil_of_le (by omega)]
    rfl
  | n + 1, m + 1, i, h, hm => by
    unfold G_IsAllowed_L2
    have hi : i < l.length := by omega
    have e : ((i : Int) + 1) = ((i + 1 : Nat) : Int) := by omega
    rw [ct (dt (by omega)), idxb hi, i64b (by omega) (by omega), bd (g_In ..), List.drop_eq_getElem_cons hi, List.all_cons, okWho_in f l[i] hw.1]
    cases h1 : inR l[i] (-1) (f.wd - 1) with
    | false => rfl
    | true =>
      rw [nt, i64b (by omega) (by omega), e, l_IsAllowed K f hw l hl n m (i + 1) (by omega) (by omega)]
      rfl
theorem g_IsAllowed {K : Nat} {f : Fld} {l : List Int} (hK : 1000 ≤ K) (hw : 1 ≤ f.wd ∧ f.wd ≤ 3) (hr : 1 ≤ f.rows ∧ f.rows ≤ 7) (hl : l.length ≤ 250) : G_IsAllowed K f l = some (alw f l) := by
  unfold G_IsAllowed alw
  have := l_IsAllowed K f hw l (by omega) l.length K 0 (by omega) (by omega)
  rw [Int.natCast_zero] at this
  rw [bd this, List.drop_zero]
  cases h1 : l.all (okWho f) with
  | false => rfl
  | true =>
    rw [if_pos rfl]
    show cond _ _ _ = _
    by_cases h2 : (l.length : Int) = f.rows
    · rw [ct (by simpa using h2), i64b (by omega) (by omega), bd (g_Did0 (n := l.length) (by omega) (by omega) (by omega) (by omega)), bd (g_In ..)]
      simp [h2]
    · rw [cf (by simpa using h2)]
      simp [h2]
theorem g_Right {K : Nat} {f : Fld} {l : List Int} {t : Tly} (hK : 1000 ≤ K) (hr : f.rows ≤ 7) (ht : talOk f t = true) (hl : (l.length : Int) = f.rows) : G_Right K l t = some (inR (tdid l t) t.lo t.hi) := by
  unfold G_Right
  have h := talOk_bd ht
  have := g_Did (K := K) (l := l) (who := t.who) (fr := t.fr.toNat) (n := (t.to + 1 - t.fr).toNat) (to := t.to) (by omega) (by omega) (by omega) (by omega)
  rw [Int.toNat_of_nonneg h.2.1.1] at this
  rw [bd this, bd (g_In ..)]
  rfl
theorem l_IsTruth {K : Nat} (hK : 1000 ≤ K) (f : Fld) (hr : f.rows ≤ 7) (ht : ∀ t ∈ f.ts, talOk f t = true) (l : List Int) (hl : (l.length : Int) = f.rows) (h5 : f.ts.length ≤ 7) : ∀ (n m i : Nat), f.ts.length = i + n → n < m → G_IsTruth_L7 K f l m (i : Int) = some (if (f.ts.drop i).all (fun t => inR (tdid l t) t.lo t.hi) = true then .inr () else .inl false)
  | n, 0, i, h, hm => by omega
  | 0, m + 1, i, h, hm => by
    unfold G_IsTruth_L7
    rw [cf (df (by omega)), List.drop_eq_nil_of_le (by omega)]
    rfl
  | n + 1, m + 1, i, h, hm => by
    unfold G_IsTruth_L7
    have hi : i < f.ts.length := by omega
    have e : ((i : Int) + 1) = ((i + 1 : Nat) : Int) := by omega
    rw [ct (dt (by omega)), idxb hi, bd (g_Right hK hr (ht _ (List.getElem_mem hi)) hl), List.drop_eq_getElem_cons hi, List.all_cons]
    cases h1 : inR (tdid l f.ts[i]) f.ts[i].lo f.ts[i].hi with
    | false => rfl
    | true =>
      rw [nt, i64b (by omega) (by omega), e, l_IsTruth hK f hr ht l hl h5 n m (i + 1) (by omega) (by omega)]
      rfl
theorem g_IsTruth {K : Nat} {f : Fld} {l : List Int} (hK : 1000 ≤ K) (hc : check f = 0) (hl : l.length ≤ 250) : G_IsTruth K f l = some (tru f l) := by
  obtain ⟨hr, hw, h5, ht, _, _⟩ := check_ok hc
  unfold G_IsTruth tru
  rw [bd (g_IsAllowed hK hw hr hl)]
  cases h1 : alw f l with
  | false => rfl
  | true =>
    have h2 : (l.length : Int) = f.rows := by
      simp only [alw, Bool.and_eq_true, decide_eq_true_eq] at h1; exact h1.2.1
    have := l_IsTruth hK f hr.2 ht l h2 (by omega) f.ts.length K 0 (by omega) (by omega)
    rw [Int.natCast_zero] at this
    rw [nt, bd this, List.drop_zero]
    cases h3 : f.ts.all (fun t => inR (tdid l t) t.lo t.hi) <;> rfl
end Go.Proofs.Ythogdgkafaclaaa
end
section
namespace Go.Proofs.Ythogdgkafaclaaa
/-- The i-th list of so many numbers. -/
def nthL (b : Int) : Nat → Int → List Int
  | 0, _ => []
  | n + 1, i => (i % b - 1) :: nthL b n (i / b)
theorem nthL_len (b : Int) : ∀ (n : Nat) (i : Int), (nthL b n i).length = n
  | 0, _ => rfl
  | n + 1, i => by simp [nthL, nthL_len b n]
theorem nthL_surj (b : Int) (hb : 1 ≤ b) : ∀ (l : List Int), (∀ x ∈ l, -1 ≤ x ∧ x ≤ b - 2) → ∃ i : Nat, (i : Int) < b ^ l.length ∧ nthL b l.length i = l
  | [], _ => ⟨0, by simp, rfl⟩
  | x :: l, h => by
    obtain ⟨i, hi, he⟩ := nthL_surj b hb l fun y hy => h y (List.mem_cons_of_mem _ hy)
    have hx := h x (List.mem_cons_self ..)
    have h0 : 0 ≤ (x + 1) + b * (i : Int) := by
      have : 0 ≤ b * (i : Int) := Int.mul_nonneg (by omega) (by omega)
      omega
    refine ⟨((x + 1) + b * (i : Int)).toNat, ?_, ?_⟩
    · have h2 : b ^ (l.length + 1) = b * b ^ l.length := by rw [Int.pow_succ, Int.mul_comm]
      rw [Int.toNat_of_nonneg h0, List.length_cons, h2]
      have h1 : b * ((i : Int) + 1) ≤ b * b ^ l.length := Int.mul_le_mul_of_nonneg_left (by omega) (by omega)
      rw [Int.mul_add, Int.mul_one] at h1
      omega
    · rw [Int.toNat_of_nonneg h0]
      simp only [List.length_cons, nthL]
      rw [Int.add_mul_emod_self_left, Int.add_mul_ediv_left _ _ (by omega), Int.emod_eq_of_lt (by omega) (by omega), Int.ediv_eq_zero_of_lt (by omega) (by omega), Int.zero_add, he]
      congr 1
      omega
theorem l_Nth (f : Fld) (hw : 1 ≤ f.wd ∧ f.wd ≤ 3) (hr : f.rows ≤ 7) : ∀ (n m i : Nat) (s : Int) (acc : List Int), f.rows = i + n → n < m → 0 ≤ s → s ≤ 1000000 → acc.length ≤ i → G_Nth_L2 f m s acc (i : Int) = some (acc ++ nthL (f.wd + 1) n s)
  | n, 0, i, s, acc, h, hm, _, _, _ => by omega
  | 0, m + 1, i, s, acc, h, hm, h0, h1, hl => by
    unfold G_Nth_L2
    rw [cf (df (by omega))]
    simp [nthL]
  | n + 1, m + 1, i, s, acc, h, hm, h0, h1, hl => by
    unfold G_Nth_L2
    have h2 : 0 ≤ s % (f.wd + 1) := Int.emod_nonneg _ (by omega)
    have h3 : s % (f.wd + 1) < f.wd + 1 := Int.emod_lt_of_pos _ (by omega)
    have h4 : 0 ≤ s / (f.wd + 1) := Int.ediv_nonneg h0 (by omega)
    have h5 : s / (f.wd + 1) ≤ s := Int.ediv_le_self _ h0
    have e : ((i : Int) + 1) = ((i + 1 : Nat) : Int) := by omega
    rw [ct (dt (by omega)), i64b (by omega) (by omega), remb h0 (by omega), i64b (by omega) (by omega), ifob (by simp; omega), i64b (by omega) (by omega), quob h0 (by omega), i64b (by omega) (by omega), i64b (by omega) (by omega), e,
      l_Nth f hw hr n m (i + 1) _ _ (by omega) (by omega) h4 (by omega) (by simp; omega)]
    simp [nthL]
theorem g_Nth {K : Nat} {f : Fld} {i : Int} (hK : 1000 ≤ K) (hc : check f = 0) (h0 : 0 ≤ i) (h1 : i ≤ 1000000) : G_Nth K f i = some (nthL (f.wd + 1) f.rows.toNat i) := by
  obtain ⟨hr, hw, _⟩ := check_ok hc
  unfold G_Nth
  have := l_Nth f hw hr.2 f.rows.toNat K 0 i [] (by omega) (by omega) h0 h1 (by simp)
  rw [Int.natCast_zero, List.nil_append] at this
  rw [bd this]
/-- The reference's truths. -/
def refs (f : Fld) : List (List Int) := ((List.range (many f).toNat).map fun i : Nat => nthL (f.wd + 1) f.rows.toNat (i : Int)).filter (tru f)
theorem l_Truths {K : Nat} (hK : 1000 ≤ K) (f : Fld) (hc : check f = 0) (hm2 : many f ≤ 250) : ∀ (n m i : Nat) (acc : List (List Int)), many f = i + n → n < m → acc.length ≤ i →
    G_Truths_L2 K f m acc (i : Int) = some (acc ++ ((List.range' i n).map fun i : Nat => nthL (f.wd + 1) f.rows.toNat (i : Int)).filter (tru f))
  | n, 0, i, acc, h, hm, _ => by omega
  | 0, m + 1, i, acc, h, hm, hl => by
    obtain ⟨hr, hw, _⟩ := check_ok hc
    unfold G_Truths_L2
    rw [bd (g_Many hK (by omega) (by omega) (by omega) (by omega)), cf (df (by omega))]
    simp
  | n + 1, m + 1, i, acc, h, hm, hl => by
    obtain ⟨hr, hw, _⟩ := check_ok hc
    unfold G_Truths_L2
    have e : ((i : Int) + 1) = ((i + 1 : Nat) : Int) := by omega
    rw [bd (g_Many hK (by omega) (by omega) (by omega) (by omega)), ct (dt (by omega)), bd (g_Nth hK hc (by omega) (by omega)), bd (g_IsTruth hK hc (by rw [nthL_len]; omega)), List.range'_succ, List.map_cons, List.filter_cons]
    cases h1 : tru f (nthL (f.wd + 1) f.rows.toNat (i : Int)) with
    | false =>
      rw [cf rfl, i64b (by omega) (by omega), e, l_Truths hK f hc hm2 n m (i + 1) acc (by omega) (by omega) (by omega)]
      rfl
    | true =>
      rw [ct rfl, ifob (by simp; omega), i64b (by omega) (by omega), e, l_Truths hK f hc hm2 n m (i + 1) _ (by omega) (by omega) (by simp; omega)]
      simp
theorem many_nn {f : Fld} (hc : check f = 0) : 0 ≤ many f := by
  obtain ⟨hr, hw, _⟩ := check_ok hc
  exact (pow_bd7 (f.wd + 1) (by omega) (by omega) f.rows.toNat (by omega)).1
theorem g_Truths {K : Nat} {f : Fld} (hK : 1000 ≤ K) (hc : check f = 0) (hm : many f ≤ 250) : G_Truths K f = some (refs f) := by
  have h0 := many_nn hc
  unfold G_Truths
  have := l_Truths hK f hc hm (many f).toNat K 0 [] (by omega) (by omega) (by simp)
  rw [Int.natCast_zero, List.nil_append] at this
  rw [bd this]
  unfold refs
  rw [List.range_eq_range']
theorem tru_alw {f : Fld} {l : List Int} (h : tru f l = true) : (∀ x ∈ l, okWho f x = true) ∧ (l.length : Int) = f.rows ∧ inR ((part l (-1) 0 l.length : Nat) : Int) f.lo f.hi = true := by
  simp only [tru, alw, Bool.and_eq_true, decide_eq_true_eq, List.all_eq_true] at h
  exact ⟨h.1.1, h.1.2.1, h.1.2.2⟩
theorem mem_refs {f : Fld} (hc : check f = 0) {l : List Int} : l ∈ refs f ↔ tru f l = true := by
  obtain ⟨hr, hw, _⟩ := check_ok hc
  unfold refs
  rw [List.mem_filter]
  constructor
  · exact fun h => h.2
  · intro h
    refine ⟨?_, h⟩
    obtain ⟨h1, h2, _⟩ := tru_alw h
    obtain ⟨i, hi, he⟩ := nthL_surj (f.wd + 1) (by omega) l fun x hx => by
      have := h1 x hx
      rw [okWho_in f x hw.1, inR_iff] at this
      omega
    have hl : f.rows.toNat = l.length := by omega
    rw [List.mem_map]
    refine ⟨i, ?_, by rw [hl]; exact he⟩
    have h0 := many_nn hc
    have hm : many f = (f.wd + 1) ^ l.length := by unfold many; rw [hl]
    rw [List.mem_range]
    omega
theorem refs_len (f : Fld) (hc : check f = 0) : ((refs f).length : Int) ≤ many f := by
  have h0 := many_nn hc
  have h1 : (refs f).length ≤ (many f).toNat := by
    unfold refs
    refine Nat.le_trans (List.length_filter_le _ _) ?_
    simp
  omega
theorem mem_whos {wd x : Int} (hw : 0 ≤ wd) : x ∈ whos wd ↔ -1 ≤ x ∧ x ≤ wd - 1 := by
  simp only [whos, List.mem_map, List.mem_range]
  constructor
  · rintro ⟨j, hj, rfl⟩; omega
  · intro h; exact ⟨(x + 1).toNat, by omega, by omega⟩
theorem mem_enum (p : List Int → Bool) (wd : Int) : ∀ (k : Nat) (pre a : List Int), a ∈ enum p wd k pre ↔ ∃ t : List Int, t.length = k ∧ (∀ x ∈ t, x ∈ whos wd) ∧ p (pad (pre ++ t)) = true ∧ a = pad (pre ++ t)
  | 0, pre, a => by
    unfold enum
    constructor
    · intro h
      split at h
      · rename_i hp
        exact ⟨[], rfl, by simp, by simpa using hp, by simpa using h⟩
      · cases h
    · rintro ⟨t, ht, _, hp, rfl⟩
      obtain rfl := List.length_eq_zero_iff.1 ht
      rw [List.append_nil] at hp ⊢
      rw [if_pos hp]; simp
  | k + 1, pre, a => by
    simp only [enum, List.mem_flatMap]
    constructor
    · rintro ⟨x, hx, h⟩
      obtain ⟨t, h1, h2, h3, h4⟩ := (mem_enum p wd k _ a).1 h
      rw [List.append_assoc, List.singleton_append] at h3 h4
      exact ⟨x :: t, by simp [h1], by simpa using ⟨hx, h2⟩, h3, h4⟩
    · rintro ⟨t, h1, h2, h3, h4⟩
      cases t with
      | nil => simp at h1
      | cons x t =>
        refine ⟨x, h2 x (List.mem_cons_self ..), (mem_enum p wd k _ a).2 ⟨t, by simpa using h1, fun y hy => h2 y (List.mem_cons_of_mem _ hy), ?_, ?_⟩⟩
        · rw [List.append_assoc, List.singleton_append]; exact h3
        · rw [List.append_assoc, List.singleton_append]; exact h4
theorem all_congr {α : Type} {p q : α → Bool} : ∀ {l : List α}, (∀ x ∈ l, p x = q x) → l.all p = l.all q
  | [], _ => rfl
  | a :: l, h => by rw [List.all_cons, List.all_cons, h a (List.mem_cons_self ..), all_congr fun x hx => h x (List.mem_cons_of_mem _ hx)]
theorem right_tru {f : Fld} {l : List Int} (ht : ∀ t ∈ f.ts, talOk f t = true) (hl : (l.length : Int) = f.rows) : rightB f (pad l) [] = (f.ts.all (fun t => inR (tdid l t) t.lo t.hi) && inR ((part l (-1) 0 l.length : Nat) : Int) f.lo f.hi) := by
  unfold rightB
  rw [allAt_nil]
  congr 1
  · refine all_congr fun t h => ?_
    have h1 := talOk_bd (ht t h)
    rw [didK_part _ _ ⟨h1.2.1.1, h1.2.1.2.1⟩, tdid_pad f l t hl (ht t h)]
  · have h2 : f.rows.toNat = l.length := by omega
    have h3 : (pad l).take f.rows.toNat = l.take l.length := by
      unfold pad; rw [h2, List.take_append_of_le_length (Nat.le_refl _)]
    rw [h3]
    unfold part
    rw [List.drop_zero]
theorem mem_truths {f : Fld} (hc : check f = 0) {a : List Int} : a ∈ truths f [] ↔ ∃ l, l ∈ refs f ∧ a = pad l := by
  obtain ⟨hr, hw, _, ht, _⟩ := check_ok hc
  unfold truths
  rw [mem_enum]
  constructor
  · rintro ⟨t, h1, h2, h3, h4⟩
    rw [List.nil_append] at h3 h4
    refine ⟨t, (mem_refs hc).2 ?_, h4⟩
    have hl : (t.length : Int) = f.rows := by omega
    have h3' : rightB f (pad t) [] = true := h3
    rw [right_tru ht hl, Bool.and_eq_true] at h3'
    have h5 : t.all (okWho f) = true := by
      rw [List.all_eq_true]
      intro x hx
      rw [okWho_in f x hw.1, inR_iff]
      have := (mem_whos (by omega)).1 (h2 x hx)
      omega
    unfold tru alw
    rw [h5, h3'.1, h3'.2]
    simp [hl]
  · rintro ⟨l, h, rfl⟩
    have h1 := (mem_refs hc).1 h
    obtain ⟨h2, h3, h4⟩ := tru_alw h1
    refine ⟨l, by omega, fun x hx => ?_, ?_, by simp⟩
    · rw [mem_whos (by omega)]
      have := h2 x hx
      rw [okWho_in f x hw.1, inR_iff] at this
      omega
    · rw [List.nil_append]
      show rightB f (pad l) [] = true
      rw [right_tru ht h3, h4]
      simp only [tru, Bool.and_eq_true] at h1
      rw [h1.2]; rfl
theorem truths_nil {f : Fld} (hc : check f = 0) : truths f [] = [] ↔ refs f = [] := by
  constructor
  · intro h
    rw [List.eq_nil_iff_forall_not_mem] at h ⊢
    exact fun l hl => h (pad l) ((mem_truths hc).2 ⟨l, hl, rfl⟩)
  · intro h
    rw [List.eq_nil_iff_forall_not_mem] at h ⊢
    rintro a ha
    obtain ⟨l, hl, _⟩ := (mem_truths hc).1 ha
    exact h l hl
/-- The error that comes with a question. -/
def sureE (f : Fld) : Int := if check f ≠ 0 then check f else if refs f = [] then 11 else 0
theorem g_sure {K : Nat} {f : Fld} (hK : 1000 ≤ K) (ht : thin f = true) : G_sure K f = some (if sureE f = 0 then refs f else [], sureE f) := by
  unfold G_sure
  rw [bd (g_fault hK)]
  by_cases hc : check f = 0
  · rw [cf (by simp [hc]), bd (g_Truths hK hc (thin_many ht hc))]
    by_cases h : refs f = []
    · have hs : sureE f = 11 := by unfold sureE; rw [if_neg (by simp [hc]), if_pos h]
      rw [ct (by simp [h]), hs]; rfl
    · have hs : sureE f = 0 := by unfold sureE; rw [if_neg (by simp [hc]), if_neg h]
      rw [cf (by simp [h]), hs]; rfl
  · have hs : sureE f = check f := by unfold sureE; rw [if_pos hc]
    rw [ct (by simp [hc]), hs, if_neg hc]
theorem askE_true (f : Fld) : askE f true = sureE f := by
  unfold askE sureE
  by_cases hc : check f = 0
  · simp only [hc, ne_eq, not_true_eq_false, if_false]
    by_cases h : refs f = []
    · rw [if_neg (by decide), if_pos h, if_pos ((truths_nil hc).2 h)]
    · rw [if_neg (by decide), if_neg h, if_neg (fun e => h ((truths_nil hc).1 e))]
  · rw [if_pos hc, if_pos hc]
theorem cntr_pad {f : Fld} {l : List Int} {who : Int} (hl : (l.length : Int) = f.rows) : cntr f (pad l) who = (part l who 0 l.length : Nat) := by
  unfold cntr part pad
  have h2 : f.rows.toNat = l.length := by omega
  rw [h2, List.take_append_of_le_length (Nat.le_refl _), List.drop_zero]
/-- A least and a greatest number, from a first one on. -/
theorem foldl_mm (g : List Int → Int) : ∀ (T : List (List Int)) (r : Int × Int),
    (T.foldl (fun r a => (min r.1 (g a), max r.2 (g a))) r).1 ≤ r.1 ∧ r.2 ≤ (T.foldl (fun r a => (min r.1 (g a), max r.2 (g a))) r).2 ∧
    (∀ a ∈ T, (T.foldl (fun r a => (min r.1 (g a), max r.2 (g a))) r).1 ≤ g a ∧ g a ≤ (T.foldl (fun r a => (min r.1 (g a), max r.2 (g a))) r).2) ∧
    ((T.foldl (fun r a => (min r.1 (g a), max r.2 (g a))) r).1 = r.1 ∨ ∃ a ∈ T, (T.foldl (fun r a => (min r.1 (g a), max r.2 (g a))) r).1 = g a) ∧
    ((T.foldl (fun r a => (min r.1 (g a), max r.2 (g a))) r).2 = r.2 ∨ ∃ a ∈ T, (T.foldl (fun r a => (min r.1 (g a), max r.2 (g a))) r).2 = g a)
  | [], r => ⟨Int.le_refl _, Int.le_refl _, by simp, .inl rfl, .inl rfl⟩
  | b :: T, r => by
    obtain ⟨h1, h2, h3, h4, h5⟩ := foldl_mm g T (min r.1 (g b), max r.2 (g b))
    rw [List.foldl_cons]
    simp only [] at h1 h2 h3 h4 h5
    refine ⟨by clear h4 h5; omega, by clear h4 h5; omega, ?_, ?_, ?_⟩
    · clear h4 h5
      intro a ha
      rcases List.mem_cons.1 ha with rfl | ha
      · exact ⟨by omega, by omega⟩
      · exact h3 a ha
    · clear h5
      rcases h4 with h4 | ⟨a, ha, h4⟩
      · by_cases h : r.1 ≤ g b
        · exact .inl (by omega)
        · exact .inr ⟨b, List.mem_cons_self .., by omega⟩
      · exact .inr ⟨a, List.mem_cons_of_mem _ ha, h4⟩
    · clear h4
      rcases h5 with h5 | ⟨a, ha, h5⟩
      · by_cases h : g b ≤ r.2
        · exact .inl (by omega)
        · exact .inr ⟨b, List.mem_cons_self .., by omega⟩
      · exact .inr ⟨a, List.mem_cons_of_mem _ ha, h5⟩
/-- The reference's bounds. -/
def didB (T : List (List Int)) (who : Int) : Int × Int := T.foldl (fun (r : Int × Int) (a : List Int) => (min r.1 (part a who 0 a.length : Nat), max r.2 (part a who 0 a.length : Nat))) (1099511627776, -1099511627776)
theorem l_Done {K : Nat} (hK : 1000 ≤ K) (T : List (List Int)) (who : Int) (hT : ∀ a ∈ T, a.length ≤ 7) (hl : T.length ≤ 250) : ∀ (n m i : Nat) (x y : Int), T.length = i + n → n < m →
    G_Done_L6 K T who m (i : Int) x y = some ((T.drop i).foldl (fun (r : Int × Int) (a : List Int) => (min r.1 (part a who 0 a.length : Nat), max r.2 (part a who 0 a.length : Nat))) (x, y))
  | n, 0, i, x, y, h, hm => by omega
  | 0, m + 1, i, x, y, h, hm => by
    unfold G_Done_L6
    rw [cf (df (by omega)), List.drop_eq_nil_of_le (by omega)]
    rfl
  | n + 1, m + 1, i, x, y, h, hm => by
    unfold G_Done_L6
    have hi : i < T.length := by omega
    have e : ((i : Int) + 1) = ((i + 1 : Nat) : Int) := by omega
    have h7 := hT _ (List.getElem_mem hi)
    rw [ct (dt (by omega)), idxb hi, idxb hi, i64b (by omega) (by omega), bd (g_Did0 (n := T[i].length) (by omega) (by omega) (by omega) (by omega))]
    show (some _).bind _ = _
    rw [Option.bind_some, i64b (by omega) (by omega), e, l_Done hK T who hT hl n m (i + 1) _ _ (by omega) (by omega), List.drop_eq_getElem_cons hi, List.foldl_cons]
theorem g_Done {K : Nat} (hK : 1000 ≤ K) {T : List (List Int)} {who : Int} (hT : ∀ a ∈ T, a.length ≤ 7) (hl : T.length ≤ 250) : G_Done K T who = some (didB T who) := by
  unfold G_Done
  show (some _).bind _ = _
  have := l_Done hK T who hT hl T.length K 0 1099511627776 (-1099511627776) (by omega) (by omega)
  rw [Int.natCast_zero, List.drop_zero] at this
  rw [Option.bind_some, bd this]
  rfl
end Go.Proofs.Ythogdgkafaclaaa
end
section
namespace Go.Proofs.Ythogdgkafaclaaa
theorem sorted_ext : ∀ {l m : List Int}, l.Pairwise (· < ·) → m.Pairwise (· < ·) → (∀ x, x ∈ l ↔ x ∈ m) → l = m
  | [], [], _, _, _ => rfl
  | [], b :: m, _, _, h => by have := (h b).2 (List.mem_cons_self ..); cases this
  | a :: l, [], _, _, h => by have := (h a).1 (List.mem_cons_self ..); cases this
  | a :: l, b :: m, h1, h2, h => by
    rw [List.pairwise_cons] at h1 h2
    have hab : a = b := by
      rcases List.mem_cons.1 ((h a).1 (List.mem_cons_self ..)) with e | e
      · exact e
      · rcases List.mem_cons.1 ((h b).2 (List.mem_cons_self ..)) with e2 | e2
        · exact e2.symm
        · have := h1.1 b e2; have := h2.1 a e; omega
    subst hab
    congr 1
    refine sorted_ext h1.2 h2.2 fun x => ⟨fun hx => ?_, fun hx => ?_⟩
    · rcases List.mem_cons.1 ((h x).1 (List.mem_cons_of_mem _ hx)) with e | e
      · have := h1.1 x hx; omega
      · exact e
    · rcases List.mem_cons.1 ((h x).2 (List.mem_cons_of_mem _ hx)) with e | e
      · have := h2.1 x hx; omega
      · exact e
theorem getI {zs : List Int} {m : Nat} (h : m < zs.length) : zs.toArray[m]! = zs[m] := by
  rw [getElem!_pos zs.toArray m (by simpa using h)]; simp
theorem compact_inv {zs : List Int} (hs : zs.Pairwise (· ≤ ·)) : ∀ m, m ≤ zs.length → (Lib.compactUpTo zs.toArray m).Pairwise (· < ·) ∧ ∀ x, x ∈ Lib.compactUpTo zs.toArray m ↔ x ∈ zs.take m
  | 0, _ => by simp [Lib.compactUpTo]
  | m + 1, h => by
    obtain ⟨h1, h2⟩ := compact_inv hs m (by omega)
    have hm : m < zs.length := by omega
    rw [Lib.compactUpTo_succ, List.take_succ_eq_append_getElem hm, getI hm]
    have hle : ∀ x ∈ zs.take m, x ≤ zs[m] := fun x hx => by
      obtain ⟨i, hi, rfl⟩ := List.mem_iff_getElem.1 hx
      rw [List.getElem_take]
      simp at hi
      exact (List.pairwise_iff_getElem.1 hs) i m _ hm (by omega)
    by_cases hk : Lib.keeps zs.toArray m = true
    · rw [if_pos hk]
      refine ⟨?_, fun x => by rw [List.mem_append, List.mem_append, h2]⟩
      rw [List.pairwise_append]
      refine ⟨h1, by simp, fun x hx y hy => ?_⟩
      obtain rfl : y = zs[m] := by simpa using hy
      have hx2 := (h2 x).1 hx
      have hx3 := hle x hx2
      simp only [Lib.keeps, decide_eq_true_eq] at hk
      rcases hk with rfl | hk
      · simp at hx2
      · have hm1 : 0 < m := by
          rcases Nat.eq_zero_or_pos m with rfl | h0
          · simp at hx2
          · exact h0
        rw [getI hm, getI (by omega : m - 1 < zs.length)] at hk
        obtain ⟨i, hi, rfl⟩ := List.mem_iff_getElem.1 hx2
        rw [List.getElem_take] at hx3 ⊢
        simp at hi
        have h5 : zs[m - 1] ≤ zs[m] := (List.pairwise_iff_getElem.1 hs) (m - 1) m _ hm (by omega)
        have h4 : zs[i] ≤ zs[m - 1] := by
          by_cases e : i = m - 1
          · subst e; exact Int.le_refl _
          · exact (List.pairwise_iff_getElem.1 hs) i (m - 1) _ _ (by omega)
        have h6 : zs[m] ≠ zs[m - 1] := hk
        show zs[i] < zs[m]
        omega
    · rw [if_neg hk, List.append_nil]
      refine ⟨h1, fun x => ?_⟩
      rw [h2]
      have hk2 : ¬ (m = 0 ∨ zs.toArray[m]! ≠ zs.toArray[m - 1]!) := by simpa [Lib.keeps] using hk
      have hm1 : 0 < m := by
        rcases Nat.eq_zero_or_pos m with rfl | h0
        · exact absurd (.inl rfl) hk2
        · exact h0
      have he : zs.toArray[m]! = zs.toArray[m - 1]! := Decidable.byContradiction fun e => hk2 (.inr e)
      rw [getI hm, getI (by omega : m - 1 < zs.length)] at he
      have hin : zs[m] ∈ zs.take m := by
        rw [he, List.mem_iff_getElem]
        exact ⟨m - 1, by simp; omega, by simp⟩
      simp only [List.mem_append, List.mem_singleton]
      exact ⟨.inl, fun h => h.elim id fun e => e ▸ hin⟩
theorem whos_sorted (wd : Int) : (whos wd).Pairwise (· < ·) := by
  unfold whos
  rw [List.pairwise_map]
  exact List.pairwise_lt_range.imp fun h => by omega
/-- Who stands in a row of some lists. -/
def whoS (wd : Int) (T : List (List Int)) (row : Nat) : List Int := (whos wd).filter fun x => T.any fun a => a.getD row 0 == x
theorem whoF_eq {wd : Int} {T : List (List Int)} {row : Int} (hw : 0 ≤ wd) (hb : ∀ a ∈ T, -1 ≤ a.getD row.toNat 0 ∧ a.getD row.toNat 0 ≤ wd - 1) : whoF T row = whoS wd T row.toNat := by
  unfold whoF
  have hs : ((T.map fun a : List Int => a.getD row.toNat 0).mergeSort fun x y => decide (x ≤ y)).Pairwise (· ≤ ·) := by
    have := List.pairwise_mergeSort (le := fun x y : Int => decide (x ≤ y)) (fun a b c h1 h2 => by simp at *; omega) (fun a b => by simp; omega) (T.map fun a : List Int => a.getD row.toNat 0)
    exact this.imp fun h => by simpa using h
  obtain ⟨h1, h2⟩ := compact_inv hs _ (Nat.le_refl _)
  refine sorted_ext h1 ((whos_sorted wd).filter _) fun x => ?_
  rw [show Lib.compact ((T.map fun a : List Int => a.getD row.toNat 0).mergeSort fun x y => decide (x ≤ y)) = Lib.compactUpTo ((T.map fun a : List Int => a.getD row.toNat 0).mergeSort fun x y => decide (x ≤ y)).toArray ((T.map fun a : List Int => a.getD row.toNat 0).mergeSort fun x y => decide (x ≤ y)).length from rfl, h2, List.take_length, List.mem_mergeSort]
  unfold whoS
  simp only [List.mem_map, List.mem_filter, mem_whos hw, List.any_eq_true, beq_iff_eq]
  constructor
  · rintro ⟨a, ha, rfl⟩; exact ⟨hb a ha, a, ha, rfl⟩
  · rintro ⟨_, a, ha, e⟩; exact ⟨a, ha, e⟩
def f4 : Fld := ⟨4, 2, 0, 0, [⟨0, 0, 2, 2, 3⟩, ⟨1, 2, 3, 1, 2⟩]⟩
def f5 : Fld := ⟨4, 2, 0, 0, [⟨0, 0, 2, 2, 3⟩, ⟨1, 2, 3, 1, 2⟩, ⟨0, 0, 1, 2, 2⟩]⟩
def f6 : Fld := ⟨4, 2, 0, 0, [⟨0, 0, 2, 2, 3⟩, ⟨1, 2, 3, 1, 2⟩, ⟨1, 0, 1, 2, 2⟩]⟩
theorem who4 : whoF (truths f4 []) 3 = [0, 1] := by
  rw [whoF_eq (wd := 2) (by omega) (by decide +kernel)]
  decide +kernel
theorem awake_1000 : G_awake 1000 = some true := by
  unfold G_awake
  rw [bd (show G_four 1000 [] = some f4 from rfl), bd (show Q_Done 1000 f4 = some ([(2, 3), (1, 2)], 0) by decide +kernel), bd (show G_four 1000 [] = some f4 from rfl)]
  rw [bd (show Q_Who 1000 f4 3 = some ([0, 1], 0) by unfold Q_Who; rw [who4]; decide +kernel)]
  rw [bd (show G_two 1000 = some ⟨0, 0, 1, 2, 2⟩ from rfl), bd (show G_four 1000 [⟨0, 0, 1, 2, 2⟩] = some f5 from rfl), bd (show Q_Ask 1000 f5 0 = some ([2, 3], 0) by decide +kernel), bd (show G_four 1000 [] = some f4 from rfl)]
  rw [bd (show Q_Next 1000 f4 0 = some (0, 3, 0) by decide +kernel), bd (show G_wrong 1000 = some ⟨1, 0, 1, 2, 2⟩ from rfl), bd (show G_four 1000 [⟨1, 0, 1, 2, 2⟩] = some f6 from rfl), bd (show Q_First 1000 f6 = some (2, 0) by decide +kernel)]
  rw [bd (show G_wrong 1000 = some ⟨1, 0, 1, 2, 2⟩ from rfl), bd (show G_four 1000 [⟨1, 0, 1, 2, 2⟩] = some f6 from rfl), bd (show Q_Leave 1000 f6 = some ([0], 0) by decide +kernel)]
  decide +kernel
end Go.Proofs.Ythogdgkafaclaaa
end
section
namespace Go.Proofs.Ythogdgkafaclaaa
theorem l_Who5 (T : List (List Int)) (row : Nat) (s : Int) (hT : ∀ a ∈ T, row < a.length) (hl : T.length ≤ 250) : ∀ (n m i : Nat) (b : Bool), T.length = i + n → n < m → G_Who_L5 T (row : Int) s m b (i : Int) = some (b || (T.drop i).any fun a => a.getD row 0 == s)
  | n, 0, i, b, h, hm => by omega
  | 0, m + 1, i, b, h, hm => by
    unfold G_Who_L5
    rw [cf (df (by omega)), List.drop_eq_nil_of_le (by omega)]
    simp
  | n + 1, m + 1, i, b, h, hm => by
    unfold G_Who_L5
    have hi : i < T.length := by omega
    have e : ((i : Int) + 1) = ((i + 1 : Nat) : Int) := by omega
    have hr := hT _ (List.getElem_mem hi)
    rw [ct (dt (by omega))]
    cases b with
    | true => rw [ct rfl, i64b (by omega) (by omega), e, l_Who5 T row s hT hl n m (i + 1) true (by omega) (by omega)]; rfl
    | false =>
      rw [cf rfl, idxb hi, idxb hr, i64b (by omega) (by omega), e, l_Who5 T row s hT hl n m (i + 1) _ (by omega) (by omega), List.drop_eq_getElem_cons hi, List.any_cons]
      have hg : T[i].getD row 0 = T[i][row] := by simp [List.getElem?_eq_getElem hr]
      rw [hg, Bool.false_or]
theorem l_Who2 {K : Nat} (hK : 1000 ≤ K) (f : Fld) (hw : 1 ≤ f.wd ∧ f.wd ≤ 3) (T : List (List Int)) (row : Nat) (hT : ∀ a ∈ T, row < a.length) (hl : T.length ≤ 250) : ∀ (n m i : Nat) (acc : List Int), f.wd + 1 = i + n → n < m → acc.length ≤ i →
    G_Who_L2 K f T (row : Int) m acc ((i : Int) - 1) = some (acc ++ ((List.range' i n).map fun j : Nat => (j : Int) - 1).filter fun x => T.any fun a => a.getD row 0 == x)
  | n, 0, i, acc, h, hm, _ => by omega
  | 0, m + 1, i, acc, h, hm, ha => by
    unfold G_Who_L2
    rw [cf (df (by omega))]
    simp
  | n + 1, m + 1, i, acc, h, hm, ha => by
    unfold G_Who_L2
    have e : ((i : Int) - 1 + 1) = ((i + 1 : Nat) : Int) - 1 := by omega
    have h5 := l_Who5 T row ((i : Int) - 1) hT hl T.length K 0 false (by omega) (by omega)
    rw [Int.natCast_zero, List.drop_zero, Bool.false_or] at h5
    rw [ct (dt (by omega)), bd h5, List.range'_succ, List.map_cons, List.filter_cons]
    cases hb : T.any (fun a => a.getD row 0 == (i : Int) - 1) with
    | true =>
      rw [ct rfl, ifob (by simp; omega), i64b (by omega) (by omega), e, l_Who2 hK f hw T row hT hl n m (i + 1) _ (by omega) (by omega) (by simp; omega)]
      simp
    | false =>
      rw [cf rfl, i64b (by omega) (by omega), e, l_Who2 hK f hw T row hT hl n m (i + 1) _ (by omega) (by omega) (by omega)]
      simp
theorem g_Who {K : Nat} (hK : 1000 ≤ K) {f : Fld} (hw : 1 ≤ f.wd ∧ f.wd ≤ 3) {T : List (List Int)} {row : Nat} (hT : ∀ a ∈ T, row < a.length) (hl : T.length ≤ 250) : G_Who K f T (row : Int) = some (whoS f.wd T row) := by
  unfold G_Who
  have := l_Who2 hK f hw T row hT hl (f.wd + 1).toNat K 0 [] (by omega) (by omega) (by simp)
  rw [Int.natCast_zero, Int.zero_sub, List.nil_append] at this
  rw [bd this]
  unfold whoS whos
  rw [List.range_eq_range']
theorem sureE_ok {f : Fld} (h : sureE f = 0) : check f = 0 ∧ refs f ≠ [] := by
  unfold sureE at h
  split at h
  · exact absurd h ‹_›
  · rename_i hc
    have hc : check f = 0 := Decidable.byContradiction hc
    refine ⟨hc, fun e => ?_⟩
    rw [if_pos e] at h
    cases h
theorem askE_eq (f : Fld) (b : Bool) : askE f b = if check f = 0 ∧ b = false then 2 else sureE f := by
  cases b with
  | true => rw [askE_true, if_neg (by simp)]
  | false =>
    unfold askE sureE
    by_cases hc : check f = 0
    · rw [if_neg (by simp [hc]), if_pos rfl, if_pos ⟨hc, rfl⟩]
    · rw [if_pos hc, if_neg (by simp [hc]), if_pos hc]
theorem sureE_bad {f : Fld} (h : check f ≠ 0) : sureE f = check f := by unfold sureE; rw [if_pos h]
end Go.Proofs.Ythogdgkafaclaaa
end
section
namespace Go.Proofs.Ythogdgkafaclaaa
theorem gd0 {l : List Int} {i : Nat} (h : i < l.length) : l[i] = l.getD i 0 := by simp [List.getElem?_eq_getElem h]
end Go.Proofs.Ythogdgkafaclaaa
end
section
namespace Go.Proofs.Ythogdgkafaclaaa
/-- By so many questions c can be known of what is in S; g says what is answered. -/
def Qn (c : List Int → Int) (g : List Int → Nat → Int) (R : Nat) : Nat → (List Int → Prop) → Prop
  | 0, S => ∀ a b, S a → S b → c a = c b
  | m + 1, S => (∀ a b, S a → S b → c a = c b) ∨ ∃ r, r < R ∧ ∀ v, Qn c g R m (fun a => S a ∧ g a r = v)
theorem Qn_rel {c c' : List Int → Int} {g g' : List Int → Nat → Int} {R : Nat} : ∀ (m : Nat) (S S' : List Int → Prop), (∀ a', S' a' → ∃ a, S a ∧ c a = c' a' ∧ ∀ r, r < R → g a r = g' a' r) → Qn c g R m S → Qn c' g' R m S'
  | 0, S, S', h, hq => fun a' b' ha hb => by
    obtain ⟨a, h1, h2, _⟩ := h a' ha
    obtain ⟨b, h3, h4, _⟩ := h b' hb
    rw [← h2, ← h4]; exact hq a b h1 h3
  | m + 1, S, S', h, hq => by
    rcases hq with hq | ⟨r, hr, hq⟩
    · left
      intro a' b' ha hb
      obtain ⟨a, h1, h2, _⟩ := h a' ha
      obtain ⟨b, h3, h4, _⟩ := h b' hb
      rw [← h2, ← h4]; exact hq a b h1 h3
    · right
      refine ⟨r, hr, fun v => Qn_rel m _ _ ?_ (hq v)⟩
      rintro a' ⟨ha, hv⟩
      obtain ⟨a, h1, h2, h3⟩ := h a' ha
      exact ⟨a, ⟨h1, by rw [h3 r hr]; exact hv⟩, h2, h3⟩
section
variable {c : List Int → Int} {g : List Int → Nat → Int} {R : Nat} {S S' : List Int → Prop}
theorem Qn_sub {m : Nat} (h : ∀ a, S' a → S a) (hq : Qn c g R m S) : Qn c g R m S' := Qn_rel m S S' (fun a ha => ⟨a, h a ha, rfl, fun _ _ => rfl⟩) hq
theorem Qn_stl {m : Nat} (h : ∀ a b, S a → S b → c a = c b) : Qn c g R m S := by
  cases m with
  | zero => exact h
  | succ m => exact .inl h
theorem Qn_succ : ∀ (m : Nat) (S : List Int → Prop), Qn c g R m S → Qn c g R (m + 1) S
  | 0, S, h => .inl h
  | m + 1, S, h => by
    rcases h with h | ⟨r, hr, h⟩
    · exact .inl h
    · exact .inr ⟨r, hr, fun v => Qn_succ m _ (h v)⟩
theorem Qn_mono {m m' : Nat} (hm : m ≤ m') (h : Qn c g R m S) : Qn c g R m' S := by
  induction hm with
  | refl => exact h
  | step _ ih => exact Qn_succ _ _ ih
theorem Qn_all (hc : ∀ a b, S a → S b → (∀ r, r < R → g a r = g b r) → c a = c b) : Qn c g R R S := by
  have key : ∀ (k : Nat), k ≤ R → ∀ (S : List Int → Prop), (∀ a b, S a → S b → (∀ r, r < R → g a r = g b r) → c a = c b) → (∀ a b, S a → S b → ∀ r, k ≤ r → r < R → g a r = g b r) → Qn c g R k S := by
    intro k
    induction k with
    | zero => exact fun _ S h1 h2 a b ha hb => h1 a b ha hb fun r hr => h2 a b ha hb r (Nat.zero_le _) hr
    | succ k ih =>
      intro hk S h1 h2
      refine .inr ⟨k, by omega, fun v => ih (by omega) _ (fun a b ha hb => h1 a b ha.1 hb.1) fun a b ha hb r hr1 hr2 => ?_⟩
      rcases Nat.lt_or_ge k r with h | h
      · exact h2 a b ha.1 hb.1 r h hr2
      · obtain rfl : r = k := by omega
        rw [ha.2, hb.2]
  exact key R (Nat.le_refl _) S hc fun a b _ _ r h1 h2 => by omega
/-- The fewest questions. -/
def IsV (c : List Int → Int) (g : List Int → Nat → Int) (R : Nat) (S : List Int → Prop) (m : Nat) : Prop := Qn c g R m S ∧ ∀ m', Qn c g R m' S → m ≤ m'
theorem isV_some {n : Nat} (h : Qn c g R n S) : ∃ m, m ≤ n ∧ IsV c g R S m := by
  induction n with
  | zero => exact ⟨0, Nat.le_refl _, h, fun _ _ => Nat.zero_le _⟩
  | succ n ih =>
    by_cases h2 : Qn c g R n S
    · obtain ⟨m, h3, h4⟩ := ih h2
      exact ⟨m, by omega, h4⟩
    · refine ⟨n + 1, Nat.le_refl _, h, fun m' h3 => ?_⟩
      rcases Nat.lt_or_ge n m' with h4 | h4
      · exact h4
      · exact absurd (Qn_mono h4 h3) h2
theorem isV_unique {m m' : Nat} (h : IsV c g R S m) (h' : IsV c g R S m') : m = m' := Nat.le_antisymm (h.2 _ h'.1) (h'.2 _ h.1)
/-- The first row by which so many questions are left. -/
def Best (c : List Int → Int) (g : List Int → Nat → Int) (R : Nat) (S : List Int → Prop) (m r : Nat) : Prop :=
  r < R ∧ (∀ v, Qn c g R m (fun a => S a ∧ g a r = v)) ∧ ∀ r', r' < r → ¬ ∀ v, Qn c g R m (fun a => S a ∧ g a r' = v)
theorem best_unique {m r r' : Nat} (h : Best c g R S m r) (h' : Best c g R S m r') : r = r' := by
  rcases Nat.lt_trichotomy r r' with h1 | h1 | h1
  · exact absurd h.2.1 (h'.2.2 r h1)
  · exact h1
  · exact absurd h'.2.1 (h.2.2 r' h1)
/-- What is answered: a row, or -1, and how many questions. -/
def Ans (c : List Int → Int) (g : List Int → Nat → Int) (R : Nat) (S : List Int → Prop) (x : Int × Int) : Prop :=
  ∃ m, IsV c g R S m ∧ x.2 = m ∧ ((m = 0 ∧ x.1 = -1) ∨ ∃ m' r : Nat, m = m' + 1 ∧ Best c g R S m' r ∧ x.1 = r)
theorem ans_unique {x y : Int × Int} (h : Ans c g R S x) (h' : Ans c g R S y) : x = y := by
  obtain ⟨m, h1, h2, h3⟩ := h
  obtain ⟨m', h1', h2', h3'⟩ := h'
  obtain rfl := isV_unique h1 h1'
  refine Prod.ext ?_ (h2.trans h2'.symm)
  rcases h3 with ⟨h4, h5⟩ | ⟨k, r, h4, h5, h6⟩ <;> rcases h3' with ⟨h4', h5'⟩ | ⟨k', r', h4', h5', h6'⟩
  · rw [h5, h5']
  · omega
  · omega
  · obtain rfl : k = k' := by omega
    obtain rfl := best_unique h5 h5'
    rw [h6, h6']
theorem isV_stl (h : ∀ a b, S a → S b → c a = c b) : IsV c g R S 0 := ⟨h, fun _ _ => Nat.zero_le _⟩
theorem ans_stl (h : ∀ a b, S a → S b → c a = c b) : Ans c g R S (-1, 0) := ⟨0, isV_stl h, rfl, .inl ⟨rfl, rfl⟩⟩
theorem isV_pos {m : Nat} (h : IsV c g R S (m + 1)) : ∃ r, r < R ∧ ∀ v, Qn c g R m (fun a => S a ∧ g a r = v) := by
  rcases h.1 with h1 | h1
  · have := h.2 0 h1; omega
  · exact h1
theorem isV_rel {c' : List Int → Int} {g' : List Int → Nat → Int} {m : Nat} (h1 : ∀ a', S' a' → ∃ a, S a ∧ c a = c' a' ∧ ∀ r, r < R → g a r = g' a' r) (h2 : ∀ a, S a → ∃ a', S' a' ∧ c' a' = c a ∧ ∀ r, r < R → g' a' r = g a r) (h : IsV c g R S m) : IsV c' g' R S' m :=
  ⟨Qn_rel m _ _ h1 h.1, fun m' hm => h.2 m' (Qn_rel m' _ _ h2 hm)⟩
theorem ans_rel {c' : List Int → Int} {g' : List Int → Nat → Int} {x : Int × Int} (h1 : ∀ a', S' a' → ∃ a, S a ∧ c a = c' a' ∧ ∀ r, r < R → g a r = g' a' r) (h2 : ∀ a, S a → ∃ a', S' a' ∧ c' a' = c a ∧ ∀ r, r < R → g' a' r = g a r) (h : Ans c g R S x) : Ans c' g' R S' x := by
  obtain ⟨m, h3, h4, h5⟩ := h
  have key : ∀ r, r < R → ∀ k, (∀ v, Qn c g R k (fun a => S a ∧ g a r = v)) ↔ (∀ v, Qn c' g' R k (fun a => S' a ∧ g' a r = v)) := by
    intro r hr k
    refine ⟨fun h v => Qn_rel k _ _ ?_ (h v), fun h v => Qn_rel k _ _ ?_ (h v)⟩
    · rintro a' ⟨ha, hv⟩
      obtain ⟨a, g1, g2, g3⟩ := h1 a' ha
      exact ⟨a, ⟨g1, by rw [g3 r hr]; exact hv⟩, g2, g3⟩
    · rintro a ⟨ha, hv⟩
      obtain ⟨a', g1, g2, g3⟩ := h2 a ha
      exact ⟨a', ⟨g1, by rw [g3 r hr]; exact hv⟩, g2, g3⟩
  refine ⟨m, isV_rel h1 h2 h3, h4, ?_⟩
  rcases h5 with h5 | ⟨m', r, h5, h6, h7⟩
  · exact .inl h5
  · refine .inr ⟨m', r, h5, ⟨h6.1, (key r h6.1 m').1 h6.2.1, fun r' hr' h8 => h6.2.2 r' hr' ((key r' (by have := h6.1; omega) m').2 h8)⟩, h7⟩
end
theorem qlp_min (f : Fld) (g : Nat → Int) (ans : List Int) {m : Int} (hm : m < f.rows + 1) : ∀ k : Nat, (∀ i, i < k → ans.getD i 0 = -2 → m ≤ 1 + g i) →
    (∀ r, r < k → ans.getD r 0 = -2 → 1 + g r = m → (∀ i, i < r → ans.getD i 0 = -2 → 1 + g i ≠ m) → qlp f g ans k = ((r : Int), m)) ∧ ((∀ i, i < k → ans.getD i 0 = -2 → 1 + g i ≠ m) → m < (qlp f g ans k).2)
  | 0, _ => ⟨fun r hr => by omega, fun _ => hm⟩
  | k + 1, h => by
    obtain ⟨h1, h2⟩ := qlp_min f g ans hm k fun i hi => h i (by omega)
    rw [qlp_succ]
    constructor
    · intro r hr ha he hf
      rcases Nat.lt_or_ge r k with hlt | hge
      · rw [h1 r hlt ha he hf]
        by_cases hk : ans.getD k 0 = -2
        · have := h k (by omega) hk
          rw [if_pos hk, if_neg (by show ¬ 1 + g k < m; omega)]
        · rw [if_neg hk]
      · obtain rfl : r = k := by omega
        have := h2 hf
        rw [if_pos ha, if_pos (by omega), he]
    · intro hn
      have h3 := h2 fun i hi => hn i (by omega)
      by_cases hk : ans.getD k 0 = -2
      · have h4 := h k (by omega) hk
        have h5 := hn k (by omega) hk
        rw [if_pos hk]
        by_cases h6 : 1 + g k < (qlp f g ans k).2
        · rw [if_pos h6]; show m < 1 + g k; omega
        · rw [if_neg h6]; exact h3
      · rw [if_neg hk]; exact h3
theorem same_iff (f : Fld) (n : Int) (l : List (List Int)) : l.all (sameD f n l) = true ↔ ∀ a b, a ∈ l → b ∈ l → cntr f a n = cntr f b n := by
  rw [List.all_eq_true]
  unfold sameD
  simp only [beq_iff_eq]
  constructor
  · intro h a b ha hb; rw [h a ha, h b hb]
  · intro h a ha
    refine h a _ ha ?_
    cases l with
    | nil => cases ha
    | cons x l => simp
theorem cntr_ext {f : Fld} {a b : List Int} (ha : a.length = 7) (hb : b.length = 7) (h : ∀ r, r < f.rows.toNat → a.getD r 0 = b.getD r 0) (n : Int) : cntr f a n = cntr f b n := by
  have : a.take f.rows.toNat = b.take f.rows.toNat := by
    refine List.ext_getElem (by simp [ha, hb]) fun i h1 h2 => ?_
    simp only [List.length_take] at h1 h2
    have := h i (by omega)
    rw [List.getElem_take, List.getElem_take, gd0 (by omega), gd0 (by omega)]
    exact this
  unfold cntr; rw [this]
theorem wst_spec {f : Fld} {n : Int} {T : List (List Int)} {k : Nat} {ans : List Int} {i : Nat}
    (ih : ∀ j : Nat, j < 4 → ∃ m : Nat, IsV (cntr f · n) (fun a r => a.getD r 0) f.rows.toNat (· ∈ filt T (ans.set i ((j : Int) - 1))) m ∧ (qst f n T k (ans.set i ((j : Int) - 1))).2 = m) :
    ∀ j, j ≤ 4 → ∃ W : Nat, wst (qst f n T k) T ans i j = W ∧ (∀ j', j' < j → Qn (cntr f · n) (fun a r => a.getD r 0) f.rows.toNat W (· ∈ filt T (ans.set i ((j' : Int) - 1)))) ∧
      ∀ M, (∀ j', j' < j → Qn (cntr f · n) (fun a r => a.getD r 0) f.rows.toNat M (· ∈ filt T (ans.set i ((j' : Int) - 1)))) → W ≤ M
  | 0, _ => ⟨0, rfl, fun j' h => by omega, fun M _ => Nat.zero_le _⟩
  | j + 1, hj => by
    obtain ⟨W, h1, h2, h3⟩ := wst_spec ih j (by omega)
    obtain ⟨m, h4, h5⟩ := ih j (by omega)
    rw [wst_succ, h1, h5]
    by_cases he : filt T (ans.set i ((j : Int) - 1)) = []
    · rw [if_pos he]
      refine ⟨W, rfl, fun j' hj' => ?_, fun M hM => h3 M fun j' hj' => hM j' (by omega)⟩
      rcases Nat.lt_or_ge j' j with h | h
      · exact h2 j' h
      · obtain rfl : j' = j := by omega
        rw [he]
        exact Qn_stl fun a b ha => by cases ha
    · rw [if_neg he]
      refine ⟨max W m, by omega, fun j' hj' => ?_, fun M hM => ?_⟩
      · rcases Nat.lt_or_ge j' j with h | h
        · exact Qn_mono (Nat.le_max_left _ _) (h2 j' h)
        · obtain rfl : j' = j := by omega
          exact Qn_mono (Nat.le_max_right _ _) h4.1
      · exact Nat.max_le.2 ⟨h3 M fun j' hj' => hM j' (by omega), h4.2 M (hM j (by omega))⟩
theorem qst_ans {f : Fld} (hr : 0 ≤ f.rows ∧ f.rows ≤ 7) (hw : f.wd ≤ 3) {n : Int} {T : List (List Int)} (hT : ∀ a ∈ T, a.length = 7 ∧ ∀ i, i < f.rows.toNat → -1 ≤ a.getD i 0 ∧ a.getD i 0 ≤ f.wd - 1) : ∀ (k : Nat) (ans : List Int), ans.length = 7 → unask f ans = k →
    Ans (cntr f · n) (fun a r => a.getD r 0) f.rows.toNat (· ∈ filt T ans) (qst f n T k ans) := by
  have hfT : ∀ ans a, a ∈ filt T ans → a ∈ T ∧ agree ans a = true := fun ans a ha => List.mem_filter.1 ha
  intro k
  induction k with
  | zero =>
    intro ans hl hu
    have hs : (filt T ans).all (sameD f n (filt T ans)) = true := by
      rw [same_iff]
      intro a b ha hb
      refine cntr_ext (hT a (hfT _ _ ha).1).1 (hT b (hfT _ _ hb).1).1 (fun r hr2 => ?_) n
      have h1 := agree_iff.1 (hfT _ _ ha).2 r (by omega)
      have h2 := agree_iff.1 (hfT _ _ hb).2 r (by omega)
      have h3 : ¬ ans.getD r 0 = -2 := fun e => by
        have := unask_pos hr2 e; omega
      rcases h1 with h1 | h1
      · exact absurd h1 h3
      · rcases h2 with h2 | h2
        · exact absurd h2 h3
        · rw [h1, h2]
    unfold qst
    rw [if_pos hs]
    exact ans_stl ((same_iff f n _).1 hs)
  | succ k ih =>
    intro ans hl hu
    unfold qst
    by_cases hs : (filt T ans).all (sameD f n (filt T ans)) = true
    · rw [if_pos hs]
      exact ans_stl ((same_iff f n _).1 hs)
    · rw [if_neg hs]
      have hQR : Qn (cntr f · n) (fun a r => a.getD r 0) f.rows.toNat f.rows.toNat (· ∈ filt T ans) := Qn_all fun a b ha hb h => cntr_ext (hT a (hfT _ _ ha).1).1 (hT b (hfT _ _ hb).1).1 h n
      obtain ⟨m, hm1, hm2⟩ := isV_some hQR
      obtain ⟨m', rfl⟩ : ∃ m', m = m' + 1 := by
        cases m with
        | zero => exact absurd ((same_iff f n _).2 hm2.1) hs
        | succ m' => exact ⟨m', rfl⟩
      -- what is left behind each row
      have hW : ∀ i, i < f.rows.toNat → ans.getD i 0 = -2 → ∃ W : Nat, wst (qst f n T k) T ans i 4 = W ∧ (∀ v, Qn (cntr f · n) (fun a r => a.getD r 0) f.rows.toNat W (fun a => a ∈ filt T ans ∧ a.getD i 0 = v)) ∧
          ∀ M, (∀ v, Qn (cntr f · n) (fun a r => a.getD r 0) f.rows.toNat M (fun a => a ∈ filt T ans ∧ a.getD i 0 = v)) → W ≤ M := by
        intro i hi ha
        have hfs : ∀ j : Nat, ∀ a, a ∈ filt T (ans.set i ((j : Int) - 1)) ↔ a ∈ filt T ans ∧ a.getD i 0 = (j : Int) - 1 := fun j a => by
          rw [filt_set hl (by omega) ha (by omega), List.mem_filter, beq_iff_eq]
        obtain ⟨W, h1, h2, h3⟩ := wst_spec (f := f) (n := n) (T := T) (k := k) (ans := ans) (i := i) (fun j hj => by
          have hv2 : ((j : Nat) : Int) - 1 ≠ -2 := by omega
          have hr7 : f.rows ≤ 7 := hr.2
          have hu2 := unask_set hl hi hr7 ha hv2
          obtain ⟨m, g1, g2, _⟩ := ih (ans.set i ((j : Int) - 1)) (by simpa using hl) (by omega)
          exact ⟨m, g1, g2⟩) 4 (Nat.le_refl _)
        refine ⟨W, h1, fun v => ?_, fun M hM => h3 M fun j hj => Qn_sub (fun a ha => (hfs j a).1 ha) (hM _)⟩
        by_cases hv : -1 ≤ v ∧ v ≤ 2
        · have e : v = ((v + 1).toNat : Int) - 1 := by omega
          refine Qn_sub (fun a ha => ?_) (h2 (v + 1).toNat (by omega))
          rw [hfs]; exact ⟨ha.1, by rw [ha.2]; exact e⟩
        · refine Qn_stl fun a b ha => ?_
          have := (hT a (hfT _ _ ha.1).1).2 i hi
          have := ha.2
          omega
      -- the least
      have hge : ∀ i, i < f.rows.toNat → ans.getD i 0 = -2 → ((m' + 1 : Nat) : Int) ≤ 1 + wst (qst f n T k) T ans i 4 := by
        intro i hi ha
        obtain ⟨W, h1, h2, _⟩ := hW i hi ha
        have := hm2.2 (W + 1) (.inr ⟨i, hi, h2⟩)
        rw [h1]; omega
      have hun : ∀ r, r < f.rows.toNat → (∀ v, Qn (cntr f · n) (fun a r => a.getD r 0) f.rows.toNat m' (fun a => a ∈ filt T ans ∧ a.getD r 0 = v)) → ans.getD r 0 = -2 := by
        intro r hr2 h
        refine Decidable.byContradiction fun hne => ?_
        have : Qn (cntr f · n) (fun a r => a.getD r 0) f.rows.toNat m' (· ∈ filt T ans) := by
          refine Qn_sub (fun a ha => ⟨ha, ?_⟩) (h (ans.getD r 0))
          rcases agree_iff.1 (hfT _ _ ha).2 r (by omega) with h1 | h1
          · exact absurd h1 hne
          · exact h1
        have := hm2.2 _ this
        omega
      have heq : ∀ i, i < f.rows.toNat → ans.getD i 0 = -2 → (1 + wst (qst f n T k) T ans i 4 = ((m' + 1 : Nat) : Int) ↔ ∀ v, Qn (cntr f · n) (fun a r => a.getD r 0) f.rows.toNat m' (fun a => a ∈ filt T ans ∧ a.getD i 0 = v)) := by
        intro i hi ha
        have h0 := hge i hi ha
        obtain ⟨W, h1, h2, h3⟩ := hW i hi ha
        rw [h1] at h0 ⊢
        constructor
        · intro e
          have : W = m' := by omega
          rw [← this]; exact h2
        · intro h
          have := h3 _ h
          omega
      -- the first one
      have hfirst : ∀ N, N ≤ f.rows.toNat → (∃ r, r < N ∧ ∀ v, Qn (cntr f · n) (fun a r => a.getD r 0) f.rows.toNat m' (fun a => a ∈ filt T ans ∧ a.getD r 0 = v)) → ∃ r, Best (cntr f · n) (fun a r => a.getD r 0) f.rows.toNat (· ∈ filt T ans) m' r := by
        intro N
        induction N with
        | zero => rintro _ ⟨r, hr2, _⟩; omega
        | succ N ihN =>
          rintro hN ⟨r, hr2, h⟩
          by_cases hex : ∃ r, r < N ∧ ∀ v, Qn (cntr f · n) (fun a r => a.getD r 0) f.rows.toNat m' (fun a => a ∈ filt T ans ∧ a.getD r 0 = v)
          · exact ihN (by omega) hex
          · refine ⟨r, by omega, h, fun r' hr' h' => hex ⟨r', by omega, h'⟩⟩
      obtain ⟨r, hb⟩ := hfirst _ (Nat.le_refl _) (isV_pos hm2)
      have hra := hun r hb.1 hb.2.1
      have hq := (qlp_min f (fun i => wst (qst f n T k) T ans i 4) ans (m := ((m' + 1 : Nat) : Int)) (by omega) f.rows.toNat hge).1 r hb.1 hra ((heq r hb.1 hra).2 hb.2.1) (fun i hi ha e => hb.2.2 i hi ((heq i (by have := hb.1; omega) ha).1 e))
      rw [hq]
      exact ⟨m' + 1, hm2, rfl, .inr ⟨m', r, rfl, hb, rfl⟩⟩
end Go.Proofs.Ythogdgkafaclaaa
end
section
namespace Go.Proofs.Ythogdgkafaclaaa
/-- All lists, by their numbers. -/
def lists (f : Fld) : List (List Int) := (List.range (many f).toNat).map fun i : Nat => nthL (f.wd + 1) f.rows.toNat (i : Int)
end Go.Proofs.Ythogdgkafaclaaa
end
section
set_option linter.unusedVariables false
set_option linter.unusedSimpArgs false
namespace Go.Proofs.Ythogdgkafaclaaa
open Go.RowKit
def G_WeedNexts (K_ : Nat) (p0 : Fld) (p1 : Int) : Option (Bool) :=
  (G_Thin K_ p0).bind fun r2 => cond (!r2) ((ifo (G_awake K_ = some true)).bind fun _ => some (true)) ((G_Field K_ p0).bind fun r9 => (Q_Next K_ r9 p1).bind fun r11 => (G_sure K_ p0).bind fun r13 => (G_fault K_ p0).bind fun r15 => cond (r15 == 0) ((i64 (p0.wd - 1)).bind fun _ => (G_In K_ p1 0 (p0.wd - 1)).bind fun r19 => cond (!r19) (cond (2 != 0) (cond (r11.2.2 == 2) (cond (r11.1 == 0) (cond (r11.2.1 == 0) ((ifo (G_awake K_ = some true)).bind fun _ => some (true)) (some (false))) (some (false))) (some (false))) ((G_Next K_ K_ p0 r13.1 p1).bind fun r29 => cond (r11.2.2 == 0) (cond (r11.1 == r29.1) (cond (r11.2.1 == r29.2) ((ifo (G_awake K_ = some true)).bind fun _ => some (true)) (some (false))) (some (false))) (some (false)))) (cond (r13.2 != 0) (cond (r11.2.2 == r13.2) (cond (r11.1 == 0) (cond (r11.2.1 == 0) ((ifo (G_awake K_ = some true)).bind fun _ => some (true)) (some (false))) (some (false))) (some (false))) ((G_Next K_ K_ p0 r13.1 p1).bind fun r43 => cond (r11.2.2 == 0) (cond (r11.1 == r43.1) (cond (r11.2.1 == r43.2) ((ifo (G_awake K_ = some true)).bind fun _ => some (true)) (some (false))) (some (false))) (some (false))))) (cond (r13.2 != 0) (cond (r11.2.2 == r13.2) (cond (r11.1 == 0) (cond (r11.2.1 == 0) ((ifo (G_awake K_ = some true)).bind fun _ => some (true)) (some (false))) (some (false))) (some (false))) ((G_Next K_ K_ p0 r13.1 p1).bind fun r56 => cond (r11.2.2 == 0) (cond (r11.1 == r56.1) (cond (r11.2.1 == r56.2) ((ifo (G_awake K_ = some true)).bind fun _ => some (true)) (some (false))) (some (false))) (some (false)))))
end Go.Proofs.Ythogdgkafaclaaa
end
section
namespace Go.Proofs.Ythogdgkafaclaaa
/-- The reference's lists: their numbers, and what they say. -/
abbrev cR (who : Int) : List Int → Int := fun a => ((part a who 0 a.length : Nat) : Int)
abbrev gR : List Int → Nat → Int := fun a r => a.getD r 0
theorem didB_same {T : List (List Int)} (hn : T ≠ []) (hT : ∀ a ∈ T, a.length ≤ 7) (who : Int) : (didB T who).1 = (didB T who).2 ↔ ∀ a b, a ∈ T → b ∈ T → cR who a = cR who b := by
  obtain ⟨q1, q2, q3, q4, q5⟩ := foldl_mm (fun a => ((part a who 0 a.length : Nat) : Int)) T (1099511627776, -1099511627776)
  have hd : didB T who = T.foldl (fun r a => (min r.1 ((part a who 0 a.length : Nat) : Int), max r.2 ((part a who 0 a.length : Nat) : Int))) (1099511627776, -1099511627776) := rfl
  rw [← hd] at q1 q2 q3 q4 q5
  have bnd : ∀ l ∈ T, ((part l who 0 l.length : Nat) : Int) ≤ 7 := fun l hl => by
    have h1 := part_le l who 0 l.length
    have h2 := hT l hl
    omega
  obtain ⟨l0, hl0⟩ := List.exists_mem_of_ne_nil _ hn
  have b0 := bnd l0 hl0
  have m0 := q3 l0 hl0
  constructor
  · intro h a b ha hb
    have h1 := q3 a ha
    have h2 := q3 b hb
    show ((part a who 0 a.length : Nat) : Int) = ((part b who 0 b.length : Nat) : Int)
    clear q4 q5
    omega
  · intro h
    have Q4 : ∃ a ∈ T, (didB T who).1 = ((part a who 0 a.length : Nat) : Int) := by
      rcases q4 with h | h
      · simp only [] at h m0; omega
      · exact h
    have Q5 : ∃ a ∈ T, (didB T who).2 = ((part a who 0 a.length : Nat) : Int) := by
      rcases q5 with h | h
      · simp only [] at h m0; omega
      · exact h
    obtain ⟨a, ha, e1⟩ := Q4
    obtain ⟨b, hb, e2⟩ := Q5
    rw [e1, e2]; exact h a b ha hb
theorem l_Same (T : List (List Int)) (row : Nat) (s : Int) (hT : ∀ a ∈ T, row < a.length) (hl : T.length ≤ 250) : ∀ (n m i : Nat) (acc : List (List Int)), T.length = i + n → n < m → acc.length ≤ i →
    G_Same_L1 T (row : Int) s m acc (i : Int) = some (acc ++ (T.drop i).filter fun a => a.getD row 0 == s)
  | n, 0, i, acc, h, hm, _ => by omega
  | 0, m + 1, i, acc, h, hm, _ => by
    unfold G_Same_L1
    rw [cf (df (by omega)), List.drop_eq_nil_of_le (by omega)]
    simp
  | n + 1, m + 1, i, acc, h, hm, ha => by
    unfold G_Same_L1
    have hi : i < T.length := by omega
    have e : ((i : Int) + 1) = ((i + 1 : Nat) : Int) := by omega
    have hr := hT _ (List.getElem_mem hi)
    have hg : T[i].getD row 0 = T[i][row] := by simp [List.getElem?_eq_getElem hr]
    rw [ct (dt (by omega)), idxb hi, idxb hr, List.drop_eq_getElem_cons hi, List.filter_cons, hg]
    cases hb : T[i][row] == s with
    | true =>
      rw [ct rfl, idxb hi, ifob (by simp; omega), i64b (by omega) (by omega), e, l_Same T row s hT hl n m (i + 1) _ (by omega) (by omega) (by simp; omega)]
      simp
    | false =>
      rw [cf rfl, i64b (by omega) (by omega), e, l_Same T row s hT hl n m (i + 1) acc (by omega) (by omega) (by omega)]
      simp
theorem g_Same {T : List (List Int)} {row : Nat} {s : Int} (hT : ∀ a ∈ T, row < a.length) (hl : T.length ≤ 250) : G_Same 1000 T (row : Int) s = some (T.filter fun a => a.getD row 0 == s) := by
  unfold G_Same
  have := l_Same T row s hT hl T.length 1000 0 [] (by omega) (by omega) (by simp)
  rw [Int.natCast_zero, List.nil_append, List.drop_zero] at this
  rw [bd this]
theorem whoS_two {wd : Int} {T : List (List Int)} {row : Nat} (hw : 0 ≤ wd) (hT : ∀ a ∈ T, -1 ≤ a.getD row 0 ∧ a.getD row 0 ≤ wd - 1) : (whoS wd T row).length < 2 ↔ ∀ a b, a ∈ T → b ∈ T → a.getD row 0 = b.getD row 0 := by
  have hmem : ∀ x, x ∈ whoS wd T row ↔ (-1 ≤ x ∧ x ≤ wd - 1) ∧ ∃ a ∈ T, a.getD row 0 = x := fun x => by
    unfold whoS
    rw [List.mem_filter, mem_whos hw, List.any_eq_true]
    simp only [beq_iff_eq]
  constructor
  · intro h a b ha hb
    have h1 := (hmem _).2 ⟨hT a ha, a, ha, rfl⟩
    have h2 := (hmem _).2 ⟨hT b hb, b, hb, rfl⟩
    match hl : whoS wd T row, h with
    | [], _ => rw [hl] at h1; cases h1
    | [x], _ =>
      rw [hl, List.mem_singleton] at h1 h2
      rw [h1, h2]
    | _ :: _ :: _, h => simp at h; omega
  · intro h
    have hs : (whoS wd T row).Pairwise (· < ·) := (whos_sorted wd).filter _
    match hl : whoS wd T row with
    | [] => simp
    | [x] => simp
    | x :: y :: l =>
      rw [hl] at hs
      have hxy := (List.pairwise_cons.1 hs).1 y (by simp)
      obtain ⟨_, a, ha, ea⟩ := (hmem x).1 (by rw [hl]; simp)
      obtain ⟨_, b, hb, eb⟩ := (hmem y).1 (by rw [hl]; simp)
      have := h a b ha hb
      omega
section
variable {f : Fld} {T : List (List Int)} {who : Int}
/-- What the lists at hand are. -/
def OkT (f : Fld) (T : List (List Int)) : Prop := T.length ≤ 250 ∧ ∀ a ∈ T, (a.length : Int) = f.rows ∧ ∀ r, r < f.rows.toNat → -1 ≤ a.getD r 0 ∧ a.getD r 0 ≤ f.wd - 1
theorem OkT.filt (h : OkT f T) (p : List Int → Bool) : OkT f (T.filter p) := ⟨Nat.le_trans (List.length_filter_le _ _) h.1, fun a ha => h.2 a (List.mem_filter.1 ha).1⟩
theorem cR_ext {a b : List Int} (ha : (a.length : Int) = f.rows) (hb : (b.length : Int) = f.rows) (h : ∀ r, r < f.rows.toNat → gR a r = gR b r) : cR who a = cR who b := by
  have : a = b := by
    refine List.ext_getElem (by omega) fun i h1 h2 => ?_
    rw [gd0 h1, gd0 h2]; exact h i (by omega)
  rw [this]
theorem OkT.all (h : OkT f T) : Qn (cR who) gR f.rows.toNat f.rows.toNat (· ∈ T) := Qn_all fun a b ha hb hh => cR_ext (h.2 a ha).1 (h.2 b hb).1 hh
/-- What is left behind a row, for an answer. -/
abbrev prt' (T : List (List Int)) (r : Nat) (v : Int) : List Int → Prop := fun a => a ∈ T ∧ gR a r = v
theorem l_Next13 (hf : (1 ≤ f.rows ∧ f.rows ≤ 7) ∧ (1 ≤ f.wd ∧ f.wd ≤ 3)) (hT : OkT f T) {r : Nat} (hr : r < f.rows.toNat) {rec_ : Fld → List (List Int) → Int → Option (Int × Int)}
    (ih : ∀ v, T.filter (fun a => a.getD r 0 == v) ≠ [] → ∃ x, rec_ f (T.filter fun a => a.getD r 0 == v) who = some x ∧ Ans (cR who) gR f.rows.toNat (· ∈ T.filter fun a => a.getD r 0 == v) x) (many : Int) :
    ∀ (n m j : Nat) (W : Nat), f.wd + 1 = j + n → n < m → (∀ j', j' < j → Qn (cR who) gR f.rows.toNat W (prt' T r ((j' : Int) - 1))) → (∀ M, (∀ v, Qn (cR who) gR f.rows.toNat M (prt' T r v)) → W ≤ M) →
    ∃ W' : Nat, G_Next_L13 1000 f T who rec_ many (r : Int) m (W : Int) ((j : Int) - 1) = some (W' : Int) ∧ (∀ M, (∀ v, Qn (cR who) gR f.rows.toNat M (prt' T r v)) → W' ≤ M) ∧
      ((W' : Int) + 1 < many → ∀ j' : Nat, (j' : Int) < f.wd + 1 → Qn (cR who) gR f.rows.toNat W' (prt' T r ((j' : Int) - 1)))
  | n, 0, j, W, h, hm, _, _ => by omega
  | 0, m + 1, j, W, h, hm, h1, h2 => by
    refine ⟨W, ?_, h2, fun _ j' hj' => h1 j' (by omega)⟩
    unfold G_Next_L13
    rw [cf (df (by omega))]
  | n + 1, m + 1, j, W, h, hm, h1, h2 => by
    have hW7 : W ≤ f.rows.toNat := h2 _ fun v => Qn_sub (fun a ha => ha.1) hT.all
    have e : ((j : Int) - 1 + 1) = ((j + 1 : Nat) : Int) - 1 := by omega
    unfold G_Next_L13
    rw [ct (dt (by omega)), i64b (by omega) (by omega)]
    by_cases hb : (W : Int) + 1 < many
    · have hrl : ∀ a ∈ T, r < a.length := fun a ha => by have := (hT.2 a ha).1; omega
      rw [ct (dt hb), bd (g_Same hrl hT.1)]
      by_cases hne : T.filter (fun a => a.getD r 0 == (j : Int) - 1) = []
      · have hemp : ∀ a, ¬ prt' T r ((j : Int) - 1) a := fun a ha => by
          have : a ∈ T.filter (fun a => a.getD r 0 == (j : Int) - 1) := List.mem_filter.2 ⟨ha.1, by rw [beq_iff_eq]; exact ha.2⟩
          rw [hne] at this; cases this
        rw [hne, cf (by decide), i64b (by omega) (by omega), e]
        refine l_Next13 hf hT hr ih many n m (j + 1) W (by omega) (by omega) (fun j' hj' => ?_) h2
        rcases Nat.lt_or_ge j' j with h3 | h3
        · exact h1 j' h3
        · obtain rfl : j' = j := by omega
          exact Qn_stl fun a b ha => absurd ha (hemp a)
      · obtain ⟨x, hx, w, hw1, hw2, _⟩ := ih _ hne
        have hmem : ∀ a, a ∈ T.filter (fun a => a.getD r 0 == (j : Int) - 1) ↔ prt' T r ((j : Int) - 1) a := fun a => by
          rw [List.mem_filter, beq_iff_eq]
        have hpos : 0 < (((T.filter fun a => a.getD r 0 == (j : Int) - 1).length : Nat) : Int) := by
          have := List.length_pos_iff.2 hne; omega
        have hmx : max (W : Int) x.2 = ((max W w : Nat) : Int) := by rw [hw2]; omega
        rw [ct (dt hpos), bd hx, i64b (by omega) (by omega), e, hmx]
        refine l_Next13 hf hT hr ih many n m (j + 1) (max W w) (by omega) (by omega) (fun j' hj' => ?_) (fun M hM => Nat.max_le.2 ⟨h2 M hM, hw1.2 M (Qn_sub (fun a ha => (hmem a).1 ha) (hM _))⟩)
        rcases Nat.lt_or_ge j' j with h3 | h3
        · exact Qn_mono (Nat.le_max_left _ _) (h1 j' h3)
        · obtain rfl : j' = j := by omega
          exact Qn_mono (Nat.le_max_right _ _) (Qn_sub (fun a ha => (hmem a).2 ha) hw1.1)
    · rw [cf (df hb)]
      exact ⟨W, rfl, h2, fun hh => absurd hh hb⟩
theorem l_Next7 (hf : (1 ≤ f.rows ∧ f.rows ≤ 7) ∧ (1 ≤ f.wd ∧ f.wd ≤ 3)) (hT : OkT f T) {rec_ : Fld → List (List Int) → Int → Option (Int × Int)}
    (ih : ∀ r, r < f.rows.toNat → (¬ ∀ a b, a ∈ T → b ∈ T → a.getD r 0 = b.getD r 0) → ∀ v, T.filter (fun a => a.getD r 0 == v) ≠ [] → ∃ x, rec_ f (T.filter fun a => a.getD r 0 == v) who = some x ∧ Ans (cR who) gR f.rows.toNat (· ∈ T.filter fun a => a.getD r 0 == v) x)
    {m' : Nat} (hv : IsV (cR who) gR f.rows.toNat (· ∈ T) (m' + 1)) :
    ∀ (n k r : Nat) (row many : Int), f.rows = r + n → n < k → ((m' + 1 : Nat) : Int) ≤ many → many ≤ 100 →
    ((∃ r0 : Nat, r0 < r ∧ Best (cR who) gR f.rows.toNat (· ∈ T) m' r0 ∧ row = r0 ∧ many = ((m' + 1 : Nat) : Int)) ∨ ((∀ r', r' < r → ¬ ∀ v, Qn (cR who) gR f.rows.toNat m' (prt' T r' v)) ∧ ((m' + 1 : Nat) : Int) < many)) →
    ∃ r0 : Nat, G_Next_L7 1000 f T who rec_ k row many (r : Int) = some ((r0 : Int), ((m' + 1 : Nat) : Int)) ∧ Best (cR who) gR f.rows.toNat (· ∈ T) m' r0
  | n, 0, r, row, many, h, hk, _, _, _ => by omega
  | 0, k + 1, r, row, many, h, hk, h1, h2, h3 => by
    unfold G_Next_L7
    rw [cf (df (by omega))]
    rcases h3 with ⟨r0, hr0, hb, rfl, rfl⟩ | ⟨hno, _⟩
    · exact ⟨r0, rfl, hb⟩
    · obtain ⟨r0, hr0, hq⟩ := isV_pos hv
      exact absurd hq (hno r0 (by omega))
  | n + 1, k + 1, r, row, many, h, hk, h1, h2, h3 => by
    have e : ((r : Int) + 1) = ((r + 1 : Nat) : Int) := by omega
    have hr : r < f.rows.toNat := by omega
    have hrl : ∀ a ∈ T, r < a.length := fun a ha => by have := (hT.2 a ha).1; omega
    have hm7 : m' + 1 ≤ f.rows.toNat := hv.2 _ hT.all
    unfold G_Next_L7
    rw [ct (dt (by omega)), bd (g_Who (Nat.le_refl _) hf.2 hrl hT.1)]
    by_cases hs : ∀ a b, a ∈ T → b ∈ T → a.getD r 0 = b.getD r 0
    · have hlen := (whoS_two (wd := f.wd) (by omega) fun a ha => (hT.2 a ha).2 r hr).2 hs
      rw [ct (dt (by omega)), i64b (by omega) (by omega), e]
      refine l_Next7 hf hT ih hv n k (r + 1) row many (by omega) (by omega) h1 h2 ?_
      rcases h3 with ⟨r0, hr0, hb, e1, e2⟩ | ⟨hno, hlt⟩
      · exact .inl ⟨r0, by omega, hb, e1, e2⟩
      · refine .inr ⟨fun r' hr' hq => ?_, hlt⟩
        rcases Nat.lt_or_ge r' r with h4 | h4
        · exact hno r' h4 hq
        · obtain rfl : r' = r := by omega
          have : Qn (cR who) gR f.rows.toNat m' (· ∈ T) := by
            by_cases hem : T = []
            · exact Qn_stl fun a b ha => by rw [hem] at ha; cases ha
            · obtain ⟨a0, ha0⟩ := List.exists_mem_of_ne_nil _ hem
              exact Qn_sub (fun a ha => ⟨ha, hs a a0 ha ha0⟩) (hq (a0.getD r' 0))
          have := hv.2 _ this
          omega
    · have hlen : ¬ (whoS f.wd T r).length < 2 := fun hh => hs ((whoS_two (wd := f.wd) (by omega) fun a ha => (hT.2 a ha).2 r hr).1 hh)
      obtain ⟨W, hW1, hW2, hW3⟩ := l_Next13 (who := who) hf hT hr (ih r hr hs) many (f.wd + 1).toNat 1000 0 0 (by omega) (by omega) (fun j' hj' => by omega) (fun M _ => Nat.zero_le _)
      have hW7 : W ≤ f.rows.toNat := hW2 _ fun v => Qn_sub (fun a ha => ha.1) hT.all
      rw [show (((0 : Nat) : Int) - 1) = -1 by omega, Int.natCast_zero] at hW1
      rw [cf (df (by omega)), bd hW1, i64b (by omega) (by omega)]
      by_cases hlt : (W : Int) + 1 < many
      · have hfull : ∀ v, Qn (cR who) gR f.rows.toNat W (prt' T r v) := fun v => by
          by_cases hvv : -1 ≤ v ∧ v ≤ f.wd - 1
          · have := hW3 hlt (v + 1).toNat (by omega)
            rwa [show ((v + 1).toNat : Int) - 1 = v by omega] at this
          · refine Qn_stl fun a b ha => ?_
            have h5 := (hT.2 a ha.1).2 r hr
            have h6 : a.getD r 0 = v := ha.2
            omega
        have hge : m' + 1 ≤ W + 1 := hv.2 _ (.inr ⟨r, hr, hfull⟩)
        rw [ct (dt hlt), i64b (by omega) (by omega), i64b (by omega) (by omega), e]
        rcases h3 with ⟨r0, hr0, hb, e1, e2⟩ | ⟨hno, hlt2⟩
        · omega
        · by_cases hop : W = m'
          · refine l_Next7 hf hT ih hv n k (r + 1) (r : Int) ((W : Int) + 1) (by omega) (by omega) (by omega) (by omega) (.inl ⟨r, by omega, ⟨hr, by rw [← hop]; exact hfull, hno⟩, rfl, by omega⟩)
          · refine l_Next7 hf hT ih hv n k (r + 1) (r : Int) ((W : Int) + 1) (by omega) (by omega) (by omega) (by omega) (.inr ⟨fun r' hr' hq => ?_, by omega⟩)
            rcases Nat.lt_or_ge r' r with h4 | h4
            · exact hno r' h4 hq
            · obtain rfl : r' = r := by omega
              have := hW2 _ hq
              omega
      · rw [cf (df hlt), i64b (by omega) (by omega), e]
        refine l_Next7 hf hT ih hv n k (r + 1) row many (by omega) (by omega) h1 h2 ?_
        rcases h3 with ⟨r0, hr0, hb, e1, e2⟩ | ⟨hno, hlt2⟩
        · exact .inl ⟨r0, by omega, hb, e1, e2⟩
        · refine .inr ⟨fun r' hr' hq => ?_, hlt2⟩
          rcases Nat.lt_or_ge r' r with h4 | h4
          · exact hno r' h4 hq
          · obtain rfl : r' = r := by omega
            have := hW2 _ hq
            omega
theorem g_Next (hf : (1 ≤ f.rows ∧ f.rows ≤ 7) ∧ (1 ≤ f.wd ∧ f.wd ≤ 3)) : ∀ (k : Nat) (T : List (List Int)), T.length < k → T ≠ [] → OkT f T → ∃ x, G_Next 1000 k f T who = some x ∧ Ans (cR who) gR f.rows.toNat (· ∈ T) x
  | 0, T, h, _, _ => by omega
  | k + 1, T, h, hn, hT => by
    unfold G_Next
    have h7 : ∀ a ∈ T, a.length ≤ 7 := fun a ha => by have := (hT.2 a ha).1; omega
    rw [bd (g_Done (Nat.le_refl _) h7 hT.1)]
    by_cases hs : ∀ a b, a ∈ T → b ∈ T → cR who a = cR who b
    · rw [ct (by rw [beq_iff_eq]; exact (didB_same hn h7 who).2 hs)]
      exact ⟨_, rfl, ans_stl hs⟩
    · rw [cf (by rw [beq_eq_false_iff_ne]; exact fun e => hs ((didB_same hn h7 who).1 e))]
      obtain ⟨m, hm1, hv⟩ := isV_some (hT.all (who := who))
      obtain ⟨m', rfl⟩ : ∃ m', m = m' + 1 := by
        cases m with
        | zero => exact absurd hv.1 hs
        | succ m' => exact ⟨m', rfl⟩
      obtain ⟨r0, h1, h2⟩ := l_Next7 (who := who) hf hT (rec_ := G_Next 1000 k) (fun r hr hsp v hne => by
        refine g_Next hf k _ ?_ hne (hT.filt _)
        rcases Nat.lt_or_ge (T.filter fun a => a.getD r 0 == v).length T.length with h3 | h3
        · omega
        · have hle := List.length_filter_le (fun a : List Int => a.getD r 0 == v) T
          have hall := List.length_filter_eq_length_iff.1 (Nat.le_antisymm hle h3)
          refine absurd (fun a b ha hb => ?_) hsp
          have e1 := hall a ha
          have e2 := hall b hb
          rw [beq_iff_eq] at e1 e2
          rw [e1, e2]) hv f.rows.toNat 1000 0 (-1) 100 (by omega) (by omega) (by omega) (by omega) (.inr ⟨fun r' h => by omega, by omega⟩)
      rw [Int.natCast_zero] at h1
      rw [bd h1]
      exact ⟨_, rfl, m' + 1, hv, rfl, .inr ⟨m', r0, rfl, h2, rfl⟩⟩
end
theorem refs_ok {f : Fld} (hc : check f = 0) (hm : many f ≤ 250) : OkT f (refs f) := by
  obtain ⟨hr, hw, _⟩ := check_ok hc
  have := refs_len f hc
  refine ⟨by omega, fun a ha => ?_⟩
  obtain ⟨h1, h2, _⟩ := tru_alw ((mem_refs hc).1 ha)
  refine ⟨h2, fun r hr2 => ?_⟩
  have hra : r < a.length := by omega
  rw [← gd0 hra]
  have := h1 _ (List.getElem_mem hra)
  rw [okWho_in f _ hw.1, inR_iff] at this
  exact this
theorem getD_pad {a : List Int} {r : Nat} (h : r < a.length) : (pad a).getD r 0 = a.getD r 0 := by unfold pad; exact getD_app h
/-- The program's answer is the reference's. -/
theorem nextF_ans {f : Fld} (hc : check f = 0) (n : Int) : Ans (cR n) gR f.rows.toNat (· ∈ refs f) (nextF f n) := by
  obtain ⟨hr, hw, _⟩ := check_ok hc
  have h := qst_ans (f := f) ⟨by omega, hr.2⟩ hw.2 (n := n) (T := truths f []) (fun a ha => ⟨truths_len hr.2 a ha, truths_bd (by omega) a ha⟩) (unask f (List.replicate 7 (-2))) (List.replicate 7 (-2)) (by simp) rfl
  rw [filt_none] at h
  have hlen : ∀ l ∈ refs f, (l.length : Int) = f.rows := fun l hl => (tru_alw ((mem_refs hc).1 hl)).2.1
  refine ans_rel ?_ ?_ h
  · intro a ha
    have hl := hlen a ha
    exact ⟨pad a, (mem_truths hc).2 ⟨a, ha, rfl⟩, cntr_pad hl, fun r hr2 => getD_pad (by omega)⟩
  · intro a ha
    obtain ⟨l, hl, rfl⟩ := (mem_truths hc).1 ha
    have hll := hlen l hl
    exact ⟨l, hl, (cntr_pad hll).symm, fun r hr2 => (getD_pad (by omega)).symm⟩
theorem next_refs {f : Fld} (hc : check f = 0) (hm : many f ≤ 250) (hn : refs f ≠ []) (n : Int) : G_Next 1000 1000 f (refs f) n = some (nextF f n) := by
  obtain ⟨hr, hw, _⟩ := check_ok hc
  have hT := refs_ok hc hm
  obtain ⟨x, h1, h2⟩ := g_Next (who := n) ⟨hr, hw⟩ 1000 (refs f) (by have := hT.1; omega) hn hT
  rw [h1, ans_unique h2 (nextF_ans hc n)]
theorem weedNexts_plain (f : Fld) (n : Int) : G_WeedNexts 1000 f n = some true := by
  unfold G_WeedNexts
  rw [bd (g_Thin (Nat.le_refl _))]
  cases ht : thin f with
  | false => rw [nf, ifob awake_1000]
  | true =>
    rw [nt, bd (g_Field (Nat.le_refl _) (thin_len ht))]
    unfold Q_Next whoB
    rw [Option.bind_some, bd (g_sure (Nat.le_refl _) ht), bd (g_fault (Nat.le_refl _))]
    by_cases hc : check f = 0
    · obtain ⟨hr, hw, _⟩ := check_ok hc
      have hmany := thin_many ht hc
      rw [ct (by simp [hc]), i64b (by omega) (by omega), bd (g_In ..)]
      cases hi : inR n 0 (f.wd - 1) with
      | false =>
        have ha : askE f false = 2 := by rw [askE_eq, if_pos ⟨hc, rfl⟩]
        rw [nf, ct (by decide), ha, if_neg (by decide), ct (by decide), ct (by decide), ct (by decide), ifob awake_1000]
      | true =>
        rw [nt, askE_true]
        by_cases hs : sureE f = 0
        · simp only [if_pos hs]
          rw [cf (by simp [hs]), bd (next_refs hc hmany (sureE_ok hs).2 n), ct (by simp), ct (by simp), ct (by simp), ifob awake_1000]
        · simp only [if_neg hs]
          rw [ct (by simp [hs]), ct (by simp), ct (by simp), ct (by simp), ifob awake_1000]
    · have ha : ∀ b, askE f b = check f := fun b => by rw [askE_eq, if_neg (by simp [hc]), sureE_bad hc]
      rw [cf (by simp [hc])]
      simp only [ha, sureE_bad hc, if_neg hc]
      rw [ct (by simp [hc]), ct (by simp), ct (by simp), ct (by simp), ifob awake_1000]
theorem weedNexts_true (f : Fld) (n : Int) : ∃ K, G_WeedNexts K f n = some true := ⟨1000, weedNexts_plain f n⟩
end Go.Proofs.Ythogdgkafaclaaa
end
section
set_option linter.unusedVariables false
set_option linter.unusedSimpArgs false
namespace Go.Proofs.Ythogdgkafaclaaa
open Go.RowKit
open AF
attribute [local irreducible] Ex1 WL CC CW LV Ret ObOp Agg One Own
theorem a5 (K_ : Nat) (p0 : Fld) (p1 : Int) (A0_0 : Option Addr) (c0_0 : Nat) (Z : Nat → Prop) (w : World) (hS0_0 : Sl eTly w Z A0_0 c0_0 p0.ts) (hG : G_WeedNexts K_ p0 p1 = some true) :
    Ret Try.prog 5 #[.agg #[I p0.rows, I p0.wd, I p0.lo, I p0.hi, .slice A0_0 p0.ts.length c0_0], I p1] w (fun v w' => Ext w w' ∧ v = .bool true) := by
 unfold G_WeedNexts at hG
 refine ret_of_cc (N := 78) Try.func5 rfl rfl (by simp) ?_
 intro fr0 ha hdf
 have hp_0 := sl_arg (i := 0) (v := .agg #[I p0.rows, I p0.wd, I p0.lo, I p0.hi, .slice A0_0 p0.ts.length c0_0]) ha rfl
 have hp_1 := sl_arg (i := 1) (v := I p1) ha rfl
 clear ha
 have hp0 := Hp.refl w
 have hS0_0_0 := hS0_0.mv (mv_start w)
 refine cc_seq <| cc_region <| we rfl (fun st => x_box (v := .agg #[I p0.rows, I p0.wd, I p0.lo, I p0.hi, .slice A0_0 p0.ts.length c0_0]) (cs := #[I p0.rows, I p0.wd, I p0.lo, I p0.hi, .slice A0_0 p0.ts.length c0_0]) (ee st hp_0) rfl) ?_
 rintro _ w1 ⟨b1, rfl, nb1⟩
 have hp1 : Hp w [some b1] w1 := hp0.new nb1.gr (Nat.le_of_eq nb1.b_eq.symm) (Nat.lt_of_lt_of_eq (Nat.lt_succ_self _) nb1.sz.symm)
 refine wa rfl (v := .bool false) rfl <| wl_end <| lv_next <| cc_seq <| cc_seq <| cc_region <| wd rfl (fun st => x_loadn (l := [I p0.rows, I p0.wd, I p0.lo, I p0.hi, .slice A0_0 p0.ts.length c0_0]) agg_26 (ee st rfl) nb1.bk rfl rfl) ?_
 have hS0_0_1 : Sl eTly w1 (ZZ Z w.heap.size [some b1]) A0_0 c0_0 p0.ts := (hS0_0_0.mv (mv_new nb1.gr (Nat.le_of_eq nb1.b_eq.symm)))
 replace hG := bind_some hG; obtain ⟨r2, hr2, hG⟩ := hG
 refine we rfl (fun st => x_call0 own_20 (ee st rfl) (am1 (ee st rfl)) (a20 K_ p0 A0_0 c0_0 ZA _ hS0_0_1.all r2 hr2)) ?_
 rintro _ w3 ⟨hx2, rfl⟩
 have hp2 : Hp w [some b1] w3 := hp1.ext hx2
 refine wd rfl (fun st => x_not (ee st rfl)) <| wl_end <| lv_next ?_
 rcases bool_cases (!r2) with hc4 | hc4
 ·replace hG := cond_t hG hc4
  have hc4_5 : r2 = false := by simpa using hc4
  refine cc_cond_t rfl hc4 <| cc_seq <| cc_region ?_
  replace hG := ifo_bind hG; obtain ⟨hw6, hG⟩ := hG
  refine we rfl (fun st => x_call0 own_21 (ee st rfl) am0 (a21 K_ ZA _ hw6)) ?_
  rintro _ w7 ⟨hx6, rfl⟩
  have hp3 : Hp w [some b1] w7 := hp2.ext hx6
  refine wa rfl (v := .bool true) rfl <| wl_end <| lv_next <| cc_ret <| lv_then_ret ?_
  have hr_ := Option.some.inj hG
  refine lv_ret1 rfl rfl ?_
  exact ⟨hp3.fin, congrArg Value.bool hr_⟩
 ·replace hG := cond_f hG hc4
  have hc4_8 : r2 = true := by simpa using hc4
  refine cc_cond_f rfl hc4 <| cc_skip <| lv_next <| cc_seq <| cc_region ?_
  have bk1_2 : Bk w3 b1 26 #[I p0.rows, I p0.wd, I p0.lo, I p0.hi, .slice A0_0 p0.ts.length c0_0] := (nb1.bk.ext hx2)
  refine wd rfl (fun st => x_loadn (l := [I p0.rows, I p0.wd, I p0.lo, I p0.hi, .slice A0_0 p0.ts.length c0_0]) agg_26 (ee st rfl) bk1_2 rfl rfl) ?_
  have hS0_0_2 : Sl eTly w3 (ZZ Z w.heap.size [some b1]) A0_0 c0_0 p0.ts := (hS0_0_1.mv (mv_ext hx2))
  replace hG := bind_some hG; obtain ⟨r9, hr9, hG⟩ := hG
  refine we rfl (fun st => x_call0 own_23 (ee st rfl) (am1 (ee st rfl)) (a23 K_ p0 A0_0 c0_0 (ZZ Z w.heap.size [some b1]) _ hS0_0_2 r9 hr9)) ?_
  rintro _ w10 ⟨hx9, ⟨_, rfl, ⟨A9_r0, c9_r0, rfl, hS9_r0⟩⟩⟩
  have hp4 : Hp w [some b1] w10 := hp2.ext hx9
  have hS9_r0 := hS9_r0.mv (hp2.call (Nat.le_refl _))
  refine wm rfl (v := I p1) hp_1 ?_
  replace hG := bind_some hG; obtain ⟨r11, hr11, hG⟩ := hG
  refine we rfl (fun st => x_call0 own_32 (ee st rfl) (am2 (ee st rfl) (ee st rfl)) (a32 K_ r9 p1 A9_r0 c9_r0 ZA _ hS9_r0.all r11 hr11)) ?_
  rintro _ w12 ⟨hx11, _, _, _, rfl, rfl, rfl, rfl⟩
  have hp5 : Hp w [some b1] w12 := hp4.ext hx11
  refine wm rfl (v := .tuple #[I r11.1, I r11.2.1, I r11.2.2]) rfl <| wd rfl (fun st => x_extract (v := I r11.1) (ee st rfl) rfl) <| wd rfl (fun st => x_extract (v := I r11.2.1) (ee st rfl) rfl) <| wd rfl (fun st => x_extract (v := I r11.2.2) (ee st rfl) rfl) <| wa rfl (v := I r11.1) rfl <| wa rfl (v := I r11.2.1) rfl <| wa rfl (v := I r11.2.2) rfl <| wl_end <| lv_next <| cc_seq <| cc_region ?_
  have bk1_5 : Bk w12 b1 26 #[I p0.rows, I p0.wd, I p0.lo, I p0.hi, .slice A0_0 p0.ts.length c0_0] := ((bk1_2.ext hx9).ext hx11)
  refine wd rfl (fun st => x_loadn (l := [I p0.rows, I p0.wd, I p0.lo, I p0.hi, .slice A0_0 p0.ts.length c0_0]) agg_26 (ee st rfl) bk1_5 rfl rfl) ?_
  have hS0_0_5 : Sl eTly w12 (ZZ Z w.heap.size [some b1]) A0_0 c0_0 p0.ts := ((hS0_0_2.mv (mv_ext hx9)).mv (mv_ext hx11))
  replace hG := bind_some hG; obtain ⟨r13, hr13, hG⟩ := hG
  refine we rfl (fun st => x_call0 own_24 (ee st rfl) (am1 (ee st rfl)) (a24 K_ p0 A0_0 c0_0 (ZZ Z w.heap.size [some b1]) _ hS0_0_5 r13 hr13)) ?_
  rintro _ w14 ⟨hx13, _, _, rfl, ⟨A13_ra, c13_ra, rfl, hS13_ra⟩, rfl⟩
  have hp6 : Hp w [some b1] w14 := hp5.ext hx13
  have hS13_ra := hS13_ra.mv (hp5.call (Nat.le_refl _))
  refine wm rfl (v := .tuple #[.slice A13_ra r13.1.length c13_ra, I r13.2]) rfl <| wd rfl (fun st => x_extract (v := .slice A13_ra r13.1.length c13_ra) (ee st rfl) rfl) <| wd rfl (fun st => x_extract (v := I r13.2) (ee st rfl) rfl) <| wa rfl (v := .slice A13_ra r13.1.length c13_ra) rfl <| wa rfl (v := I r13.2) rfl <| wl_end <| lv_next <| cc_seq <| cc_seq <| cc_region ?_
  have bk1_6 : Bk w14 b1 26 #[I p0.rows, I p0.wd, I p0.lo, I p0.hi, .slice A0_0 p0.ts.length c0_0] := (bk1_5.ext hx13)
  refine wd rfl (fun st => x_loadn (l := [I p0.rows, I p0.wd, I p0.lo, I p0.hi, .slice A0_0 p0.ts.length c0_0]) agg_26 (ee st rfl) bk1_6 rfl rfl) ?_
  have hS0_0_6 : Sl eTly w14 (ZZ Z w.heap.size [some b1]) A0_0 c0_0 p0.ts := (hS0_0_5.mv (mv_ext hx13))
  replace hG := bind_some hG; obtain ⟨r15, hr15, hG⟩ := hG
  refine we rfl (fun st => x_call0 own_28 (ee st rfl) (am1 (ee st rfl)) (a28 K_ p0 A0_0 c0_0 ZA _ hS0_0_6.all r15 hr15)) ?_
  rintro _ w16 ⟨hx15, rfl⟩
  have hp7 : Hp w [some b1] w16 := hp6.ext hx15
  refine wd rfl (fun st => x_eql (ee st rfl) (ee st rfl)) <| wm rfl (v := .bool (r15 == 0)) rfl ?_
  rcases bool_cases (r15 == 0) with hc17 | hc17
  ·replace hG := cond_t hG hc17
   refine wl_detg rfl rfl (guard_eq rfl hc17) rfl (by decide) (fun st => x_move (v := I p1) (ee st hp_1)) <| wl_detg rfl rfl (guard_eq rfl hc17) rfl (by decide) (fun st => x_fieldAddr (ee st rfl) (fz_26_1 _ _)) ?_
   have bk1_7 : Bk w16 b1 26 #[I p0.rows, I p0.wd, I p0.lo, I p0.hi, .slice A0_0 p0.ts.length c0_0] := (bk1_6.ext hx15)
   refine wl_detg rfl rfl (guard_eq rfl hc17) rfl (by decide) (fun st => x_load1 (v := I p0.wd) one_3 (ee st rfl) bk1_7 rfl) ?_
   replace hG := i64_bind hG; obtain ⟨hf18, hG⟩ := hG
   refine wl_detg rfl rfl (guard_eq rfl hc17) rfl (by decide) (fun st => x_sub (ee st rfl) (ee st rfl) hf18) ?_
   replace hG := bind_some hG; obtain ⟨r19, hr19, hG⟩ := hG
   refine wl_exg rfl rfl (guard_eq rfl hc17) rfl (by decide) (fun st => x_call0 own_29 (ee st rfl) (am3 (ee st rfl) (ee st rfl) (ee st rfl)) (a29 K_ p1 0 (p0.wd - 1) ZA _ r19 hr19)) ?_
   rintro _ w20 ⟨hx19, rfl⟩
   have hp8 : Hp w [some b1] w20 := hp7.ext hx19
   refine wl_detg rfl rfl (guard_eq rfl hc17) rfl (by decide) (fun st => x_not (ee st rfl)) <| wd rfl (fun st => x_pick_t (v := .bool !r19) (ee st rfl) hc17 (ee st rfl)) <| wl_end <| lv_next ?_
   rcases bool_cases (!r19) with hc21 | hc21
   ·replace hG := cond_t hG hc21
    have hc21_22 : r19 = false := by simpa using hc21
    refine cc_cond_t rfl hc21 <| cc_region <| wa rfl (v := I 2) rfl <| wl_end <| lv_next <| cc_seq <| cc_seq <| cc_region <| wm rfl (v := I 2) rfl <| wd rfl (fun st => x_neq (ee st rfl) (ee st rfl)) <| wl_end <| lv_next ?_
    rcases bool_cases (2 != 0) with hc23 | hc23
    ·replace hG := cond_t hG hc23
     refine cc_cond_t rfl hc23 <| cc_seq <| cc_region <| wm rfl (v := I r11.2.2) rfl <| wm rfl (v := I 2) rfl <| wd rfl (fun st => x_eql (ee st rfl) (ee st rfl)) <| wm rfl (v := .bool (r11.2.2 == 2)) rfl ?_
     rcases bool_cases (r11.2.2 == 2) with hc24 | hc24
     ·replace hG := cond_t hG hc24
      refine wl_detg rfl rfl (guard_eq rfl hc24) rfl (by decide) (fun st => x_move (v := I r11.1) (ee st rfl)) <| wl_detg rfl rfl (guard_eq rfl hc24) rfl (by decide) (fun st => x_eql (ee st rfl) (ee st rfl)) <| wd rfl (fun st => x_pick_t (v := .bool (r11.1 == 0)) (ee st rfl) hc24 (ee st rfl)) <| wm rfl (v := .bool (r11.1 == 0)) rfl ?_
      rcases bool_cases (r11.1 == 0) with hc25 | hc25
      ·replace hG := cond_t hG hc25
       refine wl_detg rfl rfl (guard_eq rfl hc25) rfl (by decide) (fun st => x_move (v := I r11.2.1) (ee st rfl)) <| wl_detg rfl rfl (guard_eq rfl hc25) rfl (by decide) (fun st => x_eql (ee st rfl) (ee st rfl)) <| wd rfl (fun st => x_pick_t (v := .bool (r11.2.1 == 0)) (ee st rfl) hc25 (ee st rfl)) <| wm rfl (v := .bool (r11.2.1 == 0)) rfl ?_
       rcases bool_cases (r11.2.1 == 0) with hc26 | hc26
       ·replace hG := cond_t hG hc26
        replace hG := ifo_bind hG; obtain ⟨hw27, hG⟩ := hG
        refine wl_exg rfl rfl (guard_eq rfl hc26) rfl (by decide) (fun st => x_call0 own_21 (ee st rfl) am0 (a21 K_ ZA _ hw27)) ?_
        rintro _ w28 ⟨hx27, rfl⟩
        have hp9 : Hp w [some b1] w28 := hp8.ext hx27
        refine wd rfl (fun st => x_pick_t (v := .bool true) (ee st rfl) hc26 (ee st rfl)) <| wa rfl (v := .bool true) rfl <| wl_end <| lv_next <| cc_ret <| lv_then_ret ?_
        have hr_ := Option.some.inj hG
        refine lv_ret1 rfl rfl ?_
        exact ⟨hp9.fin, congrArg Value.bool hr_⟩
       ·replace hG := cond_f hG hc26
        exact absurd (Option.some.inj hG) (by decide)
      ·replace hG := cond_f hG hc25
       exact absurd (Option.some.inj hG) (by decide)
     ·replace hG := cond_f hG hc24
      exact absurd (Option.some.inj hG) (by decide)
    ·replace hG := cond_f hG hc23
     refine cc_cond_f rfl hc23 <| cc_skip <| lv_next <| cc_seq <| cc_region ?_
     have bk1_8 : Bk w20 b1 26 #[I p0.rows, I p0.wd, I p0.lo, I p0.hi, .slice A0_0 p0.ts.length c0_0] := (bk1_7.ext hx19)
     refine wd rfl (fun st => x_loadn (l := [I p0.rows, I p0.wd, I p0.lo, I p0.hi, .slice A0_0 p0.ts.length c0_0]) agg_26 (ee st rfl) bk1_8 rfl rfl) <| wm rfl (v := .slice A13_ra r13.1.length c13_ra) rfl <| wm rfl (v := I p1) hp_1 ?_
     have hS0_0_8 : Sl eTly w20 (ZZ Z w.heap.size [some b1]) A0_0 c0_0 p0.ts := ((hS0_0_6.mv (mv_ext hx15)).mv (mv_ext hx19))
     have hS13_ra_8 : Sl (eSl (eInt .i64)) w20 (ZZ Z w.heap.size [some b1]) A13_ra c13_ra r13.1 := ((hS13_ra.mv (mv_ext hx15)).mv (mv_ext hx19))
     replace hG := bind_some hG; obtain ⟨r29, hr29, hG⟩ := hG
     refine we rfl (fun st => x_call0 own_33 (ee st rfl) (am3 (ee st rfl) (ee st rfl) (ee st rfl)) (a33 K_ K_ p0 r13.1 p1 A0_0 c0_0 A13_ra c13_ra ZA _ hS0_0_8.all hS13_ra_8.all r29 hr29)) ?_
     rintro _ w30 ⟨hx29, _, _, rfl, rfl, rfl⟩
     have hp10 : Hp w [some b1] w30 := hp8.ext hx29
     refine wm rfl (v := .tuple #[I r29.1, I r29.2]) rfl <| wd rfl (fun st => x_extract (v := I r29.1) (ee st rfl) rfl) <| wd rfl (fun st => x_extract (v := I r29.2) (ee st rfl) rfl) <| wa rfl (v := I r29.1) rfl <| wa rfl (v := I r29.2) rfl <| wl_end <| lv_next <| cc_seq <| cc_region <| wm rfl (v := I r11.2.2) rfl <| wd rfl (fun st => x_eql (ee st rfl) (ee st rfl)) <| wm rfl (v := .bool (r11.2.2 == 0)) rfl ?_
     rcases bool_cases (r11.2.2 == 0) with hc31 | hc31
     ·replace hG := cond_t hG hc31
      refine wl_detg rfl rfl (guard_eq rfl hc31) rfl (by decide) (fun st => x_move (v := I r11.1) (ee st rfl)) <| wl_detg rfl rfl (guard_eq rfl hc31) rfl (by decide) (fun st => x_move (v := I r29.1) (ee st rfl)) <| wl_detg rfl rfl (guard_eq rfl hc31) rfl (by decide) (fun st => x_eql (ee st rfl) (ee st rfl)) <| wd rfl (fun st => x_pick_t (v := .bool (r11.1 == r29.1)) (ee st rfl) hc31 (ee st rfl)) <| wm rfl (v := .bool (r11.1 == r29.1)) rfl ?_
      rcases bool_cases (r11.1 == r29.1) with hc32 | hc32
      ·replace hG := cond_t hG hc32
       refine wl_detg rfl rfl (guard_eq rfl hc32) rfl (by decide) (fun st => x_move (v := I r11.2.1) (ee st rfl)) <| wl_detg rfl rfl (guard_eq rfl hc32) rfl (by decide) (fun st => x_move (v := I r29.2) (ee st rfl)) <| wl_detg rfl rfl (guard_eq rfl hc32) rfl (by decide) (fun st => x_eql (ee st rfl) (ee st rfl)) <| wd rfl (fun st => x_pick_t (v := .bool (r11.2.1 == r29.2)) (ee st rfl) hc32 (ee st rfl)) <| wm rfl (v := .bool (r11.2.1 == r29.2)) rfl ?_
       rcases bool_cases (r11.2.1 == r29.2) with hc33 | hc33
       ·replace hG := cond_t hG hc33
        replace hG := ifo_bind hG; obtain ⟨hw34, hG⟩ := hG
        refine wl_exg rfl rfl (guard_eq rfl hc33) rfl (by decide) (fun st => x_call0 own_21 (ee st rfl) am0 (a21 K_ ZA _ hw34)) ?_
        rintro _ w35 ⟨hx34, rfl⟩
        have hp11 : Hp w [some b1] w35 := hp10.ext hx34
        refine wd rfl (fun st => x_pick_t (v := .bool true) (ee st rfl) hc33 (ee st rfl)) <| wa rfl (v := .bool true) rfl <| wl_end <| lv_next <| cc_ret ?_
        have hr_ := Option.some.inj hG
        refine lv_ret1 rfl rfl ?_
        exact ⟨hp11.fin, congrArg Value.bool hr_⟩
       ·replace hG := cond_f hG hc33
        exact absurd (Option.some.inj hG) (by decide)
      ·replace hG := cond_f hG hc32
       exact absurd (Option.some.inj hG) (by decide)
     ·replace hG := cond_f hG hc31
      exact absurd (Option.some.inj hG) (by decide)
   ·replace hG := cond_f hG hc21
    have hc21_36 : r19 = true := by simpa using hc21
    refine cc_cond_f rfl hc21 <| cc_skip <| lv_next <| cc_seq <| cc_seq <| cc_region <| wm rfl (v := I r13.2) rfl <| wd rfl (fun st => x_neq (ee st rfl) (ee st rfl)) <| wl_end <| lv_next ?_
    rcases bool_cases (r13.2 != 0) with hc37 | hc37
    ·replace hG := cond_t hG hc37
     refine cc_cond_t rfl hc37 <| cc_seq <| cc_region <| wm rfl (v := I r11.2.2) rfl <| wm rfl (v := I r13.2) rfl <| wd rfl (fun st => x_eql (ee st rfl) (ee st rfl)) <| wm rfl (v := .bool (r11.2.2 == r13.2)) rfl ?_
     rcases bool_cases (r11.2.2 == r13.2) with hc38 | hc38
     ·replace hG := cond_t hG hc38
      refine wl_detg rfl rfl (guard_eq rfl hc38) rfl (by decide) (fun st => x_move (v := I r11.1) (ee st rfl)) <| wl_detg rfl rfl (guard_eq rfl hc38) rfl (by decide) (fun st => x_eql (ee st rfl) (ee st rfl)) <| wd rfl (fun st => x_pick_t (v := .bool (r11.1 == 0)) (ee st rfl) hc38 (ee st rfl)) <| wm rfl (v := .bool (r11.1 == 0)) rfl ?_
      rcases bool_cases (r11.1 == 0) with hc39 | hc39
      ·replace hG := cond_t hG hc39
       refine wl_detg rfl rfl (guard_eq rfl hc39) rfl (by decide) (fun st => x_move (v := I r11.2.1) (ee st rfl)) <| wl_detg rfl rfl (guard_eq rfl hc39) rfl (by decide) (fun st => x_eql (ee st rfl) (ee st rfl)) <| wd rfl (fun st => x_pick_t (v := .bool (r11.2.1 == 0)) (ee st rfl) hc39 (ee st rfl)) <| wm rfl (v := .bool (r11.2.1 == 0)) rfl ?_
       rcases bool_cases (r11.2.1 == 0) with hc40 | hc40
       ·replace hG := cond_t hG hc40
        replace hG := ifo_bind hG; obtain ⟨hw41, hG⟩ := hG
        refine wl_exg rfl rfl (guard_eq rfl hc40) rfl (by decide) (fun st => x_call0 own_21 (ee st rfl) am0 (a21 K_ ZA _ hw41)) ?_
        rintro _ w42 ⟨hx41, rfl⟩
        have hp12 : Hp w [some b1] w42 := hp8.ext hx41
        refine wd rfl (fun st => x_pick_t (v := .bool true) (ee st rfl) hc40 (ee st rfl)) <| wa rfl (v := .bool true) rfl <| wl_end <| lv_next <| cc_ret <| lv_then_ret ?_
        have hr_ := Option.some.inj hG
        refine lv_ret1 rfl rfl ?_
        exact ⟨hp12.fin, congrArg Value.bool hr_⟩
       ·replace hG := cond_f hG hc40
        exact absurd (Option.some.inj hG) (by decide)
      ·replace hG := cond_f hG hc39
       exact absurd (Option.some.inj hG) (by decide)
     ·replace hG := cond_f hG hc38
      exact absurd (Option.some.inj hG) (by decide)
    ·replace hG := cond_f hG hc37
     refine cc_cond_f rfl hc37 <| cc_skip <| lv_next <| cc_seq <| cc_region ?_
     have bk1_8 : Bk w20 b1 26 #[I p0.rows, I p0.wd, I p0.lo, I p0.hi, .slice A0_0 p0.ts.length c0_0] := (bk1_7.ext hx19)
     refine wd rfl (fun st => x_loadn (l := [I p0.rows, I p0.wd, I p0.lo, I p0.hi, .slice A0_0 p0.ts.length c0_0]) agg_26 (ee st rfl) bk1_8 rfl rfl) <| wm rfl (v := .slice A13_ra r13.1.length c13_ra) rfl <| wm rfl (v := I p1) hp_1 ?_
     have hS0_0_8 : Sl eTly w20 (ZZ Z w.heap.size [some b1]) A0_0 c0_0 p0.ts := ((hS0_0_6.mv (mv_ext hx15)).mv (mv_ext hx19))
     have hS13_ra_8 : Sl (eSl (eInt .i64)) w20 (ZZ Z w.heap.size [some b1]) A13_ra c13_ra r13.1 := ((hS13_ra.mv (mv_ext hx15)).mv (mv_ext hx19))
     replace hG := bind_some hG; obtain ⟨r43, hr43, hG⟩ := hG
     refine we rfl (fun st => x_call0 own_33 (ee st rfl) (am3 (ee st rfl) (ee st rfl) (ee st rfl)) (a33 K_ K_ p0 r13.1 p1 A0_0 c0_0 A13_ra c13_ra ZA _ hS0_0_8.all hS13_ra_8.all r43 hr43)) ?_
     rintro _ w44 ⟨hx43, _, _, rfl, rfl, rfl⟩
     have hp13 : Hp w [some b1] w44 := hp8.ext hx43
     refine wm rfl (v := .tuple #[I r43.1, I r43.2]) rfl <| wd rfl (fun st => x_extract (v := I r43.1) (ee st rfl) rfl) <| wd rfl (fun st => x_extract (v := I r43.2) (ee st rfl) rfl) <| wa rfl (v := I r43.1) rfl <| wa rfl (v := I r43.2) rfl <| wl_end <| lv_next <| cc_seq <| cc_region <| wm rfl (v := I r11.2.2) rfl <| wd rfl (fun st => x_eql (ee st rfl) (ee st rfl)) <| wm rfl (v := .bool (r11.2.2 == 0)) rfl ?_
     rcases bool_cases (r11.2.2 == 0) with hc45 | hc45
     ·replace hG := cond_t hG hc45
      refine wl_detg rfl rfl (guard_eq rfl hc45) rfl (by decide) (fun st => x_move (v := I r11.1) (ee st rfl)) <| wl_detg rfl rfl (guard_eq rfl hc45) rfl (by decide) (fun st => x_move (v := I r43.1) (ee st rfl)) <| wl_detg rfl rfl (guard_eq rfl hc45) rfl (by decide) (fun st => x_eql (ee st rfl) (ee st rfl)) <| wd rfl (fun st => x_pick_t (v := .bool (r11.1 == r43.1)) (ee st rfl) hc45 (ee st rfl)) <| wm rfl (v := .bool (r11.1 == r43.1)) rfl ?_
      rcases bool_cases (r11.1 == r43.1) with hc46 | hc46
      ·replace hG := cond_t hG hc46
       refine wl_detg rfl rfl (guard_eq rfl hc46) rfl (by decide) (fun st => x_move (v := I r11.2.1) (ee st rfl)) <| wl_detg rfl rfl (guard_eq rfl hc46) rfl (by decide) (fun st => x_move (v := I r43.2) (ee st rfl)) <| wl_detg rfl rfl (guard_eq rfl hc46) rfl (by decide) (fun st => x_eql (ee st rfl) (ee st rfl)) <| wd rfl (fun st => x_pick_t (v := .bool (r11.2.1 == r43.2)) (ee st rfl) hc46 (ee st rfl)) <| wm rfl (v := .bool (r11.2.1 == r43.2)) rfl ?_
       rcases bool_cases (r11.2.1 == r43.2) with hc47 | hc47
       ·replace hG := cond_t hG hc47
        replace hG := ifo_bind hG; obtain ⟨hw48, hG⟩ := hG
        refine wl_exg rfl rfl (guard_eq rfl hc47) rfl (by decide) (fun st => x_call0 own_21 (ee st rfl) am0 (a21 K_ ZA _ hw48)) ?_
        rintro _ w49 ⟨hx48, rfl⟩
        have hp14 : Hp w [some b1] w49 := hp13.ext hx48
        refine wd rfl (fun st => x_pick_t (v := .bool true) (ee st rfl) hc47 (ee st rfl)) <| wa rfl (v := .bool true) rfl <| wl_end <| lv_next <| cc_ret ?_
        have hr_ := Option.some.inj hG
        refine lv_ret1 rfl rfl ?_
        exact ⟨hp14.fin, congrArg Value.bool hr_⟩
       ·replace hG := cond_f hG hc47
        exact absurd (Option.some.inj hG) (by decide)
      ·replace hG := cond_f hG hc46
       exact absurd (Option.some.inj hG) (by decide)
     ·replace hG := cond_f hG hc45
      exact absurd (Option.some.inj hG) (by decide)
  ·replace hG := cond_f hG hc17
   refine wl_skip (c := false) rfl rfl (guard_eq rfl hc17) (by decide) rfl (by decide) <| wl_skip (c := false) rfl rfl (guard_eq rfl hc17) (by decide) rfl (by decide) <| wl_skip (c := false) rfl rfl (guard_eq rfl hc17) (by decide) rfl (by decide) <| wl_skip (c := false) rfl rfl (guard_eq rfl hc17) (by decide) rfl (by decide) <| wl_skip (c := false) rfl rfl (guard_eq rfl hc17) (by decide) rfl (by decide) <| wl_skip (c := false) rfl rfl (guard_eq rfl hc17) (by decide) rfl (by decide) <| wd rfl (fun st => x_pick_f (v := .bool false) (ee st rfl) hc17 (ee st rfl)) <| wl_end <| lv_next <| cc_cond_f rfl rfl <| cc_skip <| lv_next <| cc_seq <| cc_seq <| cc_region <| wm rfl (v := I r13.2) rfl <| wd rfl (fun st => x_neq (ee st rfl) (ee st rfl)) <| wl_end <| lv_next ?_
   rcases bool_cases (r13.2 != 0) with hc50 | hc50
   ·replace hG := cond_t hG hc50
    refine cc_cond_t rfl hc50 <| cc_seq <| cc_region <| wm rfl (v := I r11.2.2) rfl <| wm rfl (v := I r13.2) rfl <| wd rfl (fun st => x_eql (ee st rfl) (ee st rfl)) <| wm rfl (v := .bool (r11.2.2 == r13.2)) rfl ?_
    rcases bool_cases (r11.2.2 == r13.2) with hc51 | hc51
    ·replace hG := cond_t hG hc51
     refine wl_detg rfl rfl (guard_eq rfl hc51) rfl (by decide) (fun st => x_move (v := I r11.1) (ee st rfl)) <| wl_detg rfl rfl (guard_eq rfl hc51) rfl (by decide) (fun st => x_eql (ee st rfl) (ee st rfl)) <| wd rfl (fun st => x_pick_t (v := .bool (r11.1 == 0)) (ee st rfl) hc51 (ee st rfl)) <| wm rfl (v := .bool (r11.1 == 0)) rfl ?_
     rcases bool_cases (r11.1 == 0) with hc52 | hc52
     ·replace hG := cond_t hG hc52
      refine wl_detg rfl rfl (guard_eq rfl hc52) rfl (by decide) (fun st => x_move (v := I r11.2.1) (ee st rfl)) <| wl_detg rfl rfl (guard_eq rfl hc52) rfl (by decide) (fun st => x_eql (ee st rfl) (ee st rfl)) <| wd rfl (fun st => x_pick_t (v := .bool (r11.2.1 == 0)) (ee st rfl) hc52 (ee st rfl)) <| wm rfl (v := .bool (r11.2.1 == 0)) rfl ?_
      rcases bool_cases (r11.2.1 == 0) with hc53 | hc53
      ·replace hG := cond_t hG hc53
       replace hG := ifo_bind hG; obtain ⟨hw54, hG⟩ := hG
       refine wl_exg rfl rfl (guard_eq rfl hc53) rfl (by decide) (fun st => x_call0 own_21 (ee st rfl) am0 (a21 K_ ZA _ hw54)) ?_
       rintro _ w55 ⟨hx54, rfl⟩
       have hp15 : Hp w [some b1] w55 := hp7.ext hx54
       refine wd rfl (fun st => x_pick_t (v := .bool true) (ee st rfl) hc53 (ee st rfl)) <| wa rfl (v := .bool true) rfl <| wl_end <| lv_next <| cc_ret <| lv_then_ret ?_
       have hr_ := Option.some.inj hG
       refine lv_ret1 rfl rfl ?_
       exact ⟨hp15.fin, congrArg Value.bool hr_⟩
      ·replace hG := cond_f hG hc53
       exact absurd (Option.some.inj hG) (by decide)
     ·replace hG := cond_f hG hc52
      exact absurd (Option.some.inj hG) (by decide)
    ·replace hG := cond_f hG hc51
     exact absurd (Option.some.inj hG) (by decide)
   ·replace hG := cond_f hG hc50
    refine cc_cond_f rfl hc50 <| cc_skip <| lv_next <| cc_seq <| cc_region ?_
    have bk1_7 : Bk w16 b1 26 #[I p0.rows, I p0.wd, I p0.lo, I p0.hi, .slice A0_0 p0.ts.length c0_0] := (bk1_6.ext hx15)
    refine wd rfl (fun st => x_loadn (l := [I p0.rows, I p0.wd, I p0.lo, I p0.hi, .slice A0_0 p0.ts.length c0_0]) agg_26 (ee st rfl) bk1_7 rfl rfl) <| wm rfl (v := .slice A13_ra r13.1.length c13_ra) rfl <| wm rfl (v := I p1) hp_1 ?_
    have hS0_0_7 : Sl eTly w16 (ZZ Z w.heap.size [some b1]) A0_0 c0_0 p0.ts := (hS0_0_6.mv (mv_ext hx15))
    have hS13_ra_7 : Sl (eSl (eInt .i64)) w16 (ZZ Z w.heap.size [some b1]) A13_ra c13_ra r13.1 := (hS13_ra.mv (mv_ext hx15))
    replace hG := bind_some hG; obtain ⟨r56, hr56, hG⟩ := hG
    refine we rfl (fun st => x_call0 own_33 (ee st rfl) (am3 (ee st rfl) (ee st rfl) (ee st rfl)) (a33 K_ K_ p0 r13.1 p1 A0_0 c0_0 A13_ra c13_ra ZA _ hS0_0_7.all hS13_ra_7.all r56 hr56)) ?_
    rintro _ w57 ⟨hx56, _, _, rfl, rfl, rfl⟩
    have hp16 : Hp w [some b1] w57 := hp7.ext hx56
    refine wm rfl (v := .tuple #[I r56.1, I r56.2]) rfl <| wd rfl (fun st => x_extract (v := I r56.1) (ee st rfl) rfl) <| wd rfl (fun st => x_extract (v := I r56.2) (ee st rfl) rfl) <| wa rfl (v := I r56.1) rfl <| wa rfl (v := I r56.2) rfl <| wl_end <| lv_next <| cc_seq <| cc_region <| wm rfl (v := I r11.2.2) rfl <| wd rfl (fun st => x_eql (ee st rfl) (ee st rfl)) <| wm rfl (v := .bool (r11.2.2 == 0)) rfl ?_
    rcases bool_cases (r11.2.2 == 0) with hc58 | hc58
    ·replace hG := cond_t hG hc58
     refine wl_detg rfl rfl (guard_eq rfl hc58) rfl (by decide) (fun st => x_move (v := I r11.1) (ee st rfl)) <| wl_detg rfl rfl (guard_eq rfl hc58) rfl (by decide) (fun st => x_move (v := I r56.1) (ee st rfl)) <| wl_detg rfl rfl (guard_eq rfl hc58) rfl (by decide) (fun st => x_eql (ee st rfl) (ee st rfl)) <| wd rfl (fun st => x_pick_t (v := .bool (r11.1 == r56.1)) (ee st rfl) hc58 (ee st rfl)) <| wm rfl (v := .bool (r11.1 == r56.1)) rfl ?_
     rcases bool_cases (r11.1 == r56.1) with hc59 | hc59
     ·replace hG := cond_t hG hc59
      refine wl_detg rfl rfl (guard_eq rfl hc59) rfl (by decide) (fun st => x_move (v := I r11.2.1) (ee st rfl)) <| wl_detg rfl rfl (guard_eq rfl hc59) rfl (by decide) (fun st => x_move (v := I r56.2) (ee st rfl)) <| wl_detg rfl rfl (guard_eq rfl hc59) rfl (by decide) (fun st => x_eql (ee st rfl) (ee st rfl)) <| wd rfl (fun st => x_pick_t (v := .bool (r11.2.1 == r56.2)) (ee st rfl) hc59 (ee st rfl)) <| wm rfl (v := .bool (r11.2.1 == r56.2)) rfl ?_
      rcases bool_cases (r11.2.1 == r56.2) with hc60 | hc60
      ·replace hG := cond_t hG hc60
       replace hG := ifo_bind hG; obtain ⟨hw61, hG⟩ := hG
       refine wl_exg rfl rfl (guard_eq rfl hc60) rfl (by decide) (fun st => x_call0 own_21 (ee st rfl) am0 (a21 K_ ZA _ hw61)) ?_
       rintro _ w62 ⟨hx61, rfl⟩
       have hp17 : Hp w [some b1] w62 := hp16.ext hx61
       refine wd rfl (fun st => x_pick_t (v := .bool true) (ee st rfl) hc60 (ee st rfl)) <| wa rfl (v := .bool true) rfl <| wl_end <| lv_next <| cc_ret ?_
       have hr_ := Option.some.inj hG
       refine lv_ret1 rfl rfl ?_
       exact ⟨hp17.fin, congrArg Value.bool hr_⟩
      ·replace hG := cond_f hG hc60
       exact absurd (Option.some.inj hG) (by decide)
     ·replace hG := cond_f hG hc59
      exact absurd (Option.some.inj hG) (by decide)
    ·replace hG := cond_f hG hc58
     exact absurd (Option.some.inj hG) (by decide)
end Go.Proofs.Ythogdgkafaclaaa
end
section
namespace Go.Proofs.Ythogdgkafaclaaa
open Go.RowKit Go.ChangeShapes Go.WideShapes
theorem mapM_all {α β : Type} {g : α → Option β} : ∀ {l : List α} {r : List β}, l.mapM g = some r → ∀ x ∈ l, ∃ y, g x = some y
  | [], _, _, x, hx => by cases hx
  | a :: l, r, h, x, hx => by
    rw [List.mapM_cons] at h
    obtain ⟨y, hy, h2⟩ := Option.bind_eq_some_iff.1 h
    obtain ⟨ys, hys, _⟩ := Option.bind_eq_some_iff.1 h2
    rcases List.mem_cons.1 hx with rfl | hx
    · exact ⟨y, hy⟩
    · exact mapM_all hys x hx
/-- A reading of this type is data of this kind. -/
def Opn {α : Type} (P : Program) (t : TypeId) (e : Enc α) (wf : α → Prop) : Prop :=
  ∀ (H : Type) (enc : TypeId × Value → H) (w : World) (sp : Nat → Bool) (fuel : Nat) (cs : List Value) (x : DataW H × List MemPlace), DataW.trod enc P w 0 sp true fuel t cs = some x → ∃ a, e.R w ZA cs a ∧ wf a
def wfI (k : IntKind) (n : Int) : Prop := (Lit.int k n).wf = true
section
variable {P : Program} {t : TypeId}
theorem opn_int {k : IntKind} (ht : P.underlying t = some (.int k)) : Opn P t (eInt k) (wfI k) := by
  intro H enc w sp fuel cs x h
  obtain ⟨n, h1, _, h3⟩ := DataW.trod_int ht h
  exact ⟨n, h1, h3⟩
/-- A struct's fields. -/
theorem trod_fields {fs : Array Field} (ht : P.underlying t = some (.struct fs)) {H : Type} {enc : TypeId × Value → H} {w : World} {sp : Nat → Bool} {fuel : Nat} {cs : List Value} {x : DataW H × List MemPlace} (h : DataW.trod enc P w 0 sp true fuel t cs = some x) :
    cs.length = P.cellsOf t ∧ ∃ fuel', ∀ (i ft off : Nat), (fs[i]?).map (fun f => (f.type, f.offset)) = some (ft, off) → ∃ y, DataW.trod enc P w 0 sp true fuel' ft ((cs.drop off).take (P.cellsOf ft)) = some y := by
  cases fuel with
  | zero => simp [DataW.trod] at h
  | succ fuel =>
    unfold DataW.trod at h
    simp only [ht] at h
    split at h
    · rename_i hl
      obtain ⟨xs, hx, _⟩ := Option.map_eq_some_iff.1 h
      refine ⟨hl, fuel, fun i ft off hf => ?_⟩
      obtain ⟨f, hf', he⟩ := Option.map_eq_some_iff.1 hf
      obtain ⟨e1, e2⟩ : f.type = ft ∧ f.offset = off := by simpa using he
      have hm : f ∈ fs.toList := by rw [← Array.getElem?_toList] at hf'; exact List.mem_of_getElem? hf'
      have := mapM_all hx f hm
      rw [e1, e2] at this
      exact this
    · cases h
theorem cells_cell {w : World} {a : Addr} {n : Nat} {cs : List Value} (h : w.cells? 0 a n = some cs) : cs.length = n ∧ ∀ j u, cs[j]? = some u → w.cell? (a.add j) = some u := by
  unfold World.cells? at h
  rw [if_pos (Nat.zero_le _)] at h
  have hl := mapM_some_length h
  refine ⟨by simpa using hl, ?_⟩
  have key : ∀ (l : List Nat) (r : List Value), l.mapM (fun i => w.cell? (a.add i)) = some r → ∀ (j i : Nat) (u : Value), l[j]? = some i → r[j]? = some u → w.cell? (a.add i) = some u := by
    intro l
    induction l with
    | nil => intro r _ j i u hj; simp at hj
    | cons b l ih =>
      intro r h j i u hj hr
      rw [List.mapM_cons] at h
      obtain ⟨y, hy, h2⟩ := Option.bind_eq_some_iff.1 h
      obtain ⟨ys, hys, h3⟩ := Option.bind_eq_some_iff.1 h2
      obtain rfl : y :: ys = r := by simpa using h3
      cases j with
      | zero =>
        obtain rfl : b = i := by simpa using hj
        obtain rfl : y = u := by simpa using hr
        exact hy
      | succ j => exact ih ys hys j i u (by simpa using hj) (by simpa using hr)
  intro j u hj
  have hlt : j < n := by
    have := (List.getElem?_eq_some_iff.1 hj).1
    have h2 : cs.length = n := by simpa using hl
    omega
  exact key _ _ h j j u (by simp [hlt]) hj
theorem cell_none {w : World} {a : Addr} {u : Value} (h : w.cell? a = some u) : ∃ b o, a = ⟨b, o, none⟩ ∧ b < w.heap.size := by
  obtain ⟨b, o, pt⟩ := a
  cases pt with
  | none =>
    refine ⟨b, o, rfl, ?_⟩
    unfold World.cell? at h
    cases hq : w.heap[b]? with
    | none => simp [hq] at h
    | some o => exact (Array.getElem?_eq_some_iff.1 hq).1
  | some q =>
    unfold World.cell? at h
    cases hq : w.heap[b]? with
    | none => simp [hq] at h
    | some ob => cases ob <;> simp [hq] at h
theorem add_add {a : Addr} {k j : Nat} (h : k ≤ j) : (a.add k).add (j - k) = a.add j := by
  obtain ⟨b, o, pt⟩ := a
  cases pt with
  | none => rw [addr_add, addr_add, addr_add]; congr 1; omega
  | some q =>
    unfold Addr.add
    by_cases hj : j = 0
    · have : k = 0 := by omega
      subst this; subst hj; simp
    · by_cases hk : k = 0
      · subst hk; simp [hj]
      · by_cases hjk : j - k = 0
        · have : j = k := by omega
          subst this; simp [hk]
        · simp [hj, hk, hjk]; omega
/-- Slices of what can be read. -/
theorem opn_slice {α : Type} {e : TypeId} {ee : Enc α} {wf : α → Prop} (ht : P.underlying t = some (.slice e)) (hc : P.cellsOf e = ee.sz) (h0 : 0 < ee.sz) (ho : Opn P e ee wf) : Opn P t (eSl ee) (fun xs => xs.length ≤ maxLen ∧ ∀ x ∈ xs, wf x) := by
  intro H enc w sp fuel cs x h
  rcases Go.Deep.open_slice ht h with ⟨rfl, _⟩ | ⟨a, len, cap, m, n0, D, Pl, rfl, _, hlc, hcm, hm, _, hall⟩
  · exact ⟨[], ⟨none, 0, rfl, Sl.nil _ _ _⟩, by simp, by simp⟩
  · have hlm : len ≤ m := by rw [hm]; split <;> omega
    have key : ∀ n, n ≤ len → ∃ css xs, R2 ee w ZA css xs ∧ xs.length = n ∧ (∀ x ∈ xs, wf x) ∧ ∀ j u, css.flatten[j]? = some u → w.cell? (a.add j) = some u := by
      intro n
      induction n with
      | zero => exact fun _ => ⟨[], [], trivial, rfl, by simp, by simp⟩
      | succ n ih =>
        intro hn
        obtain ⟨css, xs, h1, h2, h3, h4⟩ := ih (by omega)
        obtain ⟨ds, hd, hy2⟩ := hall n (by omega)
        obtain ⟨z, hz, hwz⟩ := ho _ _ _ _ _ _ _ hy2
        obtain ⟨hl, hcell⟩ := cells_cell hd
        refine ⟨css ++ [ds], xs ++ [z], h1.append ⟨hz, trivial⟩, by simp [h2], ?_, ?_⟩
        · intro x hx
          rcases List.mem_append.1 hx with hx | hx
          · exact h3 x hx
          · rw [List.mem_singleton.1 hx]; exact hwz
        · intro j u hj
          rw [List.flatten_append] at hj
          rcases Nat.lt_or_ge j css.flatten.length with hlt | hge
          · rw [List.getElem?_append_left hlt] at hj
            exact h4 j u hj
          · rw [List.getElem?_append_right hge] at hj
            have h5 := hcell (j - css.flatten.length) u (by simpa using hj)
            have hfl : css.flatten.length = n * ee.sz := by rw [h1.flen, h2]
            rw [hfl] at h5 hge
            rw [hc] at h5
            rw [add_add hge] at h5
            exact h5
    obtain ⟨css, xs, h1, h2, h3, h4⟩ := key len (Nat.le_refl _)
    refine ⟨xs, ⟨some a, cap, by rw [h2], by rw [h2]; exact hlc, (fun e => by cases e), css, h1, ?_⟩, by rw [h2]; exact Nat.le_trans hlc hcm, h3⟩
    cases hf : css.flatten with
    | nil => exact .inl rfl
    | cons u us =>
      have hu := h4 0 u (by rw [hf]; rfl)
      obtain ⟨b, o, hab, hlt⟩ := cell_none hu
      have ha : a = ⟨b, o, none⟩ := by
        obtain ⟨b', o', pt⟩ := a
        cases pt <;> simp [Addr.add] at hab ⊢
        exact hab
      subst ha
      refine .inr ⟨b, o, rfl, trivial, hlt, fun j u hj => ?_⟩
      have := h4 j u (by rw [hf]; exact hj)
      rw [addr_add] at this
      exact this
end
section
variable {H : Type} {enc : TypeId × Value → H} {P : Program} {W W' : World}
theorem trodAll_carry {sp : Nat → Bool} : ∀ {ts : List TypeId} {vs : List Value} {ds : List (DataW H)} {ps : List MemPlace}, DataW.TrodAll enc P W 0 sp true ts vs ds ps → (∀ p ∈ ps, W.sameAt W' p) → DataW.TrodAll enc P W' 0 sp true ts vs ds ps
  | [], _, _, _, h, _ => by
    obtain ⟨rfl, rfl, rfl⟩ := trodAll_nil h
    exact rfl
  | _ :: _, _, _, _, h, hs => by
    obtain ⟨v, vs1, d, ds1, a, b, rfl, rfl, rfl, ⟨n, hn⟩, h2⟩ := trodAll_cons h
    exact ⟨a, b, ⟨n, DataW.trod_carry n _ _ _ hn fun p hp => hs p (List.mem_append_left _ hp)⟩, trodAll_carry h2 fun p hp => hs p (List.mem_append_right _ hp), rfl⟩
theorem args_read (K : Kids P (· < P.types.size)) (hz : ∀ t e, t < P.types.size → P.underlying t = some (.slice e) → 0 < P.cellsOf e) {ts : List TypeId} {vs : List Value} {ds : List (DataW H)} {ps : List MemPlace} (hT : ∀ t ∈ ts, t < P.types.size)
    (hA : DataW.TrodAll enc P W 0 (fun _ => true) true ts vs ds ps) (hb : Ext W W') (hlt : ∀ p ∈ ps, p.block < W.heap.size) (sp : Nat → Bool) (hs : ∀ p ∈ ps, sp p.block = true) : DataW.TrodAll enc P W' 0 sp true ts vs ds ps :=
  trodAll_carry (DataW.TrodAll.respare K hz hT hA hs) fun p hp => (below_of_ext hb).same (hlt p hp)
variable {α : Type} {e : Enc α} {wf : α → Prop} {t : TypeId} {b0 : Nat} {v : Value} {d : DataW H} {p : List MemPlace} {sp : Nat → Bool}
theorem val_agg {fs : Array Field} (ht : P.underlying t = some (.struct fs)) (ho : Opn P t e wf) (hv : Value.okWide P W .any b0 t v) (h : DataW.Trod enc P W 0 sp true t v d p) : ∃ a cs, v = .agg cs.toArray ∧ e.R W ZA cs a ∧ wf a := by
  unfold Value.okWide at hv
  rw [ht] at hv
  obtain ⟨cs, rfl, _⟩ := hv
  obtain ⟨n, hn⟩ := h
  obtain ⟨a, h1, h2⟩ := ho _ _ _ _ _ _ _ hn
  exact ⟨a, cs.toList, by simp, h1, h2⟩
theorem val_int {k : IntKind} (ht : P.underlying t = some (.int k)) (hv : Value.okWide P W .any b0 t v) (h : DataW.Trod enc P W 0 sp true t v d p) : ∃ n, v = .int k n ∧ wfI k n := by
  obtain ⟨n, h1, _, _, h4⟩ := open_int ht hv h
  exact ⟨n, h1, h4⟩
/-- The row's end: the call has laid new blocks alone. -/
theorem post_of_ext {f : Func} {s : ChangeSpec} {apart fresh handsOn again : Bool} {args : Array Value} {v : Value} {ds gs : List (DataW H)} {before pa pv : List MemPlace}
    (hW : DataW.Whole enc P f.params.toList s.vars apart W args.toList ds gs before)
    (hres : ∀ (b : Nat) (sp : Nat → Bool) (hd : Bool), DataW.TrodAll enc P W' b sp hd f.resultTypes.toList (v.resultList f.resultTypes.size) (s.fn H (ds ++ gs)).results [])
    (hargs : ∀ sp : Nat → Bool, (∀ p ∈ before, sp p.block = true) → DataW.TrodAll enc P W' 0 sp true f.params.toList args.toList (s.fn H (ds ++ gs)).args pa)
    (hvars : ∀ sp : Nat → Bool, (∀ p ∈ before, sp p.block = true) → DataW.TrodVars enc P W' sp s.vars (s.fn H (ds ++ gs)).vars pv)
    (hps : before = pa ++ pv) (hx : Ext W W')
    (hok : ∀ (j : Nat) (t : TypeId) (r : Value), f.resultTypes[j]? = some t → (v.resultList f.resultTypes.size)[j]? = some r → Value.okWide P W' .any 0 t r) :
    s.post enc P f apart fresh handsOn again W args v W' := by
  have hb := below_of_ext hx
  have hlt : ∀ p ∈ before, p.block < W.heap.size := fun p hp => hW.lt p hp
  have hold : ∀ p ∈ before, (fun b => decide (b < W.heap.size)) p.block = true := fun p hp => by simpa using hlt p hp
  refine ⟨ds, gs, before, [], pa, pv, hW, hres _ _ _, hargs _ hold, hvars _ hold, World.keptBut_mono (fun p hp => ⟨hp, ?_⟩) (hb.frame (· ∈ before)), fun _ => ?_⟩
  · rw [hps, List.mem_append] at hp
    exact Or.inr hp
  · obtain ⟨_, _, _, _, _, hz, hn⟩ := hW
    refine ⟨hok, _, _, ([] ++ pa) ++ pv, ⟨[] ++ pa, pv, trodAll_append (hargs _ (fun _ _ => rfl)) (hres _ _ _), hvars _ (fun _ _ => rfl), rfl, ?_, ?_⟩, ?_⟩
    · intro b off hp
      have hin : MemPlace.cell b off ∈ before := by rw [hps]; simpa using hp
      rw [hb.frozen (hlt _ hin)]
      exact hz b off hin
    · intro ha
      have := hn ha
      rw [hps] at this
      simpa using this
    · intro p hp _
      rw [hps]
      simpa using hp
theorem ret_calls {f : FuncId} {args : Array Value} {w : World} {R : Value → World → Prop} (h : Ret P f args w R) : Calls P f args w (fun e w' => ∃ v, e = .returned v ∧ R v w') := h
end
end Go.Proofs.Ythogdgkafaclaaa
end
section
set_option linter.unusedVariables false
set_option linter.unusedSimpArgs false
namespace Go.Proofs.Ythogdgkafaclaaa
open Go.RowKit
open Go.RowKit Go.ChangeShapes Go.WideShapes
theorem len_2 : ∀ {cs : List Value}, cs.length = 2 → ∃ a0 a1, cs = [a0, a1]
  | [a0, a1], _ => ⟨a0, a1, rfl⟩
theorem len_5 : ∀ {cs : List Value}, cs.length = 5 → ∃ a0 a1 a2 a3 a4, cs = [a0, a1, a2, a3, a4]
  | [a0, a1, a2, a3, a4], _ => ⟨a0, a1, a2, a3, a4, rfl⟩
theorem opn_23 : Opn Try.prog 23 eR (fun x => (wfI .i64 x.1 ∧ wfI .i64 x.2)) := by
  intro H enc w sp fuel cs x h
  obtain ⟨hl, fuel', hf⟩ := trod_fields Try.underlying23 h
  have hc : Try.prog.cellsOf 23 = 2 := by kernel_rfl
  rw [hc] at hl
  have k3 : Try.prog.cellsOf 3 = 1 := by kernel_rfl
  obtain ⟨a0, a1, rfl⟩ := len_2 hl
  obtain ⟨y0, hy0⟩ := hf 0 3 0 rfl
  simp only [k3, List.drop_zero, List.drop_succ_cons, List.take_succ_cons, List.take_zero] at hy0
  obtain ⟨n0, h0, w0⟩ := (opn_int Try.underlying3) _ _ _ _ _ _ _ hy0
  cases h0
  obtain ⟨y1, hy1⟩ := hf 1 3 1 rfl
  simp only [k3, List.drop_zero, List.drop_succ_cons, List.take_succ_cons, List.take_zero] at hy1
  obtain ⟨n1, h1, w1⟩ := (opn_int Try.underlying3) _ _ _ _ _ _ _ hy1
  cases h1
  exact ⟨⟨n0, n1⟩, rfl, w0, w1⟩
theorem opn_68 : Opn Try.prog 68 eTly (fun x => (wfI .i64 x.who ∧ wfI .i64 x.fr ∧ wfI .i64 x.to ∧ (wfI .i64 ((⟨x.lo, x.hi⟩ : (Int × Int)).1) ∧ wfI .i64 ((⟨x.lo, x.hi⟩ : (Int × Int)).2)))) := by
  intro H enc w sp fuel cs x h
  obtain ⟨hl, fuel', hf⟩ := trod_fields Try.underlying68 h
  have hc : Try.prog.cellsOf 68 = 5 := by kernel_rfl
  rw [hc] at hl
  have k3 : Try.prog.cellsOf 3 = 1 := by kernel_rfl
  have k23 : Try.prog.cellsOf 23 = 2 := by kernel_rfl
  obtain ⟨a0, a1, a2, a3, a4, rfl⟩ := len_5 hl
  obtain ⟨y0, hy0⟩ := hf 0 3 0 rfl
  simp only [k3, List.drop_zero, List.drop_succ_cons, List.take_succ_cons, List.take_zero] at hy0
  obtain ⟨n0, h0, w0⟩ := (opn_int Try.underlying3) _ _ _ _ _ _ _ hy0
  cases h0
  obtain ⟨y1, hy1⟩ := hf 1 3 1 rfl
  simp only [k3, List.drop_zero, List.drop_succ_cons, List.take_succ_cons, List.take_zero] at hy1
  obtain ⟨n1, h1, w1⟩ := (opn_int Try.underlying3) _ _ _ _ _ _ _ hy1
  cases h1
  obtain ⟨y2, hy2⟩ := hf 2 3 2 rfl
  simp only [k3, List.drop_zero, List.drop_succ_cons, List.take_succ_cons, List.take_zero] at hy2
  obtain ⟨n2, h2, w2⟩ := (opn_int Try.underlying3) _ _ _ _ _ _ _ hy2
  cases h2
  obtain ⟨y3, hy3⟩ := hf 3 23 3 rfl
  simp only [k23, List.drop_zero, List.drop_succ_cons, List.take_succ_cons, List.take_zero] at hy3
  obtain ⟨n3, h3, w3⟩ := opn_23 _ _ _ _ _ _ _ hy3
  cases h3
  exact ⟨⟨n0, n1, n2, n3.1, n3.2⟩, rfl, w0, w1, w2, w3⟩
theorem opn_26 : Opn Try.prog 26 eFld (fun x => (wfI .i64 x.rows ∧ wfI .i64 x.wd ∧ (wfI .i64 ((⟨x.lo, x.hi⟩ : (Int × Int)).1) ∧ wfI .i64 ((⟨x.lo, x.hi⟩ : (Int × Int)).2)) ∧ (x.ts.length ≤ maxLen ∧ ∀ y ∈ x.ts, (wfI .i64 y.who ∧ wfI .i64 y.fr ∧ wfI .i64 y.to ∧ (wfI .i64 ((⟨y.lo, y.hi⟩ : (Int × Int)).1) ∧ wfI .i64 ((⟨y.lo, y.hi⟩ : (Int × Int)).2)))))) := by
  intro H enc w sp fuel cs x h
  obtain ⟨hl, fuel', hf⟩ := trod_fields Try.underlying26 h
  have hc : Try.prog.cellsOf 26 = 5 := by kernel_rfl
  rw [hc] at hl
  have k3 : Try.prog.cellsOf 3 = 1 := by kernel_rfl
  have k23 : Try.prog.cellsOf 23 = 2 := by kernel_rfl
  have k24 : Try.prog.cellsOf 24 = 1 := by kernel_rfl
  obtain ⟨a0, a1, a2, a3, a4, rfl⟩ := len_5 hl
  obtain ⟨y0, hy0⟩ := hf 0 3 0 rfl
  simp only [k3, List.drop_zero, List.drop_succ_cons, List.take_succ_cons, List.take_zero] at hy0
  obtain ⟨n0, h0, w0⟩ := (opn_int Try.underlying3) _ _ _ _ _ _ _ hy0
  cases h0
  obtain ⟨y1, hy1⟩ := hf 1 3 1 rfl
  simp only [k3, List.drop_zero, List.drop_succ_cons, List.take_succ_cons, List.take_zero] at hy1
  obtain ⟨n1, h1, w1⟩ := (opn_int Try.underlying3) _ _ _ _ _ _ _ hy1
  cases h1
  obtain ⟨y2, hy2⟩ := hf 2 23 2 rfl
  simp only [k23, List.drop_zero, List.drop_succ_cons, List.take_succ_cons, List.take_zero] at hy2
  obtain ⟨n2, h2, w2⟩ := opn_23 _ _ _ _ _ _ _ hy2
  cases h2
  obtain ⟨y3, hy3⟩ := hf 3 24 4 rfl
  simp only [k24, List.drop_zero, List.drop_succ_cons, List.take_succ_cons, List.take_zero] at hy3
  obtain ⟨n3, ⟨A3, c3, h3, s3⟩, w3⟩ := (opn_slice Try.underlying24 (by kernel_rfl) (by decide) opn_68) _ _ _ _ _ _ _ hy3
  cases h3
  exact ⟨⟨n0, n1, n2.1, n2.2, n3⟩, ⟨A3, c3, rfl, s3⟩, w0, w1, w2, w3⟩
theorem ownT : ownKnob Try.prog.godebug = none := by kernel_rfl
theorem kidsT : Kids Try.prog (· < Try.prog.types.size) := kids_rows (by kernel_rfl) (by kernel_rfl)
theorem fullT : ∀ t e, t < Try.prog.types.size → Try.prog.underlying t = some (.slice e) → 0 < Try.prog.cellsOf e := slices_full_of Try.prog (by kernel_rfl)
end Go.Proofs.Ythogdgkafaclaaa
end
section
set_option linter.unusedVariables false
set_option linter.unusedSimpArgs false
namespace Go.Proofs.Ythogdgkafaclaaa
open Go.RowKit
open Go.RowKit Go.ChangeShapes Go.WideShapes Go.ChangeAt
set_option maxRecDepth 100000 in
theorem weedNexts_lifted (os : Os) (started : os.Started) (H : Type) (enc : TypeId × Value → H) :
    ReturnsInHanded {} Try.checked os 5 .any (Rows.weedNextsSpec.pre6 enc Try.prog Try.f5 Rows.weedNextsRow.domain false) (Rows.weedNextsSpec.post enc Try.prog Try.f5 false true false false) := by
  refine returnsInHanded_of_change (C := Try.checked) ownT started (by kernel_rfl) Try.func5
    (ChangeSpec.witness6 (enc := enc) (C := Try.checked) false ⟨#[], #[.agg #[.int .i64 0, .int .i64 0, .int .i64 0, .int .i64 0, .slice none 0 0], .int .i64 0], []⟩ 8 (by kernel_rfl) (by kernel_rfl) (by kernel_rfl) (by kernel_rfl)) ?_
  intro W base args ds gs before hval0 hW hcnd _
  have hval : ∀ (j : Nat) t v, Try.f5.params[j]? = some t → args[j]? = some v → Value.okWide Try.prog W .any base t v := hval0
  have hW' := hW
  obtain ⟨p, q, hA0, hV, rfl, hfz, hnd⟩ := hW
  have hA : DataW.TrodAll enc Try.prog W 0 (fun _ => true) true Try.f5.params.toList args.toList ds p := hA0
  obtain ⟨rfl, rfl⟩ := trodVars_none hV
  simp only [List.append_nil] at hW'
  have hlt : ∀ x ∈ p, x.block < W.heap.size := fun x hx => by simpa using hW'.lt x hx
  have hAk := hA
  rw [Try.params5] at hA hval
  obtain ⟨v0, v1, d0, d1, p0, p1, rfl, rfl, rfl, h0, h1⟩ := trodAll_two hA
  obtain ⟨x0, cs0, hv0, ⟨A0_0, c0_0, rfl, s0_0⟩, w0⟩ := val_agg Try.underlying26 opn_26 (hval 0 26 v0 rfl rfl) h0
  obtain ⟨x1, hv1, w1⟩ := val_int Try.underlying3 (hval 1 3 v1 rfl rfl) h1
  subst hv0
  subst hv1
  obtain ⟨K, hG⟩ := weedNexts_true x0 x1
  refine (ret_calls (a5 K x0 x1 A0_0 c0_0 ZA W s0_0 hG)).mono fun e W' ⟨v, he, hx, hv⟩ => ?_
  subst he
  subst hv
  exact ⟨_, rfl, post_of_ext (pa := (p0 ++ p1)) (pv := []) hW' (fun _ _ _ => trodAll_mk1 (shut_bool Try.underlying4 _)) (fun sp hs => args_read kidsT fullT (by rw [Try.params5]; decide) hAk hx hlt sp (fun x hx' => hs x (by simpa using hx'))) (fun _ _ => rfl) (by simp) hx (ok_one (by kernel_rfl) rfl (okWide_bool_mk Try.underlying4 _))⟩
theorem weedNexts_holds : Rows.WeedNextsSaid :=
  OpenClaim.holds_of_wide 5 Try.f5 rfl rfl rfl rfl rfl rfl rfl ⟨rfl, rfl, rfl, rfl, rfl⟩ rfl rfl rfl rfl rfl (by kernel_rfl) Try.func5 (by kernel_rfl)
    (of_decide_eq_true (by kernel_rfl)) (by unfold Func.isWrapper; first | (rw [if_pos (by decide +kernel)]; kernel_rfl) | (rw [if_neg (by decide +kernel)]; exact ⟨rfl, rfl⟩))
    (fun os started H enc _ => weedNexts_lifted os started H enc)
end Go.Proofs.Ythogdgkafaclaaa
end
