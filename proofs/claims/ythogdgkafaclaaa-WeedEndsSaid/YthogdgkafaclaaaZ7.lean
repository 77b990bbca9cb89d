import Derived.Test.YthogdgkafaclaaaBC5
import Derived.ProofKit
import Derived.ChangeSame
import Derived.Deep.Slices
import Derived.Test.YthogdgkafaclaaaProg
import Derived.Test.YthogdgkafaclaaaRows
/-
  Proved: the law WeedEnds returns true for every argument that the row hands over, and leaves every argument as it was; no condition beside the row's own.
-/
set_option linter.all false
section
namespace Go.Proofs.Ythogdgkafaclaaa
theorem bd {α β : Type} {x : Option α} {a : α} {f : α → Option β} (h : x = some a) : x.bind f = f a := by rw [h]; rfl
theorem i64b {β : Type} {x : Int} {f : Int → Option β} (h0 : -9223372036854775808 ≤ x) (h1 : x ≤ 9223372036854775807) : (i64 x).bind f = f x := bd (i64_eq h0 h1)
theorem idxb {α β : Type} {xs : List α} {k : Nat} {f : α → Option β} (h : k < xs.length) : (idx xs (k : Int)).bind f = f xs[k] := bd (idx_eq h)
theorem ifob {β : Type} {p : Prop} [Decidable p] {f : Unit → Option β} (h : p) : (ifo p).bind f = f () := bd (if_pos h)
theorem remb {β : Type} {a b : Int} {f : Int → Option β} (h0 : 0 ≤ a) (h1 : 1 ≤ b) : (rem a b).bind f = f (a % b) := bd (if_pos ⟨h0, h1⟩)
theorem quob {β : Type} {a b : Int} {f : Int → Option β} (h0 : 0 ≤ a) (h1 : 1 ≤ b) : (quo a b).bind f = f (a / b) := bd (if_pos ⟨h0, h1⟩)
theorem cond_eq {α : Type} {b : Bool} {x y z : α} (h1 : b = true → x = z) (h2 : b = false → y = z) : cond b x y = z := by cases b; exact h2 rfl; exact h1 rfl
theorem ct {α : Type} {b : Bool} {x y : α} (h : b = true) : cond b x y = x := by rw [h]; rfl
theorem cf {α : Type} {b : Bool} {x y : α} (h : b = false) : cond b x y = y := by rw [h]; rfl
theorem nt {α : Type} {x y : α} : cond (!true) x y = y := rfl
theorem nf {α : Type} {x y : α} : cond (!false) x y = x := rfl
theorem dt {p : Prop} [Decidable p] (h : p) : decide p = true := decide_eq_true h
theorem df {p : Prop} [Decidable p] (h : ¬ p) : decide p = false := decide_eq_false h
theorem g_In (K : Nat) (n a b : Int) : G_In K n a b = some (inR n a b) := by unfold G_In inR; cases decide (a ≤ n) <;> rfl
theorem g_Within (K : Nat) (f : Fld) (lo hi : Int) : G_Within K (⟨lo, hi⟩ : Int × Int) 0 f.rows = some (rngOk f lo hi) := by
  unfold G_Within rngOk
  simp only []
  cases decide ((0 : Int) ≤ lo) <;> cases decide (lo ≤ hi) <;> rfl
/-- How often somebody stands in a part of a list. -/
def part (l : List Int) (who : Int) (fr n : Nat) : Nat := cnt who ((l.drop fr).take n)
theorem part_succ (l : List Int) (who : Int) (fr n : Nat) (h : fr < l.length) : part l who fr (n + 1) = (if l[fr] = who then 1 else 0) + part l who (fr + 1) n := by
  unfold part cnt
  rw [List.drop_eq_getElem_cons h, List.take_succ_cons, List.countP_cons]
  simp only [beq_iff_eq]
  omega
theorem part_le (l : List Int) (who : Int) (fr n : Nat) : part l who fr n ≤ n := by
  unfold part cnt
  exact Nat.le_trans List.countP_le_length (by simp; omega)
theorem l_Did (l : List Int) (who to : Int) : ∀ (n m i : Nat) (s : Int), to + 1 = i + n → n < m → 0 ≤ s → s + n ≤ 1000000 → i + n ≤ l.length → i + n ≤ 1000000 → G_Did_L1 l who to m s (i : Int) = some (s + (part l who i n : Nat))
  | n, 0, i, s, h, hm, _, _, _, _ => by omega
  | 0, m + 1, i, s, h, hm, h0, h1, hl, hl2 => by
    unfold G_Did_L1
    rw [cf (df (by omega))]
    simp [part, cnt]
  | n + 1, m + 1, i, s, h, hm, h0, h1, hl, hl2 => by
    unfold G_Did_L1
    have hi : i < l.length := by omega
    rw [ct (dt (by omega)), idxb hi]
    have e : ((i : Int) + 1) = ((i + 1 : Nat) : Int) := by omega
    rw [part_succ l who i n hi]
    refine cond_eq (fun hb => ?_) (fun hb => ?_)
    · rw [i64b (by omega) (by omega), i64b (by omega) (by omega), e, l_Did l who to n m (i + 1) (s + 1) (by omega) (by omega) (by omega) (by omega) (by omega) (by omega)]
      rw [if_pos (by simpa using hb)]
      congr 1; omega
    · rw [i64b (by omega) (by omega), e, l_Did l who to n m (i + 1) s (by omega) (by omega) (by omega) (by omega) (by omega) (by omega)]
      rw [if_neg (by simpa using hb)]
      congr 1; omega
theorem g_Did {K : Nat} {l : List Int} {who : Int} {fr n : Nat} {to : Int} (ht : to + 1 = fr + n) (hK : n < K) (hl : fr + n ≤ l.length) (hb : fr + n ≤ 1000000) : G_Did K l who (fr : Int) to = some (part l who fr n : Nat) := by
  unfold G_Did
  rw [l_Did l who to n K fr 0 ht hK (by omega) (by omega) hl hb]
  simp
theorem g_Did0 {K : Nat} {l : List Int} {who : Int} {n : Nat} {to : Int} (ht : to + 1 = n) (hK : n < K) (hl : n ≤ l.length) (hb : n ≤ 1000000) : G_Did K l who 0 to = some (part l who 0 n : Nat) := by
  have := g_Did (K := K) (l := l) (who := who) (fr := 0) (n := n) (to := to) (by omega) hK (by omega) (by omega)
  simpa using this
theorem l_Many (f : Fld) (hw : 0 ≤ f.wd) (hw3 : f.wd ≤ 3) (hr : f.rows ≤ 7) : ∀ (n m i : Nat) (s : Int), f.rows = i + n → n < m → 0 ≤ s → s * (f.wd + 1) ^ n ≤ 1000000 → G_Many_L2 f m s (i : Int) = some (s * (f.wd + 1) ^ n)
  | n, 0, i, s, h, hm, _, _ => by omega
  | 0, m + 1, i, s, h, hm, h0, h1 => by
    unfold G_Many_L2
    rw [cf (df (by omega))]
    simp
  | n + 1, m + 1, i, s, h, hm, h0, h1 => by
    unfold G_Many_L2
    have hp : 1 ≤ (f.wd + 1) ^ n := by
      have h9 : 0 < (f.wd + 1) ^ n := Int.pow_pos (by omega)
      omega
    have hs : s * (f.wd + 1) * (f.wd + 1) ^ n ≤ 1000000 := by
      rw [Int.mul_assoc]; rw [Int.pow_succ, Int.mul_comm ((f.wd + 1) ^ n)] at h1; exact h1
    have h2 : 0 ≤ s * (f.wd + 1) := Int.mul_nonneg h0 (by omega)
    have h3 : s * (f.wd + 1) ≤ 1000000 := by
      have h4 := Int.mul_le_mul_of_nonneg_left hp h2
      omega
    rw [ct (dt (by omega)), i64b (by omega) (by omega), i64b (by omega) (by omega), i64b (by omega) (by omega)]
    have e : ((i : Int) + 1) = ((i + 1 : Nat) : Int) := by omega
    rw [e, l_Many f hw hw3 hr n m (i + 1) (s * (f.wd + 1)) (by omega) (by omega) h2 hs]
    rw [Int.mul_assoc, Int.pow_succ, Int.mul_comm ((f.wd + 1) ^ n)]
theorem g_Many {K : Nat} {f : Fld} (hK : 1000 ≤ K) (hw : 0 ≤ f.wd) (hw3 : f.wd ≤ 3) (hr0 : 0 ≤ f.rows) (hr : f.rows ≤ 7) : G_Many K f = some (many f) := by
  unfold G_Many
  have h := (pow_bd7 (f.wd + 1) (by omega) (by omega) f.rows.toNat (by omega)).2
  have := l_Many f hw hw3 hr f.rows.toNat K 0 1 (by omega) (by omega) (by omega) (by omega)
  rw [Int.natCast_zero] at this
  rw [this]
  simp [many]
theorem talOk_ref (f : Fld) (t : Tly) : talOk f t = (inR t.who 0 (f.wd - 1) && (inR t.fr 0 (f.rows - 1) && (inR t.to t.fr (f.rows - 1) && rngOk f t.lo t.hi))) := by
  rw [Bool.eq_iff_iff]
  unfold talOk
  simp only [Bool.and_eq_true, inR_iff, decide_eq_true_eq]
  constructor
  · rintro ⟨⟨⟨⟨h1, h2⟩, h3⟩, h4⟩, h5⟩; exact ⟨h1, h2, ⟨h4, h3.2⟩, h5⟩
  · rintro ⟨h1, h2, ⟨h3, h4⟩, h5⟩; exact ⟨⟨⟨⟨h1, h2⟩, by omega, h4⟩, h3⟩, h5⟩
theorem l_Fault (K : Nat) (f : Fld) (hr : 1 ≤ f.rows ∧ f.rows ≤ 7) (hw : 1 ≤ f.wd ∧ f.wd ≤ 3) (hl : f.ts.length ≤ 1000000) : ∀ (n m i : Nat), f.ts.length = i + n → n < m → G_Fault_L12 K f m (i : Int) = some (if (f.ts.drop i).all (talOk f) = true then .inr () else .inl 1)
  | n, 0, i, h, hm => by omega
  | 0, m + 1, i, h, hm => by
    unfold G_Fault_L12
    rw [cf (df (by omega)), List.drop_eq_nil_of_le (by omega)]
    rfl
  | n + 1, m + 1, i, h, hm => by
    unfold G_Fault_L12
    have hi : i < f.ts.length := by omega
    rw [ct (dt (by omega)), idxb hi, i64b (by omega) (by omega), bd (g_In ..), List.drop_eq_getElem_cons hi, List.all_cons, talOk_ref]
    cases h1 : inR f.ts[i].who 0 (f.wd - 1) with
    | false => rfl
    | true =>
      rw [nt, i64b (by omega) (by omega), bd (g_In ..)]
      cases h2 : inR f.ts[i].fr 0 (f.rows - 1) with
      | false => rfl
      | true =>
        rw [nt, i64b (by omega) (by omega), bd (g_In ..)]
        cases h3 : inR f.ts[i].to f.ts[i].fr (f.rows - 1) with
        | false => rfl
        | true =>
          rw [nt, bd (g_Within ..)]
          cases h4 : rngOk f f.ts[i].lo f.ts[i].hi with
          | false => rfl
          | true =>
            have e : ((i : Int) + 1) = ((i + 1 : Nat) : Int) := by omega
            rw [nt, i64b (by omega) (by omega), e, l_Fault K f hr hw hl n m (i + 1) (by omega) (by omega)]
            rfl
theorem g_Fault {K : Nat} {f : Fld} (hK : 1000 ≤ K) : G_Fault K f = some (check f) := by
  unfold G_Fault check
  by_cases hb : big f = true
  · rw [if_pos hb]
    simp only [big, Bool.or_eq_true, decide_eq_true_eq] at hb
    by_cases h1 : 7 < f.rows
    · rw [ct (dt h1)]
    · rw [cf (df h1)]
      by_cases h2 : 3 < f.wd
      · rw [ct (dt h2)]
      · rw [cf (df h2), ct (dt (by omega))]
  · rw [if_neg hb]
    simp only [big, Bool.or_eq_true, decide_eq_true_eq, not_or] at hb
    rw [cf (df hb.1), cf (df hb.2.1), cf (df hb.2.2)]
    by_cases hr : f.rows < 1
    · rw [ct (dt hr), if_pos (by simp [bad, hr])]
    · by_cases hw : f.wd < 1
      · rw [cf (df hr), ct (dt hw), if_pos (by simp [bad, hw])]
      · rw [cf (df hr), cf (df hw), bd (g_Within ..)]
        have hbad : bad f = (!rngOk f f.lo f.hi || !f.ts.all (talOk f)) := by simp [bad, hr, hw]
        rw [hbad]
        cases h3 : rngOk f f.lo f.hi with
        | false => rfl
        | true =>
          have := l_Fault K f ⟨by omega, by omega⟩ ⟨by omega, by omega⟩ (by omega) f.ts.length K 0 (by omega) (by omega)
          rw [Int.natCast_zero] at this
          rw [nt, bd this, List.drop_zero]
          cases h4 : f.ts.all (talOk f) with
          | false => rfl
          | true =>
            rw [if_pos rfl, if_neg (by decide)]
            show (G_Many K f).bind _ = _
            rw [bd (g_Many hK (by omega) (by omega) (by omega) (by omega))]
            by_cases h5 : 2500 < many f
            · rw [ct (dt h5), if_pos h5]
            · rw [cf (df h5), if_neg h5]
theorem g_fault {K : Nat} {f : Fld} (hK : 1000 ≤ K) : G_fault K f = some (check f) := by unfold G_fault; rw [bd (g_Fault hK)]
/-- The fields that the laws go through. -/
def thin (f : Fld) : Bool := decide (f.ts.length ≤ 7) && (decide (check f ≠ 0) || decide (many f ≤ 250))
theorem g_Thin {K : Nat} {f : Fld} (hK : 1000 ≤ K) : G_Thin K f = some (thin f) := by
  unfold G_Thin thin
  by_cases h1 : f.ts.length ≤ 7
  · rw [ct (dt (by omega)), bd (g_Fault hK)]
    by_cases h2 : check f = 0
    · obtain ⟨hr, hw, _⟩ := check_ok h2
      rw [cf (by simp [h2]), bd (g_Many hK (by omega) (by omega) (by omega) (by omega))]
      simp [h1, h2]
    · rw [ct (by simp [h2])]
      simp [h1, h2]
  · rw [cf (df (by omega))]
    simp [h1]
theorem thin_len {f : Fld} (h : thin f = true) : f.ts.length ≤ 7 := by
  simp only [thin, Bool.and_eq_true, decide_eq_true_eq] at h; exact h.1
theorem thin_many {f : Fld} (h : thin f = true) (hc : check f = 0) : many f ≤ 250 := by
  simp only [thin, Bool.and_eq_true, Bool.or_eq_true, decide_eq_true_eq] at h
  rcases h.2 with h2 | h2
  · exact absurd hc h2
  · exact h2
theorem g_to (K : Nat) (r : Int × Int) : G_to K r = some r := rfl
theorem l_Field (K : Nat) (f : Fld) (hl : f.ts.length ≤ 7) : ∀ (n m i : Nat), f.ts.length = i + n → n < m → G_Field_L7 K f m (i : Int) (f.ts.take i) = some f.ts
  | n, 0, i, h, hm => by omega
  | 0, m + 1, i, h, hm => by
    unfold G_Field_L7
    rw [cf (df (by omega)), List.take_of_length_le (by omega)]
  | n + 1, m + 1, i, h, hm => by
    unfold G_Field_L7
    have hi : i < f.ts.length := by omega
    have e : ((i : Int) + 1) = ((i + 1 : Nat) : Int) := by omega
    rw [ct (dt (by omega)), idxb hi, bd (g_to ..), ifob (by simp; omega), i64b (by omega) (by omega), e]
    have ht : f.ts.take i ++ [(⟨f.ts[i].who, f.ts[i].fr, f.ts[i].to, f.ts[i].lo, f.ts[i].hi⟩ : Tly)] = f.ts.take (i + 1) := (List.take_succ_eq_append_getElem hi).symm
    show G_Field_L7 K f m ((i + 1 : Nat) : Int) (f.ts.take i ++ [(⟨f.ts[i].who, f.ts[i].fr, f.ts[i].to, f.ts[i].lo, f.ts[i].hi⟩ : Tly)]) = _
    rw [ht, l_Field K f hl n m (i + 1) (by omega) (by omega)]
theorem g_Field {K : Nat} {f : Fld} (hK : 1000 ≤ K) (hl : f.ts.length ≤ 7) : G_Field K f = some f := by
  unfold G_Field
  have := l_Field K f hl f.ts.length K 0 (by omega) (by omega)
  rw [Int.natCast_zero, List.take_zero] at this
  rw [bd (g_to ..), bd this]
/-- All tallies but none. -/
theorem allAt_nil (l : List Int) : ∀ (ts : List Tly) (i : Nat), allAt l [] i ts = ts.all fun t => inR (didK l [t.who, t.fr, t.to]) t.lo t.hi
  | [], _ => rfl
  | t :: ts, i => by
    rw [allAt, allAt_nil l ts (i + 1), List.all_cons]
    rfl
/-- Somebody's rows in a tally's stretch. -/
def tdid (l : List Int) (t : Tly) : Int := (part l t.who t.fr.toNat (t.to + 1 - t.fr).toNat : Nat)
theorem didK_part (l : List Int) (t : Tly) (h : 0 ≤ t.fr ∧ t.fr ≤ t.to) : didK l [t.who, t.fr, t.to] = tdid l t := by
  unfold didK tdid part
  have : (t.to + 1).toNat - t.fr.toNat = (t.to + 1 - t.fr).toNat := by omega
  simp only [this]
theorem part_pad (l : List Int) (who : Int) (fr n : Nat) (h : fr + n ≤ l.length) : part (pad l) who fr n = part l who fr n := by
  unfold part pad
  rw [List.drop_append_of_le_length (by omega), List.take_append_of_le_length (by simp; omega)]
theorem tdid_pad (f : Fld) (l : List Int) (t : Tly) (hl : (l.length : Int) = f.rows) (h : talOk f t = true) : tdid (pad l) t = tdid l t := by
  have := talOk_bd h
  unfold tdid
  rw [part_pad _ _ _ _ (by omega)]
/-- What the reference calls allowed, and a truth. -/
def alw (f : Fld) (l : List Int) : Bool := l.all (okWho f) && (decide ((l.length : Int) = f.rows) && inR ((part l (-1) 0 l.length : Nat) : Int) f.lo f.hi)
def tru (f : Fld) (l : List Int) : Bool := alw f l && f.ts.all fun t => inR (tdid l t) t.lo t.hi
theorem okWho_in (f : Fld) (n : Int) (hw : 1 ≤ f.wd) : okWho f n = inR n (-1) (f.wd - 1) := by
  rw [Bool.eq_iff_iff]
  simp only [okWho, Bool.or_eq_true, beq_iff_eq, inR_iff]
  omega
theorem l_IsAllowed (K : Nat) (f : Fld) (hw : 1 ≤ f.wd ∧ f.wd ≤ 3) (l : List Int) (hl : l.length ≤ 1000) : ∀ (n m i : Nat), l.length = i + n → n < m → G_IsAllowed_L2 K f l m (i : Int) = some (if (l.drop i).all (okWho f) = true then .inr () else .inl false)
  | n, 0, i, h, hm => by omega
  | 0, m + 1, i, h, hm => by
    unfold G_IsAllowed_L2
    rw [cf (df (by omega)), List.drop_eq_nil_of_le (by omega)]
    rfl
  | n + 1, m + 1, i, h, hm => by
    unfold G_IsAllowed_L2
    have hi : i < l.length := by omega
    have e : ((i : Int) + 1) = ((i + 1 : Nat) : Int) := by omega
    rw [ct (dt (by omega)), idxb hi, i64b (by omega) (by omega), bd (g_In ..), List.drop_eq_getElem_cons hi, List.all_cons, okWho_in f l[i] hw.1]
    cases h1 : inR l[i] (-1) (f.wd - 1) with
    | false => rfl
    | true =>
      rw [nt, i64b (by omega) (by omega), e, l_IsAllowed K f hw l hl n m (i + 1) (by omega) (by omega)]
      rfl
theorem g_IsAllowed {K : Nat} {f : Fld} {l : List Int} (hK : 1000 ≤ K) (hw : 1 ≤ f.wd ∧ f.wd ≤ 3) (hr : 1 ≤ f.rows ∧ f.rows ≤ 7) (hl : l.length ≤ 250) : G_IsAllowed K f l = some (alw f l) := by
  unfold G_IsAllowed alw
  have := l_IsAllowed K f hw l (by omega) l.length K 0 (by omega) (by omega)
  rw [Int.natCast_zero] at this
  rw [bd this, List.drop_zero]
  cases h1 : l.all (okWho f) with
  | false => rfl
  | true =>
    rw [if_pos rfl]
    show cond _ _ _ = _
    by_cases h2 : (l.length : Int) = f.rows
    · rw [ct (by simpa using h2), i64b (by omega) (by omega), bd (g_Did0 (n := l.length) (by omega) (by omega) (by omega) (by omega)), bd (g_In ..)]
      simp [h2]
    · rw [cf (by simpa using h2)]
      simp [h2]
theorem g_Right {K : Nat} {f : Fld} {l : List Int} {t : Tly} (hK : 1000 ≤ K) (hr : f.rows ≤ 7) (ht : talOk f t = true) (hl : (l.length : Int) = f.rows) : G_Right K l t = some (inR (tdid l t) t.lo t.hi) := by
  unfold G_Right
  have h := talOk_bd ht
  have := g_Did (K := K) (l := l) (who := t.who) (fr := t.fr.toNat) (n := (t.to + 1 - t.fr).toNat) (to := t.to) (by omega) (by omega) (by omega) (by omega)
  rw [Int.toNat_of_nonneg h.2.1.1] at this
  rw [bd this, bd (g_In ..)]
  rfl
theorem l_IsTruth {K : Nat} (hK : 1000 ≤ K) (f : Fld) (hr : f.rows ≤ 7) (ht : ∀ t ∈ f.ts, talOk f t = true) (l : List Int) (hl : (l.length : Int) = f.rows) (h5 : f.ts.length ≤ 7) : ∀ (n m i : Nat), f.ts.length = i + n → n < m → G_IsTruth_L7 K f l m (i : Int) = some (if (f.ts.drop i).all (fun t => inR (tdid l t) t.lo t.hi) = true then .inr () else .inl false)
  | n, 0, i, h, hm => by omega
  | 0, m + 1, i, h, hm => by
    unfold G_IsTruth_L7
    rw [cf (df (by omega)), List.drop_eq_nil_of_le (by omega)]
    rfl
  | n + 1, m + 1, i, h, hm => by
    unfold G_IsTruth_L7
    have hi : i < f.ts.length := by omega
    have e : ((i : Int) + 1) = ((i + 1 : Nat) : Int) := by omega
    rw [ct (dt (by omega)), idxb hi, bd (g_Right hK hr (ht _ (List.getElem_mem hi)) hl), List.drop_eq_getElem_cons hi, List.all_cons]
    cases h1 : inR (tdid l f.ts[i]) f.ts[i].lo f.ts[i].hi with
    | false => rfl
    | true =>
      rw [nt, i64b (by omega) (by omega), e, l_IsTruth hK f hr ht l hl h5 n m (i + 1) (by omega) (by omega)]
      rfl
theorem g_IsTruth {K : Nat} {f : Fld} {l : List Int} (hK : 1000 ≤ K) (hc : check f = 0) (hl : l.length ≤ 250) : G_IsTruth K f l = some (tru f l) := by
  obtain ⟨hr, hw, h5, ht, _, _⟩ := check_ok hc
  unfold G_IsTruth tru
  rw [bd (g_IsAllowed hK hw hr hl)]
  cases h1 : alw f l with
  | false => rfl
  | true =>
    have h2 : (l.length : Int) = f.rows := by
      simp only [alw, Bool.and_eq_true, decide_eq_true_eq] at h1; exact h1.2.1
    have := l_IsTruth hK f hr.2 ht l h2 (by omega) f.ts.length K 0 (by omega) (by omega)
    rw [Int.natCast_zero] at this
    rw [nt, bd this, List.drop_zero]
    cases h3 : f.ts.all (fun t => inR (tdid l t) t.lo t.hi) <;> rfl
end Go.Proofs.Ythogdgkafaclaaa
end
section
namespace Go.Proofs.Ythogdgkafaclaaa
/-- The i-th list of so many numbers. -/
def nthL (b : Int) : Nat → Int → List Int
  | 0, _ => []
  | n + 1, i => (i % b - 1) :: nthL b n (i / b)
theorem nthL_len (b : Int) : ∀ (n : Nat) (i : Int), (nthL b n i).length = n
  | 0, _ => rfl
  | n + 1, i => by simp [nthL, nthL_len b n]
theorem nthL_surj (b : Int) (hb : 1 ≤ b) : ∀ (l : List Int), (∀ x ∈ l, -1 ≤ x ∧ x ≤ b - 2) → ∃ i : Nat, (i : Int) < b ^ l.length ∧ nthL b l.length i = l
  | [], _ => ⟨0, by simp, rfl⟩
  | x :: l, h => by
    obtain ⟨i, hi, he⟩ := nthL_surj b hb l fun y hy => h y (List.mem_cons_of_mem _ hy)
    have hx := h x (List.mem_cons_self ..)
    have h0 : 0 ≤ (x + 1) + b * (i : Int) := by
      have : 0 ≤ b * (i : Int) := Int.mul_nonneg (by omega) (by omega)
      omega
    refine ⟨((x + 1) + b * (i : Int)).toNat, ?_, ?_⟩
    · have h2 : b ^ (l.length + 1) = b * b ^ l.length := by rw [Int.pow_succ, Int.mul_comm]
      rw [Int.toNat_of_nonneg h0, List.length_cons, h2]
      have h1 : b * ((i : Int) + 1) ≤ b * b ^ l.length := Int.mul_le_mul_of_nonneg_left (by omega) (by omega)
      rw [Int.mul_add, Int.mul_one] at h1
      omega
    · rw [Int.toNat_of_nonneg h0]
      simp only [List.length_cons, nthL]
      rw [Int.add_mul_emod_self_left, Int.add_mul_ediv_left _ _ (by omega), Int.emod_eq_of_lt (by omega) (by omega), Int.ediv_eq_zero_of_lt (by omega) (by omega), Int.zero_add, he]
      congr 1
      omega
theorem l_Nth (f : Fld) (hw : 1 ≤ f.wd ∧ f.wd ≤ 3) (hr : f.rows ≤ 7) : ∀ (n m i : Nat) (s : Int) (acc : List Int), f.rows = i + n → n < m → 0 ≤ s → s ≤ 1000000 → acc.length ≤ i → G_Nth_L2 f m s acc (i : Int) = some (acc ++ nthL (f.wd + 1) n s)
  | n, 0, i, s, acc, h, hm, _, _, _ => by omega
  | 0, m + 1, i, s, acc, h, hm, h0, h1, hl => by
    unfold G_Nth_L2
    rw [cf (df (by omega))]
    simp [nthL]
  | n + 1, m + 1, i, s, acc, h, hm, h0, h1, hl => by
    unfold G_Nth_L2
    have h2 : 0 ≤ s % (f.wd + 1) := Int.emod_nonneg _ (by omega)
    have h3 : s % (f.wd + 1) < f.wd + 1 := Int.emod_lt_of_pos _ (by omega)
    have h4 : 0 ≤ s / (f.wd + 1) := Int.ediv_nonneg h0 (by omega)
    have h5 : s / (f.wd + 1) ≤ s := Int.ediv_le_self _ h0
    have e : ((i : Int) + 1) = ((i + 1 : Nat) : Int) := by omega
    rw [ct (dt (by omega)), i64b (by omega) (by omega), remb h0 (by omega), i64b (by omega) (by omega), ifob (by simp; omega), i64b (by omega) (by omega), quob h0 (by omega), i64b (by omega) (by omega), i64b (by omega) (by omega), e,
      l_Nth f hw hr n m (i + 1) _ _ (by omega) (by omega) h4 (by omega) (by simp; omega)]
    simp [nthL]
theorem g_Nth {K : Nat} {f : Fld} {i : Int} (hK : 1000 ≤ K) (hc : check f = 0) (h0 : 0 ≤ i) (h1 : i ≤ 1000000) : G_Nth K f i = some (nthL (f.wd + 1) f.rows.toNat i) := by
  obtain ⟨hr, hw, _⟩ := check_ok hc
  unfold G_Nth
  have := l_Nth f hw hr.2 f.rows.toNat K 0 i [] (by omega) (by omega) h0 h1 (by simp)
  rw [Int.natCast_zero, List.nil_append] at this
  rw [bd this]
/-- The reference's truths. -/
def refs (f : Fld) : List (List Int) := ((List.range (many f).toNat).map fun i : Nat => nthL (f.wd + 1) f.rows.toNat (i : Int)).filter (tru f)
theorem l_Truths {K : Nat} (hK : 1000 ≤ K) (f : Fld) (hc : check f = 0) (hm2 : many f ≤ 250) : ∀ (n m i : Nat) (acc : List (List Int)), many f = i + n → n < m → acc.length ≤ i →
    G_Truths_L2 K f m acc (i : Int) = some (acc ++ ((List.range' i n).map fun i : Nat => nthL (f.wd + 1) f.rows.toNat (i : Int)).filter (tru f))
  | n, 0, i, acc, h, hm, _ => by omega
  | 0, m + 1, i, acc, h, hm, hl => by
    obtain ⟨hr, hw, _⟩ := check_ok hc
    unfold G_Truths_L2
    rw [bd (g_Many hK (by omega) (by omega) (by omega) (by omega)), cf (df (by omega))]
    simp
  | n + 1, m + 1, i, acc, h, hm, hl => by
    obtain ⟨hr, hw, _⟩ := check_ok hc
    unfold G_Truths_L2
    have e : ((i : Int) + 1) = ((i + 1 : Nat) : Int) := by omega
    rw [bd (g_Many hK (by omega) (by omega) (by omega) (by omega)), ct (dt (by omega)), bd (g_Nth hK hc (by omega) (by omega)), bd (g_IsTruth hK hc (by rw [nthL_len]; omega)), List.range'_succ, List.map_cons, List.filter_cons]
    cases h1 : tru f (nthL (f.wd + 1) f.rows.toNat (i : Int)) with
    | false =>
      rw [cf rfl, i64b (by omega) (by omega), e, l_Truths hK f hc hm2 n m (i + 1) acc (by omega) (by omega) (by omega)]
      rfl
    | true =>
      rw [ct rfl, ifob (by simp; omega), i64b (by omega) (by omega), e, l_Truths hK f hc hm2 n m (i + 1) _ (by omega) (by omega) (by simp; omega)]
      simp
theorem many_nn {f : Fld} (hc : check f = 0) : 0 ≤ many f := by
  obtain ⟨hr, hw, _⟩ := check_ok hc
  exact (pow_bd7 (f.wd + 1) (by omega) (by omega) f.rows.toNat (by omega)).1
theorem g_Truths {K : Nat} {f : Fld} (hK : 1000 ≤ K) (hc : check f = 0) (hm : many f ≤ 250) : G_Truths K f = some (refs f) := by
  have h0 := many_nn hc
  unfold G_Truths
  have := l_Truths hK f hc hm (many f).toNat K 0 [] (by omega) (by omega) (by simp)
  rw [Int.natCast_zero, List.nil_append] at this
  rw [bd this]
  unfold refs
  rw [List.range_eq_range']
theorem tru_alw {f : Fld} {l : List Int} (h : tru f l = true) : (∀ x ∈ l, okWho f x = true) ∧ (l.length : Int) = f.rows ∧ inR ((part l (-1) 0 l.length : Nat) : Int) f.lo f.hi = true := by
  simp only [tru, alw, Bool.and_eq_true, decide_eq_true_eq, List.all_eq_true] at h
  exact ⟨h.1.1, h.1.2.1, h.1.2.2⟩
theorem mem_refs {f : Fld} (hc : check f = 0) {l : List Int} : l ∈ refs f ↔ tru f l = true := by
  obtain ⟨hr, hw, _⟩ := check_ok hc
  unfold refs
  rw [List.mem_filter]
  constructor
  · exact fun h => h.2
  · intro h
    refine ⟨?_, h⟩
    obtain ⟨h1, h2, _⟩ := tru_alw h
    obtain ⟨i, hi, he⟩ := nthL_surj (f.wd + 1) (by omega) l fun x hx => by
      have := h1 x hx
      rw [okWho_in f x hw.1, inR_iff] at this
      omega
    have hl : f.rows.toNat = l.length := by omega
    rw [List.mem_map]
    refine ⟨i, ?_, by rw [hl]; exact he⟩
    have h0 := many_nn hc
    have hm : many f = (f.wd + 1) ^ l.length := by unfold many; rw [hl]
    rw [List.mem_range]
    omega
theorem refs_len (f : Fld) (hc : check f = 0) : ((refs f).length : Int) ≤ many f := by
  have h0 := many_nn hc
  have h1 : (refs f).length ≤ (many f).toNat := by
    unfold refs
    refine Nat.le_trans (List.length_filter_le _ _) ?_
    simp
  omega
theorem mem_whos {wd x : Int} (hw : 0 ≤ wd) : x ∈ whos wd ↔ -1 ≤ x ∧ x ≤ wd - 1 := by
  simp only [whos, List.mem_map, List.mem_range]
  constructor
  · rintro ⟨j, hj, rfl⟩; omega
  · intro h; exact ⟨(x + 1).toNat, by omega, by omega⟩
theorem mem_enum (p : List Int → Bool) (wd : Int) : ∀ (k : Nat) (pre a : List Int), a ∈ enum p wd k pre ↔ ∃ t : List Int, t.length = k ∧ (∀ x ∈ t, x ∈ whos wd) ∧ p (pad (pre ++ t)) = true ∧ a = pad (pre ++ t)
  | 0, pre, a => by
    unfold enum
    constructor
    · intro h
      split at h
      · rename_i hp
        exact ⟨[], rfl, by simp, by simpa using hp, by simpa using h⟩
      · cases h
    · rintro ⟨t, ht, _, hp, rfl⟩
      obtain rfl := List.length_eq_zero_iff.1 ht
      rw [List.append_nil] at hp ⊢
      rw [if_pos hp]; simp
  | k + 1, pre, a => by
    simp only [enum, List.mem_flatMap]
    constructor
    · rintro ⟨x, hx, h⟩
      obtain ⟨t, h1, h2, h3, h4⟩ := (mem_enum p wd k _ a).1 h
      rw [List.append_assoc, List.singleton_append] at h3 h4
      exact ⟨x :: t, by simp [h1], by simpa using ⟨hx, h2⟩, h3, h4⟩
    · rintro ⟨t, h1, h2, h3, h4⟩
      cases t with
      | nil => simp at h1
      | cons x t =>
        refine ⟨x, h2 x (List.mem_cons_self ..), (mem_enum p wd k _ a).2 ⟨t, by simpa using h1, fun y hy => h2 y (List.mem_cons_of_mem _ hy), ?_, ?_⟩⟩
        · rw [List.append_assoc, List.singleton_append]; exact h3
        · rw [List.append_assoc, List.singleton_append]; exact h4
theorem all_congr {α : Type} {p q : α → Bool} : ∀ {l : List α}, (∀ x ∈ l, p x = q x) → l.all p = l.all q
  | [], _ => rfl
  | a :: l, h => by rw [List.all_cons, List.all_cons, h a (List.mem_cons_self ..), all_congr fun x hx => h x (List.mem_cons_of_mem _ hx)]
theorem right_tru {f : Fld} {l : List Int} (ht : ∀ t ∈ f.ts, talOk f t = true) (hl : (l.length : Int) = f.rows) : rightB f (pad l) [] = (f.ts.all (fun t => inR (tdid l t) t.lo t.hi) && inR ((part l (-1) 0 l.length : Nat) : Int) f.lo f.hi) := by
  unfold rightB
  rw [allAt_nil]
  congr 1
  · refine all_congr fun t h => ?_
    have h1 := talOk_bd (ht t h)
    rw [didK_part _ _ ⟨h1.2.1.1, h1.2.1.2.1⟩, tdid_pad f l t hl (ht t h)]
  · have h2 : f.rows.toNat = l.length := by omega
    have h3 : (pad l).take f.rows.toNat = l.take l.length := by
      unfold pad; rw [h2, List.take_append_of_le_length (Nat.le_refl _)]
    rw [h3]
    unfold part
    rw [List.drop_zero]
theorem mem_truths {f : Fld} (hc : check f = 0) {a : List Int} : a ∈ truths f [] ↔ ∃ l, l ∈ refs f ∧ a = pad l := by
  obtain ⟨hr, hw, _, ht, _⟩ := check_ok hc
  unfold truths
  rw [mem_enum]
  constructor
  · rintro ⟨t, h1, h2, h3, h4⟩
    rw [List.nil_append] at h3 h4
    refine ⟨t, (mem_refs hc).2 ?_, h4⟩
    have hl : (t.length : Int) = f.rows := by omega
    have h3' : rightB f (pad t) [] = true := h3
    rw [right_tru ht hl, Bool.and_eq_true] at h3'
    have h5 : t.all (okWho f) = true := by
      rw [List.all_eq_true]
      intro x hx
      rw [okWho_in f x hw.1, inR_iff]
      have := (mem_whos (by omega)).1 (h2 x hx)
      omega
    unfold tru alw
    rw [h5, h3'.1, h3'.2]
    simp [hl]
  · rintro ⟨l, h, rfl⟩
    have h1 := (mem_refs hc).1 h
    obtain ⟨h2, h3, h4⟩ := tru_alw h1
    refine ⟨l, by omega, fun x hx => ?_, ?_, by simp⟩
    · rw [mem_whos (by omega)]
      have := h2 x hx
      rw [okWho_in f x hw.1, inR_iff] at this
      omega
    · rw [List.nil_append]
      show rightB f (pad l) [] = true
      rw [right_tru ht h3, h4]
      simp only [tru, Bool.and_eq_true] at h1
      rw [h1.2]; rfl
theorem truths_nil {f : Fld} (hc : check f = 0) : truths f [] = [] ↔ refs f = [] := by
  constructor
  · intro h
    rw [List.eq_nil_iff_forall_not_mem] at h ⊢
    exact fun l hl => h (pad l) ((mem_truths hc).2 ⟨l, hl, rfl⟩)
  · intro h
    rw [List.eq_nil_iff_forall_not_mem] at h ⊢
    rintro a ha
    obtain ⟨l, hl, _⟩ := (mem_truths hc).1 ha
    exact h l hl
/-- The error that comes with a question. -/
def sureE (f : Fld) : Int := if check f ≠ 0 then check f else if refs f = [] then 11 else 0
theorem askE_true (f : Fld) : askE f true = sureE f := by
  unfold askE sureE
  by_cases hc : check f = 0
  · simp only [hc, ne_eq, not_true_eq_false, if_false]
    by_cases h : refs f = []
    · rw [if_neg (by decide), if_pos h, if_pos ((truths_nil hc).2 h)]
    · rw [if_neg (by decide), if_neg h, if_neg (fun e => h ((truths_nil hc).1 e))]
  · rw [if_pos hc, if_pos hc]
theorem cntr_pad {f : Fld} {l : List Int} {who : Int} (hl : (l.length : Int) = f.rows) : cntr f (pad l) who = (part l who 0 l.length : Nat) := by
  unfold cntr part pad
  have h2 : f.rows.toNat = l.length := by omega
  rw [h2, List.take_append_of_le_length (Nat.le_refl _), List.drop_zero]
/-- A least and a greatest number, from a first one on. -/
theorem foldl_mm (g : List Int → Int) : ∀ (T : List (List Int)) (r : Int × Int),
    (T.foldl (fun r a => (min r.1 (g a), max r.2 (g a))) r).1 ≤ r.1 ∧ r.2 ≤ (T.foldl (fun r a => (min r.1 (g a), max r.2 (g a))) r).2 ∧
    (∀ a ∈ T, (T.foldl (fun r a => (min r.1 (g a), max r.2 (g a))) r).1 ≤ g a ∧ g a ≤ (T.foldl (fun r a => (min r.1 (g a), max r.2 (g a))) r).2) ∧
    ((T.foldl (fun r a => (min r.1 (g a), max r.2 (g a))) r).1 = r.1 ∨ ∃ a ∈ T, (T.foldl (fun r a => (min r.1 (g a), max r.2 (g a))) r).1 = g a) ∧
    ((T.foldl (fun r a => (min r.1 (g a), max r.2 (g a))) r).2 = r.2 ∨ ∃ a ∈ T, (T.foldl (fun r a => (min r.1 (g a), max r.2 (g a))) r).2 = g a)
  | [], r => ⟨Int.le_refl _, Int.le_refl _, by simp, .inl rfl, .inl rfl⟩
  | b :: T, r => by
    obtain ⟨h1, h2, h3, h4, h5⟩ := foldl_mm g T (min r.1 (g b), max r.2 (g b))
    rw [List.foldl_cons]
    simp only [] at h1 h2 h3 h4 h5
    refine ⟨by clear h4 h5; omega, by clear h4 h5; omega, ?_, ?_, ?_⟩
    · clear h4 h5
      intro a ha
      rcases List.mem_cons.1 ha with rfl | ha
      · exact ⟨by omega, by omega⟩
      · exact h3 a ha
    · clear h5
      rcases h4 with h4 | ⟨a, ha, h4⟩
      · by_cases h : r.1 ≤ g b
        · exact .inl (by omega)
        · exact .inr ⟨b, List.mem_cons_self .., by omega⟩
      · exact .inr ⟨a, List.mem_cons_of_mem _ ha, h4⟩
    · clear h4
      rcases h5 with h5 | ⟨a, ha, h5⟩
      · by_cases h : g b ≤ r.2
        · exact .inl (by omega)
        · exact .inr ⟨b, List.mem_cons_self .., by omega⟩
      · exact .inr ⟨a, List.mem_cons_of_mem _ ha, h5⟩
/-- The reference's bounds. -/
def didB (T : List (List Int)) (who : Int) : Int × Int := T.foldl (fun (r : Int × Int) (a : List Int) => (min r.1 (part a who 0 a.length : Nat), max r.2 (part a who 0 a.length : Nat))) (1099511627776, -1099511627776)
/-- Both say the same of the same truths. -/
theorem doneOf_didB {f : Fld} (hc : check f = 0) (hn : refs f ≠ []) (who : Int) : doneOf f (truths f []) who = didB (refs f) who := by
  obtain ⟨hr, hw, _⟩ := check_ok hc
  have hmin : ∀ (r : Int × Int) (a : List Int), rngS f who r a = (min r.1 (cntr f a who), max r.2 (cntr f a who)) := fun r a => rfl
  have hfold : doneOf f (truths f []) who = (truths f []).foldl (fun r a => (min r.1 (cntr f a who), max r.2 (cntr f a who))) (cntr f ((truths f []).headD []) who, cntr f ((truths f []).headD []) who) := rfl
  have hne : truths f [] ≠ [] := fun e => hn ((truths_nil hc).1 e)
  have hhd : (truths f []).headD [] ∈ truths f [] := by
    cases h : truths f [] with
    | nil => exact absurd h hne
    | cons a T => simp
  obtain ⟨p1, p2, p3, p4, p5⟩ := foldl_mm (fun a => cntr f a who) (truths f []) (cntr f ((truths f []).headD []) who, cntr f ((truths f []).headD []) who)
  obtain ⟨q1, q2, q3, q4, q5⟩ := foldl_mm (fun a => ((part a who 0 a.length : Nat) : Int)) (refs f) (1099511627776, -1099511627776)
  rw [← hfold] at p1 p2 p3 p4 p5
  have hd : didB (refs f) who = (refs f).foldl (fun r a => (min r.1 ((part a who 0 a.length : Nat) : Int), max r.2 ((part a who 0 a.length : Nat) : Int))) (1099511627776, -1099511627776) := rfl
  rw [← hd] at q1 q2 q3 q4 q5
  have hlen : ∀ l ∈ refs f, (l.length : Int) = f.rows := fun l hl => (tru_alw ((mem_refs hc).1 hl)).2.1
  -- each is met by the other
  have toP : ∀ l ∈ refs f, ∃ a ∈ truths f [], cntr f a who = ((part l who 0 l.length : Nat) : Int) := fun l hl => ⟨pad l, (mem_truths hc).2 ⟨l, hl, rfl⟩, cntr_pad (hlen l hl)⟩
  have toQ : ∀ a ∈ truths f [], ∃ l ∈ refs f, cntr f a who = ((part l who 0 l.length : Nat) : Int) := fun a ha => by
    obtain ⟨l, hl, rfl⟩ := (mem_truths hc).1 ha
    exact ⟨l, hl, cntr_pad (hlen l hl)⟩
  have bnd : ∀ l ∈ refs f, ((part l who 0 l.length : Nat) : Int) ≤ 7 := fun l hl => by
    have h1 := part_le l who 0 l.length
    have h2 := hlen l hl
    omega
  obtain ⟨l0, hl0⟩ : ∃ l, l ∈ refs f := by
    cases h : refs f with
    | nil => exact absurd h hn
    | cons a T => exact ⟨a, List.mem_cons_self ..⟩
  have b0 := bnd l0 hl0
  have m0 := q3 l0 hl0
  have P4 : ∃ a ∈ truths f [], (doneOf f (truths f []) who).1 = cntr f a who := by
    rcases p4 with h | h
    · exact ⟨_, hhd, h⟩
    · exact h
  have P5 : ∃ a ∈ truths f [], (doneOf f (truths f []) who).2 = cntr f a who := by
    rcases p5 with h | h
    · exact ⟨_, hhd, h⟩
    · exact h
  have Q4 : ∃ a ∈ refs f, (didB (refs f) who).1 = ((part a who 0 a.length : Nat) : Int) := by
    rcases q4 with h | h
    · simp only [] at h m0; omega
    · exact h
  have Q5 : ∃ a ∈ refs f, (didB (refs f) who).2 = ((part a who 0 a.length : Nat) : Int) := by
    rcases q5 with h | h
    · simp only [] at h m0; omega
    · exact h
  obtain ⟨a4, ha4, e4⟩ := P4
  obtain ⟨a5, ha5, e5⟩ := P5
  obtain ⟨l4, hl4, g4⟩ := Q4
  obtain ⟨l5, hl5, g5⟩ := Q5
  obtain ⟨x4, hx4, i4⟩ := toQ a4 ha4
  obtain ⟨x5, hx5, i5⟩ := toQ a5 ha5
  obtain ⟨y4, hy4, j4⟩ := toP l4 hl4
  obtain ⟨y5, hy5, j5⟩ := toP l5 hl5
  have u1 := (q3 x4 hx4).1
  have u2 := (q3 x5 hx5).2
  have u3 := (p3 y4 hy4).1
  have u4 := (p3 y5 hy5).2
  refine Prod.ext ?_ ?_ <;> omega
theorem donesTo_len (f : Fld) (T : List (List Int)) (k : Nat) : (donesTo f T k).length = k := by simp [donesTo]
theorem donesTo_get (f : Fld) (T : List (List Int)) (k i : Nat) (h : i < (donesTo f T k).length) : (donesTo f T k)[i] = doneOf f T (i : Int) := by simp [donesTo]
end Go.Proofs.Ythogdgkafaclaaa
end
section
namespace Go.Proofs.Ythogdgkafaclaaa
theorem sorted_ext : ∀ {l m : List Int}, l.Pairwise (· < ·) → m.Pairwise (· < ·) → (∀ x, x ∈ l ↔ x ∈ m) → l = m
  | [], [], _, _, _ => rfl
  | [], b :: m, _, _, h => by have := (h b).2 (List.mem_cons_self ..); cases this
  | a :: l, [], _, _, h => by have := (h a).1 (List.mem_cons_self ..); cases this
  | a :: l, b :: m, h1, h2, h => by
    rw [List.pairwise_cons] at h1 h2
    have hab : a = b := by
      rcases List.mem_cons.1 ((h a).1 (List.mem_cons_self ..)) with e | e
      · exact e
      · rcases List.mem_cons.1 ((h b).2 (List.mem_cons_self ..)) with e2 | e2
        · exact e2.symm
        · have := h1.1 b e2; have := h2.1 a e; omega
    subst hab
    congr 1
    refine sorted_ext h1.2 h2.2 fun x => ⟨fun hx => ?_, fun hx => ?_⟩
    · rcases List.mem_cons.1 ((h x).1 (List.mem_cons_of_mem _ hx)) with e | e
      · have := h1.1 x hx; omega
      · exact e
    · rcases List.mem_cons.1 ((h x).2 (List.mem_cons_of_mem _ hx)) with e | e
      · have := h2.1 x hx; omega
      · exact e
theorem getI {zs : List Int} {m : Nat} (h : m < zs.length) : zs.toArray[m]! = zs[m] := by
  rw [getElem!_pos zs.toArray m (by simpa using h)]; simp
theorem compact_inv {zs : List Int} (hs : zs.Pairwise (· ≤ ·)) : ∀ m, m ≤ zs.length → (Lib.compactUpTo zs.toArray m).Pairwise (· < ·) ∧ ∀ x, x ∈ Lib.compactUpTo zs.toArray m ↔ x ∈ zs.take m
  | 0, _ => by simp [Lib.compactUpTo]
  | m + 1, h => by
    obtain ⟨h1, h2⟩ := compact_inv hs m (by omega)
    have hm : m < zs.length := by omega
    rw [Lib.compactUpTo_succ, List.take_succ_eq_append_getElem hm, getI hm]
    have hle : ∀ x ∈ zs.take m, x ≤ zs[m] := fun x hx => by
      obtain ⟨i, hi, rfl⟩ := List.mem_iff_getElem.1 hx
      rw [List.getElem_take]
      simp at hi
      exact (List.pairwise_iff_getElem.1 hs) i m _ hm (by omega)
    by_cases hk : Lib.keeps zs.toArray m = true
    · rw [if_pos hk]
      refine ⟨?_, fun x => by rw [List.mem_append, List.mem_append, h2]⟩
      rw [List.pairwise_append]
      refine ⟨h1, by simp, fun x hx y hy => ?_⟩
      obtain rfl : y = zs[m] := by simpa using hy
      have hx2 := (h2 x).1 hx
      have hx3 := hle x hx2
      simp only [Lib.keeps, decide_eq_true_eq] at hk
      rcases hk with rfl | hk
      · simp at hx2
      · have hm1 : 0 < m := by
          rcases Nat.eq_zero_or_pos m with rfl | h0
          · simp at hx2
          · exact h0
        rw [getI hm, getI (by omega : m - 1 < zs.length)] at hk
        obtain ⟨i, hi, rfl⟩ := List.mem_iff_getElem.1 hx2
        rw [List.getElem_take] at hx3 ⊢
        simp at hi
        have h5 : zs[m - 1] ≤ zs[m] := (List.pairwise_iff_getElem.1 hs) (m - 1) m _ hm (by omega)
        have h4 : zs[i] ≤ zs[m - 1] := by
          by_cases e : i = m - 1
          · subst e; exact Int.le_refl _
          · exact (List.pairwise_iff_getElem.1 hs) i (m - 1) _ _ (by omega)
        have h6 : zs[m] ≠ zs[m - 1] := hk
        show zs[i] < zs[m]
        omega
    · rw [if_neg hk, List.append_nil]
      refine ⟨h1, fun x => ?_⟩
      rw [h2]
      have hk2 : ¬ (m = 0 ∨ zs.toArray[m]! ≠ zs.toArray[m - 1]!) := by simpa [Lib.keeps] using hk
      have hm1 : 0 < m := by
        rcases Nat.eq_zero_or_pos m with rfl | h0
        · exact absurd (.inl rfl) hk2
        · exact h0
      have he : zs.toArray[m]! = zs.toArray[m - 1]! := Decidable.byContradiction fun e => hk2 (.inr e)
      rw [getI hm, getI (by omega : m - 1 < zs.length)] at he
      have hin : zs[m] ∈ zs.take m := by
        rw [he, List.mem_iff_getElem]
        exact ⟨m - 1, by simp; omega, by simp⟩
      simp only [List.mem_append, List.mem_singleton]
      exact ⟨.inl, fun h => h.elim id fun e => e ▸ hin⟩
theorem whos_sorted (wd : Int) : (whos wd).Pairwise (· < ·) := by
  unfold whos
  rw [List.pairwise_map]
  exact List.pairwise_lt_range.imp fun h => by omega
/-- Who stands in a row of some lists. -/
def whoS (wd : Int) (T : List (List Int)) (row : Nat) : List Int := (whos wd).filter fun x => T.any fun a => a.getD row 0 == x
theorem whoF_eq {wd : Int} {T : List (List Int)} {row : Int} (hw : 0 ≤ wd) (hb : ∀ a ∈ T, -1 ≤ a.getD row.toNat 0 ∧ a.getD row.toNat 0 ≤ wd - 1) : whoF T row = whoS wd T row.toNat := by
  unfold whoF
  have hs : ((T.map fun a : List Int => a.getD row.toNat 0).mergeSort fun x y => decide (x ≤ y)).Pairwise (· ≤ ·) := by
    have := List.pairwise_mergeSort (le := fun x y : Int => decide (x ≤ y)) (fun a b c h1 h2 => by simp at *; omega) (fun a b => by simp; omega) (T.map fun a : List Int => a.getD row.toNat 0)
    exact this.imp fun h => by simpa using h
  obtain ⟨h1, h2⟩ := compact_inv hs _ (Nat.le_refl _)
  refine sorted_ext h1 ((whos_sorted wd).filter _) fun x => ?_
  rw [show Lib.compact ((T.map fun a : List Int => a.getD row.toNat 0).mergeSort fun x y => decide (x ≤ y)) = Lib.compactUpTo ((T.map fun a : List Int => a.getD row.toNat 0).mergeSort fun x y => decide (x ≤ y)).toArray ((T.map fun a : List Int => a.getD row.toNat 0).mergeSort fun x y => decide (x ≤ y)).length from rfl, h2, List.take_length, List.mem_mergeSort]
  unfold whoS
  simp only [List.mem_map, List.mem_filter, mem_whos hw, List.any_eq_true, beq_iff_eq]
  constructor
  · rintro ⟨a, ha, rfl⟩; exact ⟨hb a ha, a, ha, rfl⟩
  · rintro ⟨_, a, ha, e⟩; exact ⟨a, ha, e⟩
def f4 : Fld := ⟨4, 2, 0, 0, [⟨0, 0, 2, 2, 3⟩, ⟨1, 2, 3, 1, 2⟩]⟩
def f5 : Fld := ⟨4, 2, 0, 0, [⟨0, 0, 2, 2, 3⟩, ⟨1, 2, 3, 1, 2⟩, ⟨0, 0, 1, 2, 2⟩]⟩
def f6 : Fld := ⟨4, 2, 0, 0, [⟨0, 0, 2, 2, 3⟩, ⟨1, 2, 3, 1, 2⟩, ⟨1, 0, 1, 2, 2⟩]⟩
theorem who4 : whoF (truths f4 []) 3 = [0, 1] := by
  rw [whoF_eq (wd := 2) (by omega) (by decide +kernel)]
  decide +kernel
theorem awake_1000 : G_awake 1000 = some true := by
  unfold G_awake
  rw [bd (show G_four 1000 [] = some f4 from rfl), bd (show Q_Done 1000 f4 = some ([(2, 3), (1, 2)], 0) by decide +kernel), bd (show G_four 1000 [] = some f4 from rfl)]
  rw [bd (show Q_Who 1000 f4 3 = some ([0, 1], 0) by unfold Q_Who; rw [who4]; decide +kernel)]
  rw [bd (show G_two 1000 = some ⟨0, 0, 1, 2, 2⟩ from rfl), bd (show G_four 1000 [⟨0, 0, 1, 2, 2⟩] = some f5 from rfl), bd (show Q_Ask 1000 f5 0 = some ([2, 3], 0) by decide +kernel), bd (show G_four 1000 [] = some f4 from rfl)]
  rw [bd (show Q_Next 1000 f4 0 = some (0, 3, 0) by decide +kernel), bd (show G_wrong 1000 = some ⟨1, 0, 1, 2, 2⟩ from rfl), bd (show G_four 1000 [⟨1, 0, 1, 2, 2⟩] = some f6 from rfl), bd (show Q_First 1000 f6 = some (2, 0) by decide +kernel)]
  rw [bd (show G_wrong 1000 = some ⟨1, 0, 1, 2, 2⟩ from rfl), bd (show G_four 1000 [⟨1, 0, 1, 2, 2⟩] = some f6 from rfl), bd (show Q_Leave 1000 f6 = some ([0], 0) by decide +kernel)]
  decide +kernel
end Go.Proofs.Ythogdgkafaclaaa
end
section
namespace Go.Proofs.Ythogdgkafaclaaa
theorem whoS_len (wd : Int) (T : List (List Int)) (row : Nat) : (whoS wd T row).length ≤ (wd + 1).toNat := by
  unfold whoS
  refine Nat.le_trans (List.length_filter_le _ _) ?_
  rw [whos_len]; exact Nat.le_refl _
/-- The truths of both say the same of a row. -/
theorem who_refs {f : Fld} (hc : check f = 0) {row : Nat} (hr : (row : Int) < f.rows) : whoF (truths f []) (row : Int) = whoS f.wd (refs f) row := by
  obtain ⟨hr2, hw, _⟩ := check_ok hc
  rw [whoF_eq (wd := f.wd) (by omega) fun a ha => truths_bd (by omega) a ha _ (by omega)]
  have ht : (row : Int).toNat = row := by omega
  rw [ht]
  unfold whoS
  refine List.filter_congr fun x _ => ?_
  rw [Bool.eq_iff_iff, List.any_eq_true, List.any_eq_true]
  constructor
  · rintro ⟨a, ha, h⟩
    obtain ⟨l, hl, rfl⟩ := (mem_truths hc).1 ha
    have := (tru_alw ((mem_refs hc).1 hl)).2.1
    refine ⟨l, hl, ?_⟩
    rw [show (pad l).getD row 0 = l.getD row 0 by unfold pad; exact getD_app (by omega)] at h
    exact h
  · rintro ⟨l, hl, h⟩
    have := (tru_alw ((mem_refs hc).1 hl)).2.1
    refine ⟨pad l, (mem_truths hc).2 ⟨l, hl, rfl⟩, ?_⟩
    rw [show (pad l).getD row 0 = l.getD row 0 by unfold pad; exact getD_app (by omega)]
    exact h
end Go.Proofs.Ythogdgkafaclaaa
end
section
namespace Go.Proofs.Ythogdgkafaclaaa
theorem cvU {β : Type} {f : Unit → Option β} {x : Nat} (h : x < 64) : (cvO .u64 (x : Int)).bind f = f () := bd (by
  have : ∀ x : Nat, x < 64 → cvO .u64 (x : Int) = some () := by decide +kernel
  exact this x h)
theorem gd0 {l : List Int} {i : Nat} (h : i < l.length) : l[i] = l.getD i 0 := by simp [List.getElem?_eq_getElem h]
end Go.Proofs.Ythogdgkafaclaaa
end
section
namespace Go.Proofs.Ythogdgkafaclaaa
/-- By so many questions c can be known of what is in S; g says what is answered. -/
def Qn (c : List Int → Int) (g : List Int → Nat → Int) (R : Nat) : Nat → (List Int → Prop) → Prop
  | 0, S => ∀ a b, S a → S b → c a = c b
  | m + 1, S => (∀ a b, S a → S b → c a = c b) ∨ ∃ r, r < R ∧ ∀ v, Qn c g R m (fun a => S a ∧ g a r = v)
section
variable {c : List Int → Int} {g : List Int → Nat → Int} {R : Nat} {S S' : List Int → Prop}
theorem Qn_all (hc : ∀ a b, S a → S b → (∀ r, r < R → g a r = g b r) → c a = c b) : Qn c g R R S := by
  have key : ∀ (k : Nat), k ≤ R → ∀ (S : List Int → Prop), (∀ a b, S a → S b → (∀ r, r < R → g a r = g b r) → c a = c b) → (∀ a b, S a → S b → ∀ r, k ≤ r → r < R → g a r = g b r) → Qn c g R k S := by
    intro k
    induction k with
    | zero => exact fun _ S h1 h2 a b ha hb => h1 a b ha hb fun r hr => h2 a b ha hb r (Nat.zero_le _) hr
    | succ k ih =>
      intro hk S h1 h2
      refine .inr ⟨k, by omega, fun v => ih (by omega) _ (fun a b ha hb => h1 a b ha.1 hb.1) fun a b ha hb r hr1 hr2 => ?_⟩
      rcases Nat.lt_or_ge k r with h | h
      · exact h2 a b ha.1 hb.1 r h hr2
      · obtain rfl : r = k := by omega
        rw [ha.2, hb.2]
  exact key R (Nat.le_refl _) S hc fun a b _ _ r h1 h2 => by omega
end
end Go.Proofs.Ythogdgkafaclaaa
end
section
namespace Go.Proofs.Ythogdgkafaclaaa
theorem bitb {β : Type} {f : Unit → Option β} {a b : Nat} (ha : a < 1000000) (hb : b < 1000000) : (bitO (a : Int) (b : Int)).bind f = f () := bd (if_pos ⟨⟨by omega, by omega⟩, by omega, by omega⟩)
theorem orN (a b : Nat) : orI (a : Int) (b : Int) = ((a ||| b : Nat) : Int) := by unfold orI; rw [Int.toNat_natCast, Int.toNat_natCast]
theorem shl_all : ∀ r : Nat, r < 8 → shlO 1 (r : Int) = some () ∧ shlI 1 (r : Int) = ((2 ^ r : Nat) : Int) ∧ shlO 2 (r : Int) = some () ∧ shlI 2 (r : Int) - 1 = ((2 ^ (r + 1) - 1 : Nat) : Int) ∧ 2 ^ r ≤ 128 ∧ 2 ^ (r + 1) ≤ 256 ∧ 1 ≤ 2 ^ r := by decide +kernel
/-- All lists, by their numbers. -/
def lists (f : Fld) : List (List Int) := (List.range (many f).toNat).map fun i : Nat => nthL (f.wd + 1) f.rows.toNat (i : Int)
end Go.Proofs.Ythogdgkafaclaaa
end
section
namespace Go.Proofs.Ythogdgkafaclaaa
/-- The reference's lists: their numbers, and what they say. -/
abbrev cR (who : Int) : List Int → Int := fun a => ((part a who 0 a.length : Nat) : Int)
abbrev gR : List Int → Nat → Int := fun a r => a.getD r 0
section
variable {f : Fld} {T : List (List Int)} {who : Int}
/-- What the lists at hand are. -/
def OkT (f : Fld) (T : List (List Int)) : Prop := T.length ≤ 250 ∧ ∀ a ∈ T, (a.length : Int) = f.rows ∧ ∀ r, r < f.rows.toNat → -1 ≤ a.getD r 0 ∧ a.getD r 0 ≤ f.wd - 1
theorem cR_ext {a b : List Int} (ha : (a.length : Int) = f.rows) (hb : (b.length : Int) = f.rows) (h : ∀ r, r < f.rows.toNat → gR a r = gR b r) : cR who a = cR who b := by
  have : a = b := by
    refine List.ext_getElem (by omega) fun i h1 h2 => ?_
    rw [gd0 h1, gd0 h2]; exact h i (by omega)
  rw [this]
theorem OkT.all (h : OkT f T) : Qn (cR who) gR f.rows.toNat f.rows.toNat (· ∈ T) := Qn_all fun a b ha hb hh => cR_ext (h.2 a ha).1 (h.2 b hb).1 hh
end
theorem refs_ok {f : Fld} (hc : check f = 0) (hm : many f ≤ 250) : OkT f (refs f) := by
  obtain ⟨hr, hw, _⟩ := check_ok hc
  have := refs_len f hc
  refine ⟨by omega, fun a ha => ?_⟩
  obtain ⟨h1, h2, _⟩ := tru_alw ((mem_refs hc).1 ha)
  refine ⟨h2, fun r hr2 => ?_⟩
  have hra : r < a.length := by omega
  rw [← gd0 hra]
  have := h1 _ (List.getElem_mem hra)
  rw [okWho_in f _ hw.1, inR_iff] at this
  exact this
end Go.Proofs.Ythogdgkafaclaaa
end
section
namespace Go.Proofs.Ythogdgkafaclaaa
theorem g_ready (f : Fld) : G_ready 1000 f = some (thin f && check f == 0) := by
  unfold G_ready
  rw [bd (g_Thin (Nat.le_refl _))]
  cases thin f with
  | false => rfl
  | true => rw [ct rfl, bd (g_fault (Nat.le_refl _))]; rfl
theorem cv8 {β : Type} {g : Unit → Option β} {x : Int} (h : 0 ≤ x ∧ x < 256) : (cvO .i64 x).bind g = g () := bd (by
  have : ∀ x : Nat, x < 256 → cvO .i64 (x : Int) = some () := by decide +kernel
  have h2 := this x.toNat (by omega)
  rwa [show ((x.toNat : Nat) : Int) = x by omega] at h2)
theorem refs_nil {f : Fld} (hc : check f = 0) : sureE f = if refs f = [] then 11 else 0 := by unfold sureE; rw [if_neg (by simp [hc])]
end Go.Proofs.Ythogdgkafaclaaa
end
section
namespace Go.Proofs.Ythogdgkafaclaaa
/-- The error of Done. -/
theorem q_Done (K : Nat) (f : Fld) : Q_Done K f = some (if sureE f = 0 then (donesTo f (truths f []) f.wd.toNat, 0) else ([], sureE f)) := by unfold Q_Done; rw [askE_true]
end Go.Proofs.Ythogdgkafaclaaa
end
section
set_option linter.unusedVariables false
set_option linter.unusedSimpArgs false
namespace Go.Proofs.Ythogdgkafaclaaa
open Go.RowKit
def G_WeedEnds_L46 (p0 : Fld) (p2 : Int) (r20 : (List Int) × Int) (r22 : (List (List Int))) (s34_16 : Int) : Nat → Int → Int → Option (Int)
  | 0, _, _ => none
  | m_ + 1, s46_15, s46_18 => cond (decide (s46_18 < (r20.1.length : Int))) ((idx r20.1 s46_18).bind fun x49 => (idx r22 s34_16).bind fun x50 => (idx x50 (p2 % p0.rows)).bind fun x51 => cond (x49 == x51) ((cvO .u64 s46_18).bind fun _ => (shlO (1 : Int) s46_18).bind fun _ => (bitO s46_15 (shlI (1 : Int) s46_18)).bind fun _ => (i64 (s46_18 + 1)).bind fun _ => G_WeedEnds_L46 p0 p2 r20 r22 s34_16 m_ (orI s46_15 (shlI (1 : Int) s46_18)) (s46_18 + 1)) ((i64 (s46_18 + 1)).bind fun _ => G_WeedEnds_L46 p0 p2 r20 r22 s34_16 m_ s46_15 (s46_18 + 1))) (some (s46_15))
def G_WeedEnds_L59 (p0 : Fld) (p2 : Int) (r20 : (List Int) × Int) (r22 : (List (List Int))) (s34_16 : Int) : Nat → Int → Int → Option (Int)
  | 0, _, _ => none
  | m_ + 1, s59_15, s59_18 => cond (decide (s59_18 < (r20.1.length : Int))) ((idx r20.1 s59_18).bind fun x62 => (idx r22 s34_16).bind fun x63 => (idx x63 (p2 % p0.rows)).bind fun x64 => cond (x62 == x64) ((cvO .u64 s59_18).bind fun _ => (shlO (1 : Int) s59_18).bind fun _ => (bitO s59_15 (shlI (1 : Int) s59_18)).bind fun _ => (i64 (s59_18 + 1)).bind fun _ => G_WeedEnds_L59 p0 p2 r20 r22 s34_16 m_ (orI s59_15 (shlI (1 : Int) s59_18)) (s59_18 + 1)) ((i64 (s59_18 + 1)).bind fun _ => G_WeedEnds_L59 p0 p2 r20 r22 s34_16 m_ s59_15 (s59_18 + 1))) (some (s59_15))
def G_WeedEnds_L75 (p0 : Fld) (p2 : Int) (r20 : (List Int) × Int) (r22 : (List (List Int))) (s34_16 : Int) : Nat → Int → Int → Option (Int)
  | 0, _, _ => none
  | m_ + 1, s75_15, s75_18 => cond (decide (s75_18 < (r20.1.length : Int))) ((idx r20.1 s75_18).bind fun x78 => (idx r22 s34_16).bind fun x79 => (idx x79 (p2 % p0.rows)).bind fun x80 => cond (x78 == x80) ((cvO .u64 s75_18).bind fun _ => (shlO (1 : Int) s75_18).bind fun _ => (bitO s75_15 (shlI (1 : Int) s75_18)).bind fun _ => (i64 (s75_18 + 1)).bind fun _ => G_WeedEnds_L75 p0 p2 r20 r22 s34_16 m_ (orI s75_15 (shlI (1 : Int) s75_18)) (s75_18 + 1)) ((i64 (s75_18 + 1)).bind fun _ => G_WeedEnds_L75 p0 p2 r20 r22 s34_16 m_ s75_15 (s75_18 + 1))) (some (s75_15))
def G_WeedEnds_L88 (p0 : Fld) (p2 : Int) (r20 : (List Int) × Int) (r22 : (List (List Int))) (s34_16 : Int) : Nat → Int → Int → Option (Int)
  | 0, _, _ => none
  | m_ + 1, s88_15, s88_18 => cond (decide (s88_18 < (r20.1.length : Int))) ((idx r20.1 s88_18).bind fun x91 => (idx r22 s34_16).bind fun x92 => (idx x92 (p2 % p0.rows)).bind fun x93 => cond (x91 == x93) ((cvO .u64 s88_18).bind fun _ => (shlO (1 : Int) s88_18).bind fun _ => (bitO s88_15 (shlI (1 : Int) s88_18)).bind fun _ => (i64 (s88_18 + 1)).bind fun _ => G_WeedEnds_L88 p0 p2 r20 r22 s34_16 m_ (orI s88_15 (shlI (1 : Int) s88_18)) (s88_18 + 1)) ((i64 (s88_18 + 1)).bind fun _ => G_WeedEnds_L88 p0 p2 r20 r22 s34_16 m_ s88_15 (s88_18 + 1))) (some (s88_15))
def G_WeedEnds_L34 (K_ : Nat) (p0 : Fld) (p1 : Int) (p2 : Int) (r16 : (List (Int × Int)) × Int) (r20 : (List Int) × Int) (r22 : (List (List Int))) : Nat → Int → Int → Int → Option (Int × Int)
  | 0, _, _, _ => none
  | m_ + 1, s34_14, s34_15, s34_16 => cond (decide (s34_16 < (r22.length : Int))) ((idx r22 s34_16).bind fun x37 => (i64 (p0.rows - 1)).bind fun _ => (G_Did K_ x37 (p1 % p0.wd) 0 (p0.rows - 1)).bind fun r39 => (idx r16.1 (p1 % p0.wd)).bind fun x40 => cond (r39 == x40.1) ((bitO s34_14 (1 : Int)).bind fun _ => (idx r16.1 (p1 % p0.wd)).bind fun x43 => cond (r39 == x43.2) ((bitO (orI s34_14 (1 : Int)) (2 : Int)).bind fun _ => (G_WeedEnds_L46 p0 p2 r20 r22 s34_16 K_ s34_15 (0 : Int)).bind fun z46 => (i64 (s34_16 + 1)).bind fun _ => G_WeedEnds_L34 K_ p0 p1 p2 r16 r20 r22 m_ (orI (orI s34_14 (1 : Int)) (2 : Int)) z46 (s34_16 + 1)) ((G_WeedEnds_L59 p0 p2 r20 r22 s34_16 K_ s34_15 (0 : Int)).bind fun z59 => (i64 (s34_16 + 1)).bind fun _ => G_WeedEnds_L34 K_ p0 p1 p2 r16 r20 r22 m_ (orI s34_14 (1 : Int)) z59 (s34_16 + 1))) ((idx r16.1 (p1 % p0.wd)).bind fun x72 => cond (r39 == x72.2) ((bitO s34_14 (2 : Int)).bind fun _ => (G_WeedEnds_L75 p0 p2 r20 r22 s34_16 K_ s34_15 (0 : Int)).bind fun z75 => (i64 (s34_16 + 1)).bind fun _ => G_WeedEnds_L34 K_ p0 p1 p2 r16 r20 r22 m_ (orI s34_14 (2 : Int)) z75 (s34_16 + 1)) ((G_WeedEnds_L88 p0 p2 r20 r22 s34_16 K_ s34_15 (0 : Int)).bind fun z88 => (i64 (s34_16 + 1)).bind fun _ => G_WeedEnds_L34 K_ p0 p1 p2 r16 r20 r22 m_ s34_14 z88 (s34_16 + 1)))) (some ((s34_14, s34_15)))
def G_WeedEnds (K_ : Nat) (p0 : Fld) (p1 : Int) (p2 : Int) : Option (Bool) :=
  (G_ready K_ p0).bind fun r2 => cond (!r2) ((ifo (G_awake K_ = some true)).bind fun _ => some (true)) ((cvO .i64 p1).bind fun _ => (rem p1 p0.wd).bind fun _ => (cvO .i64 p2).bind fun _ => (rem p2 p0.rows).bind fun _ => (G_Field K_ p0).bind fun r14 => (Q_Done K_ r14).bind fun r16 => (G_Field K_ p0).bind fun r18 => (Q_Who K_ r18 (p2 % p0.rows)).bind fun r20 => (G_Truths K_ p0).bind fun r22 => cond ((r22.length : Int) == 0) (cond (r16.2 == 11) (cond (r20.2 == 11) ((ifo (G_awake K_ = some true)).bind fun _ => some (true)) (some (false))) (some (false))) (cond (r16.2 != 0) (some (false)) (cond (r20.2 != 0) (some (false)) (cond ((r16.1.length : Int) != p0.wd) (some (false)) ((i64 (p0.wd + 1)).bind fun _ => cond (decide ((p0.wd + 1) < (r20.1.length : Int))) (some (false)) ((G_WeedEnds_L34 K_ p0 p1 p2 r16 r20 r22 K_ (0 : Int) (0 : Int) (0 : Int)).bind fun z34 => cond (z34.1 == 3) ((cvO .u64 (r20.1.length : Int)).bind fun _ => (shlO (1 : Int) (r20.1.length : Int)).bind fun _ => (i64 ((shlI (1 : Int) (r20.1.length : Int)) - 1)).bind fun _ => cond (z34.2 == ((shlI (1 : Int) (r20.1.length : Int)) - 1)) ((ifo (G_awake K_ = some true)).bind fun _ => some (true)) (some (false))) (some (false))))))))
end Go.Proofs.Ythogdgkafaclaaa
end
section
namespace Go.Proofs.Ythogdgkafaclaaa
theorem ends59 (f : Fld) (p2 : Int) (q : List Int × Int) (T : List (List Int)) (i : Int) : ∀ (m : Nat) (a b : Int), G_WeedEnds_L59 f p2 q T i m a b = G_WeedEnds_L46 f p2 q T i m a b
  | 0, _, _ => rfl
  | m + 1, a, b => by unfold G_WeedEnds_L59 G_WeedEnds_L46; simp only [ends59 f p2 q T i m]
theorem ends75 (f : Fld) (p2 : Int) (q : List Int × Int) (T : List (List Int)) (i : Int) : ∀ (m : Nat) (a b : Int), G_WeedEnds_L75 f p2 q T i m a b = G_WeedEnds_L46 f p2 q T i m a b
  | 0, _, _ => rfl
  | m + 1, a, b => by unfold G_WeedEnds_L75 G_WeedEnds_L46; simp only [ends75 f p2 q T i m]
theorem ends88 (f : Fld) (p2 : Int) (q : List Int × Int) (T : List (List Int)) (i : Int) : ∀ (m : Nat) (a b : Int), G_WeedEnds_L88 f p2 q T i m a b = G_WeedEnds_L46 f p2 q T i m a b
  | 0, _, _ => rfl
  | m + 1, a, b => by unfold G_WeedEnds_L88 G_WeedEnds_L46; simp only [ends88 f p2 q T i m]
theorem l_Ends46 {f : Fld} {p2 : Int} {row : Nat} (hrow : p2 % f.rows = row) (q : List Int × Int) (T : List (List Int)) {i : Nat} (hi : i < T.length) (hr : row < T[i].length) (h4 : q.1.length ≤ 7) : ∀ (n m j d : Nat), q.1.length = j + n → n < m → d < 2 ^ q.1.length →
    ∃ d' : Nat, G_WeedEnds_L46 f p2 q T (i : Int) m (d : Int) (j : Int) = some (d' : Int) ∧ d' < 2 ^ q.1.length ∧ ∀ b, d'.testBit b = (d.testBit b || (decide (j ≤ b ∧ b < q.1.length) && T[i].getD row 0 == q.1.getD b 0))
  | n, 0, j, d, h, hm, _ => by omega
  | 0, m + 1, j, d, h, hm, hd => by
    refine ⟨d, ?_, hd, fun b => ?_⟩
    · unfold G_WeedEnds_L46
      rw [cf (df (by omega))]
    · rw [df (by omega), Bool.false_and, Bool.or_false]
  | n + 1, m + 1, j, d, h, hm, hd => by
    have hj : j < q.1.length := by omega
    have e : ((j : Int) + 1) = ((j + 1 : Nat) : Int) := by omega
    have hp : (2 : Nat) ^ q.1.length ≤ 2 ^ 7 := Nat.pow_le_pow_right (by omega) h4
    have hg1 := gd0 hr
    have hg2 := gd0 hj
    unfold G_WeedEnds_L46
    rw [ct (dt (by omega)), idxb hj, idxb hi, hrow, idxb hr]
    by_cases hx : q.1[j] = T[i][row]
    · obtain ⟨s1, s2, _⟩ := shl_all j (by omega)
      have h2j : 2 ^ j < 2 ^ q.1.length := Nat.pow_lt_pow_right (by omega) hj
      obtain ⟨d', h1, h2, h3⟩ := l_Ends46 hrow q T hi hr h4 n m (j + 1) (d ||| 2 ^ j) (by omega) (by omega) (Nat.or_lt_two_pow hd h2j)
      refine ⟨d', ?_, h2, fun b => ?_⟩
      · rw [ct (by simp [hx]), cvU (by omega), bd s1, s2, bitb (by omega) (by omega), i64b (by omega) (by omega), e, orN]; exact h1
      · rw [h3, Nat.testBit_or, Nat.testBit_two_pow, Bool.or_assoc]
        congr 1
        by_cases hb : j = b
        · subst hb
          rw [dt rfl, Bool.true_or, dt ⟨Nat.le_refl _, hj⟩, ← hg1, ← hg2, hx]; simp
        · rw [df hb, Bool.false_or]
          congr 1
          rw [Bool.eq_iff_iff, decide_eq_true_eq, decide_eq_true_eq]; omega
    · obtain ⟨d', h1, h2, h3⟩ := l_Ends46 hrow q T hi hr h4 n m (j + 1) d (by omega) (by omega) hd
      refine ⟨d', ?_, h2, fun b => ?_⟩
      · rw [cf (by simp [hx]), i64b (by omega) (by omega), e]; exact h1
      · rw [h3]
        congr 1
        by_cases hb : j = b
        · subst hb
          rw [df (by omega), ← hg1, ← hg2]
          have : (T[i][row] == q.1[j]) = false := by rw [beq_eq_false_iff_ne]; exact fun e => hx e.symm
          rw [this]; simp
        · congr 1
          rw [Bool.eq_iff_iff, decide_eq_true_eq, decide_eq_true_eq]; omega
theorem l_Ends34 {f : Fld} (hr7 : 1 ≤ f.rows ∧ f.rows ≤ 7) {p1 p2 : Int} {k row : Nat} (hk : p1 % f.wd = k) (hrow : p2 % f.rows = row) (hrl : (row : Int) < f.rows) (w : List (Int × Int) × Int) (hkl : k < w.1.length) (q : List Int × Int) (T : List (List Int)) (hT : ∀ a ∈ T, (a.length : Int) = f.rows) (hl : T.length ≤ 250) (h4 : q.1.length ≤ 7) :
    ∀ (n m i mt d : Nat), T.length = i + n → n < m → mt < 4 → d < 2 ^ q.1.length →
    ∃ mt' d' : Nat, G_WeedEnds_L34 1000 f p1 p2 w q T m (mt : Int) (d : Int) (i : Int) = some ((mt' : Int), (d' : Int)) ∧ mt' < 4 ∧
      (mt'.testBit 0 = (mt.testBit 0 || (T.drop i).any fun a => cR k a == (w.1.getD k (0, 0)).1)) ∧ (mt'.testBit 1 = (mt.testBit 1 || (T.drop i).any fun a => cR k a == (w.1.getD k (0, 0)).2)) ∧
      d' < 2 ^ q.1.length ∧ ∀ b, d'.testBit b = (d.testBit b || (decide (b < q.1.length) && (T.drop i).any fun a => a.getD row 0 == q.1.getD b 0))
  | n, 0, i, mt, d, h, hm, _, _ => by omega
  | 0, m + 1, i, mt, d, h, hm, hmt, hd => by
    refine ⟨mt, d, ?_, hmt, ?_, ?_, hd, fun b => ?_⟩
    · unfold G_WeedEnds_L34
      rw [cf (df (by omega))]
    all_goals rw [List.drop_eq_nil_of_le (by omega)]; simp
  | n + 1, m + 1, i, mt, d, h, hm, hmt, hd => by
    have hi : i < T.length := by omega
    have e : ((i : Int) + 1) = ((i + 1 : Nat) : Int) := by omega
    have hli := hT _ (List.getElem_mem hi)
    have hp : (2 : Nat) ^ q.1.length ≤ 2 ^ 7 := Nat.pow_le_pow_right (by omega) h4
    have hrr : row < T[i].length := by omega
    have hgk : w.1[k] = w.1.getD k (0, 0) := by simp [List.getElem?_eq_getElem hkl]
    obtain ⟨d1, hd1, hd2, hd3⟩ := l_Ends46 hrow q T hi hrr h4 q.1.length 1000 0 d (by omega) (by omega) hd
    rw [Int.natCast_zero] at hd1
    have m1 : ∀ x : Nat, x < 4 → x ||| 1 < 4 ∧ x ||| 2 < 4 ∧ (x ||| 1).testBit 0 = true ∧ (x ||| 1).testBit 1 = x.testBit 1 ∧ (x ||| 2).testBit 0 = x.testBit 0 ∧ (x ||| 2).testBit 1 = true := by decide
    have o1 : orI (mt : Int) 1 = ((mt ||| 1 : Nat) : Int) := orN mt 1
    have o2 : ∀ x : Nat, orI (x : Int) 2 = ((x ||| 2 : Nat) : Int) := fun x => orN x 2
    have b1 : ∀ {β : Type} {g : Unit → Option β} (x : Nat), x < 4 → (bitO (x : Int) 1).bind g = g () := fun x hx => bitb (b := 1) (by omega) (by omega)
    have b2 : ∀ {β : Type} {g : Unit → Option β} (x : Nat), x < 4 → (bitO (x : Int) 2).bind g = g () := fun x hx => bitb (b := 2) (by omega) (by omega)
    have hcR : cR (k : Int) T[i] = ((part T[i] (k : Int) 0 T[i].length : Nat) : Int) := rfl
    unfold G_WeedEnds_L34
    rw [ct (dt (by omega)), idxb hi, i64b (by omega) (by omega), hk, bd (g_Did0 (n := T[i].length) (by omega) (by omega) (by omega) (by omega)), idxb hkl, hgk, ← hcR, ends59, ends75, ends88]
    -- the next ones
    have fin : ∀ mt1 : Nat, mt1 < 4 → mt1.testBit 0 = (mt.testBit 0 || cR (k : Int) T[i] == (w.1.getD k (0, 0)).1) → mt1.testBit 1 = (mt.testBit 1 || cR (k : Int) T[i] == (w.1.getD k (0, 0)).2) →
        ∃ mt' d' : Nat, G_WeedEnds_L34 1000 f p1 p2 w q T m (mt1 : Int) (d1 : Int) ((i + 1 : Nat) : Int) = some ((mt' : Int), (d' : Int)) ∧ mt' < 4 ∧
        (mt'.testBit 0 = (mt.testBit 0 || (T.drop i).any fun a => cR k a == (w.1.getD k (0, 0)).1)) ∧ (mt'.testBit 1 = (mt.testBit 1 || (T.drop i).any fun a => cR k a == (w.1.getD k (0, 0)).2)) ∧
        d' < 2 ^ q.1.length ∧ ∀ b, d'.testBit b = (d.testBit b || (decide (b < q.1.length) && (T.drop i).any fun a => a.getD row 0 == q.1.getD b 0)) := by
      intro mt1 h1 h2 h3
      obtain ⟨mt', d', g1, g2, g3, g4, g5, g6⟩ := l_Ends34 hr7 hk hrow hrl w hkl q T hT hl h4 n m (i + 1) mt1 d1 (by omega) (by omega) h1 hd2
      refine ⟨mt', d', g1, g2, ?_, ?_, g5, fun b => ?_⟩
      · rw [g3, h2, List.drop_eq_getElem_cons hi, List.any_cons, Bool.or_assoc]
      · rw [g4, h3, List.drop_eq_getElem_cons hi, List.any_cons, Bool.or_assoc]
      · rw [g6, hd3, List.drop_eq_getElem_cons hi, List.any_cons, Bool.or_assoc]
        congr 1
        by_cases hb : b < q.1.length
        · rw [dt hb, dt ⟨Nat.zero_le _, hb⟩]; simp
        · rw [df hb, df (by omega)]; simp
    cases ha : cR (k : Int) T[i] == (w.1.getD k (0, 0)).1 with
    | true =>
      rw [ct rfl, b1 mt hmt, idxb hkl, hgk]
      cases hb : cR (k : Int) T[i] == (w.1.getD k (0, 0)).2 with
      | true =>
        rw [ct rfl, o1, b2 _ (m1 mt hmt).1, bd hd1, i64b (by omega) (by omega), e, o2]
        exact fin _ (m1 _ (m1 mt hmt).1).2.1 (by rw [(m1 _ (m1 mt hmt).1).2.2.2.2.1, (m1 mt hmt).2.2.1, ha, Bool.or_true]) (by rw [(m1 _ (m1 mt hmt).1).2.2.2.2.2, hb, Bool.or_true])
      | false =>
        rw [cf rfl, bd hd1, i64b (by omega) (by omega), e, o1]
        exact fin _ (m1 mt hmt).1 (by rw [(m1 mt hmt).2.2.1, ha, Bool.or_true]) (by rw [(m1 mt hmt).2.2.2.1, hb, Bool.or_false])
    | false =>
      rw [cf rfl, idxb hkl, hgk]
      cases hb : cR (k : Int) T[i] == (w.1.getD k (0, 0)).2 with
      | true =>
        rw [ct rfl, b2 mt hmt, bd hd1, i64b (by omega) (by omega), e, o2]
        exact fin _ (m1 mt hmt).2.1 (by rw [(m1 mt hmt).2.2.2.2.1, ha, Bool.or_false]) (by rw [(m1 mt hmt).2.2.2.2.2, hb, Bool.or_true])
      | false =>
        rw [cf rfl, bd hd1, i64b (by omega) (by omega), e]
        exact fin _ hmt (by rw [ha, Bool.or_false]) (by rw [hb, Bool.or_false])
theorem q_Who {K : Nat} {f : Fld} (hc : check f = 0) {row : Nat} (hr : (row : Int) < f.rows) : Q_Who K f (row : Int) = some (if sureE f = 0 then (whoS f.wd (refs f) row, 0) else ([], sureE f)) := by
  unfold Q_Who
  have : inR (row : Int) 0 (f.rows - 1) = true := inR_iff.2 (by omega)
  rw [this, askE_true, who_refs hc hr]
theorem mod_nat {x m : Int} (hm : 0 < m) : ∃ k : Nat, x % m = k ∧ (k : Int) < m := by
  have h1 := Int.emod_nonneg x (show m ≠ 0 by omega)
  have h2 := Int.emod_lt_of_pos x hm
  exact ⟨(x % m).toNat, by omega, by omega⟩
/-- Both ends are reached. -/
theorem didB_ends {f : Fld} (hc : check f = 0) (hn : refs f ≠ []) (who : Int) : (∃ a ∈ refs f, cR who a = (didB (refs f) who).1) ∧ (∃ a ∈ refs f, cR who a = (didB (refs f) who).2) ∧ ∀ a ∈ refs f, (didB (refs f) who).1 ≤ cR who a ∧ cR who a ≤ (didB (refs f) who).2 := by
  obtain ⟨hr, hw, _⟩ := check_ok hc
  obtain ⟨q1, q2, q3, q4, q5⟩ := foldl_mm (fun a => ((part a who 0 a.length : Nat) : Int)) (refs f) (1099511627776, -1099511627776)
  have hd : didB (refs f) who = (refs f).foldl (fun r a => (min r.1 ((part a who 0 a.length : Nat) : Int), max r.2 ((part a who 0 a.length : Nat) : Int))) (1099511627776, -1099511627776) := rfl
  rw [← hd] at q1 q2 q3 q4 q5
  obtain ⟨l0, hl0⟩ := List.exists_mem_of_ne_nil _ hn
  have b0 : ((part l0 who 0 l0.length : Nat) : Int) ≤ 7 := by
    have h1 := part_le l0 who 0 l0.length
    have h2 := (tru_alw ((mem_refs hc).1 hl0)).2.1
    omega
  have m0 := q3 l0 hl0
  refine ⟨?_, ?_, q3⟩
  · rcases q4 with h | ⟨a, ha, h⟩
    · simp only [] at h m0; omega
    · exact ⟨a, ha, h.symm⟩
  · rcases q5 with h | ⟨a, ha, h⟩
    · simp only [] at h m0; omega
    · exact ⟨a, ha, h.symm⟩
theorem weedEnds_plain (f : Fld) (w r : Int) (hw0 : 0 ≤ w ∧ w < 256) (hr0 : 0 ≤ r ∧ r < 256) : G_WeedEnds 1000 f w r = some true := by
  unfold G_WeedEnds
  rw [bd (g_ready f)]
  cases hrd : (thin f && check f == 0) with
  | false => rw [nf, ifob awake_1000]
  | true =>
    rw [Bool.and_eq_true, beq_iff_eq] at hrd
    obtain ⟨ht, hc⟩ := hrd
    obtain ⟨hr, hw, h5, _⟩ := check_ok hc
    have hmany := thin_many ht hc
    obtain ⟨k, hk, hkw⟩ := mod_nat (x := w) (m := f.wd) (by omega)
    obtain ⟨row, hrow, hrl⟩ := mod_nat (x := r) (m := f.rows) (by omega)
    have hq := q_Who (K := 1000) hc hrl
    rw [nt, cv8 hw0, remb hw0.1 (by omega), cv8 hr0, remb hr0.1 (by omega), bd (g_Field (Nat.le_refl _) (thin_len ht)), bd (q_Done 1000 f), bd (g_Field (Nat.le_refl _) (thin_len ht)), hrow, bd hq, bd (g_Truths (Nat.le_refl _) hc hmany)]
    by_cases hn : refs f = []
    · have hs : sureE f = 11 := by rw [refs_nil hc, if_pos hn]
      rw [ct (by simp [hn]), hs, if_neg (by decide), ct (by decide), if_neg (by decide), ct (by decide), ifob awake_1000]
    · have hs : sureE f = 0 := by rw [refs_nil hc, if_neg hn]
      have hwl := whoS_len f.wd (refs f) row
      have hT := refs_ok hc hmany
      rw [cf (by simp [hn]), if_pos hs, if_pos hs]
      simp only []
      rw [cf (by decide), cf (by decide), cf (by rw [donesTo_len]; simp; omega), i64b (by omega) (by omega), cf (df (by omega))]
      have hkl : k < (donesTo f (truths f []) f.wd.toNat).length := by rw [donesTo_len]; omega
      obtain ⟨mt, d, h1, h2, h3, h4, h6, h7⟩ := l_Ends34 hr hk hrow hrl (donesTo f (truths f []) f.wd.toNat, 0) hkl (whoS f.wd (refs f) row, 0) (refs f) (fun a ha => (hT.2 a ha).1) hT.1 (by simp only []; omega) (refs f).length 1000 0 0 0 (by omega) (by have := hT.1; omega) (by omega) Nat.one_le_two_pow
      rw [Int.natCast_zero] at h1
      have hgk : (donesTo f (truths f []) f.wd.toNat).getD k (0, 0) = didB (refs f) (k : Int) := by
        have : (donesTo f (truths f []) f.wd.toNat).getD k (0, 0) = (donesTo f (truths f []) f.wd.toNat)[k] := by simp [List.getElem?_eq_getElem hkl]
        rw [this, donesTo_get, doneOf_didB hc hn]
      obtain ⟨⟨a1, ha1, e1⟩, ⟨a2, ha2, e2⟩, _⟩ := didB_ends hc hn (k : Int)
      simp only [hgk, List.drop_zero] at h3 h4
      have hmt : mt = 3 := by
        have g1 : mt.testBit 0 = true := by rw [h3, List.any_eq_true.2 ⟨a1, ha1, by rw [beq_iff_eq]; exact e1⟩, Bool.or_true]
        have g2 : mt.testBit 1 = true := by rw [h4, List.any_eq_true.2 ⟨a2, ha2, by rw [beq_iff_eq]; exact e2⟩, Bool.or_true]
        have : ∀ x : Nat, x < 4 → x.testBit 0 = true → x.testBit 1 = true → x = 3 := by decide
        exact this mt h2 g1 g2
      have hd : d = 2 ^ (whoS f.wd (refs f) row).length - 1 := by
        refine Nat.eq_of_testBit_eq fun b => ?_
        rw [h7, Nat.testBit_two_pow_sub_one, Nat.zero_testBit, Bool.false_or, List.drop_zero]
        by_cases hb : b < (whoS f.wd (refs f) row).length
        · have hm : (whoS f.wd (refs f) row).getD b 0 ∈ whoS f.wd (refs f) row := by rw [← gd0 hb]; exact List.getElem_mem hb
          unfold whoS at hm
          have h8 := (List.mem_filter.1 hm).2
          have h9 : ((refs f).any fun a => a.getD row 0 == (whoS f.wd (refs f) row).getD b 0) = true := h8
          simp only [] at *
          rw [h9, Bool.and_true]
        · simp only []
          rw [df hb, Bool.false_and]
      obtain ⟨s1, s2, _, _, s5, _, s7⟩ := shl_all (whoS f.wd (refs f) row).length (by omega)
      rw [bd h1]
      simp only []
      rw [hmt, ct (by decide), cvU (by omega), bd s1, s2, i64b (by omega) (by omega), hd, ct (by rw [beq_iff_eq]; omega), ifob awake_1000]
theorem weedEnds_true (f : Fld) (w r : Int) (hw0 : 0 ≤ w ∧ w < 256) (hr0 : 0 ≤ r ∧ r < 256) : ∃ K, G_WeedEnds K f w r = some true := ⟨1000, weedEnds_plain f w r hw0 hr0⟩
end Go.Proofs.Ythogdgkafaclaaa
end
section
set_option linter.unusedVariables false
set_option linter.unusedSimpArgs false
namespace Go.Proofs.Ythogdgkafaclaaa
open Go.RowKit
open AF
theorem mixedL7 : Try.prog.follows .mixedOrders = true := by kernel_rfl
attribute [local irreducible] Ex1 WL CC CW LV Ret ObOp Agg One Own
theorem a7 (K_ : Nat) (p0 : Fld) (p1 : Int) (p2 : Int) (A0_0 : Option Addr) (c0_0 : Nat) (Z : Nat → Prop) (w : World) (hS0_0 : Sl eTly w Z A0_0 c0_0 p0.ts) (hG : G_WeedEnds K_ p0 p1 p2 = some true) :
    Ret Try.prog 7 #[.agg #[I p0.rows, I p0.wd, I p0.lo, I p0.hi, .slice A0_0 p0.ts.length c0_0], .int .u8 p1, .int .u8 p2] w (fun v w' => Ext w w' ∧ v = .bool true) := by
 unfold G_WeedEnds at hG
 refine ret_of_cc (N := 151) Try.func7 rfl rfl (by simp) ?_
 intro fr0 ha hdf
 have hp_0 := sl_arg (i := 0) (v := .agg #[I p0.rows, I p0.wd, I p0.lo, I p0.hi, .slice A0_0 p0.ts.length c0_0]) ha rfl
 have hp_1 := sl_arg (i := 1) (v := .int .u8 p1) ha rfl
 have hp_2 := sl_arg (i := 2) (v := .int .u8 p2) ha rfl
 clear ha
 have hp0 := Hp.refl w
 have hS0_0_0 := hS0_0.mv (mv_start w)
 refine cc_seq <| cc_region <| we rfl (fun st => x_box (v := .agg #[I p0.rows, I p0.wd, I p0.lo, I p0.hi, .slice A0_0 p0.ts.length c0_0]) (cs := #[I p0.rows, I p0.wd, I p0.lo, I p0.hi, .slice A0_0 p0.ts.length c0_0]) (ee st hp_0) rfl) ?_
 rintro _ w1 ⟨b1, rfl, nb1⟩
 have hp1 : Hp w [some b1] w1 := hp0.new nb1.gr (Nat.le_of_eq nb1.b_eq.symm) (Nat.lt_of_lt_of_eq (Nat.lt_succ_self _) nb1.sz.symm)
 refine wa rfl (v := .bool false) rfl <| wl_end <| lv_next <| cc_seq <| cc_seq <| cc_region <| wd rfl (fun st => x_loadn (l := [I p0.rows, I p0.wd, I p0.lo, I p0.hi, .slice A0_0 p0.ts.length c0_0]) agg_26 (ee st rfl) nb1.bk rfl rfl) ?_
 have hS0_0_1 : Sl eTly w1 (ZZ Z w.heap.size [some b1]) A0_0 c0_0 p0.ts := (hS0_0_0.mv (mv_new nb1.gr (Nat.le_of_eq nb1.b_eq.symm)))
 replace hG := bind_some hG; obtain ⟨r2, hr2, hG⟩ := hG
 refine we rfl (fun st => x_call0 own_39 (ee st rfl) (am1 (ee st rfl)) (a39 K_ p0 A0_0 c0_0 ZA _ hS0_0_1.all r2 hr2)) ?_
 rintro _ w3 ⟨hx2, rfl⟩
 have hp2 : Hp w [some b1] w3 := hp1.ext hx2
 refine wd rfl (fun st => x_not (ee st rfl)) <| wl_end <| lv_next ?_
 rcases bool_cases (!r2) with hc4 | hc4
 ·replace hG := cond_t hG hc4
  have hc4_5 : r2 = false := by simpa using hc4
  refine cc_cond_t rfl hc4 <| cc_seq <| cc_region ?_
  replace hG := ifo_bind hG; obtain ⟨hw6, hG⟩ := hG
  refine we rfl (fun st => x_call0 own_21 (ee st rfl) am0 (a21 K_ ZA _ hw6)) ?_
  rintro _ w7 ⟨hx6, rfl⟩
  have hp3 : Hp w [some b1] w7 := hp2.ext hx6
  refine wa rfl (v := .bool true) rfl <| wl_end <| lv_next <| cc_ret <| lv_then_ret ?_
  have hr_ := Option.some.inj hG
  refine lv_ret1 rfl rfl ?_
  exact ⟨hp3.fin, congrArg Value.bool hr_⟩
 ·replace hG := cond_f hG hc4
  have hc4_8 : r2 = true := by simpa using hc4
  refine cc_cond_f rfl hc4 <| cc_skip <| lv_next <| cc_seq ?_
  replace hG := cvO_bind hG; obtain ⟨hf10, hG⟩ := hG
  have bk1_2 : Bk w3 b1 26 #[I p0.rows, I p0.wd, I p0.lo, I p0.hi, .slice A0_0 p0.ts.length c0_0] := (nb1.bk.ext hx2)
  replace hG := rem_bind hG; obtain ⟨hf11, hG⟩ := hG
  replace hG := cvO_bind hG; obtain ⟨hf12, hG⟩ := hG
  replace hG := rem_bind hG; obtain ⟨hf13, hG⟩ := hG
  refine cc_anyM0 11 [Kc (.int .u8 p1), Kc (I p1), Kc (pt b1 1), Kc (I p0.wd), Kc (I (p1 % p0.wd)), Kc (.int .u8 p2), Kc (I p2), Kc (pt b1 0), Kc (I p0.rows), Kc (I (p2 % p0.rows)), Kc (I (p1 % p0.wd))] mixedL7 rfl rfl
      (obsN_cons (od rfl (fun _ => rfl) (fun K => x_move (v := .int .u8 p1) (es (t := 1) (v := .int .u8 p1) ((K.out 1 rfl).trans hp_1))))
      (obsN_cons (od rfl (fun _ => rfl) (fun K => x_conv (k := .i64) sm_5 Try.underlying3 (es (t := 23) (v := .int .u8 p1) (K.dep 0 23 rfl rfl)) hf10))
      (obsN_cons (od rfl (fun _ => rfl) (fun K => x_fieldAddr (es (t := 3) (v := pt b1 0) ((K.out 3 rfl).trans rfl)) (fz_26_1 _ _)))
      (obsN_cons (od rfl (fun _ => rfl) (fun K => x_load1 (v := I p0.wd) one_3 (es (t := 25) (v := pt b1 1) (K.dep 2 25 rfl rfl)) (bk1_2.ext K.phT) rfl))
      (obsN_cons (od rfl (fun _ => rfl) (fun K => x_rem (es (t := 24) (v := I p1) (K.dep 1 24 rfl rfl)) (es (t := 26) (v := I p0.wd) (K.dep 3 26 rfl rfl)) hf11.1 hf11.2))
      (obsN_cons (od rfl (fun _ => rfl) (fun K => x_move (v := .int .u8 p2) (es (t := 2) (v := .int .u8 p2) ((K.out 2 rfl).trans hp_2))))
      (obsN_cons (od rfl (fun _ => rfl) (fun K => x_conv (k := .i64) sm_5 Try.underlying3 (es (t := 28) (v := .int .u8 p2) (K.dep 5 28 rfl rfl)) hf12))
      (obsN_cons (od rfl (fun _ => rfl) (fun K => x_fieldAddr (es (t := 3) (v := pt b1 0) ((K.out 3 rfl).trans rfl)) (fz_26_0 _ _)))
      (obsN_cons (od rfl (fun _ => rfl) (fun K => x_load1 (v := I p0.rows) one_3 (es (t := 30) (v := pt b1 0) (K.dep 7 30 rfl rfl)) (bk1_2.ext K.phT) rfl))
      (obsN_cons (od rfl (fun _ => rfl) (fun K => x_rem (es (t := 29) (v := I p2) (K.dep 6 29 rfl rfl)) (es (t := 31) (v := I p0.rows) (K.dep 8 31 rfl rfl)) hf13.1 hf13.2))
      (obsN_cons (od rfl (fun _ => rfl) (fun K => x_assign (v := I (p1 % p0.wd)) (es (t := 27) (v := I (p1 % p0.wd)) (K.dep 4 27 rfl rfl))))
      (obsN_nil _)))))))))))) ?_
  intro w9
  rintro _ rfl _ rfl _ rfl _ rfl _ rfl _ rfl _ rfl _ rfl _ rfl _ rfl _ rfl hx9
  have hp4 : Hp w [some b1] w9 := hp2.ext hx9
  refine wa rfl (v := I (p2 % p0.rows)) rfl <| wl_end <| lv_next <| cc_seq <| cc_region ?_
  have bk1_4 : Bk w9 b1 26 #[I p0.rows, I p0.wd, I p0.lo, I p0.hi, .slice A0_0 p0.ts.length c0_0] := (bk1_2.ext hx9)
  refine wd rfl (fun st => x_loadn (l := [I p0.rows, I p0.wd, I p0.lo, I p0.hi, .slice A0_0 p0.ts.length c0_0]) agg_26 (ee st rfl) bk1_4 rfl rfl) ?_
  have hS0_0_4 : Sl eTly w9 (ZZ Z w.heap.size [some b1]) A0_0 c0_0 p0.ts := ((hS0_0_1.mv (mv_ext hx2)).mv (mv_ext hx9))
  replace hG := bind_some hG; obtain ⟨r14, hr14, hG⟩ := hG
  refine we rfl (fun st => x_call0 own_23 (ee st rfl) (am1 (ee st rfl)) (a23 K_ p0 A0_0 c0_0 (ZZ Z w.heap.size [some b1]) _ hS0_0_4 r14 hr14)) ?_
  rintro _ w15 ⟨hx14, ⟨_, rfl, ⟨A14_r0, c14_r0, rfl, hS14_r0⟩⟩⟩
  have hp5 : Hp w [some b1] w15 := hp4.ext hx14
  have hS14_r0 := hS14_r0.mv (hp4.call (Nat.le_refl _))
  replace hG := bind_some hG; obtain ⟨r16, hr16, hG⟩ := hG
  refine we rfl (fun st => x_call0 own_22 (ee st rfl) (am1 (ee st rfl)) (a22 K_ r14 A14_r0 c14_r0 (ZZ Z w.heap.size [some b1]) _ hS14_r0 r16 hr16)) ?_
  rintro _ w17 ⟨hx16, _, _, rfl, ⟨A16_ra, c16_ra, rfl, hS16_ra⟩, rfl⟩
  have hp6 : Hp w [some b1] w17 := hp5.ext hx16
  have hS16_ra := hS16_ra.mv (hp5.call (Nat.le_refl _))
  refine wm rfl (v := .tuple #[.slice A16_ra r16.1.length c16_ra, I r16.2]) rfl <| wd rfl (fun st => x_extract (v := .slice A16_ra r16.1.length c16_ra) (ee st rfl) rfl) <| wd rfl (fun st => x_extract (v := I r16.2) (ee st rfl) rfl) <| wa rfl (v := .slice A16_ra r16.1.length c16_ra) rfl <| wa rfl (v := I r16.2) rfl <| wl_end <| lv_next <| cc_seq <| cc_region ?_
  have bk1_6 : Bk w17 b1 26 #[I p0.rows, I p0.wd, I p0.lo, I p0.hi, .slice A0_0 p0.ts.length c0_0] := ((bk1_4.ext hx14).ext hx16)
  refine wd rfl (fun st => x_loadn (l := [I p0.rows, I p0.wd, I p0.lo, I p0.hi, .slice A0_0 p0.ts.length c0_0]) agg_26 (ee st rfl) bk1_6 rfl rfl) ?_
  have hS0_0_6 : Sl eTly w17 (ZZ Z w.heap.size [some b1]) A0_0 c0_0 p0.ts := ((hS0_0_4.mv (mv_ext hx14)).mv (mv_ext hx16))
  replace hG := bind_some hG; obtain ⟨r18, hr18, hG⟩ := hG
  refine we rfl (fun st => x_call0 own_23 (ee st rfl) (am1 (ee st rfl)) (a23 K_ p0 A0_0 c0_0 (ZZ Z w.heap.size [some b1]) _ hS0_0_6 r18 hr18)) ?_
  rintro _ w19 ⟨hx18, ⟨_, rfl, ⟨A18_r0, c18_r0, rfl, hS18_r0⟩⟩⟩
  have hp7 : Hp w [some b1] w19 := hp6.ext hx18
  have hS18_r0 := hS18_r0.mv (hp6.call (Nat.le_refl _))
  refine wm rfl (v := I (p2 % p0.rows)) rfl ?_
  replace hG := bind_some hG; obtain ⟨r20, hr20, hG⟩ := hG
  refine we rfl (fun st => x_call0 own_27 (ee st rfl) (am2 (ee st rfl) (ee st rfl)) (a27 K_ r18 (p2 % p0.rows) A18_r0 c18_r0 (ZZ Z w.heap.size [some b1]) _ hS18_r0 r20 hr20)) ?_
  rintro _ w21 ⟨hx20, _, _, rfl, ⟨A20_ra, c20_ra, rfl, hS20_ra⟩, rfl⟩
  have hp8 : Hp w [some b1] w21 := hp7.ext hx20
  have hS20_ra := hS20_ra.mv (hp7.call (Nat.le_refl _))
  refine wm rfl (v := .tuple #[.slice A20_ra r20.1.length c20_ra, I r20.2]) rfl <| wd rfl (fun st => x_extract (v := .slice A20_ra r20.1.length c20_ra) (ee st rfl) rfl) <| wd rfl (fun st => x_extract (v := I r20.2) (ee st rfl) rfl) <| wa rfl (v := .slice A20_ra r20.1.length c20_ra) rfl <| wa rfl (v := I r20.2) rfl <| wl_end <| lv_next <| cc_seq <| cc_region ?_
  have bk1_8 : Bk w21 b1 26 #[I p0.rows, I p0.wd, I p0.lo, I p0.hi, .slice A0_0 p0.ts.length c0_0] := ((bk1_6.ext hx18).ext hx20)
  refine wd rfl (fun st => x_loadn (l := [I p0.rows, I p0.wd, I p0.lo, I p0.hi, .slice A0_0 p0.ts.length c0_0]) agg_26 (ee st rfl) bk1_8 rfl rfl) ?_
  have hS0_0_8 : Sl eTly w21 (ZZ Z w.heap.size [some b1]) A0_0 c0_0 p0.ts := ((hS0_0_6.mv (mv_ext hx18)).mv (mv_ext hx20))
  replace hG := bind_some hG; obtain ⟨r22, hr22, hG⟩ := hG
  refine we rfl (fun st => x_call0 own_40 (ee st rfl) (am1 (ee st rfl)) (a40 K_ p0 A0_0 c0_0 (ZZ Z w.heap.size [some b1]) _ hS0_0_8 r22 hr22)) ?_
  rintro _ w23 ⟨hx22, ⟨A22_r, c22_r, rfl, hS22_r⟩⟩
  have hp9 : Hp w [some b1] w23 := hp8.ext hx22
  have hS22_r := hS22_r.mv (hp8.call (Nat.le_refl _))
  refine wa rfl (v := .slice A22_r r22.length c22_r) rfl <| wl_end <| lv_next <| cc_seq <| cc_seq <| cc_region <| wm rfl (v := .slice A22_r r22.length c22_r) rfl <| wd rfl (fun st => x_len Try.underlying38 (ee st rfl)) <| wd rfl (fun st => x_eql (ee st rfl) (ee st rfl)) <| wl_end <| lv_next ?_
  rcases bool_cases ((r22.length : Int) == 0) with hc24 | hc24
  ·replace hG := cond_t hG hc24
   refine cc_cond_t rfl hc24 <| cc_seq <| cc_region <| wm rfl (v := I r16.2) rfl <| wd rfl (fun st => x_eql (ee st rfl) (ee st rfl)) <| wm rfl (v := .bool (r16.2 == 11)) rfl ?_
   rcases bool_cases (r16.2 == 11) with hc25 | hc25
   ·replace hG := cond_t hG hc25
    refine wl_detg rfl rfl (guard_eq rfl hc25) rfl (by decide) (fun st => x_move (v := I r20.2) (ee st rfl)) <| wl_detg rfl rfl (guard_eq rfl hc25) rfl (by decide) (fun st => x_eql (ee st rfl) (ee st rfl)) <| wd rfl (fun st => x_pick_t (v := .bool (r20.2 == 11)) (ee st rfl) hc25 (ee st rfl)) <| wm rfl (v := .bool (r20.2 == 11)) rfl ?_
    rcases bool_cases (r20.2 == 11) with hc26 | hc26
    ·replace hG := cond_t hG hc26
     replace hG := ifo_bind hG; obtain ⟨hw27, hG⟩ := hG
     refine wl_exg rfl rfl (guard_eq rfl hc26) rfl (by decide) (fun st => x_call0 own_21 (ee st rfl) am0 (a21 K_ ZA _ hw27)) ?_
     rintro _ w28 ⟨hx27, rfl⟩
     have hp10 : Hp w [some b1] w28 := hp9.ext hx27
     refine wd rfl (fun st => x_pick_t (v := .bool true) (ee st rfl) hc26 (ee st rfl)) <| wa rfl (v := .bool true) rfl <| wl_end <| lv_next <| cc_ret <| lv_then_ret ?_
     have hr_ := Option.some.inj hG
     refine lv_ret1 rfl rfl ?_
     exact ⟨hp10.fin, congrArg Value.bool hr_⟩
    ·replace hG := cond_f hG hc26
     exact absurd (Option.some.inj hG) (by decide)
   ·replace hG := cond_f hG hc25
    exact absurd (Option.some.inj hG) (by decide)
  ·replace hG := cond_f hG hc24
   refine cc_cond_f rfl hc24 <| cc_skip <| lv_next <| cc_seq <| cc_seq <| cc_region <| wm rfl (v := I r16.2) rfl <| wd rfl (fun st => x_neq (ee st rfl) (ee st rfl)) <| wm rfl (v := .bool (r16.2 != 0)) rfl ?_
   rcases bool_cases (r16.2 != 0) with hc29 | hc29
   ·replace hG := cond_t hG hc29
    exact absurd (Option.some.inj hG) (by decide)
   ·replace hG := cond_f hG hc29
    refine wl_detg rfl rfl (guard_eq rfl hc29) rfl (by decide) (fun st => x_move (v := I r20.2) (ee st rfl)) <| wl_detg rfl rfl (guard_eq rfl hc29) rfl (by decide) (fun st => x_neq (ee st rfl) (ee st rfl)) <| wd rfl (fun st => x_pick_f (v := .bool (r20.2 != 0)) (ee st rfl) hc29 (ee st rfl)) <| wm rfl (v := .bool (r20.2 != 0)) rfl ?_
    rcases bool_cases (r20.2 != 0) with hc30 | hc30
    ·replace hG := cond_t hG hc30
     exact absurd (Option.some.inj hG) (by decide)
    ·replace hG := cond_f hG hc30
     refine wl_detg rfl rfl (guard_eq rfl hc30) rfl (by decide) (fun st => x_move (v := .slice A16_ra r16.1.length c16_ra) (ee st rfl)) <| wl_detg rfl rfl (guard_eq rfl hc30) rfl (by decide) (fun st => x_len Try.underlying29 (ee st rfl)) <| wl_detg rfl rfl (guard_eq rfl hc30) rfl (by decide) (fun st => x_fieldAddr (ee st rfl) (fz_26_1 _ _)) ?_
     have bk1_9 : Bk w23 b1 26 #[I p0.rows, I p0.wd, I p0.lo, I p0.hi, .slice A0_0 p0.ts.length c0_0] := (bk1_8.ext hx22)
     refine wl_detg rfl rfl (guard_eq rfl hc30) rfl (by decide) (fun st => x_load1 (v := I p0.wd) one_3 (ee st rfl) bk1_9 rfl) <| wl_detg rfl rfl (guard_eq rfl hc30) rfl (by decide) (fun st => x_neq (ee st rfl) (ee st rfl)) <| wd rfl (fun st => x_pick_f (v := .bool ((r16.1.length : Int) != p0.wd)) (ee st rfl) hc30 (ee st rfl)) <| wm rfl (v := .bool ((r16.1.length : Int) != p0.wd)) rfl ?_
     rcases bool_cases ((r16.1.length : Int) != p0.wd) with hc31 | hc31
     ·replace hG := cond_t hG hc31
      exact absurd (Option.some.inj hG) (by decide)
     ·replace hG := cond_f hG hc31
      refine wl_detg rfl rfl (guard_eq rfl hc31) rfl (by decide) (fun st => x_move (v := .slice A20_ra r20.1.length c20_ra) (ee st rfl)) <| wl_detg rfl rfl (guard_eq rfl hc31) rfl (by decide) (fun st => x_len Try.underlying43 (ee st rfl)) <| wl_detg rfl rfl (guard_eq rfl hc31) rfl (by decide) (fun st => x_fieldAddr (ee st rfl) (fz_26_1 _ _)) <| wl_detg rfl rfl (guard_eq rfl hc31) rfl (by decide) (fun st => x_load1 (v := I p0.wd) one_3 (ee st rfl) bk1_9 rfl) ?_
      replace hG := i64_bind hG; obtain ⟨hf32, hG⟩ := hG
      refine wl_detg rfl rfl (guard_eq rfl hc31) rfl (by decide) (fun st => x_add (ee st rfl) (ee st rfl) hf32) <| wl_detg rfl rfl (guard_eq rfl hc31) rfl (by decide) (fun st => x_gtr (ee st rfl) (ee st rfl)) <| wd rfl (fun st => x_pick_f (v := .bool (decide ((p0.wd + 1) < (r20.1.length : Int)))) (ee st rfl) hc31 (ee st rfl)) <| wl_end <| lv_next ?_
      rcases bool_cases (decide ((p0.wd + 1) < (r20.1.length : Int))) with hc33 | hc33
      ·replace hG := cond_t hG hc33
       exact absurd (Option.some.inj hG) (by decide)
      ·replace hG := cond_f hG hc33
       refine cc_cond_f rfl hc33 <| cc_skip <| lv_next <| cc_seq <| cc_region <| wa rfl (v := I 0) rfl <| wa rfl (v := I 0) rfl <| wl_end <| lv_next <| cc_seq <| cc_seq <| cc_region <| wa rfl (v := I 0) rfl <| wl_end <| lv_next <| cc_block ?_
       replace hG := bind_some hG; obtain ⟨z34, hL34, hG⟩ := hG
       refine cc_join (fun e_ fr_ w_ => (e_ = .exit 0 ∧ fr_.tmps.size = 151 ∧ fr_.defers = [] ∧ sl fr_ 11 = .slice A20_ra r20.1.length c20_ra ∧ sl fr_ 14 = I z34.1 ∧ sl fr_ 15 = I z34.2 ∧ Hp w [some b1] w_ ∧ Sl (eInt .i64) w_ (ZZ Z w.heap.size [some b1]) A20_ra c20_ra r20.1)) ?lp34 ?af34
       case lp34 =>
        clear hG
        refine cc_loop (fun (m_ : Nat) (fr_ : Act) (w_ : World) => ∃ s34_14, ∃ s34_15, ∃ s34_16, G_WeedEnds_L34 K_ p0 p1 p2 r16 r20 r22 m_ s34_14 s34_15 s34_16 = some z34 ∧ fr_.tmps.size = 151 ∧ fr_.defers = [] ∧ sl fr_ 3 = pt b1 0 ∧ sl fr_ 7 = I (p1 % p0.wd) ∧ sl fr_ 8 = I (p2 % p0.rows) ∧ sl fr_ 9 = .slice A16_ra r16.1.length c16_ra ∧ sl fr_ 11 = .slice A20_ra r20.1.length c20_ra ∧ sl fr_ 13 = .slice A22_r r22.length c22_r ∧ sl fr_ 14 = I s34_14 ∧ sl fr_ 15 = I s34_15 ∧ sl fr_ 16 = I s34_16 ∧ Hp w [some b1] w_ ∧ Bk w_ b1 26 #[I p0.rows, I p0.wd, I p0.lo, I p0.hi, .slice A0_0 p0.ts.length c0_0] ∧ Sl eTly w_ (ZZ Z w.heap.size [some b1]) A0_0 c0_0 p0.ts ∧ Sl eR w_ (ZZ Z w.heap.size [some b1]) A16_ra c16_ra r16.1 ∧ Sl (eInt .i64) w_ (ZZ Z w.heap.size [some b1]) A20_ra c20_ra r20.1 ∧ Sl (eSl (eInt .i64)) w_ (ZZ Z w.heap.size [some b1]) A22_r c22_r r22) K_ ?in34 ?rd34
        case in34 =>
         intro st
         have hS0_0_9 : Sl eTly w23 (ZZ Z w.heap.size [some b1]) A0_0 c0_0 p0.ts := (hS0_0_8.mv (mv_ext hx22))
         have hS16_ra_9 : Sl eR w23 (ZZ Z w.heap.size [some b1]) A16_ra c16_ra r16.1 := (((hS16_ra.mv (mv_ext hx18)).mv (mv_ext hx20)).mv (mv_ext hx22))
         have hS20_ra_9 : Sl (eInt .i64) w23 (ZZ Z w.heap.size [some b1]) A20_ra c20_ra r20.1 := (hS20_ra.mv (mv_ext hx22))
         exact ⟨(0 : Int), (0 : Int), (0 : Int), hL34, (puts_size _ _).trans st.sz, (puts_defers _ _).trans st.df, (sl_puts st 3).trans rfl, (sl_puts st 7).trans rfl, (sl_puts st 8).trans rfl, (sl_puts st 9).trans rfl, (sl_puts st 11).trans rfl, (sl_puts st 13).trans rfl, (sl_puts st 14).trans rfl, (sl_puts st 15).trans rfl, (sl_puts st 16).trans rfl, hp9, bk1_9, hS0_0_9, hS16_ra_9, hS20_ra_9, hS22_r⟩
        case rd34 =>
         rintro (_ | m_) fr34 w34r ⟨s34_14, s34_15, s34_16, hL34, hsz34, hdf34, hs34_3, hs34_7, hs34_8, hs34_9, hs34_11, hs34_13, hs34_14, hs34_15, hs34_16, hp11, f34_bk1, f34_hS0_0, f34_hS16_ra, f34_hS20_ra, f34_hS22_r⟩
         ·exact absurd (show none = some _ from hL34) (by simp)
         rw [G_WeedEnds_L34.eq_2] at hL34
         have hG := hL34; clear hL34
         refine round_cc (N := 151) hsz34 hdf34 <| cc_seq <| cc_seq <| cc_region <| wm rfl (v := I s34_16) hs34_16 <| wm rfl (v := .slice A22_r r22.length c22_r) hs34_13 <| wd rfl (fun st => x_len Try.underlying38 (ee st rfl)) <| wd rfl (fun st => x_lss (ee st rfl) (ee st rfl)) <| wl_end <| lv_next ?_
         rcases bool_cases (decide (s34_16 < (r22.length : Int))) with hc35 | hc35
         ·replace hG := cond_t hG hc35
          refine cc_cond_t rfl hc35 <| cc_skip <| lv_next <| cc_seq <| cc_block <| cc_seq ?_
          replace hG := idx_bind hG; obtain ⟨i37, x37, hi37, hx37, hl37, hG⟩ := hG
          obtain ⟨b37, o37, _, hA37, ⟨A37_e, c37_e, rfl, hS37_e⟩, hz37⟩ := Sl.elem1 f34_hS22_r rfl hx37
          replace hG := i64_bind hG; obtain ⟨hf38, hG⟩ := hG
          replace hG := bind_some hG; obtain ⟨r39, hr39, hG⟩ := hG
          refine cc_anyM0 9 [Kc (.slice A22_r r22.length c22_r), Kc (I s34_16), Kc (pt b37 (o37 + i37)), Kc (.slice A37_e x37.length c37_e), Kc (I (p1 % p0.wd)), Kc (pt b1 0), Kc (I p0.rows), Kc (I (p0.rows - 1)), Kc (I r39)] mixedL7 rfl rfl
              (obsN_cons (od rfl (fun _ => rfl) (fun K => x_move (v := .slice A22_r r22.length c22_r) (es (t := 13) (v := .slice A22_r r22.length c22_r) ((K.out 13 rfl).trans hs34_13))))
              (obsN_cons (od rfl (fun _ => rfl) (fun K => x_move (v := I s34_16) (es (t := 16) (v := I s34_16) ((K.out 16 rfl).trans hs34_16))))
              (obsN_cons (od rfl (fun _ => rfl) (fun K => x_indexAddr1 (k := i37) Try.underlying38 sz_43 (es (t := 87) (v := .slice A22_r r22.length c22_r) (K.dep 0 87 rfl rfl)) hA37 (es (t := 88) (v := I s34_16) (K.dep 1 88 rfl rfl)) hi37 hl37))
              (obsN_cons (od rfl (fun _ => rfl) (fun K => x_load_z0 (v := .slice A37_e x37.length c37_e) one_43 (es (t := 89) (v := pt b37 (o37 + i37)) (K.dep 2 89 rfl rfl)) (hz37.mv (mv_ext K.phT)) rfl))
              (obsN_cons (od rfl (fun _ => rfl) (fun K => x_move (v := I (p1 % p0.wd)) (es (t := 7) (v := I (p1 % p0.wd)) ((K.out 7 rfl).trans hs34_7))))
              (obsN_cons (od rfl (fun _ => rfl) (fun K => x_fieldAddr (es (t := 3) (v := pt b1 0) ((K.out 3 rfl).trans hs34_3)) (fz_26_0 _ _)))
              (obsN_cons (od rfl (fun _ => rfl) (fun K => x_load1 (v := I p0.rows) one_3 (es (t := 92) (v := pt b1 0) (K.dep 5 92 rfl rfl)) (f34_bk1.ext K.phT) rfl))
              (obsN_cons (od rfl (fun _ => rfl) (fun K => x_sub (es (t := 93) (v := I p0.rows) (K.dep 6 93 rfl rfl)) (ec (v := I 1)) hf38))
              (obsN_cons (ob_ext rfl rfl (fun a' w' ph K => (x_call0 own_41 rfl (am4 (es (t := 90) (v := .slice A37_e x37.length c37_e) (K.dep 3 90 rfl rfl)) (es (t := 91) (v := I (p1 % p0.wd)) (K.dep 4 91 rfl rfl)) (ec (v := I 0)) (es (t := 94) (v := I (p0.rows - 1)) (K.dep 7 94 rfl rfl))) (a41 K_ x37 (p1 % p0.wd) 0 (p0.rows - 1) A37_e c37_e ZA _ (hS37_e.mv (mv_ext K.phT)).all r39 hr39)).mono (fun _ _ h => ⟨h.2, h.1⟩)))
              (obsN_nil _)))))))))) ?_
          intro w36
          rintro _ rfl _ rfl _ rfl _ rfl _ rfl _ rfl _ rfl _ rfl _ rfl hx36
          have hp12 : Hp w [some b1] w36 := hp11.ext hx36
          refine wa rfl (v := I r39) rfl <| wl_end <| lv_next <| cc_seq <| cc_seq <| cc_region <| wm rfl (v := I r39) rfl <| wm rfl (v := .slice A16_ra r16.1.length c16_ra) hs34_9 <| wm rfl (v := I (p1 % p0.wd)) hs34_7 ?_
          replace hG := idx_bind hG; obtain ⟨i40, x40, hi40, hx40, hl40, hG⟩ := hG
          have hS16_ra_12 : Sl eR w36 (ZZ Z w.heap.size [some b1]) A16_ra c16_ra r16.1 := (f34_hS16_ra.mv (mv_ext hx36))
          obtain ⟨b40, o40, _, hA40, rfl, hz40⟩ := Sl.elem hS16_ra_12 (by decide) hx40
          refine wd rfl (fun st => x_indexAddrN (k := i40) Try.underlying29 sz_33 (ee st rfl) hA40 (ee st rfl) hi40 hl40) <| wd rfl (fun st => x_fieldAddr (ee st rfl) (fa_33_0 _ _ _)) <| wd rfl (fun st => x_load_z0 (v := I x40.1) one_3 (ee st rfl) hz40 rfl) <| wd rfl (fun st => x_eql (ee st rfl) (ee st rfl)) <| wl_end <| lv_next ?_
          rcases bool_cases (r39 == x40.1) with hc41 | hc41
          ·replace hG := cond_t hG hc41
           refine cc_cond_t rfl hc41 <| cc_region <| wm rfl (v := I s34_14) hs34_14 ?_
           replace hG := bitO_bind hG; obtain ⟨hf42, hG⟩ := hG
           refine wd rfl (fun st => x_or (ee st rfl) (ee st rfl) hf42) <| wa rfl (v := I (orI s34_14 (1 : Int))) rfl <| wl_end <| lv_next <| cc_seq <| cc_seq <| cc_region <| wm rfl (v := I r39) rfl <| wm rfl (v := .slice A16_ra r16.1.length c16_ra) hs34_9 <| wm rfl (v := I (p1 % p0.wd)) hs34_7 ?_
           replace hG := idx_bind hG; obtain ⟨i43, x43, hi43, hx43, hl43, hG⟩ := hG
           obtain ⟨b43, o43, _, hA43, rfl, hz43⟩ := Sl.elem hS16_ra_12 (by decide) hx43
           refine wd rfl (fun st => x_indexAddrN (k := i43) Try.underlying29 sz_33 (ee st rfl) hA43 (ee st rfl) hi43 hl43) <| wd rfl (fun st => x_fieldAddr (ee st rfl) (fa_33_1 _ _ _)) <| wd rfl (fun st => x_load_z (v := I x43.2) one_3 (ee st rfl) hz43 rfl) <| wd rfl (fun st => x_eql (ee st rfl) (ee st rfl)) <| wl_end <| lv_next ?_
           rcases bool_cases (r39 == x43.2) with hc44 | hc44
           ·replace hG := cond_t hG hc44
            refine cc_cond_t rfl hc44 <| cc_region <| wm rfl (v := I (orI s34_14 (1 : Int))) rfl ?_
            replace hG := bitO_bind hG; obtain ⟨hf45, hG⟩ := hG
            refine wd rfl (fun st => x_or (ee st rfl) (ee st rfl) hf45) <| wa rfl (v := I (orI (orI s34_14 (1 : Int)) (2 : Int))) rfl <| wl_end <| lv_next <| cc_seq <| cc_region <| wa rfl (v := I 0) rfl <| wl_end <| lv_next <| cc_block ?_
            replace hG := bind_some hG; obtain ⟨z46, hL46, hG⟩ := hG
            refine cc_join (fun e_ fr_ w_ => (e_ = .exit 2 ∧ fr_.tmps.size = 151 ∧ fr_.defers = [] ∧ sl fr_ 3 = pt b1 0 ∧ sl fr_ 7 = I (p1 % p0.wd) ∧ sl fr_ 8 = I (p2 % p0.rows) ∧ sl fr_ 9 = .slice A16_ra r16.1.length c16_ra ∧ sl fr_ 11 = .slice A20_ra r20.1.length c20_ra ∧ sl fr_ 13 = .slice A22_r r22.length c22_r ∧ sl fr_ 14 = I (orI (orI s34_14 (1 : Int)) (2 : Int)) ∧ sl fr_ 15 = I z46 ∧ sl fr_ 16 = I s34_16 ∧ Hp w [some b1] w_ ∧ Bk w_ b1 26 #[I p0.rows, I p0.wd, I p0.lo, I p0.hi, .slice A0_0 p0.ts.length c0_0] ∧ Sl eTly w_ (ZZ Z w.heap.size [some b1]) A0_0 c0_0 p0.ts ∧ Sl eR w_ (ZZ Z w.heap.size [some b1]) A16_ra c16_ra r16.1 ∧ Sl (eInt .i64) w_ (ZZ Z w.heap.size [some b1]) A20_ra c20_ra r20.1 ∧ Sl (eSl (eInt .i64)) w_ (ZZ Z w.heap.size [some b1]) A22_r c22_r r22)) ?lp46 ?af46
            case lp46 =>
             clear hG
             refine cc_loop (fun (m_ : Nat) (fr_ : Act) (w_ : World) => ∃ s46_15, ∃ s46_18, G_WeedEnds_L46 p0 p2 r20 r22 s34_16 m_ s46_15 s46_18 = some z46 ∧ fr_.tmps.size = 151 ∧ fr_.defers = [] ∧ sl fr_ 3 = pt b1 0 ∧ sl fr_ 7 = I (p1 % p0.wd) ∧ sl fr_ 8 = I (p2 % p0.rows) ∧ sl fr_ 9 = .slice A16_ra r16.1.length c16_ra ∧ sl fr_ 11 = .slice A20_ra r20.1.length c20_ra ∧ sl fr_ 13 = .slice A22_r r22.length c22_r ∧ sl fr_ 14 = I (orI (orI s34_14 (1 : Int)) (2 : Int)) ∧ sl fr_ 15 = I s46_15 ∧ sl fr_ 16 = I s34_16 ∧ sl fr_ 18 = I s46_18 ∧ Hp w [some b1] w_ ∧ Bk w_ b1 26 #[I p0.rows, I p0.wd, I p0.lo, I p0.hi, .slice A0_0 p0.ts.length c0_0] ∧ Sl eTly w_ (ZZ Z w.heap.size [some b1]) A0_0 c0_0 p0.ts ∧ Sl eR w_ (ZZ Z w.heap.size [some b1]) A16_ra c16_ra r16.1 ∧ Sl (eInt .i64) w_ (ZZ Z w.heap.size [some b1]) A20_ra c20_ra r20.1 ∧ Sl (eSl (eInt .i64)) w_ (ZZ Z w.heap.size [some b1]) A22_r c22_r r22) K_ ?in46 ?rd46
             case in46 =>
              intro st
              have bk1_12 : Bk w36 b1 26 #[I p0.rows, I p0.wd, I p0.lo, I p0.hi, .slice A0_0 p0.ts.length c0_0] := (f34_bk1.ext hx36)
              have hS0_0_12 : Sl eTly w36 (ZZ Z w.heap.size [some b1]) A0_0 c0_0 p0.ts := (f34_hS0_0.mv (mv_ext hx36))
              have hS20_ra_12 : Sl (eInt .i64) w36 (ZZ Z w.heap.size [some b1]) A20_ra c20_ra r20.1 := (f34_hS20_ra.mv (mv_ext hx36))
              have hS22_r_12 : Sl (eSl (eInt .i64)) w36 (ZZ Z w.heap.size [some b1]) A22_r c22_r r22 := (f34_hS22_r.mv (mv_ext hx36))
              exact ⟨s34_15, (0 : Int), hL46, (puts_size _ _).trans st.sz, (puts_defers _ _).trans st.df, (sl_puts st 3).trans hs34_3, (sl_puts st 7).trans hs34_7, (sl_puts st 8).trans hs34_8, (sl_puts st 9).trans hs34_9, (sl_puts st 11).trans hs34_11, (sl_puts st 13).trans hs34_13, (sl_puts st 14).trans rfl, (sl_puts st 15).trans hs34_15, (sl_puts st 16).trans hs34_16, (sl_puts st 18).trans rfl, hp12, bk1_12, hS0_0_12, hS16_ra_12, hS20_ra_12, hS22_r_12⟩
             case rd46 =>
              rintro (_ | m_) fr46 w46r ⟨s46_15, s46_18, hL46, hsz46, hdf46, hs46_3, hs46_7, hs46_8, hs46_9, hs46_11, hs46_13, hs46_14, hs46_15, hs46_16, hs46_18, hp13, f46_bk1, f46_hS0_0, f46_hS16_ra, f46_hS20_ra, f46_hS22_r⟩
              ·exact absurd (show none = some _ from hL46) (by simp)
              rw [G_WeedEnds_L46.eq_2] at hL46
              have hG := hL46; clear hL46
              refine round_cc (N := 151) hsz46 hdf46 <| cc_seq <| cc_seq <| cc_region <| wm rfl (v := I s46_18) hs46_18 <| wm rfl (v := .slice A20_ra r20.1.length c20_ra) hs46_11 <| wd rfl (fun st => x_len Try.underlying43 (ee st rfl)) <| wd rfl (fun st => x_lss (ee st rfl) (ee st rfl)) <| wl_end <| lv_next ?_
              rcases bool_cases (decide (s46_18 < (r20.1.length : Int))) with hc47 | hc47
              ·replace hG := cond_t hG hc47
               refine cc_cond_t rfl hc47 <| cc_skip <| lv_next <| cc_seq <| cc_block <| cc_seq ?_
               replace hG := idx_bind hG; obtain ⟨i49, x49, hi49, hx49, hl49, hG⟩ := hG
               obtain ⟨b49, o49, _, hA49, rfl, hz49⟩ := Sl.elem1 f46_hS20_ra rfl hx49
               replace hG := idx_bind hG; obtain ⟨i50, x50, hi50, hx50, hl50, hG⟩ := hG
               obtain ⟨b50, o50, _, hA50, ⟨A50_e, c50_e, rfl, hS50_e⟩, hz50⟩ := Sl.elem1 f46_hS22_r rfl hx50
               replace hG := idx_bind hG; obtain ⟨i51, x51, hi51, hx51, hl51, hG⟩ := hG
               obtain ⟨b51, o51, _, hA51, rfl, hz51⟩ := Sl.elem1 hS50_e rfl hx51
               refine cc_anyM0 12 [Kc (.slice A20_ra r20.1.length c20_ra), Kc (I s46_18), Kc (pt b49 (o49 + i49)), Kc (I x49), Kc (.slice A22_r r22.length c22_r), Kc (I s34_16), Kc (pt b50 (o50 + i50)), Kc (.slice A50_e x50.length c50_e), Kc (I (p2 % p0.rows)), Kc (pt b51 (o51 + i51)), Kc (I x51), Kc (.bool (x49 == x51))] mixedL7 rfl rfl
                   (obsN_cons (od rfl (fun _ => rfl) (fun K => x_move (v := .slice A20_ra r20.1.length c20_ra) (es (t := 11) (v := .slice A20_ra r20.1.length c20_ra) ((K.out 11 rfl).trans hs46_11))))
                   (obsN_cons (od rfl (fun _ => rfl) (fun K => x_move (v := I s46_18) (es (t := 18) (v := I s46_18) ((K.out 18 rfl).trans hs46_18))))
                   (obsN_cons (od rfl (fun _ => rfl) (fun K => x_indexAddr1 (k := i49) Try.underlying43 sz_3 (es (t := 120) (v := .slice A20_ra r20.1.length c20_ra) (K.dep 0 120 rfl rfl)) hA49 (es (t := 121) (v := I s46_18) (K.dep 1 121 rfl rfl)) hi49 hl49))
                   (obsN_cons (od rfl (fun _ => rfl) (fun K => x_load_z0 (v := I x49) one_3 (es (t := 122) (v := pt b49 (o49 + i49)) (K.dep 2 122 rfl rfl)) (hz49.mv (mv_ext K.phT)) rfl))
                   (obsN_cons (od rfl (fun _ => rfl) (fun K => x_move (v := .slice A22_r r22.length c22_r) (es (t := 13) (v := .slice A22_r r22.length c22_r) ((K.out 13 rfl).trans hs46_13))))
                   (obsN_cons (od rfl (fun _ => rfl) (fun K => x_move (v := I s34_16) (es (t := 16) (v := I s34_16) ((K.out 16 rfl).trans hs46_16))))
                   (obsN_cons (od rfl (fun _ => rfl) (fun K => x_indexAddr1 (k := i50) Try.underlying38 sz_43 (es (t := 124) (v := .slice A22_r r22.length c22_r) (K.dep 4 124 rfl rfl)) hA50 (es (t := 125) (v := I s34_16) (K.dep 5 125 rfl rfl)) hi50 hl50))
                   (obsN_cons (od rfl (fun _ => rfl) (fun K => x_load_z0 (v := .slice A50_e x50.length c50_e) one_43 (es (t := 126) (v := pt b50 (o50 + i50)) (K.dep 6 126 rfl rfl)) (hz50.mv (mv_ext K.phT)) rfl))
                   (obsN_cons (od rfl (fun _ => rfl) (fun K => x_move (v := I (p2 % p0.rows)) (es (t := 8) (v := I (p2 % p0.rows)) ((K.out 8 rfl).trans hs46_8))))
                   (obsN_cons (od rfl (fun _ => rfl) (fun K => x_indexAddr1 (k := i51) Try.underlying43 sz_3 (es (t := 127) (v := .slice A50_e x50.length c50_e) (K.dep 7 127 rfl rfl)) hA51 (es (t := 128) (v := I (p2 % p0.rows)) (K.dep 8 128 rfl rfl)) hi51 hl51))
                   (obsN_cons (od rfl (fun _ => rfl) (fun K => x_load_z0 (v := I x51) one_3 (es (t := 129) (v := pt b51 (o51 + i51)) (K.dep 9 129 rfl rfl)) (hz51.mv (mv_ext K.phT)) rfl))
                   (obsN_cons (od rfl (fun _ => rfl) (fun K => x_eql (es (t := 123) (v := I x49) (K.dep 3 123 rfl rfl)) (es (t := 130) (v := I x51) (K.dep 10 130 rfl rfl))))
                   (obsN_nil _))))))))))))) ?_
               intro w48
               rintro _ rfl _ rfl _ rfl _ rfl _ rfl _ rfl _ rfl _ rfl _ rfl _ rfl _ rfl _ rfl hx48
               have hp14 : Hp w [some b1] w48 := hp13.ext hx48
               refine wl_end <| lv_next ?_
               rcases bool_cases (x49 == x51) with hc52 | hc52
               ·replace hG := cond_t hG hc52
                refine cc_cond_t rfl hc52 <| cc_region <| wm rfl (v := I s46_15) hs46_15 <| wm rfl (v := I s46_18) hs46_18 ?_
                replace hG := cvO_bind hG; obtain ⟨hf53, hG⟩ := hG
                refine wd rfl (fun st => x_conv (k := .u64) sm_3 Try.underlying63 (ee st rfl) hf53) ?_
                replace hG := shlO_bind hG; obtain ⟨hf54, hG⟩ := hG
                refine wd rfl (fun st => x_shl (ee st rfl) (ee st rfl) hf54) ?_
                replace hG := bitO_bind hG; obtain ⟨hf55, hG⟩ := hG
                refine wd rfl (fun st => x_or (ee st rfl) (ee st rfl) hf55) <| wa rfl (v := I (orI s46_15 (shlI (1 : Int) s46_18))) rfl <| wl_end <| lv_block <| lv_next <| cc_region <| wm rfl (v := I s46_18) hs46_18 ?_
                replace hG := i64_bind hG; obtain ⟨hf56, hG⟩ := hG
                refine wd rfl (fun st => x_add (ee st rfl) (ee st rfl) hf56) <| wa rfl (v := I (s46_18 + 1)) rfl <| wl_end ?_
                have bk1_14 : Bk w48 b1 26 #[I p0.rows, I p0.wd, I p0.lo, I p0.hi, .slice A0_0 p0.ts.length c0_0] := (f46_bk1.ext hx48)
                have hS0_0_14 : Sl eTly w48 (ZZ Z w.heap.size [some b1]) A0_0 c0_0 p0.ts := (f46_hS0_0.mv (mv_ext hx48))
                have hS16_ra_14 : Sl eR w48 (ZZ Z w.heap.size [some b1]) A16_ra c16_ra r16.1 := (f46_hS16_ra.mv (mv_ext hx48))
                have hS20_ra_14 : Sl (eInt .i64) w48 (ZZ Z w.heap.size [some b1]) A20_ra c20_ra r20.1 := (f46_hS20_ra.mv (mv_ext hx48))
                have hS22_r_14 : Sl (eSl (eInt .i64)) w48 (ZZ Z w.heap.size [some b1]) A22_r c22_r r22 := (f46_hS22_r.mv (mv_ext hx48))
                refine lv_round m_ (Nat.lt_succ_self _) (fun st => ?_)
                exact ⟨(orI s46_15 (shlI (1 : Int) s46_18)), (s46_18 + 1), hG, (puts_size _ _).trans st.sz, (puts_defers _ _).trans st.df, (sl_puts st 3).trans hs46_3, (sl_puts st 7).trans hs46_7, (sl_puts st 8).trans hs46_8, (sl_puts st 9).trans hs46_9, (sl_puts st 11).trans hs46_11, (sl_puts st 13).trans hs46_13, (sl_puts st 14).trans hs46_14, (sl_puts st 15).trans rfl, (sl_puts st 16).trans hs46_16, (sl_puts st 18).trans rfl, hp14, bk1_14, hS0_0_14, hS16_ra_14, hS20_ra_14, hS22_r_14⟩
               ·replace hG := cond_f hG hc52
                refine cc_cond_f rfl hc52 <| cc_skip <| lv_block <| lv_next <| cc_region <| wm rfl (v := I s46_18) hs46_18 ?_
                replace hG := i64_bind hG; obtain ⟨hf57, hG⟩ := hG
                refine wd rfl (fun st => x_add (ee st rfl) (ee st rfl) hf57) <| wa rfl (v := I (s46_18 + 1)) rfl <| wl_end ?_
                have bk1_14 : Bk w48 b1 26 #[I p0.rows, I p0.wd, I p0.lo, I p0.hi, .slice A0_0 p0.ts.length c0_0] := (f46_bk1.ext hx48)
                have hS0_0_14 : Sl eTly w48 (ZZ Z w.heap.size [some b1]) A0_0 c0_0 p0.ts := (f46_hS0_0.mv (mv_ext hx48))
                have hS16_ra_14 : Sl eR w48 (ZZ Z w.heap.size [some b1]) A16_ra c16_ra r16.1 := (f46_hS16_ra.mv (mv_ext hx48))
                have hS20_ra_14 : Sl (eInt .i64) w48 (ZZ Z w.heap.size [some b1]) A20_ra c20_ra r20.1 := (f46_hS20_ra.mv (mv_ext hx48))
                have hS22_r_14 : Sl (eSl (eInt .i64)) w48 (ZZ Z w.heap.size [some b1]) A22_r c22_r r22 := (f46_hS22_r.mv (mv_ext hx48))
                refine lv_round m_ (Nat.lt_succ_self _) (fun st => ?_)
                exact ⟨s46_15, (s46_18 + 1), hG, (puts_size _ _).trans st.sz, (puts_defers _ _).trans st.df, (sl_puts st 3).trans hs46_3, (sl_puts st 7).trans hs46_7, (sl_puts st 8).trans hs46_8, (sl_puts st 9).trans hs46_9, (sl_puts st 11).trans hs46_11, (sl_puts st 13).trans hs46_13, (sl_puts st 14).trans hs46_14, (sl_puts st 15).trans hs46_15, (sl_puts st 16).trans hs46_16, (sl_puts st 18).trans rfl, hp14, bk1_14, hS0_0_14, hS16_ra_14, hS20_ra_14, hS22_r_14⟩
              ·replace hG := cond_f hG hc47
               refine cc_cond_f rfl hc47 <| cc_exit <| lv_then_exit <| lv_then_exit ?_
               obtain rfl := Option.some.inj hG
               refine lv_to (fun st => ?_)
               exact ⟨rfl, (puts_size _ _).trans st.sz, (puts_defers _ _).trans st.df, (sl_puts st 3).trans hs46_3, (sl_puts st 7).trans hs46_7, (sl_puts st 8).trans hs46_8, (sl_puts st 9).trans hs46_9, (sl_puts st 11).trans hs46_11, (sl_puts st 13).trans hs46_13, (sl_puts st 14).trans hs46_14, (sl_puts st 15).trans hs46_15, (sl_puts st 16).trans hs46_16, hp13, f46_bk1, f46_hS0_0, f46_hS16_ra, f46_hS20_ra, f46_hS22_r⟩
            case af46 =>
             rintro e_ fr46a w46a (⟨rfl, hsz46a, hdf46a, hs46a_3, hs46a_7, hs46a_8, hs46a_9, hs46a_11, hs46a_13, hs46a_14, hs46a_15, hs46a_16, hp46a, g46_bk1, g46_hS0_0, g46_hS16_ra, g46_hS20_ra, g46_hS22_r⟩)
             refine lv_fr (X := X0) (N := 151) hsz46a hdf46a <| lv_block_hit <| lv_block <| lv_next <| cc_region <| wm rfl (v := I s34_16) hs46a_16 ?_
             replace hG := i64_bind hG; obtain ⟨hf58, hG⟩ := hG
             refine wd rfl (fun st => x_add (ee st rfl) (ee st rfl) hf58) <| wa rfl (v := I (s34_16 + 1)) rfl <| wl_end ?_
             refine lv_round m_ (Nat.lt_succ_self _) (fun st => ?_)
             exact ⟨(orI (orI s34_14 (1 : Int)) (2 : Int)), z46, (s34_16 + 1), hG, (puts_size _ _).trans st.sz, (puts_defers _ _).trans st.df, (sl_puts st 3).trans hs46a_3, (sl_puts st 7).trans hs46a_7, (sl_puts st 8).trans hs46a_8, (sl_puts st 9).trans hs46a_9, (sl_puts st 11).trans hs46a_11, (sl_puts st 13).trans hs46a_13, (sl_puts st 14).trans hs46a_14, (sl_puts st 15).trans hs46a_15, (sl_puts st 16).trans rfl, hp46a, g46_bk1, g46_hS0_0, g46_hS16_ra, g46_hS20_ra, g46_hS22_r⟩
           ·replace hG := cond_f hG hc44
            refine cc_cond_f rfl hc44 <| cc_skip <| lv_next <| cc_seq <| cc_region <| wa rfl (v := I 0) rfl <| wl_end <| lv_next <| cc_block ?_
            replace hG := bind_some hG; obtain ⟨z59, hL59, hG⟩ := hG
            refine cc_join (fun e_ fr_ w_ => (e_ = .exit 2 ∧ fr_.tmps.size = 151 ∧ fr_.defers = [] ∧ sl fr_ 3 = pt b1 0 ∧ sl fr_ 7 = I (p1 % p0.wd) ∧ sl fr_ 8 = I (p2 % p0.rows) ∧ sl fr_ 9 = .slice A16_ra r16.1.length c16_ra ∧ sl fr_ 11 = .slice A20_ra r20.1.length c20_ra ∧ sl fr_ 13 = .slice A22_r r22.length c22_r ∧ sl fr_ 14 = I (orI s34_14 (1 : Int)) ∧ sl fr_ 15 = I z59 ∧ sl fr_ 16 = I s34_16 ∧ Hp w [some b1] w_ ∧ Bk w_ b1 26 #[I p0.rows, I p0.wd, I p0.lo, I p0.hi, .slice A0_0 p0.ts.length c0_0] ∧ Sl eTly w_ (ZZ Z w.heap.size [some b1]) A0_0 c0_0 p0.ts ∧ Sl eR w_ (ZZ Z w.heap.size [some b1]) A16_ra c16_ra r16.1 ∧ Sl (eInt .i64) w_ (ZZ Z w.heap.size [some b1]) A20_ra c20_ra r20.1 ∧ Sl (eSl (eInt .i64)) w_ (ZZ Z w.heap.size [some b1]) A22_r c22_r r22)) ?lp59 ?af59
            case lp59 =>
             clear hG
             refine cc_loop (fun (m_ : Nat) (fr_ : Act) (w_ : World) => ∃ s59_15, ∃ s59_18, G_WeedEnds_L59 p0 p2 r20 r22 s34_16 m_ s59_15 s59_18 = some z59 ∧ fr_.tmps.size = 151 ∧ fr_.defers = [] ∧ sl fr_ 3 = pt b1 0 ∧ sl fr_ 7 = I (p1 % p0.wd) ∧ sl fr_ 8 = I (p2 % p0.rows) ∧ sl fr_ 9 = .slice A16_ra r16.1.length c16_ra ∧ sl fr_ 11 = .slice A20_ra r20.1.length c20_ra ∧ sl fr_ 13 = .slice A22_r r22.length c22_r ∧ sl fr_ 14 = I (orI s34_14 (1 : Int)) ∧ sl fr_ 15 = I s59_15 ∧ sl fr_ 16 = I s34_16 ∧ sl fr_ 18 = I s59_18 ∧ Hp w [some b1] w_ ∧ Bk w_ b1 26 #[I p0.rows, I p0.wd, I p0.lo, I p0.hi, .slice A0_0 p0.ts.length c0_0] ∧ Sl eTly w_ (ZZ Z w.heap.size [some b1]) A0_0 c0_0 p0.ts ∧ Sl eR w_ (ZZ Z w.heap.size [some b1]) A16_ra c16_ra r16.1 ∧ Sl (eInt .i64) w_ (ZZ Z w.heap.size [some b1]) A20_ra c20_ra r20.1 ∧ Sl (eSl (eInt .i64)) w_ (ZZ Z w.heap.size [some b1]) A22_r c22_r r22) K_ ?in59 ?rd59
             case in59 =>
              intro st
              have bk1_12 : Bk w36 b1 26 #[I p0.rows, I p0.wd, I p0.lo, I p0.hi, .slice A0_0 p0.ts.length c0_0] := (f34_bk1.ext hx36)
              have hS0_0_12 : Sl eTly w36 (ZZ Z w.heap.size [some b1]) A0_0 c0_0 p0.ts := (f34_hS0_0.mv (mv_ext hx36))
              have hS20_ra_12 : Sl (eInt .i64) w36 (ZZ Z w.heap.size [some b1]) A20_ra c20_ra r20.1 := (f34_hS20_ra.mv (mv_ext hx36))
              have hS22_r_12 : Sl (eSl (eInt .i64)) w36 (ZZ Z w.heap.size [some b1]) A22_r c22_r r22 := (f34_hS22_r.mv (mv_ext hx36))
              exact ⟨s34_15, (0 : Int), hL59, (puts_size _ _).trans st.sz, (puts_defers _ _).trans st.df, (sl_puts st 3).trans hs34_3, (sl_puts st 7).trans hs34_7, (sl_puts st 8).trans hs34_8, (sl_puts st 9).trans hs34_9, (sl_puts st 11).trans hs34_11, (sl_puts st 13).trans hs34_13, (sl_puts st 14).trans rfl, (sl_puts st 15).trans hs34_15, (sl_puts st 16).trans hs34_16, (sl_puts st 18).trans rfl, hp12, bk1_12, hS0_0_12, hS16_ra_12, hS20_ra_12, hS22_r_12⟩
             case rd59 =>
              rintro (_ | m_) fr59 w59r ⟨s59_15, s59_18, hL59, hsz59, hdf59, hs59_3, hs59_7, hs59_8, hs59_9, hs59_11, hs59_13, hs59_14, hs59_15, hs59_16, hs59_18, hp16, f59_bk1, f59_hS0_0, f59_hS16_ra, f59_hS20_ra, f59_hS22_r⟩
              ·exact absurd (show none = some _ from hL59) (by simp)
              rw [G_WeedEnds_L59.eq_2] at hL59
              have hG := hL59; clear hL59
              refine round_cc (N := 151) hsz59 hdf59 <| cc_seq <| cc_seq <| cc_region <| wm rfl (v := I s59_18) hs59_18 <| wm rfl (v := .slice A20_ra r20.1.length c20_ra) hs59_11 <| wd rfl (fun st => x_len Try.underlying43 (ee st rfl)) <| wd rfl (fun st => x_lss (ee st rfl) (ee st rfl)) <| wl_end <| lv_next ?_
              rcases bool_cases (decide (s59_18 < (r20.1.length : Int))) with hc60 | hc60
              ·replace hG := cond_t hG hc60
               refine cc_cond_t rfl hc60 <| cc_skip <| lv_next <| cc_seq <| cc_block <| cc_seq ?_
               replace hG := idx_bind hG; obtain ⟨i62, x62, hi62, hx62, hl62, hG⟩ := hG
               obtain ⟨b62, o62, _, hA62, rfl, hz62⟩ := Sl.elem1 f59_hS20_ra rfl hx62
               replace hG := idx_bind hG; obtain ⟨i63, x63, hi63, hx63, hl63, hG⟩ := hG
               obtain ⟨b63, o63, _, hA63, ⟨A63_e, c63_e, rfl, hS63_e⟩, hz63⟩ := Sl.elem1 f59_hS22_r rfl hx63
               replace hG := idx_bind hG; obtain ⟨i64, x64, hi64, hx64, hl64, hG⟩ := hG
               obtain ⟨b64, o64, _, hA64, rfl, hz64⟩ := Sl.elem1 hS63_e rfl hx64
               refine cc_anyM0 12 [Kc (.slice A20_ra r20.1.length c20_ra), Kc (I s59_18), Kc (pt b62 (o62 + i62)), Kc (I x62), Kc (.slice A22_r r22.length c22_r), Kc (I s34_16), Kc (pt b63 (o63 + i63)), Kc (.slice A63_e x63.length c63_e), Kc (I (p2 % p0.rows)), Kc (pt b64 (o64 + i64)), Kc (I x64), Kc (.bool (x62 == x64))] mixedL7 rfl rfl
                   (obsN_cons (od rfl (fun _ => rfl) (fun K => x_move (v := .slice A20_ra r20.1.length c20_ra) (es (t := 11) (v := .slice A20_ra r20.1.length c20_ra) ((K.out 11 rfl).trans hs59_11))))
                   (obsN_cons (od rfl (fun _ => rfl) (fun K => x_move (v := I s59_18) (es (t := 18) (v := I s59_18) ((K.out 18 rfl).trans hs59_18))))
                   (obsN_cons (od rfl (fun _ => rfl) (fun K => x_indexAddr1 (k := i62) Try.underlying43 sz_3 (es (t := 120) (v := .slice A20_ra r20.1.length c20_ra) (K.dep 0 120 rfl rfl)) hA62 (es (t := 121) (v := I s59_18) (K.dep 1 121 rfl rfl)) hi62 hl62))
                   (obsN_cons (od rfl (fun _ => rfl) (fun K => x_load_z0 (v := I x62) one_3 (es (t := 122) (v := pt b62 (o62 + i62)) (K.dep 2 122 rfl rfl)) (hz62.mv (mv_ext K.phT)) rfl))
                   (obsN_cons (od rfl (fun _ => rfl) (fun K => x_move (v := .slice A22_r r22.length c22_r) (es (t := 13) (v := .slice A22_r r22.length c22_r) ((K.out 13 rfl).trans hs59_13))))
                   (obsN_cons (od rfl (fun _ => rfl) (fun K => x_move (v := I s34_16) (es (t := 16) (v := I s34_16) ((K.out 16 rfl).trans hs59_16))))
                   (obsN_cons (od rfl (fun _ => rfl) (fun K => x_indexAddr1 (k := i63) Try.underlying38 sz_43 (es (t := 124) (v := .slice A22_r r22.length c22_r) (K.dep 4 124 rfl rfl)) hA63 (es (t := 125) (v := I s34_16) (K.dep 5 125 rfl rfl)) hi63 hl63))
                   (obsN_cons (od rfl (fun _ => rfl) (fun K => x_load_z0 (v := .slice A63_e x63.length c63_e) one_43 (es (t := 126) (v := pt b63 (o63 + i63)) (K.dep 6 126 rfl rfl)) (hz63.mv (mv_ext K.phT)) rfl))
                   (obsN_cons (od rfl (fun _ => rfl) (fun K => x_move (v := I (p2 % p0.rows)) (es (t := 8) (v := I (p2 % p0.rows)) ((K.out 8 rfl).trans hs59_8))))
                   (obsN_cons (od rfl (fun _ => rfl) (fun K => x_indexAddr1 (k := i64) Try.underlying43 sz_3 (es (t := 127) (v := .slice A63_e x63.length c63_e) (K.dep 7 127 rfl rfl)) hA64 (es (t := 128) (v := I (p2 % p0.rows)) (K.dep 8 128 rfl rfl)) hi64 hl64))
                   (obsN_cons (od rfl (fun _ => rfl) (fun K => x_load_z0 (v := I x64) one_3 (es (t := 129) (v := pt b64 (o64 + i64)) (K.dep 9 129 rfl rfl)) (hz64.mv (mv_ext K.phT)) rfl))
                   (obsN_cons (od rfl (fun _ => rfl) (fun K => x_eql (es (t := 123) (v := I x62) (K.dep 3 123 rfl rfl)) (es (t := 130) (v := I x64) (K.dep 10 130 rfl rfl))))
                   (obsN_nil _))))))))))))) ?_
               intro w61
               rintro _ rfl _ rfl _ rfl _ rfl _ rfl _ rfl _ rfl _ rfl _ rfl _ rfl _ rfl _ rfl hx61
               have hp17 : Hp w [some b1] w61 := hp16.ext hx61
               refine wl_end <| lv_next ?_
               rcases bool_cases (x62 == x64) with hc65 | hc65
               ·replace hG := cond_t hG hc65
                refine cc_cond_t rfl hc65 <| cc_region <| wm rfl (v := I s59_15) hs59_15 <| wm rfl (v := I s59_18) hs59_18 ?_
                replace hG := cvO_bind hG; obtain ⟨hf66, hG⟩ := hG
                refine wd rfl (fun st => x_conv (k := .u64) sm_3 Try.underlying63 (ee st rfl) hf66) ?_
                replace hG := shlO_bind hG; obtain ⟨hf67, hG⟩ := hG
                refine wd rfl (fun st => x_shl (ee st rfl) (ee st rfl) hf67) ?_
                replace hG := bitO_bind hG; obtain ⟨hf68, hG⟩ := hG
                refine wd rfl (fun st => x_or (ee st rfl) (ee st rfl) hf68) <| wa rfl (v := I (orI s59_15 (shlI (1 : Int) s59_18))) rfl <| wl_end <| lv_block <| lv_next <| cc_region <| wm rfl (v := I s59_18) hs59_18 ?_
                replace hG := i64_bind hG; obtain ⟨hf69, hG⟩ := hG
                refine wd rfl (fun st => x_add (ee st rfl) (ee st rfl) hf69) <| wa rfl (v := I (s59_18 + 1)) rfl <| wl_end ?_
                have bk1_17 : Bk w61 b1 26 #[I p0.rows, I p0.wd, I p0.lo, I p0.hi, .slice A0_0 p0.ts.length c0_0] := (f59_bk1.ext hx61)
                have hS0_0_17 : Sl eTly w61 (ZZ Z w.heap.size [some b1]) A0_0 c0_0 p0.ts := (f59_hS0_0.mv (mv_ext hx61))
                have hS16_ra_17 : Sl eR w61 (ZZ Z w.heap.size [some b1]) A16_ra c16_ra r16.1 := (f59_hS16_ra.mv (mv_ext hx61))
                have hS20_ra_17 : Sl (eInt .i64) w61 (ZZ Z w.heap.size [some b1]) A20_ra c20_ra r20.1 := (f59_hS20_ra.mv (mv_ext hx61))
                have hS22_r_17 : Sl (eSl (eInt .i64)) w61 (ZZ Z w.heap.size [some b1]) A22_r c22_r r22 := (f59_hS22_r.mv (mv_ext hx61))
                refine lv_round m_ (Nat.lt_succ_self _) (fun st => ?_)
                exact ⟨(orI s59_15 (shlI (1 : Int) s59_18)), (s59_18 + 1), hG, (puts_size _ _).trans st.sz, (puts_defers _ _).trans st.df, (sl_puts st 3).trans hs59_3, (sl_puts st 7).trans hs59_7, (sl_puts st 8).trans hs59_8, (sl_puts st 9).trans hs59_9, (sl_puts st 11).trans hs59_11, (sl_puts st 13).trans hs59_13, (sl_puts st 14).trans hs59_14, (sl_puts st 15).trans rfl, (sl_puts st 16).trans hs59_16, (sl_puts st 18).trans rfl, hp17, bk1_17, hS0_0_17, hS16_ra_17, hS20_ra_17, hS22_r_17⟩
               ·replace hG := cond_f hG hc65
                refine cc_cond_f rfl hc65 <| cc_skip <| lv_block <| lv_next <| cc_region <| wm rfl (v := I s59_18) hs59_18 ?_
                replace hG := i64_bind hG; obtain ⟨hf70, hG⟩ := hG
                refine wd rfl (fun st => x_add (ee st rfl) (ee st rfl) hf70) <| wa rfl (v := I (s59_18 + 1)) rfl <| wl_end ?_
                have bk1_17 : Bk w61 b1 26 #[I p0.rows, I p0.wd, I p0.lo, I p0.hi, .slice A0_0 p0.ts.length c0_0] := (f59_bk1.ext hx61)
                have hS0_0_17 : Sl eTly w61 (ZZ Z w.heap.size [some b1]) A0_0 c0_0 p0.ts := (f59_hS0_0.mv (mv_ext hx61))
                have hS16_ra_17 : Sl eR w61 (ZZ Z w.heap.size [some b1]) A16_ra c16_ra r16.1 := (f59_hS16_ra.mv (mv_ext hx61))
                have hS20_ra_17 : Sl (eInt .i64) w61 (ZZ Z w.heap.size [some b1]) A20_ra c20_ra r20.1 := (f59_hS20_ra.mv (mv_ext hx61))
                have hS22_r_17 : Sl (eSl (eInt .i64)) w61 (ZZ Z w.heap.size [some b1]) A22_r c22_r r22 := (f59_hS22_r.mv (mv_ext hx61))
                refine lv_round m_ (Nat.lt_succ_self _) (fun st => ?_)
                exact ⟨s59_15, (s59_18 + 1), hG, (puts_size _ _).trans st.sz, (puts_defers _ _).trans st.df, (sl_puts st 3).trans hs59_3, (sl_puts st 7).trans hs59_7, (sl_puts st 8).trans hs59_8, (sl_puts st 9).trans hs59_9, (sl_puts st 11).trans hs59_11, (sl_puts st 13).trans hs59_13, (sl_puts st 14).trans hs59_14, (sl_puts st 15).trans hs59_15, (sl_puts st 16).trans hs59_16, (sl_puts st 18).trans rfl, hp17, bk1_17, hS0_0_17, hS16_ra_17, hS20_ra_17, hS22_r_17⟩
              ·replace hG := cond_f hG hc60
               refine cc_cond_f rfl hc60 <| cc_exit <| lv_then_exit <| lv_then_exit ?_
               obtain rfl := Option.some.inj hG
               refine lv_to (fun st => ?_)
               exact ⟨rfl, (puts_size _ _).trans st.sz, (puts_defers _ _).trans st.df, (sl_puts st 3).trans hs59_3, (sl_puts st 7).trans hs59_7, (sl_puts st 8).trans hs59_8, (sl_puts st 9).trans hs59_9, (sl_puts st 11).trans hs59_11, (sl_puts st 13).trans hs59_13, (sl_puts st 14).trans hs59_14, (sl_puts st 15).trans hs59_15, (sl_puts st 16).trans hs59_16, hp16, f59_bk1, f59_hS0_0, f59_hS16_ra, f59_hS20_ra, f59_hS22_r⟩
            case af59 =>
             rintro e_ fr59a w59a (⟨rfl, hsz59a, hdf59a, hs59a_3, hs59a_7, hs59a_8, hs59a_9, hs59a_11, hs59a_13, hs59a_14, hs59a_15, hs59a_16, hp59a, g59_bk1, g59_hS0_0, g59_hS16_ra, g59_hS20_ra, g59_hS22_r⟩)
             refine lv_fr (X := X0) (N := 151) hsz59a hdf59a <| lv_block_hit <| lv_block <| lv_next <| cc_region <| wm rfl (v := I s34_16) hs59a_16 ?_
             replace hG := i64_bind hG; obtain ⟨hf71, hG⟩ := hG
             refine wd rfl (fun st => x_add (ee st rfl) (ee st rfl) hf71) <| wa rfl (v := I (s34_16 + 1)) rfl <| wl_end ?_
             refine lv_round m_ (Nat.lt_succ_self _) (fun st => ?_)
             exact ⟨(orI s34_14 (1 : Int)), z59, (s34_16 + 1), hG, (puts_size _ _).trans st.sz, (puts_defers _ _).trans st.df, (sl_puts st 3).trans hs59a_3, (sl_puts st 7).trans hs59a_7, (sl_puts st 8).trans hs59a_8, (sl_puts st 9).trans hs59a_9, (sl_puts st 11).trans hs59a_11, (sl_puts st 13).trans hs59a_13, (sl_puts st 14).trans hs59a_14, (sl_puts st 15).trans hs59a_15, (sl_puts st 16).trans rfl, hp59a, g59_bk1, g59_hS0_0, g59_hS16_ra, g59_hS20_ra, g59_hS22_r⟩
          ·replace hG := cond_f hG hc41
           refine cc_cond_f rfl hc41 <| cc_skip <| lv_next <| cc_seq <| cc_seq <| cc_region <| wm rfl (v := I r39) rfl <| wm rfl (v := .slice A16_ra r16.1.length c16_ra) hs34_9 <| wm rfl (v := I (p1 % p0.wd)) hs34_7 ?_
           replace hG := idx_bind hG; obtain ⟨i72, x72, hi72, hx72, hl72, hG⟩ := hG
           obtain ⟨b72, o72, _, hA72, rfl, hz72⟩ := Sl.elem hS16_ra_12 (by decide) hx72
           refine wd rfl (fun st => x_indexAddrN (k := i72) Try.underlying29 sz_33 (ee st rfl) hA72 (ee st rfl) hi72 hl72) <| wd rfl (fun st => x_fieldAddr (ee st rfl) (fa_33_1 _ _ _)) <| wd rfl (fun st => x_load_z (v := I x72.2) one_3 (ee st rfl) hz72 rfl) <| wd rfl (fun st => x_eql (ee st rfl) (ee st rfl)) <| wl_end <| lv_next ?_
           rcases bool_cases (r39 == x72.2) with hc73 | hc73
           ·replace hG := cond_t hG hc73
            refine cc_cond_t rfl hc73 <| cc_region <| wm rfl (v := I s34_14) hs34_14 ?_
            replace hG := bitO_bind hG; obtain ⟨hf74, hG⟩ := hG
            refine wd rfl (fun st => x_or (ee st rfl) (ee st rfl) hf74) <| wa rfl (v := I (orI s34_14 (2 : Int))) rfl <| wl_end <| lv_next <| cc_seq <| cc_region <| wa rfl (v := I 0) rfl <| wl_end <| lv_next <| cc_block ?_
            replace hG := bind_some hG; obtain ⟨z75, hL75, hG⟩ := hG
            refine cc_join (fun e_ fr_ w_ => (e_ = .exit 2 ∧ fr_.tmps.size = 151 ∧ fr_.defers = [] ∧ sl fr_ 3 = pt b1 0 ∧ sl fr_ 7 = I (p1 % p0.wd) ∧ sl fr_ 8 = I (p2 % p0.rows) ∧ sl fr_ 9 = .slice A16_ra r16.1.length c16_ra ∧ sl fr_ 11 = .slice A20_ra r20.1.length c20_ra ∧ sl fr_ 13 = .slice A22_r r22.length c22_r ∧ sl fr_ 14 = I (orI s34_14 (2 : Int)) ∧ sl fr_ 15 = I z75 ∧ sl fr_ 16 = I s34_16 ∧ Hp w [some b1] w_ ∧ Bk w_ b1 26 #[I p0.rows, I p0.wd, I p0.lo, I p0.hi, .slice A0_0 p0.ts.length c0_0] ∧ Sl eTly w_ (ZZ Z w.heap.size [some b1]) A0_0 c0_0 p0.ts ∧ Sl eR w_ (ZZ Z w.heap.size [some b1]) A16_ra c16_ra r16.1 ∧ Sl (eInt .i64) w_ (ZZ Z w.heap.size [some b1]) A20_ra c20_ra r20.1 ∧ Sl (eSl (eInt .i64)) w_ (ZZ Z w.heap.size [some b1]) A22_r c22_r r22)) ?lp75 ?af75
            case lp75 =>
             clear hG
             refine cc_loop (fun (m_ : Nat) (fr_ : Act) (w_ : World) => ∃ s75_15, ∃ s75_18, G_WeedEnds_L75 p0 p2 r20 r22 s34_16 m_ s75_15 s75_18 = some z75 ∧ fr_.tmps.size = 151 ∧ fr_.defers = [] ∧ sl fr_ 3 = pt b1 0 ∧ sl fr_ 7 = I (p1 % p0.wd) ∧ sl fr_ 8 = I (p2 % p0.rows) ∧ sl fr_ 9 = .slice A16_ra r16.1.length c16_ra ∧ sl fr_ 11 = .slice A20_ra r20.1.length c20_ra ∧ sl fr_ 13 = .slice A22_r r22.length c22_r ∧ sl fr_ 14 = I (orI s34_14 (2 : Int)) ∧ sl fr_ 15 = I s75_15 ∧ sl fr_ 16 = I s34_16 ∧ sl fr_ 18 = I s75_18 ∧ Hp w [some b1] w_ ∧ Bk w_ b1 26 #[I p0.rows, I p0.wd, I p0.lo, I p0.hi, .slice A0_0 p0.ts.length c0_0] ∧ Sl eTly w_ (ZZ Z w.heap.size [some b1]) A0_0 c0_0 p0.ts ∧ Sl eR w_ (ZZ Z w.heap.size [some b1]) A16_ra c16_ra r16.1 ∧ Sl (eInt .i64) w_ (ZZ Z w.heap.size [some b1]) A20_ra c20_ra r20.1 ∧ Sl (eSl (eInt .i64)) w_ (ZZ Z w.heap.size [some b1]) A22_r c22_r r22) K_ ?in75 ?rd75
             case in75 =>
              intro st
              have bk1_12 : Bk w36 b1 26 #[I p0.rows, I p0.wd, I p0.lo, I p0.hi, .slice A0_0 p0.ts.length c0_0] := (f34_bk1.ext hx36)
              have hS0_0_12 : Sl eTly w36 (ZZ Z w.heap.size [some b1]) A0_0 c0_0 p0.ts := (f34_hS0_0.mv (mv_ext hx36))
              have hS20_ra_12 : Sl (eInt .i64) w36 (ZZ Z w.heap.size [some b1]) A20_ra c20_ra r20.1 := (f34_hS20_ra.mv (mv_ext hx36))
              have hS22_r_12 : Sl (eSl (eInt .i64)) w36 (ZZ Z w.heap.size [some b1]) A22_r c22_r r22 := (f34_hS22_r.mv (mv_ext hx36))
              exact ⟨s34_15, (0 : Int), hL75, (puts_size _ _).trans st.sz, (puts_defers _ _).trans st.df, (sl_puts st 3).trans hs34_3, (sl_puts st 7).trans hs34_7, (sl_puts st 8).trans hs34_8, (sl_puts st 9).trans hs34_9, (sl_puts st 11).trans hs34_11, (sl_puts st 13).trans hs34_13, (sl_puts st 14).trans rfl, (sl_puts st 15).trans hs34_15, (sl_puts st 16).trans hs34_16, (sl_puts st 18).trans rfl, hp12, bk1_12, hS0_0_12, hS16_ra_12, hS20_ra_12, hS22_r_12⟩
             case rd75 =>
              rintro (_ | m_) fr75 w75r ⟨s75_15, s75_18, hL75, hsz75, hdf75, hs75_3, hs75_7, hs75_8, hs75_9, hs75_11, hs75_13, hs75_14, hs75_15, hs75_16, hs75_18, hp19, f75_bk1, f75_hS0_0, f75_hS16_ra, f75_hS20_ra, f75_hS22_r⟩
              ·exact absurd (show none = some _ from hL75) (by simp)
              rw [G_WeedEnds_L75.eq_2] at hL75
              have hG := hL75; clear hL75
              refine round_cc (N := 151) hsz75 hdf75 <| cc_seq <| cc_seq <| cc_region <| wm rfl (v := I s75_18) hs75_18 <| wm rfl (v := .slice A20_ra r20.1.length c20_ra) hs75_11 <| wd rfl (fun st => x_len Try.underlying43 (ee st rfl)) <| wd rfl (fun st => x_lss (ee st rfl) (ee st rfl)) <| wl_end <| lv_next ?_
              rcases bool_cases (decide (s75_18 < (r20.1.length : Int))) with hc76 | hc76
              ·replace hG := cond_t hG hc76
               refine cc_cond_t rfl hc76 <| cc_skip <| lv_next <| cc_seq <| cc_block <| cc_seq ?_
               replace hG := idx_bind hG; obtain ⟨i78, x78, hi78, hx78, hl78, hG⟩ := hG
               obtain ⟨b78, o78, _, hA78, rfl, hz78⟩ := Sl.elem1 f75_hS20_ra rfl hx78
               replace hG := idx_bind hG; obtain ⟨i79, x79, hi79, hx79, hl79, hG⟩ := hG
               obtain ⟨b79, o79, _, hA79, ⟨A79_e, c79_e, rfl, hS79_e⟩, hz79⟩ := Sl.elem1 f75_hS22_r rfl hx79
               replace hG := idx_bind hG; obtain ⟨i80, x80, hi80, hx80, hl80, hG⟩ := hG
               obtain ⟨b80, o80, _, hA80, rfl, hz80⟩ := Sl.elem1 hS79_e rfl hx80
               refine cc_anyM0 12 [Kc (.slice A20_ra r20.1.length c20_ra), Kc (I s75_18), Kc (pt b78 (o78 + i78)), Kc (I x78), Kc (.slice A22_r r22.length c22_r), Kc (I s34_16), Kc (pt b79 (o79 + i79)), Kc (.slice A79_e x79.length c79_e), Kc (I (p2 % p0.rows)), Kc (pt b80 (o80 + i80)), Kc (I x80), Kc (.bool (x78 == x80))] mixedL7 rfl rfl
                   (obsN_cons (od rfl (fun _ => rfl) (fun K => x_move (v := .slice A20_ra r20.1.length c20_ra) (es (t := 11) (v := .slice A20_ra r20.1.length c20_ra) ((K.out 11 rfl).trans hs75_11))))
                   (obsN_cons (od rfl (fun _ => rfl) (fun K => x_move (v := I s75_18) (es (t := 18) (v := I s75_18) ((K.out 18 rfl).trans hs75_18))))
                   (obsN_cons (od rfl (fun _ => rfl) (fun K => x_indexAddr1 (k := i78) Try.underlying43 sz_3 (es (t := 120) (v := .slice A20_ra r20.1.length c20_ra) (K.dep 0 120 rfl rfl)) hA78 (es (t := 121) (v := I s75_18) (K.dep 1 121 rfl rfl)) hi78 hl78))
                   (obsN_cons (od rfl (fun _ => rfl) (fun K => x_load_z0 (v := I x78) one_3 (es (t := 122) (v := pt b78 (o78 + i78)) (K.dep 2 122 rfl rfl)) (hz78.mv (mv_ext K.phT)) rfl))
                   (obsN_cons (od rfl (fun _ => rfl) (fun K => x_move (v := .slice A22_r r22.length c22_r) (es (t := 13) (v := .slice A22_r r22.length c22_r) ((K.out 13 rfl).trans hs75_13))))
                   (obsN_cons (od rfl (fun _ => rfl) (fun K => x_move (v := I s34_16) (es (t := 16) (v := I s34_16) ((K.out 16 rfl).trans hs75_16))))
                   (obsN_cons (od rfl (fun _ => rfl) (fun K => x_indexAddr1 (k := i79) Try.underlying38 sz_43 (es (t := 124) (v := .slice A22_r r22.length c22_r) (K.dep 4 124 rfl rfl)) hA79 (es (t := 125) (v := I s34_16) (K.dep 5 125 rfl rfl)) hi79 hl79))
                   (obsN_cons (od rfl (fun _ => rfl) (fun K => x_load_z0 (v := .slice A79_e x79.length c79_e) one_43 (es (t := 126) (v := pt b79 (o79 + i79)) (K.dep 6 126 rfl rfl)) (hz79.mv (mv_ext K.phT)) rfl))
                   (obsN_cons (od rfl (fun _ => rfl) (fun K => x_move (v := I (p2 % p0.rows)) (es (t := 8) (v := I (p2 % p0.rows)) ((K.out 8 rfl).trans hs75_8))))
                   (obsN_cons (od rfl (fun _ => rfl) (fun K => x_indexAddr1 (k := i80) Try.underlying43 sz_3 (es (t := 127) (v := .slice A79_e x79.length c79_e) (K.dep 7 127 rfl rfl)) hA80 (es (t := 128) (v := I (p2 % p0.rows)) (K.dep 8 128 rfl rfl)) hi80 hl80))
                   (obsN_cons (od rfl (fun _ => rfl) (fun K => x_load_z0 (v := I x80) one_3 (es (t := 129) (v := pt b80 (o80 + i80)) (K.dep 9 129 rfl rfl)) (hz80.mv (mv_ext K.phT)) rfl))
                   (obsN_cons (od rfl (fun _ => rfl) (fun K => x_eql (es (t := 123) (v := I x78) (K.dep 3 123 rfl rfl)) (es (t := 130) (v := I x80) (K.dep 10 130 rfl rfl))))
                   (obsN_nil _))))))))))))) ?_
               intro w77
               rintro _ rfl _ rfl _ rfl _ rfl _ rfl _ rfl _ rfl _ rfl _ rfl _ rfl _ rfl _ rfl hx77
               have hp20 : Hp w [some b1] w77 := hp19.ext hx77
               refine wl_end <| lv_next ?_
               rcases bool_cases (x78 == x80) with hc81 | hc81
               ·replace hG := cond_t hG hc81
                refine cc_cond_t rfl hc81 <| cc_region <| wm rfl (v := I s75_15) hs75_15 <| wm rfl (v := I s75_18) hs75_18 ?_
                replace hG := cvO_bind hG; obtain ⟨hf82, hG⟩ := hG
                refine wd rfl (fun st => x_conv (k := .u64) sm_3 Try.underlying63 (ee st rfl) hf82) ?_
                replace hG := shlO_bind hG; obtain ⟨hf83, hG⟩ := hG
                refine wd rfl (fun st => x_shl (ee st rfl) (ee st rfl) hf83) ?_
                replace hG := bitO_bind hG; obtain ⟨hf84, hG⟩ := hG
                refine wd rfl (fun st => x_or (ee st rfl) (ee st rfl) hf84) <| wa rfl (v := I (orI s75_15 (shlI (1 : Int) s75_18))) rfl <| wl_end <| lv_block <| lv_next <| cc_region <| wm rfl (v := I s75_18) hs75_18 ?_
                replace hG := i64_bind hG; obtain ⟨hf85, hG⟩ := hG
                refine wd rfl (fun st => x_add (ee st rfl) (ee st rfl) hf85) <| wa rfl (v := I (s75_18 + 1)) rfl <| wl_end ?_
                have bk1_20 : Bk w77 b1 26 #[I p0.rows, I p0.wd, I p0.lo, I p0.hi, .slice A0_0 p0.ts.length c0_0] := (f75_bk1.ext hx77)
                have hS0_0_20 : Sl eTly w77 (ZZ Z w.heap.size [some b1]) A0_0 c0_0 p0.ts := (f75_hS0_0.mv (mv_ext hx77))
                have hS16_ra_20 : Sl eR w77 (ZZ Z w.heap.size [some b1]) A16_ra c16_ra r16.1 := (f75_hS16_ra.mv (mv_ext hx77))
                have hS20_ra_20 : Sl (eInt .i64) w77 (ZZ Z w.heap.size [some b1]) A20_ra c20_ra r20.1 := (f75_hS20_ra.mv (mv_ext hx77))
                have hS22_r_20 : Sl (eSl (eInt .i64)) w77 (ZZ Z w.heap.size [some b1]) A22_r c22_r r22 := (f75_hS22_r.mv (mv_ext hx77))
                refine lv_round m_ (Nat.lt_succ_self _) (fun st => ?_)
                exact ⟨(orI s75_15 (shlI (1 : Int) s75_18)), (s75_18 + 1), hG, (puts_size _ _).trans st.sz, (puts_defers _ _).trans st.df, (sl_puts st 3).trans hs75_3, (sl_puts st 7).trans hs75_7, (sl_puts st 8).trans hs75_8, (sl_puts st 9).trans hs75_9, (sl_puts st 11).trans hs75_11, (sl_puts st 13).trans hs75_13, (sl_puts st 14).trans hs75_14, (sl_puts st 15).trans rfl, (sl_puts st 16).trans hs75_16, (sl_puts st 18).trans rfl, hp20, bk1_20, hS0_0_20, hS16_ra_20, hS20_ra_20, hS22_r_20⟩
               ·replace hG := cond_f hG hc81
                refine cc_cond_f rfl hc81 <| cc_skip <| lv_block <| lv_next <| cc_region <| wm rfl (v := I s75_18) hs75_18 ?_
                replace hG := i64_bind hG; obtain ⟨hf86, hG⟩ := hG
                refine wd rfl (fun st => x_add (ee st rfl) (ee st rfl) hf86) <| wa rfl (v := I (s75_18 + 1)) rfl <| wl_end ?_
                have bk1_20 : Bk w77 b1 26 #[I p0.rows, I p0.wd, I p0.lo, I p0.hi, .slice A0_0 p0.ts.length c0_0] := (f75_bk1.ext hx77)
                have hS0_0_20 : Sl eTly w77 (ZZ Z w.heap.size [some b1]) A0_0 c0_0 p0.ts := (f75_hS0_0.mv (mv_ext hx77))
                have hS16_ra_20 : Sl eR w77 (ZZ Z w.heap.size [some b1]) A16_ra c16_ra r16.1 := (f75_hS16_ra.mv (mv_ext hx77))
                have hS20_ra_20 : Sl (eInt .i64) w77 (ZZ Z w.heap.size [some b1]) A20_ra c20_ra r20.1 := (f75_hS20_ra.mv (mv_ext hx77))
                have hS22_r_20 : Sl (eSl (eInt .i64)) w77 (ZZ Z w.heap.size [some b1]) A22_r c22_r r22 := (f75_hS22_r.mv (mv_ext hx77))
                refine lv_round m_ (Nat.lt_succ_self _) (fun st => ?_)
                exact ⟨s75_15, (s75_18 + 1), hG, (puts_size _ _).trans st.sz, (puts_defers _ _).trans st.df, (sl_puts st 3).trans hs75_3, (sl_puts st 7).trans hs75_7, (sl_puts st 8).trans hs75_8, (sl_puts st 9).trans hs75_9, (sl_puts st 11).trans hs75_11, (sl_puts st 13).trans hs75_13, (sl_puts st 14).trans hs75_14, (sl_puts st 15).trans hs75_15, (sl_puts st 16).trans hs75_16, (sl_puts st 18).trans rfl, hp20, bk1_20, hS0_0_20, hS16_ra_20, hS20_ra_20, hS22_r_20⟩
              ·replace hG := cond_f hG hc76
               refine cc_cond_f rfl hc76 <| cc_exit <| lv_then_exit <| lv_then_exit ?_
               obtain rfl := Option.some.inj hG
               refine lv_to (fun st => ?_)
               exact ⟨rfl, (puts_size _ _).trans st.sz, (puts_defers _ _).trans st.df, (sl_puts st 3).trans hs75_3, (sl_puts st 7).trans hs75_7, (sl_puts st 8).trans hs75_8, (sl_puts st 9).trans hs75_9, (sl_puts st 11).trans hs75_11, (sl_puts st 13).trans hs75_13, (sl_puts st 14).trans hs75_14, (sl_puts st 15).trans hs75_15, (sl_puts st 16).trans hs75_16, hp19, f75_bk1, f75_hS0_0, f75_hS16_ra, f75_hS20_ra, f75_hS22_r⟩
            case af75 =>
             rintro e_ fr75a w75a (⟨rfl, hsz75a, hdf75a, hs75a_3, hs75a_7, hs75a_8, hs75a_9, hs75a_11, hs75a_13, hs75a_14, hs75a_15, hs75a_16, hp75a, g75_bk1, g75_hS0_0, g75_hS16_ra, g75_hS20_ra, g75_hS22_r⟩)
             refine lv_fr (X := X0) (N := 151) hsz75a hdf75a <| lv_block_hit <| lv_block <| lv_next <| cc_region <| wm rfl (v := I s34_16) hs75a_16 ?_
             replace hG := i64_bind hG; obtain ⟨hf87, hG⟩ := hG
             refine wd rfl (fun st => x_add (ee st rfl) (ee st rfl) hf87) <| wa rfl (v := I (s34_16 + 1)) rfl <| wl_end ?_
             refine lv_round m_ (Nat.lt_succ_self _) (fun st => ?_)
             exact ⟨(orI s34_14 (2 : Int)), z75, (s34_16 + 1), hG, (puts_size _ _).trans st.sz, (puts_defers _ _).trans st.df, (sl_puts st 3).trans hs75a_3, (sl_puts st 7).trans hs75a_7, (sl_puts st 8).trans hs75a_8, (sl_puts st 9).trans hs75a_9, (sl_puts st 11).trans hs75a_11, (sl_puts st 13).trans hs75a_13, (sl_puts st 14).trans hs75a_14, (sl_puts st 15).trans hs75a_15, (sl_puts st 16).trans rfl, hp75a, g75_bk1, g75_hS0_0, g75_hS16_ra, g75_hS20_ra, g75_hS22_r⟩
           ·replace hG := cond_f hG hc73
            refine cc_cond_f rfl hc73 <| cc_skip <| lv_next <| cc_seq <| cc_region <| wa rfl (v := I 0) rfl <| wl_end <| lv_next <| cc_block ?_
            replace hG := bind_some hG; obtain ⟨z88, hL88, hG⟩ := hG
            refine cc_join (fun e_ fr_ w_ => (e_ = .exit 2 ∧ fr_.tmps.size = 151 ∧ fr_.defers = [] ∧ sl fr_ 3 = pt b1 0 ∧ sl fr_ 7 = I (p1 % p0.wd) ∧ sl fr_ 8 = I (p2 % p0.rows) ∧ sl fr_ 9 = .slice A16_ra r16.1.length c16_ra ∧ sl fr_ 11 = .slice A20_ra r20.1.length c20_ra ∧ sl fr_ 13 = .slice A22_r r22.length c22_r ∧ sl fr_ 14 = I s34_14 ∧ sl fr_ 15 = I z88 ∧ sl fr_ 16 = I s34_16 ∧ Hp w [some b1] w_ ∧ Bk w_ b1 26 #[I p0.rows, I p0.wd, I p0.lo, I p0.hi, .slice A0_0 p0.ts.length c0_0] ∧ Sl eTly w_ (ZZ Z w.heap.size [some b1]) A0_0 c0_0 p0.ts ∧ Sl eR w_ (ZZ Z w.heap.size [some b1]) A16_ra c16_ra r16.1 ∧ Sl (eInt .i64) w_ (ZZ Z w.heap.size [some b1]) A20_ra c20_ra r20.1 ∧ Sl (eSl (eInt .i64)) w_ (ZZ Z w.heap.size [some b1]) A22_r c22_r r22)) ?lp88 ?af88
            case lp88 =>
             clear hG
             refine cc_loop (fun (m_ : Nat) (fr_ : Act) (w_ : World) => ∃ s88_15, ∃ s88_18, G_WeedEnds_L88 p0 p2 r20 r22 s34_16 m_ s88_15 s88_18 = some z88 ∧ fr_.tmps.size = 151 ∧ fr_.defers = [] ∧ sl fr_ 3 = pt b1 0 ∧ sl fr_ 7 = I (p1 % p0.wd) ∧ sl fr_ 8 = I (p2 % p0.rows) ∧ sl fr_ 9 = .slice A16_ra r16.1.length c16_ra ∧ sl fr_ 11 = .slice A20_ra r20.1.length c20_ra ∧ sl fr_ 13 = .slice A22_r r22.length c22_r ∧ sl fr_ 14 = I s34_14 ∧ sl fr_ 15 = I s88_15 ∧ sl fr_ 16 = I s34_16 ∧ sl fr_ 18 = I s88_18 ∧ Hp w [some b1] w_ ∧ Bk w_ b1 26 #[I p0.rows, I p0.wd, I p0.lo, I p0.hi, .slice A0_0 p0.ts.length c0_0] ∧ Sl eTly w_ (ZZ Z w.heap.size [some b1]) A0_0 c0_0 p0.ts ∧ Sl eR w_ (ZZ Z w.heap.size [some b1]) A16_ra c16_ra r16.1 ∧ Sl (eInt .i64) w_ (ZZ Z w.heap.size [some b1]) A20_ra c20_ra r20.1 ∧ Sl (eSl (eInt .i64)) w_ (ZZ Z w.heap.size [some b1]) A22_r c22_r r22) K_ ?in88 ?rd88
             case in88 =>
              intro st
              have bk1_12 : Bk w36 b1 26 #[I p0.rows, I p0.wd, I p0.lo, I p0.hi, .slice A0_0 p0.ts.length c0_0] := (f34_bk1.ext hx36)
              have hS0_0_12 : Sl eTly w36 (ZZ Z w.heap.size [some b1]) A0_0 c0_0 p0.ts := (f34_hS0_0.mv (mv_ext hx36))
              have hS20_ra_12 : Sl (eInt .i64) w36 (ZZ Z w.heap.size [some b1]) A20_ra c20_ra r20.1 := (f34_hS20_ra.mv (mv_ext hx36))
              have hS22_r_12 : Sl (eSl (eInt .i64)) w36 (ZZ Z w.heap.size [some b1]) A22_r c22_r r22 := (f34_hS22_r.mv (mv_ext hx36))
              exact ⟨s34_15, (0 : Int), hL88, (puts_size _ _).trans st.sz, (puts_defers _ _).trans st.df, (sl_puts st 3).trans hs34_3, (sl_puts st 7).trans hs34_7, (sl_puts st 8).trans hs34_8, (sl_puts st 9).trans hs34_9, (sl_puts st 11).trans hs34_11, (sl_puts st 13).trans hs34_13, (sl_puts st 14).trans hs34_14, (sl_puts st 15).trans hs34_15, (sl_puts st 16).trans hs34_16, (sl_puts st 18).trans rfl, hp12, bk1_12, hS0_0_12, hS16_ra_12, hS20_ra_12, hS22_r_12⟩
             case rd88 =>
              rintro (_ | m_) fr88 w88r ⟨s88_15, s88_18, hL88, hsz88, hdf88, hs88_3, hs88_7, hs88_8, hs88_9, hs88_11, hs88_13, hs88_14, hs88_15, hs88_16, hs88_18, hp22, f88_bk1, f88_hS0_0, f88_hS16_ra, f88_hS20_ra, f88_hS22_r⟩
              ·exact absurd (show none = some _ from hL88) (by simp)
              rw [G_WeedEnds_L88.eq_2] at hL88
              have hG := hL88; clear hL88
              refine round_cc (N := 151) hsz88 hdf88 <| cc_seq <| cc_seq <| cc_region <| wm rfl (v := I s88_18) hs88_18 <| wm rfl (v := .slice A20_ra r20.1.length c20_ra) hs88_11 <| wd rfl (fun st => x_len Try.underlying43 (ee st rfl)) <| wd rfl (fun st => x_lss (ee st rfl) (ee st rfl)) <| wl_end <| lv_next ?_
              rcases bool_cases (decide (s88_18 < (r20.1.length : Int))) with hc89 | hc89
              ·replace hG := cond_t hG hc89
               refine cc_cond_t rfl hc89 <| cc_skip <| lv_next <| cc_seq <| cc_block <| cc_seq ?_
               replace hG := idx_bind hG; obtain ⟨i91, x91, hi91, hx91, hl91, hG⟩ := hG
               obtain ⟨b91, o91, _, hA91, rfl, hz91⟩ := Sl.elem1 f88_hS20_ra rfl hx91
               replace hG := idx_bind hG; obtain ⟨i92, x92, hi92, hx92, hl92, hG⟩ := hG
               obtain ⟨b92, o92, _, hA92, ⟨A92_e, c92_e, rfl, hS92_e⟩, hz92⟩ := Sl.elem1 f88_hS22_r rfl hx92
               replace hG := idx_bind hG; obtain ⟨i93, x93, hi93, hx93, hl93, hG⟩ := hG
               obtain ⟨b93, o93, _, hA93, rfl, hz93⟩ := Sl.elem1 hS92_e rfl hx93
               refine cc_anyM0 12 [Kc (.slice A20_ra r20.1.length c20_ra), Kc (I s88_18), Kc (pt b91 (o91 + i91)), Kc (I x91), Kc (.slice A22_r r22.length c22_r), Kc (I s34_16), Kc (pt b92 (o92 + i92)), Kc (.slice A92_e x92.length c92_e), Kc (I (p2 % p0.rows)), Kc (pt b93 (o93 + i93)), Kc (I x93), Kc (.bool (x91 == x93))] mixedL7 rfl rfl
                   (obsN_cons (od rfl (fun _ => rfl) (fun K => x_move (v := .slice A20_ra r20.1.length c20_ra) (es (t := 11) (v := .slice A20_ra r20.1.length c20_ra) ((K.out 11 rfl).trans hs88_11))))
                   (obsN_cons (od rfl (fun _ => rfl) (fun K => x_move (v := I s88_18) (es (t := 18) (v := I s88_18) ((K.out 18 rfl).trans hs88_18))))
                   (obsN_cons (od rfl (fun _ => rfl) (fun K => x_indexAddr1 (k := i91) Try.underlying43 sz_3 (es (t := 120) (v := .slice A20_ra r20.1.length c20_ra) (K.dep 0 120 rfl rfl)) hA91 (es (t := 121) (v := I s88_18) (K.dep 1 121 rfl rfl)) hi91 hl91))
                   (obsN_cons (od rfl (fun _ => rfl) (fun K => x_load_z0 (v := I x91) one_3 (es (t := 122) (v := pt b91 (o91 + i91)) (K.dep 2 122 rfl rfl)) (hz91.mv (mv_ext K.phT)) rfl))
                   (obsN_cons (od rfl (fun _ => rfl) (fun K => x_move (v := .slice A22_r r22.length c22_r) (es (t := 13) (v := .slice A22_r r22.length c22_r) ((K.out 13 rfl).trans hs88_13))))
                   (obsN_cons (od rfl (fun _ => rfl) (fun K => x_move (v := I s34_16) (es (t := 16) (v := I s34_16) ((K.out 16 rfl).trans hs88_16))))
                   (obsN_cons (od rfl (fun _ => rfl) (fun K => x_indexAddr1 (k := i92) Try.underlying38 sz_43 (es (t := 124) (v := .slice A22_r r22.length c22_r) (K.dep 4 124 rfl rfl)) hA92 (es (t := 125) (v := I s34_16) (K.dep 5 125 rfl rfl)) hi92 hl92))
                   (obsN_cons (od rfl (fun _ => rfl) (fun K => x_load_z0 (v := .slice A92_e x92.length c92_e) one_43 (es (t := 126) (v := pt b92 (o92 + i92)) (K.dep 6 126 rfl rfl)) (hz92.mv (mv_ext K.phT)) rfl))
                   (obsN_cons (od rfl (fun _ => rfl) (fun K => x_move (v := I (p2 % p0.rows)) (es (t := 8) (v := I (p2 % p0.rows)) ((K.out 8 rfl).trans hs88_8))))
                   (obsN_cons (od rfl (fun _ => rfl) (fun K => x_indexAddr1 (k := i93) Try.underlying43 sz_3 (es (t := 127) (v := .slice A92_e x92.length c92_e) (K.dep 7 127 rfl rfl)) hA93 (es (t := 128) (v := I (p2 % p0.rows)) (K.dep 8 128 rfl rfl)) hi93 hl93))
                   (obsN_cons (od rfl (fun _ => rfl) (fun K => x_load_z0 (v := I x93) one_3 (es (t := 129) (v := pt b93 (o93 + i93)) (K.dep 9 129 rfl rfl)) (hz93.mv (mv_ext K.phT)) rfl))
                   (obsN_cons (od rfl (fun _ => rfl) (fun K => x_eql (es (t := 123) (v := I x91) (K.dep 3 123 rfl rfl)) (es (t := 130) (v := I x93) (K.dep 10 130 rfl rfl))))
                   (obsN_nil _))))))))))))) ?_
               intro w90
               rintro _ rfl _ rfl _ rfl _ rfl _ rfl _ rfl _ rfl _ rfl _ rfl _ rfl _ rfl _ rfl hx90
               have hp23 : Hp w [some b1] w90 := hp22.ext hx90
               refine wl_end <| lv_next ?_
               rcases bool_cases (x91 == x93) with hc94 | hc94
               ·replace hG := cond_t hG hc94
                refine cc_cond_t rfl hc94 <| cc_region <| wm rfl (v := I s88_15) hs88_15 <| wm rfl (v := I s88_18) hs88_18 ?_
                replace hG := cvO_bind hG; obtain ⟨hf95, hG⟩ := hG
                refine wd rfl (fun st => x_conv (k := .u64) sm_3 Try.underlying63 (ee st rfl) hf95) ?_
                replace hG := shlO_bind hG; obtain ⟨hf96, hG⟩ := hG
                refine wd rfl (fun st => x_shl (ee st rfl) (ee st rfl) hf96) ?_
                replace hG := bitO_bind hG; obtain ⟨hf97, hG⟩ := hG
                refine wd rfl (fun st => x_or (ee st rfl) (ee st rfl) hf97) <| wa rfl (v := I (orI s88_15 (shlI (1 : Int) s88_18))) rfl <| wl_end <| lv_block <| lv_next <| cc_region <| wm rfl (v := I s88_18) hs88_18 ?_
                replace hG := i64_bind hG; obtain ⟨hf98, hG⟩ := hG
                refine wd rfl (fun st => x_add (ee st rfl) (ee st rfl) hf98) <| wa rfl (v := I (s88_18 + 1)) rfl <| wl_end ?_
                have bk1_23 : Bk w90 b1 26 #[I p0.rows, I p0.wd, I p0.lo, I p0.hi, .slice A0_0 p0.ts.length c0_0] := (f88_bk1.ext hx90)
                have hS0_0_23 : Sl eTly w90 (ZZ Z w.heap.size [some b1]) A0_0 c0_0 p0.ts := (f88_hS0_0.mv (mv_ext hx90))
                have hS16_ra_23 : Sl eR w90 (ZZ Z w.heap.size [some b1]) A16_ra c16_ra r16.1 := (f88_hS16_ra.mv (mv_ext hx90))
                have hS20_ra_23 : Sl (eInt .i64) w90 (ZZ Z w.heap.size [some b1]) A20_ra c20_ra r20.1 := (f88_hS20_ra.mv (mv_ext hx90))
                have hS22_r_23 : Sl (eSl (eInt .i64)) w90 (ZZ Z w.heap.size [some b1]) A22_r c22_r r22 := (f88_hS22_r.mv (mv_ext hx90))
                refine lv_round m_ (Nat.lt_succ_self _) (fun st => ?_)
                exact ⟨(orI s88_15 (shlI (1 : Int) s88_18)), (s88_18 + 1), hG, (puts_size _ _).trans st.sz, (puts_defers _ _).trans st.df, (sl_puts st 3).trans hs88_3, (sl_puts st 7).trans hs88_7, (sl_puts st 8).trans hs88_8, (sl_puts st 9).trans hs88_9, (sl_puts st 11).trans hs88_11, (sl_puts st 13).trans hs88_13, (sl_puts st 14).trans hs88_14, (sl_puts st 15).trans rfl, (sl_puts st 16).trans hs88_16, (sl_puts st 18).trans rfl, hp23, bk1_23, hS0_0_23, hS16_ra_23, hS20_ra_23, hS22_r_23⟩
               ·replace hG := cond_f hG hc94
                refine cc_cond_f rfl hc94 <| cc_skip <| lv_block <| lv_next <| cc_region <| wm rfl (v := I s88_18) hs88_18 ?_
                replace hG := i64_bind hG; obtain ⟨hf99, hG⟩ := hG
                refine wd rfl (fun st => x_add (ee st rfl) (ee st rfl) hf99) <| wa rfl (v := I (s88_18 + 1)) rfl <| wl_end ?_
                have bk1_23 : Bk w90 b1 26 #[I p0.rows, I p0.wd, I p0.lo, I p0.hi, .slice A0_0 p0.ts.length c0_0] := (f88_bk1.ext hx90)
                have hS0_0_23 : Sl eTly w90 (ZZ Z w.heap.size [some b1]) A0_0 c0_0 p0.ts := (f88_hS0_0.mv (mv_ext hx90))
                have hS16_ra_23 : Sl eR w90 (ZZ Z w.heap.size [some b1]) A16_ra c16_ra r16.1 := (f88_hS16_ra.mv (mv_ext hx90))
                have hS20_ra_23 : Sl (eInt .i64) w90 (ZZ Z w.heap.size [some b1]) A20_ra c20_ra r20.1 := (f88_hS20_ra.mv (mv_ext hx90))
                have hS22_r_23 : Sl (eSl (eInt .i64)) w90 (ZZ Z w.heap.size [some b1]) A22_r c22_r r22 := (f88_hS22_r.mv (mv_ext hx90))
                refine lv_round m_ (Nat.lt_succ_self _) (fun st => ?_)
                exact ⟨s88_15, (s88_18 + 1), hG, (puts_size _ _).trans st.sz, (puts_defers _ _).trans st.df, (sl_puts st 3).trans hs88_3, (sl_puts st 7).trans hs88_7, (sl_puts st 8).trans hs88_8, (sl_puts st 9).trans hs88_9, (sl_puts st 11).trans hs88_11, (sl_puts st 13).trans hs88_13, (sl_puts st 14).trans hs88_14, (sl_puts st 15).trans hs88_15, (sl_puts st 16).trans hs88_16, (sl_puts st 18).trans rfl, hp23, bk1_23, hS0_0_23, hS16_ra_23, hS20_ra_23, hS22_r_23⟩
              ·replace hG := cond_f hG hc89
               refine cc_cond_f rfl hc89 <| cc_exit <| lv_then_exit <| lv_then_exit ?_
               obtain rfl := Option.some.inj hG
               refine lv_to (fun st => ?_)
               exact ⟨rfl, (puts_size _ _).trans st.sz, (puts_defers _ _).trans st.df, (sl_puts st 3).trans hs88_3, (sl_puts st 7).trans hs88_7, (sl_puts st 8).trans hs88_8, (sl_puts st 9).trans hs88_9, (sl_puts st 11).trans hs88_11, (sl_puts st 13).trans hs88_13, (sl_puts st 14).trans hs88_14, (sl_puts st 15).trans hs88_15, (sl_puts st 16).trans hs88_16, hp22, f88_bk1, f88_hS0_0, f88_hS16_ra, f88_hS20_ra, f88_hS22_r⟩
            case af88 =>
             rintro e_ fr88a w88a (⟨rfl, hsz88a, hdf88a, hs88a_3, hs88a_7, hs88a_8, hs88a_9, hs88a_11, hs88a_13, hs88a_14, hs88a_15, hs88a_16, hp88a, g88_bk1, g88_hS0_0, g88_hS16_ra, g88_hS20_ra, g88_hS22_r⟩)
             refine lv_fr (X := X0) (N := 151) hsz88a hdf88a <| lv_block_hit <| lv_block <| lv_next <| cc_region <| wm rfl (v := I s34_16) hs88a_16 ?_
             replace hG := i64_bind hG; obtain ⟨hf100, hG⟩ := hG
             refine wd rfl (fun st => x_add (ee st rfl) (ee st rfl) hf100) <| wa rfl (v := I (s34_16 + 1)) rfl <| wl_end ?_
             refine lv_round m_ (Nat.lt_succ_self _) (fun st => ?_)
             exact ⟨s34_14, z88, (s34_16 + 1), hG, (puts_size _ _).trans st.sz, (puts_defers _ _).trans st.df, (sl_puts st 3).trans hs88a_3, (sl_puts st 7).trans hs88a_7, (sl_puts st 8).trans hs88a_8, (sl_puts st 9).trans hs88a_9, (sl_puts st 11).trans hs88a_11, (sl_puts st 13).trans hs88a_13, (sl_puts st 14).trans hs88a_14, (sl_puts st 15).trans hs88a_15, (sl_puts st 16).trans rfl, hp88a, g88_bk1, g88_hS0_0, g88_hS16_ra, g88_hS20_ra, g88_hS22_r⟩
         ·replace hG := cond_f hG hc35
          refine cc_cond_f rfl hc35 <| cc_exit <| lv_then_exit <| lv_then_exit ?_
          obtain rfl := Option.some.inj hG
          refine lv_to (fun st => ?_)
          exact ⟨rfl, (puts_size _ _).trans st.sz, (puts_defers _ _).trans st.df, (sl_puts st 11).trans hs34_11, (sl_puts st 14).trans hs34_14, (sl_puts st 15).trans hs34_15, hp11, f34_hS20_ra⟩
       case af34 =>
        rintro e_ fr34a w34a (⟨rfl, hsz34a, hdf34a, hs34a_11, hs34a_14, hs34a_15, hp34a, g34_hS20_ra⟩)
        refine lv_fr (X := X0) (N := 151) hsz34a hdf34a <| lv_block_hit <| lv_next <| cc_seq <| cc_region <| wm rfl (v := I z34.1) hs34a_14 <| wd rfl (fun st => x_eql (ee st rfl) (ee st rfl)) <| wm rfl (v := .bool (z34.1 == 3)) rfl ?_
        rcases bool_cases (z34.1 == 3) with hc101 | hc101
        ·replace hG := cond_t hG hc101
         refine wl_detg rfl rfl (guard_eq rfl hc101) rfl (by decide) (fun st => x_move (v := I z34.2) (ee st hs34a_15)) <| wl_detg rfl rfl (guard_eq rfl hc101) rfl (by decide) (fun st => x_move (v := .slice A20_ra r20.1.length c20_ra) (ee st hs34a_11)) <| wl_detg rfl rfl (guard_eq rfl hc101) rfl (by decide) (fun st => x_len Try.underlying43 (ee st rfl)) ?_
         replace hG := cvO_bind hG; obtain ⟨hf102, hG⟩ := hG
         refine wl_detg rfl rfl (guard_eq rfl hc101) rfl (by decide) (fun st => x_conv (k := .u64) sm_3 Try.underlying63 (ee st rfl) hf102) ?_
         replace hG := shlO_bind hG; obtain ⟨hf103, hG⟩ := hG
         refine wl_detg rfl rfl (guard_eq rfl hc101) rfl (by decide) (fun st => x_shl (ee st rfl) (ee st rfl) hf103) ?_
         replace hG := i64_bind hG; obtain ⟨hf104, hG⟩ := hG
         refine wl_detg rfl rfl (guard_eq rfl hc101) rfl (by decide) (fun st => x_sub (ee st rfl) (ee st rfl) hf104) <| wl_detg rfl rfl (guard_eq rfl hc101) rfl (by decide) (fun st => x_eql (ee st rfl) (ee st rfl)) <| wd rfl (fun st => x_pick_t (v := .bool (z34.2 == ((shlI (1 : Int) (r20.1.length : Int)) - 1))) (ee st rfl) hc101 (ee st rfl)) <| wm rfl (v := .bool (z34.2 == ((shlI (1 : Int) (r20.1.length : Int)) - 1))) rfl ?_
         rcases bool_cases (z34.2 == ((shlI (1 : Int) (r20.1.length : Int)) - 1)) with hc105 | hc105
         ·replace hG := cond_t hG hc105
          replace hG := ifo_bind hG; obtain ⟨hw106, hG⟩ := hG
          refine wl_exg rfl rfl (guard_eq rfl hc105) rfl (by decide) (fun st => x_call0 own_21 (ee st rfl) am0 (a21 K_ ZA _ hw106)) ?_
          rintro _ w107 ⟨hx106, rfl⟩
          have hp26 : Hp w [some b1] w107 := hp34a.ext hx106
          refine wd rfl (fun st => x_pick_t (v := .bool true) (ee st rfl) hc105 (ee st rfl)) <| wa rfl (v := .bool true) rfl <| wl_end <| lv_next <| cc_ret ?_
          have hr_ := Option.some.inj hG
          refine lv_ret1 rfl rfl ?_
          exact ⟨hp26.fin, congrArg Value.bool hr_⟩
         ·replace hG := cond_f hG hc105
          exact absurd (Option.some.inj hG) (by decide)
        ·replace hG := cond_f hG hc101
         exact absurd (Option.some.inj hG) (by decide)
end Go.Proofs.Ythogdgkafaclaaa
end
section
namespace Go.Proofs.Ythogdgkafaclaaa
open Go.RowKit Go.ChangeShapes Go.WideShapes
theorem mapM_all {α β : Type} {g : α → Option β} : ∀ {l : List α} {r : List β}, l.mapM g = some r → ∀ x ∈ l, ∃ y, g x = some y
  | [], _, _, x, hx => by cases hx
  | a :: l, r, h, x, hx => by
    rw [List.mapM_cons] at h
    obtain ⟨y, hy, h2⟩ := Option.bind_eq_some_iff.1 h
    obtain ⟨ys, hys, _⟩ := Option.bind_eq_some_iff.1 h2
    rcases List.mem_cons.1 hx with rfl | hx
    · exact ⟨y, hy⟩
    · exact mapM_all hys x hx
/-- A reading of this type is data of this kind. -/
def Opn {α : Type} (P : Program) (t : TypeId) (e : Enc α) (wf : α → Prop) : Prop :=
  ∀ (H : Type) (enc : TypeId × Value → H) (w : World) (sp : Nat → Bool) (fuel : Nat) (cs : List Value) (x : DataW H × List MemPlace), DataW.trod enc P w 0 sp true fuel t cs = some x → ∃ a, e.R w ZA cs a ∧ wf a
def wfI (k : IntKind) (n : Int) : Prop := (Lit.int k n).wf = true
section
variable {P : Program} {t : TypeId}
theorem opn_int {k : IntKind} (ht : P.underlying t = some (.int k)) : Opn P t (eInt k) (wfI k) := by
  intro H enc w sp fuel cs x h
  obtain ⟨n, h1, _, h3⟩ := DataW.trod_int ht h
  exact ⟨n, h1, h3⟩
/-- A struct's fields. -/
theorem trod_fields {fs : Array Field} (ht : P.underlying t = some (.struct fs)) {H : Type} {enc : TypeId × Value → H} {w : World} {sp : Nat → Bool} {fuel : Nat} {cs : List Value} {x : DataW H × List MemPlace} (h : DataW.trod enc P w 0 sp true fuel t cs = some x) :
    cs.length = P.cellsOf t ∧ ∃ fuel', ∀ (i ft off : Nat), (fs[i]?).map (fun f => (f.type, f.offset)) = some (ft, off) → ∃ y, DataW.trod enc P w 0 sp true fuel' ft ((cs.drop off).take (P.cellsOf ft)) = some y := by
  cases fuel with
  | zero => simp [DataW.trod] at h
  | succ fuel =>
    unfold DataW.trod at h
    simp only [ht] at h
    split at h
    · rename_i hl
      obtain ⟨xs, hx, _⟩ := Option.map_eq_some_iff.1 h
      refine ⟨hl, fuel, fun i ft off hf => ?_⟩
      obtain ⟨f, hf', he⟩ := Option.map_eq_some_iff.1 hf
      obtain ⟨e1, e2⟩ : f.type = ft ∧ f.offset = off := by simpa using he
      have hm : f ∈ fs.toList := by rw [← Array.getElem?_toList] at hf'; exact List.mem_of_getElem? hf'
      have := mapM_all hx f hm
      rw [e1, e2] at this
      exact this
    · cases h
theorem cells_cell {w : World} {a : Addr} {n : Nat} {cs : List Value} (h : w.cells? 0 a n = some cs) : cs.length = n ∧ ∀ j u, cs[j]? = some u → w.cell? (a.add j) = some u := by
  unfold World.cells? at h
  rw [if_pos (Nat.zero_le _)] at h
  have hl := mapM_some_length h
  refine ⟨by simpa using hl, ?_⟩
  have key : ∀ (l : List Nat) (r : List Value), l.mapM (fun i => w.cell? (a.add i)) = some r → ∀ (j i : Nat) (u : Value), l[j]? = some i → r[j]? = some u → w.cell? (a.add i) = some u := by
    intro l
    induction l with
    | nil => intro r _ j i u hj; simp at hj
    | cons b l ih =>
      intro r h j i u hj hr
      rw [List.mapM_cons] at h
      obtain ⟨y, hy, h2⟩ := Option.bind_eq_some_iff.1 h
      obtain ⟨ys, hys, h3⟩ := Option.bind_eq_some_iff.1 h2
      obtain rfl : y :: ys = r := by simpa using h3
      cases j with
      | zero =>
        obtain rfl : b = i := by simpa using hj
        obtain rfl : y = u := by simpa using hr
        exact hy
      | succ j => exact ih ys hys j i u (by simpa using hj) (by simpa using hr)
  intro j u hj
  have hlt : j < n := by
    have := (List.getElem?_eq_some_iff.1 hj).1
    have h2 : cs.length = n := by simpa using hl
    omega
  exact key _ _ h j j u (by simp [hlt]) hj
theorem cell_none {w : World} {a : Addr} {u : Value} (h : w.cell? a = some u) : ∃ b o, a = ⟨b, o, none⟩ ∧ b < w.heap.size := by
  obtain ⟨b, o, pt⟩ := a
  cases pt with
  | none =>
    refine ⟨b, o, rfl, ?_⟩
    unfold World.cell? at h
    cases hq : w.heap[b]? with
    | none => simp [hq] at h
    | some o => exact (Array.getElem?_eq_some_iff.1 hq).1
  | some q =>
    unfold World.cell? at h
    cases hq : w.heap[b]? with
    | none => simp [hq] at h
    | some ob => cases ob <;> simp [hq] at h
theorem add_add {a : Addr} {k j : Nat} (h : k ≤ j) : (a.add k).add (j - k) = a.add j := by
  obtain ⟨b, o, pt⟩ := a
  cases pt with
  | none => rw [addr_add, addr_add, addr_add]; congr 1; omega
  | some q =>
    unfold Addr.add
    by_cases hj : j = 0
    · have : k = 0 := by omega
      subst this; subst hj; simp
    · by_cases hk : k = 0
      · subst hk; simp [hj]
      · by_cases hjk : j - k = 0
        · have : j = k := by omega
          subst this; simp [hk]
        · simp [hj, hk, hjk]; omega
/-- Slices of what can be read. -/
theorem opn_slice {α : Type} {e : TypeId} {ee : Enc α} {wf : α → Prop} (ht : P.underlying t = some (.slice e)) (hc : P.cellsOf e = ee.sz) (h0 : 0 < ee.sz) (ho : Opn P e ee wf) : Opn P t (eSl ee) (fun xs => xs.length ≤ maxLen ∧ ∀ x ∈ xs, wf x) := by
  intro H enc w sp fuel cs x h
  rcases Go.Deep.open_slice ht h with ⟨rfl, _⟩ | ⟨a, len, cap, m, n0, D, Pl, rfl, _, hlc, hcm, hm, _, hall⟩
  · exact ⟨[], ⟨none, 0, rfl, Sl.nil _ _ _⟩, by simp, by simp⟩
  · have hlm : len ≤ m := by rw [hm]; split <;> omega
    have key : ∀ n, n ≤ len → ∃ css xs, R2 ee w ZA css xs ∧ xs.length = n ∧ (∀ x ∈ xs, wf x) ∧ ∀ j u, css.flatten[j]? = some u → w.cell? (a.add j) = some u := by
      intro n
      induction n with
      | zero => exact fun _ => ⟨[], [], trivial, rfl, by simp, by simp⟩
      | succ n ih =>
        intro hn
        obtain ⟨css, xs, h1, h2, h3, h4⟩ := ih (by omega)
        obtain ⟨ds, hd, hy2⟩ := hall n (by omega)
        obtain ⟨z, hz, hwz⟩ := ho _ _ _ _ _ _ _ hy2
        obtain ⟨hl, hcell⟩ := cells_cell hd
        refine ⟨css ++ [ds], xs ++ [z], h1.append ⟨hz, trivial⟩, by simp [h2], ?_, ?_⟩
        · intro x hx
          rcases List.mem_append.1 hx with hx | hx
          · exact h3 x hx
          · rw [List.mem_singleton.1 hx]; exact hwz
        · intro j u hj
          rw [List.flatten_append] at hj
          rcases Nat.lt_or_ge j css.flatten.length with hlt | hge
          · rw [List.getElem?_append_left hlt] at hj
            exact h4 j u hj
          · rw [List.getElem?_append_right hge] at hj
            have h5 := hcell (j - css.flatten.length) u (by simpa using hj)
            have hfl : css.flatten.length = n * ee.sz := by rw [h1.flen, h2]
            rw [hfl] at h5 hge
            rw [hc] at h5
            rw [add_add hge] at h5
            exact h5
    obtain ⟨css, xs, h1, h2, h3, h4⟩ := key len (Nat.le_refl _)
    refine ⟨xs, ⟨some a, cap, by rw [h2], by rw [h2]; exact hlc, (fun e => by cases e), css, h1, ?_⟩, by rw [h2]; exact Nat.le_trans hlc hcm, h3⟩
    cases hf : css.flatten with
    | nil => exact .inl rfl
    | cons u us =>
      have hu := h4 0 u (by rw [hf]; rfl)
      obtain ⟨b, o, hab, hlt⟩ := cell_none hu
      have ha : a = ⟨b, o, none⟩ := by
        obtain ⟨b', o', pt⟩ := a
        cases pt <;> simp [Addr.add] at hab ⊢
        exact hab
      subst ha
      refine .inr ⟨b, o, rfl, trivial, hlt, fun j u hj => ?_⟩
      have := h4 j u (by rw [hf]; exact hj)
      rw [addr_add] at this
      exact this
end
section
variable {H : Type} {enc : TypeId × Value → H} {P : Program} {W W' : World}
theorem trodAll_carry {sp : Nat → Bool} : ∀ {ts : List TypeId} {vs : List Value} {ds : List (DataW H)} {ps : List MemPlace}, DataW.TrodAll enc P W 0 sp true ts vs ds ps → (∀ p ∈ ps, W.sameAt W' p) → DataW.TrodAll enc P W' 0 sp true ts vs ds ps
  | [], _, _, _, h, _ => by
    obtain ⟨rfl, rfl, rfl⟩ := trodAll_nil h
    exact rfl
  | _ :: _, _, _, _, h, hs => by
    obtain ⟨v, vs1, d, ds1, a, b, rfl, rfl, rfl, ⟨n, hn⟩, h2⟩ := trodAll_cons h
    exact ⟨a, b, ⟨n, DataW.trod_carry n _ _ _ hn fun p hp => hs p (List.mem_append_left _ hp)⟩, trodAll_carry h2 fun p hp => hs p (List.mem_append_right _ hp), rfl⟩
theorem args_read (K : Kids P (· < P.types.size)) (hz : ∀ t e, t < P.types.size → P.underlying t = some (.slice e) → 0 < P.cellsOf e) {ts : List TypeId} {vs : List Value} {ds : List (DataW H)} {ps : List MemPlace} (hT : ∀ t ∈ ts, t < P.types.size)
    (hA : DataW.TrodAll enc P W 0 (fun _ => true) true ts vs ds ps) (hb : Ext W W') (hlt : ∀ p ∈ ps, p.block < W.heap.size) (sp : Nat → Bool) (hs : ∀ p ∈ ps, sp p.block = true) : DataW.TrodAll enc P W' 0 sp true ts vs ds ps :=
  trodAll_carry (DataW.TrodAll.respare K hz hT hA hs) fun p hp => (below_of_ext hb).same (hlt p hp)
variable {α : Type} {e : Enc α} {wf : α → Prop} {t : TypeId} {b0 : Nat} {v : Value} {d : DataW H} {p : List MemPlace} {sp : Nat → Bool}
theorem val_agg {fs : Array Field} (ht : P.underlying t = some (.struct fs)) (ho : Opn P t e wf) (hv : Value.okWide P W .any b0 t v) (h : DataW.Trod enc P W 0 sp true t v d p) : ∃ a cs, v = .agg cs.toArray ∧ e.R W ZA cs a ∧ wf a := by
  unfold Value.okWide at hv
  rw [ht] at hv
  obtain ⟨cs, rfl, _⟩ := hv
  obtain ⟨n, hn⟩ := h
  obtain ⟨a, h1, h2⟩ := ho _ _ _ _ _ _ _ hn
  exact ⟨a, cs.toList, by simp, h1, h2⟩
theorem val_int {k : IntKind} (ht : P.underlying t = some (.int k)) (hv : Value.okWide P W .any b0 t v) (h : DataW.Trod enc P W 0 sp true t v d p) : ∃ n, v = .int k n ∧ wfI k n := by
  obtain ⟨n, h1, _, _, h4⟩ := open_int ht hv h
  exact ⟨n, h1, h4⟩
/-- The row's end: the call has laid new blocks alone. -/
theorem post_of_ext {f : Func} {s : ChangeSpec} {apart fresh handsOn again : Bool} {args : Array Value} {v : Value} {ds gs : List (DataW H)} {before pa pv : List MemPlace}
    (hW : DataW.Whole enc P f.params.toList s.vars apart W args.toList ds gs before)
    (hres : ∀ (b : Nat) (sp : Nat → Bool) (hd : Bool), DataW.TrodAll enc P W' b sp hd f.resultTypes.toList (v.resultList f.resultTypes.size) (s.fn H (ds ++ gs)).results [])
    (hargs : ∀ sp : Nat → Bool, (∀ p ∈ before, sp p.block = true) → DataW.TrodAll enc P W' 0 sp true f.params.toList args.toList (s.fn H (ds ++ gs)).args pa)
    (hvars : ∀ sp : Nat → Bool, (∀ p ∈ before, sp p.block = true) → DataW.TrodVars enc P W' sp s.vars (s.fn H (ds ++ gs)).vars pv)
    (hps : before = pa ++ pv) (hx : Ext W W')
    (hok : ∀ (j : Nat) (t : TypeId) (r : Value), f.resultTypes[j]? = some t → (v.resultList f.resultTypes.size)[j]? = some r → Value.okWide P W' .any 0 t r) :
    s.post enc P f apart fresh handsOn again W args v W' := by
  have hb := below_of_ext hx
  have hlt : ∀ p ∈ before, p.block < W.heap.size := fun p hp => hW.lt p hp
  have hold : ∀ p ∈ before, (fun b => decide (b < W.heap.size)) p.block = true := fun p hp => by simpa using hlt p hp
  refine ⟨ds, gs, before, [], pa, pv, hW, hres _ _ _, hargs _ hold, hvars _ hold, World.keptBut_mono (fun p hp => ⟨hp, ?_⟩) (hb.frame (· ∈ before)), fun _ => ?_⟩
  · rw [hps, List.mem_append] at hp
    exact Or.inr hp
  · obtain ⟨_, _, _, _, _, hz, hn⟩ := hW
    refine ⟨hok, _, _, ([] ++ pa) ++ pv, ⟨[] ++ pa, pv, trodAll_append (hargs _ (fun _ _ => rfl)) (hres _ _ _), hvars _ (fun _ _ => rfl), rfl, ?_, ?_⟩, ?_⟩
    · intro b off hp
      have hin : MemPlace.cell b off ∈ before := by rw [hps]; simpa using hp
      rw [hb.frozen (hlt _ hin)]
      exact hz b off hin
    · intro ha
      have := hn ha
      rw [hps] at this
      simpa using this
    · intro p hp _
      rw [hps]
      simpa using hp
theorem ret_calls {f : FuncId} {args : Array Value} {w : World} {R : Value → World → Prop} (h : Ret P f args w R) : Calls P f args w (fun e w' => ∃ v, e = .returned v ∧ R v w') := h
end
end Go.Proofs.Ythogdgkafaclaaa
end
section
set_option linter.unusedVariables false
set_option linter.unusedSimpArgs false
namespace Go.Proofs.Ythogdgkafaclaaa
open Go.RowKit
open Go.RowKit Go.ChangeShapes Go.WideShapes
theorem len_2 : ∀ {cs : List Value}, cs.length = 2 → ∃ a0 a1, cs = [a0, a1]
  | [a0, a1], _ => ⟨a0, a1, rfl⟩
theorem len_5 : ∀ {cs : List Value}, cs.length = 5 → ∃ a0 a1 a2 a3 a4, cs = [a0, a1, a2, a3, a4]
  | [a0, a1, a2, a3, a4], _ => ⟨a0, a1, a2, a3, a4, rfl⟩
theorem opn_23 : Opn Try.prog 23 eR (fun x => (wfI .i64 x.1 ∧ wfI .i64 x.2)) := by
  intro H enc w sp fuel cs x h
  obtain ⟨hl, fuel', hf⟩ := trod_fields Try.underlying23 h
  have hc : Try.prog.cellsOf 23 = 2 := by kernel_rfl
  rw [hc] at hl
  have k3 : Try.prog.cellsOf 3 = 1 := by kernel_rfl
  obtain ⟨a0, a1, rfl⟩ := len_2 hl
  obtain ⟨y0, hy0⟩ := hf 0 3 0 rfl
  simp only [k3, List.drop_zero, List.drop_succ_cons, List.take_succ_cons, List.take_zero] at hy0
  obtain ⟨n0, h0, w0⟩ := (opn_int Try.underlying3) _ _ _ _ _ _ _ hy0
  cases h0
  obtain ⟨y1, hy1⟩ := hf 1 3 1 rfl
  simp only [k3, List.drop_zero, List.drop_succ_cons, List.take_succ_cons, List.take_zero] at hy1
  obtain ⟨n1, h1, w1⟩ := (opn_int Try.underlying3) _ _ _ _ _ _ _ hy1
  cases h1
  exact ⟨⟨n0, n1⟩, rfl, w0, w1⟩
theorem opn_68 : Opn Try.prog 68 eTly (fun x => (wfI .i64 x.who ∧ wfI .i64 x.fr ∧ wfI .i64 x.to ∧ (wfI .i64 ((⟨x.lo, x.hi⟩ : (Int × Int)).1) ∧ wfI .i64 ((⟨x.lo, x.hi⟩ : (Int × Int)).2)))) := by
  intro H enc w sp fuel cs x h
  obtain ⟨hl, fuel', hf⟩ := trod_fields Try.underlying68 h
  have hc : Try.prog.cellsOf 68 = 5 := by kernel_rfl
  rw [hc] at hl
  have k3 : Try.prog.cellsOf 3 = 1 := by kernel_rfl
  have k23 : Try.prog.cellsOf 23 = 2 := by kernel_rfl
  obtain ⟨a0, a1, a2, a3, a4, rfl⟩ := len_5 hl
  obtain ⟨y0, hy0⟩ := hf 0 3 0 rfl
  simp only [k3, List.drop_zero, List.drop_succ_cons, List.take_succ_cons, List.take_zero] at hy0
  obtain ⟨n0, h0, w0⟩ := (opn_int Try.underlying3) _ _ _ _ _ _ _ hy0
  cases h0
  obtain ⟨y1, hy1⟩ := hf 1 3 1 rfl
  simp only [k3, List.drop_zero, List.drop_succ_cons, List.take_succ_cons, List.take_zero] at hy1
  obtain ⟨n1, h1, w1⟩ := (opn_int Try.underlying3) _ _ _ _ _ _ _ hy1
  cases h1
  obtain ⟨y2, hy2⟩ := hf 2 3 2 rfl
  simp only [k3, List.drop_zero, List.drop_succ_cons, List.take_succ_cons, List.take_zero] at hy2
  obtain ⟨n2, h2, w2⟩ := (opn_int Try.underlying3) _ _ _ _ _ _ _ hy2
  cases h2
  obtain ⟨y3, hy3⟩ := hf 3 23 3 rfl
  simp only [k23, List.drop_zero, List.drop_succ_cons, List.take_succ_cons, List.take_zero] at hy3
  obtain ⟨n3, h3, w3⟩ := opn_23 _ _ _ _ _ _ _ hy3
  cases h3
  exact ⟨⟨n0, n1, n2, n3.1, n3.2⟩, rfl, w0, w1, w2, w3⟩
theorem opn_26 : Opn Try.prog 26 eFld (fun x => (wfI .i64 x.rows ∧ wfI .i64 x.wd ∧ (wfI .i64 ((⟨x.lo, x.hi⟩ : (Int × Int)).1) ∧ wfI .i64 ((⟨x.lo, x.hi⟩ : (Int × Int)).2)) ∧ (x.ts.length ≤ maxLen ∧ ∀ y ∈ x.ts, (wfI .i64 y.who ∧ wfI .i64 y.fr ∧ wfI .i64 y.to ∧ (wfI .i64 ((⟨y.lo, y.hi⟩ : (Int × Int)).1) ∧ wfI .i64 ((⟨y.lo, y.hi⟩ : (Int × Int)).2)))))) := by
  intro H enc w sp fuel cs x h
  obtain ⟨hl, fuel', hf⟩ := trod_fields Try.underlying26 h
  have hc : Try.prog.cellsOf 26 = 5 := by kernel_rfl
  rw [hc] at hl
  have k3 : Try.prog.cellsOf 3 = 1 := by kernel_rfl
  have k23 : Try.prog.cellsOf 23 = 2 := by kernel_rfl
  have k24 : Try.prog.cellsOf 24 = 1 := by kernel_rfl
  obtain ⟨a0, a1, a2, a3, a4, rfl⟩ := len_5 hl
  obtain ⟨y0, hy0⟩ := hf 0 3 0 rfl
  simp only [k3, List.drop_zero, List.drop_succ_cons, List.take_succ_cons, List.take_zero] at hy0
  obtain ⟨n0, h0, w0⟩ := (opn_int Try.underlying3) _ _ _ _ _ _ _ hy0
  cases h0
  obtain ⟨y1, hy1⟩ := hf 1 3 1 rfl
  simp only [k3, List.drop_zero, List.drop_succ_cons, List.take_succ_cons, List.take_zero] at hy1
  obtain ⟨n1, h1, w1⟩ := (opn_int Try.underlying3) _ _ _ _ _ _ _ hy1
  cases h1
  obtain ⟨y2, hy2⟩ := hf 2 23 2 rfl
  simp only [k23, List.drop_zero, List.drop_succ_cons, List.take_succ_cons, List.take_zero] at hy2
  obtain ⟨n2, h2, w2⟩ := opn_23 _ _ _ _ _ _ _ hy2
  cases h2
  obtain ⟨y3, hy3⟩ := hf 3 24 4 rfl
  simp only [k24, List.drop_zero, List.drop_succ_cons, List.take_succ_cons, List.take_zero] at hy3
  obtain ⟨n3, ⟨A3, c3, h3, s3⟩, w3⟩ := (opn_slice Try.underlying24 (by kernel_rfl) (by decide) opn_68) _ _ _ _ _ _ _ hy3
  cases h3
  exact ⟨⟨n0, n1, n2.1, n2.2, n3⟩, ⟨A3, c3, rfl, s3⟩, w0, w1, w2, w3⟩
theorem ownT : ownKnob Try.prog.godebug = none := by kernel_rfl
theorem kidsT : Kids Try.prog (· < Try.prog.types.size) := kids_rows (by kernel_rfl) (by kernel_rfl)
theorem fullT : ∀ t e, t < Try.prog.types.size → Try.prog.underlying t = some (.slice e) → 0 < Try.prog.cellsOf e := slices_full_of Try.prog (by kernel_rfl)
end Go.Proofs.Ythogdgkafaclaaa
end
section
namespace Go.Proofs.Ythogdgkafaclaaa
theorem wf8 {x : Int} (h : wfI .u8 x) : 0 ≤ x ∧ x < 256 := by
  have h2 : (decide (IntKind.u8.min ≤ x) && decide (x ≤ IntKind.u8.max)) = true := h
  rw [Bool.and_eq_true, decide_eq_true_eq, decide_eq_true_eq] at h2
  have e1 : IntKind.u8.min = 0 := by decide
  have e2 : IntKind.u8.max = 255 := by decide
  omega
end Go.Proofs.Ythogdgkafaclaaa
end
section
set_option linter.unusedVariables false
set_option linter.unusedSimpArgs false
namespace Go.Proofs.Ythogdgkafaclaaa
open Go.RowKit
open Go.RowKit Go.ChangeShapes Go.WideShapes Go.ChangeAt
theorem weedEnds_row (f : Fld) (w r : Int) (h1 : wfI .u8 w) (h2 : wfI .u8 r) : ∃ K, G_WeedEnds K f w r = some true := weedEnds_true f w r (wf8 h1) (wf8 h2)
set_option maxRecDepth 100000 in
theorem weedEnds_lifted (os : Os) (started : os.Started) (H : Type) (enc : TypeId × Value → H) :
    ReturnsInHanded {} Try.checked os 7 .any (Rows.weedEndsSpec.pre6 enc Try.prog Try.f7 Rows.weedEndsRow.domain false) (Rows.weedEndsSpec.post enc Try.prog Try.f7 false true false false) := by
  refine returnsInHanded_of_change (C := Try.checked) ownT started (by kernel_rfl) Try.func7
    (ChangeSpec.witness6 (enc := enc) (C := Try.checked) false ⟨#[], #[.agg #[.int .i64 0, .int .i64 0, .int .i64 0, .int .i64 0, .slice none 0 0], .int .u8 0, .int .u8 0], []⟩ 8 (by kernel_rfl) (by kernel_rfl) (by kernel_rfl) (by kernel_rfl)) ?_
  intro W base args ds gs before hval0 hW hcnd _
  have hval : ∀ (j : Nat) t v, Try.f7.params[j]? = some t → args[j]? = some v → Value.okWide Try.prog W .any base t v := hval0
  have hW' := hW
  obtain ⟨p, q, hA0, hV, rfl, hfz, hnd⟩ := hW
  have hA : DataW.TrodAll enc Try.prog W 0 (fun _ => true) true Try.f7.params.toList args.toList ds p := hA0
  obtain ⟨rfl, rfl⟩ := trodVars_none hV
  simp only [List.append_nil] at hW'
  have hlt : ∀ x ∈ p, x.block < W.heap.size := fun x hx => by simpa using hW'.lt x hx
  have hAk := hA
  rw [Try.params7] at hA hval
  obtain ⟨v0, v1, v2, d0, d1, d2, p0, p1, p2, rfl, rfl, rfl, h0, h1, h2⟩ := trodAll_three hA
  obtain ⟨x0, cs0, hv0, ⟨A0_0, c0_0, rfl, s0_0⟩, w0⟩ := val_agg Try.underlying26 opn_26 (hval 0 26 v0 rfl rfl) h0
  obtain ⟨x1, hv1, w1⟩ := val_int Try.underlying5 (hval 1 5 v1 rfl rfl) h1
  obtain ⟨x2, hv2, w2⟩ := val_int Try.underlying5 (hval 2 5 v2 rfl rfl) h2
  subst hv0
  subst hv1
  subst hv2
  obtain ⟨K, hG⟩ := weedEnds_row x0 x1 x2 w1 w2
  refine (ret_calls (a7 K x0 x1 x2 A0_0 c0_0 ZA W s0_0 hG)).mono fun e W' ⟨v, he, hx, hv⟩ => ?_
  subst he
  subst hv
  exact ⟨_, rfl, post_of_ext (pa := (p0 ++ p1 ++ p2)) (pv := []) hW' (fun _ _ _ => trodAll_mk1 (shut_bool Try.underlying4 _)) (fun sp hs => args_read kidsT fullT (by rw [Try.params7]; decide) hAk hx hlt sp (fun x hx' => hs x (by simpa using hx'))) (fun _ _ => rfl) (by simp) hx (ok_one (by kernel_rfl) rfl (okWide_bool_mk Try.underlying4 _))⟩
theorem weedEnds_holds : Rows.WeedEndsSaid :=
  OpenClaim.holds_of_wide 7 Try.f7 rfl rfl rfl rfl rfl rfl rfl ⟨rfl, rfl, rfl, rfl, rfl⟩ rfl rfl rfl rfl rfl (by kernel_rfl) Try.func7 (by kernel_rfl)
    (of_decide_eq_true (by kernel_rfl)) (by unfold Func.isWrapper; first | (rw [if_pos (by decide +kernel)]; kernel_rfl) | (rw [if_neg (by decide +kernel)]; exact ⟨rfl, rfl⟩))
    (fun os started H enc _ => weedEnds_lifted os started H enc)
end Go.Proofs.Ythogdgkafaclaaa
end
