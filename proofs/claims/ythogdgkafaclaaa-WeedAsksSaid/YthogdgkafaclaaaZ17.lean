import Derived.Test.YthogdgkafaclaaaBC5
import Derived.ProofKit
import Derived.ChangeSame
import Derived.Deep.Slices
import Derived.Test.YthogdgkafaclaaaProg
import Derived.Test.YthogdgkafaclaaaRows
/-
  Proved: the law WeedAsks returns true for every argument that the row hands over, and leaves every argument as it was; no condition beside the row's own.
-/
set_option linter.all false
section
namespace Go.Proofs.Ythogdgkafaclaaa
theorem bd {α β : Type} {x : Option α} {a : α} {f : α → Option β} (h : x = some a) : x.bind f = f a := by rw [h]; rfl
theorem i64b {β : Type} {x : Int} {f : Int → Option β} (h0 : -9223372036854775808 ≤ x) (h1 : x ≤ 9223372036854775807) : (i64 x).bind f = f x := bd (i64_eq h0 h1)
theorem idxb {α β : Type} {xs : List α} {k : Nat} {f : α → Option β} (h : k < xs.length) : (idx xs (k : Int)).bind f = f xs[k] := bd (idx_eq h)
theorem ifob {β : Type} {p : Prop} [Decidable p] {f : Unit → Option β} (h : p) : (ifo p).bind f = f () := bd (if_pos h)
theorem remb {β : Type} {a b : Int} {f : Int → Option β} (h0 : 0 ≤ a) (h1 : 1 ≤ b) : (rem a b).bind f = f (a % b) := bd (if_pos ⟨h0, h1⟩)
theorem quob {β : Type} {a b : Int} {f : Int → Option β} (h0 : 0 ≤ a) (h1 : 1 ≤ b) : (quo a b).bind f = f (a / b) := bd (if_pos ⟨h0, h1⟩)
theorem cond_eq {α : Type} {b : Bool} {x y z : α} (h1 : b = true → x = z) (h2 : b = false → y = z) : cond b x y = z := by cases b; exact h2 rfl; exact h1 rfl
theorem ct {α : Type} {b : Bool} {x y : α} (h : b = true) : cond b x y = x := by rw [h]; rfl
theorem cf {α : Type} {b : Bool} {x y : α} (h : b = false) : cond b x y = y := by rw [h]; rfl
theorem nt {α : Type} {x y : α} : cond (!true) x y = y := rfl
theorem nf {α : Type} {x y : α} : cond (!false) x y = x := rfl
theorem dt {p : Prop} [Decidable p] (h : p) : decide p = true := decide_eq_true h
theorem df {p : Prop} [Decidable p] (h : ¬ p) : decide p = false := decide_eq_false h
theorem g_In (K : Nat) (n a b : Int) : G_In K n a b = some (inR n a b) := by unfold G_In inR; cases decide (a ≤ n) <;> rfl
theorem g_Within (K : Nat) (f : Fld) (lo hi : Int) : G_Within K (⟨lo, hi⟩ : Int × Int) 0 f.rows = some (rngOk f lo hi) := by
  unfold G_Within rngOk
  simp only []
  cases decide ((0 : Int) ≤ lo) <;> cases decide (lo ≤ hi) <;> rfl
/-- How often somebody stands in a part of a list. -/
def part (l : List Int) (who : Int) (fr n : Nat) : Nat := cnt who ((l.drop fr).take n)
theorem part_succ (l : List Int) (who : Int) (fr n : Nat) (h : fr < l.length) : part l who fr (n + 1) = (if l[fr] = who then 1 else 0) + part l who (fr + 1) n := by
  unfold part cnt
  rw [List.drop_eq_getElem_cons h, List.take_succ_cons, List.countP_cons]
  simp only [beq_iff_eq]
  omega
theorem l_Did (l : List Int) (who to : Int) : ∀ (n m i : Nat) (s : Int), to + 1 = i + n → n < m → 0 ≤ s → s + n ≤ 1000000 → i + n ≤ l.length → i + n ≤ 1000000 → G_Did_L1 l who to m s (i : Int) = some (s + (part l who i n : Nat))
  | n, 0, i, s, h, hm, _, _, _, _ => by omega
  | 0, m + 1, i, s, h, hm, h0, h1, hl, hl2 => by
    unfold G_Did_L1
    rw [cf (df (by omega))]
    simp [part, cnt]
  | n + 1, m + 1, i, s, h, hm, h0, h1, hl, hl2 => by
    unfold G_Did_L1
    have hi : i < l.length := by omega
    rw [ct (dt (by omega)), idxb hi]
    have e : ((i : Int) + 1) = ((i + 1 : Nat) : Int) := by omega
    rw [part_succ l who i n hi]
    refine cond_eq (fun hb => ?_) (fun hb => ?_)
    · rw [i64b (by omega) (by omega), i64b (by omega) (by omega), e, l_Did l who to n m (i + 1) (s + 1) (by omega) (by omega) (by omega) (by omega) (by omega) (by omega)]
      rw [if_pos (by simpa using hb)]
      congr 1; omega
    · rw [i64b (by omega) (by omega), e, l_Did l who to n m (i + 1) s (by omega) (by omega) (by omega) (by omega) (by omega) (by omega)]
      rw [if_neg (by simpa using hb)]
      congr 1; omega
theorem g_Did {K : Nat} {l : List Int} {who : Int} {fr n : Nat} {to : Int} (ht : to + 1 = fr + n) (hK : n < K) (hl : fr + n ≤ l.length) (hb : fr + n ≤ 1000000) : G_Did K l who (fr : Int) to = some (part l who fr n : Nat) := by
  unfold G_Did
  rw [l_Did l who to n K fr 0 ht hK (by omega) (by omega) hl hb]
  simp
theorem g_Did0 {K : Nat} {l : List Int} {who : Int} {n : Nat} {to : Int} (ht : to + 1 = n) (hK : n < K) (hl : n ≤ l.length) (hb : n ≤ 1000000) : G_Did K l who 0 to = some (part l who 0 n : Nat) := by
  have := g_Did (K := K) (l := l) (who := who) (fr := 0) (n := n) (to := to) (by omega) hK (by omega) (by omega)
  simpa using this
theorem l_Many (f : Fld) (hw : 0 ≤ f.wd) (hw3 : f.wd ≤ 3) (hr : f.rows ≤ 7) : ∀ (n m i : Nat) (s : Int), f.rows = i + n → n < m → 0 ≤ s → s * (f.wd + 1) ^ n ≤ 1000000 → G_Many_L2 f m s (i : Int) = some (s * (f.wd + 1) ^ n)
  | n, 0, i, s, h, hm, _, _ => by omega
  | 0, m + 1, i, s, h, hm, h0, h1 => by
    unfold G_Many_L2
    rw [cf (df (by omega))]
    simp
  | n + 1, m + 1, i, s, h, hm, h0, h1 => by
    unfold G_Many_L2
    have hp : 1 ≤ (f.wd + 1) ^ n := by
      have h9 : 0 < (f.wd + 1) ^ n := Int.pow_pos (by omega)
      omega
    have hs : s * (f.wd + 1) * (f.wd + 1) ^ n ≤ 1000000 := by
      rw [Int.mul_assoc]; rw [Int.pow_succ, Int.mul_comm ((f.wd + 1) ^ n)] at h1; exact h1
    have h2 : 0 ≤ s * (f.wd + 1) := Int.mul_nonneg h0 (by omega)
    have h3 : s * (f.wd + 1) ≤ 1000000 := by
      have h4 := Int.mul_le_mul_of_nonneg_left hp h2
      omega
    rw [ct (dt (by omega)), i64b (by omega) (by omega), i64b (by omega) (by omega), i64b (by omega) (by omega)]
    have e : ((i : Int) + 1) = ((i + 1 : Nat) : Int) := by omega
    rw [e, l_Many f hw hw3 hr n m (i + 1) (s * (f.wd + 1)) (by omega) (by omega) h2 hs]
    rw [Int.mul_assoc, Int.pow_succ, Int.mul_comm ((f.wd + 1) ^ n)]
theorem g_Many {K : Nat} {f : Fld} (hK : 1000 ≤ K) (hw : 0 ≤ f.wd) (hw3 : f.wd ≤ 3) (hr0 : 0 ≤ f.rows) (hr : f.rows ≤ 7) : G_Many K f = some (many f) := by
  unfold G_Many
  have h := (pow_bd7 (f.wd + 1) (by omega) (by omega) f.rows.toNat (by omega)).2
  have := l_Many f hw hw3 hr f.rows.toNat K 0 1 (by omega) (by omega) (by omega) (by omega)
  rw [Int.natCast_zero] at this
  rw [this]
  simp [many]
theorem talOk_ref (f : Fld) (t : Tly) : talOk f t = (inR t.who 0 (f.wd - 1) && (inR t.fr 0 (f.rows - 1) && (inR t.to t.fr (f.rows - 1) && rngOk f t.lo t.hi))) := by
  rw [Bool.eq_iff_iff]
  unfold talOk
  simp only [Bool.and_eq_true, inR_iff, decide_eq_true_eq]
  constructor
  · rintro ⟨⟨⟨⟨h1, h2⟩, h3⟩, h4⟩, h5⟩; exact ⟨h1, h2, ⟨h4, h3.2⟩, h5⟩
  · rintro ⟨h1, h2, ⟨h3, h4⟩, h5⟩; exact ⟨⟨⟨⟨h1, h2⟩, by omega, h4⟩, h3⟩, h5⟩
theorem l_Fault (K : Nat) (f : Fld) (hr : 1 ≤ f.rows ∧ f.rows ≤ 7) (hw : 1 ≤ f.wd ∧ f.wd ≤ 3) (hl : f.ts.length ≤ 1000000) : ∀ (n m i : Nat), f.ts.length = i + n → n < m → G_Fault_L12 K f m (i : Int) = some (if (f.ts.drop i).all (talOk f) = true then .inr () else .inl 1)
  | n, 0, i, h, hm => by omega
  | 0, m + 1, i, h, hm => by
    unfold G_Fault_L12
    rw [cf (df (by omega)), List.drop_eq_nil_of_le (by omega)]
    rfl
  | n + 1, m + 1, i, h, hm => by
    unfold G_Fault_L12
    have hi : i < f.ts.length := by omega
    rw [ct (dt (by omega)), idxb hi, i64b (by omega) (by omega), bd (g_In ..), List.drop_eq_getElem_cons hi, List.all_cons, talOk_ref]
    cases h1 : inR f.ts[i].who 0 (f.wd - 1) with
    | false => rfl
    | true =>
      rw [nt, i64b (by omega) (by omega), bd (g_In ..)]
      cases h2 : inR f.ts[i].fr 0 (f.rows - 1) with
      | false => rfl
      | true =>
        rw [nt, i64b (by omega) (by omega), bd (g_In ..)]
        cases h3 : inR f.ts[i].to f.ts[i].fr (f.rows - 1) with
        | false => rfl
        | true =>
          rw [nt, bd (g_Within ..)]
          cases h4 : rngOk f f.ts[i].lo f.ts[i].hi with
          | false => rfl
          | true =>
            have e : ((i : Int) + 1) = ((i + 1 : Nat) : Int) := by omega
            rw [nt, i64b (by omega) (by omega), e, l_Fault K f hr hw hl n m (i + 1) (by omega) (by omega)]
            rfl
theorem g_Fault {K : Nat} {f : Fld} (hK : 1000 ≤ K) : G_Fault K f = some (check f) := by
  unfold G_Fault check
  by_cases hb : big f = true
  · rw [if_pos hb]
    simp only [big, Bool.or_eq_true, decide_eq_true_eq] at hb
    by_cases h1 : 7 < f.rows
    · rw [ct (dt h1)]
    · rw [cf (df h1)]
      by_cases h2 : 3 < f.wd
      · rw [ct (dt h2)]
      · rw [cf (df h2), ct (dt (by omega))]
  · rw [if_neg hb]
    simp only [big, Bool.or_eq_true, decide_eq_true_eq, not_or] at hb
    rw [cf (df hb.1), cf (df hb.2.1), cf (df hb.2.2)]
    by_cases hr : f.rows < 1
    · rw [ct (dt hr), if_pos (by simp [bad, hr])]
    · by_cases hw : f.wd < 1
      · rw [cf (df hr), ct (dt hw), if_pos (by simp [bad, hw])]
      · rw [cf (df hr), cf (df hw), bd (g_Within ..)]
        have hbad : bad f = (!rngOk f f.lo f.hi || !f.ts.all (talOk f)) := by simp [bad, hr, hw]
        rw [hbad]
        cases h3 : rngOk f f.lo f.hi with
        | false => rfl
        | true =>
          have := l_Fault K f ⟨by omega, by omega⟩ ⟨by omega, by omega⟩ (by omega) f.ts.length K 0 (by omega) (by omega)
          rw [Int.natCast_zero] at this
          rw [nt, bd this, List.drop_zero]
          cases h4 : f.ts.all (talOk f) with
          | false => rfl
          | true =>
            rw [if_pos rfl, if_neg (by decide)]
            show (G_Many K f).bind _ = _
            rw [bd (g_Many hK (by omega) (by omega) (by omega) (by omega))]
            by_cases h5 : 2500 < many f
            · rw [ct (dt h5), if_pos h5]
            · rw [cf (df h5), if_neg h5]
theorem g_fault {K : Nat} {f : Fld} (hK : 1000 ≤ K) : G_fault K f = some (check f) := by unfold G_fault; rw [bd (g_Fault hK)]
/-- The fields that the laws go through. -/
def thin (f : Fld) : Bool := decide (f.ts.length ≤ 7) && (decide (check f ≠ 0) || decide (many f ≤ 250))
theorem g_Thin {K : Nat} {f : Fld} (hK : 1000 ≤ K) : G_Thin K f = some (thin f) := by
  unfold G_Thin thin
  by_cases h1 : f.ts.length ≤ 7
  · rw [ct (dt (by omega)), bd (g_Fault hK)]
    by_cases h2 : check f = 0
    · obtain ⟨hr, hw, _⟩ := check_ok h2
      rw [cf (by simp [h2]), bd (g_Many hK (by omega) (by omega) (by omega) (by omega))]
      simp [h1, h2]
    · rw [ct (by simp [h2])]
      simp [h1, h2]
  · rw [cf (df (by omega))]
    simp [h1]
theorem thin_len {f : Fld} (h : thin f = true) : f.ts.length ≤ 7 := by
  simp only [thin, Bool.and_eq_true, decide_eq_true_eq] at h; exact h.1
theorem thin_many {f : Fld} (h : thin f = true) (hc : check f = 0) : many f ≤ 250 := by
  simp only [thin, Bool.and_eq_true, Bool.or_eq_true, decide_eq_true_eq] at h
  rcases h.2 with h2 | h2
  · exact absurd hc h2
  · exact h2
theorem g_to (K : Nat) (r : Int × Int) : G_to K r = some r := rfl
theorem l_Field (K : Nat) (f : Fld) (hl : f.ts.length ≤ 7) : ∀ (n m i : Nat), f.ts.length = i + n → n < m → G_Field_L7 K f m (i : Int) (f.ts.take i) = some f.ts
  | n, 0, i, h, hm => by omega
  | 0, m + 1, i, h, hm => by
    unfold G_Field_L7
    rw [cf (df (by omega)), List.take_of_length_le (by omega)]
  | n + 1, m + 1, i, h, hm => by
    unfold G_Field_L7
    have hi : i < f.ts.length := by omega
    have e : ((i : Int) + 1) = ((i + 1 : Nat) : Int) := by omega
    rw [ct (dt (by omega)), idxb hi, bd (g_to ..), ifob (by simp; omega), i64b (by omega) (by omega), e]
    have ht : f.ts.take i ++ [(⟨f.ts[i].who, f.ts[i].fr, f.ts[i].to, f.ts[i].lo, f.ts[i].hi⟩ : Tly)] = f.ts.take (i + 1) := (List.take_succ_eq_append_getElem hi).symm
    show G_Field_L7 K f m ((i + 1 : Nat) : Int) (f.ts.take i ++ [(⟨f.ts[i].who, f.ts[i].fr, f.ts[i].to, f.ts[i].lo, f.ts[i].hi⟩ : Tly)]) = _
    rw [ht, l_Field K f hl n m (i + 1) (by omega) (by omega)]
theorem g_Field {K : Nat} {f : Fld} (hK : 1000 ≤ K) (hl : f.ts.length ≤ 7) : G_Field K f = some f := by
  unfold G_Field
  have := l_Field K f hl f.ts.length K 0 (by omega) (by omega)
  rw [Int.natCast_zero, List.take_zero] at this
  rw [bd (g_to ..), bd this]
/-- All tallies but none. -/
theorem allAt_nil (l : List Int) : ∀ (ts : List Tly) (i : Nat), allAt l [] i ts = ts.all fun t => inR (didK l [t.who, t.fr, t.to]) t.lo t.hi
  | [], _ => rfl
  | t :: ts, i => by
    rw [allAt, allAt_nil l ts (i + 1), List.all_cons]
    rfl
/-- Somebody's rows in a tally's stretch. -/
def tdid (l : List Int) (t : Tly) : Int := (part l t.who t.fr.toNat (t.to + 1 - t.fr).toNat : Nat)
theorem didK_part (l : List Int) (t : Tly) (h : 0 ≤ t.fr ∧ t.fr ≤ t.to) : didK l [t.who, t.fr, t.to] = tdid l t := by
  unfold didK tdid part
  have : (t.to + 1).toNat - t.fr.toNat = (t.to + 1 - t.fr).toNat := by omega
  simp only [this]
theorem part_pad (l : List Int) (who : Int) (fr n : Nat) (h : fr + n ≤ l.length) : part (pad l) who fr n = part l who fr n := by
  unfold part pad
  rw [List.drop_append_of_le_length (by omega), List.take_append_of_le_length (by simp; omega)]
theorem tdid_pad (f : Fld) (l : List Int) (t : Tly) (hl : (l.length : Int) = f.rows) (h : talOk f t = true) : tdid (pad l) t = tdid l t := by
  have := talOk_bd h
  unfold tdid
  rw [part_pad _ _ _ _ (by omega)]
/-- What the reference calls allowed, and a truth. -/
def alw (f : Fld) (l : List Int) : Bool := l.all (okWho f) && (decide ((l.length : Int) = f.rows) && inR ((part l (-1) 0 l.length : Nat) : Int) f.lo f.hi)
def tru (f : Fld) (l : List Int) : Bool := alw f l && f.ts.all fun t => inR (tdid l t) t.lo t.hi
theorem okWho_in (f : Fld) (n : Int) (hw : 1 ≤ f.wd) : okWho f n = inR n (-1) (f.wd - 1) := by
  rw [Bool.eq_iff_iff]
  simp only [okWho, Bool.or_eq_true, beq_iff_eq, inR_iff]
  omega
theorem l_IsAllowed (K : Nat) (f : Fld) (hw : 1 ≤ f.wd ∧ f.wd ≤ 3) (l : List Int) (hl : l.length ≤ 1000) : ∀ (n m i : Nat), l.length = i + n → n < m → G_IsAllowed_L2 K f l m (i : Int) = some (if (l.drop i).all (okWho f) = true then .inr () else .inl false)
  | n, 0, i, h, hm => by omega
  | 0, m + 1, i, h, hm => by
    unfold G_IsAllowed_L2
    rw [cf (df (by omega)), List.drop_eq_nil_of_le (by omega)]
    rfl
  | n + 1, m + 1, i, h, hm => by
    unfold G_IsAllowed_L2
    have hi : i < l.length := by omega
    have e : ((i : Int) + 1) = ((i + 1 : Nat) : Int) := by omega
    rw [ct (dt (by omega)), idxb hi, i64b (by omega) (by omega), bd (g_In ..), List.drop_eq_getElem_cons hi, List.all_cons, okWho_in f l[i] hw.1]
    cases h1 : inR l[i] (-1) (f.wd - 1) with
    | false => rfl
    | true =>
      rw [nt, i64b (by omega) (by omega), e, l_IsAllowed K f hw l hl n m (i + 1) (by omega) (by omega)]
      rfl
theorem g_IsAllowed {K : Nat} {f : Fld} {l : List Int} (hK : 1000 ≤ K) (hw : 1 ≤ f.wd ∧ f.wd ≤ 3) (hr : 1 ≤ f.rows ∧ f.rows ≤ 7) (hl : l.length ≤ 250) : G_IsAllowed K f l = some (alw f l) := by
  unfold G_IsAllowed alw
  have := l_IsAllowed K f hw l (by omega) l.length K 0 (by omega) (by omega)
  rw [Int.natCast_zero] at this
  rw [bd this, List.drop_zero]
  cases h1 : l.all (okWho f) with
  | false => rfl
  | true =>
    rw [if_pos rfl]
    show cond _ _ _ = _
    by_cases h2 : (l.length : Int) = f.rows
    · rw [ct (by simpa using h2), i64b (by omega) (by omega), bd (g_Did0 (n := l.length) (by omega) (by omega) (by omega) (by omega)), bd (g_In ..)]
      simp [h2]
    · rw [cf (by simpa using h2)]
      simp [h2]
theorem g_Right {K : Nat} {f : Fld} {l : List Int} {t : Tly} (hK : 1000 ≤ K) (hr : f.rows ≤ 7) (ht : talOk f t = true) (hl : (l.length : Int) = f.rows) : G_Right K l t = some (inR (tdid l t) t.lo t.hi) := by
  unfold G_Right
  have h := talOk_bd ht
  have := g_Did (K := K) (l := l) (who := t.who) (fr := t.fr.toNat) (n := (t.to + 1 - t.fr).toNat) (to := t.to) (by omega) (by omega) (by omega) (by omega)
  rw [Int.toNat_of_nonneg h.2.1.1] at this
  rw [bd this, bd (g_In ..)]
  rfl
theorem l_IsTruth {K : Nat} (hK : 1000 ≤ K) (f : Fld) (hr : f.rows ≤ 7) (ht : ∀ t ∈ f.ts, talOk f t = true) (l : List Int) (hl : (l.length : Int) = f.rows) (h5 : f.ts.length ≤ 7) : ∀ (n m i : Nat), f.ts.length = i + n → n < m → G_IsTruth_L7 K f l m (i : Int) = some (if (f.ts.drop i).all (fun t => inR (tdid l t) t.lo t.hi) = true then .inr () else .inl false)
  | n, 0, i, h, hm => by omega
  | 0, m + 1, i, h, hm => by
    unfold G_IsTruth_L7
    rw [cf (df (by omega)), List.drop_eq_nil_of_le (by omega)]
    rfl
  | n + 1, m + 1, i, h, hm => by
    unfold G_IsTruth_L7
    have hi : i < f.ts.length := by omega
    have e : ((i : Int) + 1) = ((i + 1 : Nat) : Int) := by omega
    rw [ct (dt (by omega)), idxb hi, bd (g_Right hK hr (ht _ (List.getElem_mem hi)) hl), List.drop_eq_getElem_cons hi, List.all_cons]
    cases h1 : inR (tdid l f.ts[i]) f.ts[i].lo f.ts[i].hi with
    | false => rfl
    | true =>
      rw [nt, i64b (by omega) (by omega), e, l_IsTruth hK f hr ht l hl h5 n m (i + 1) (by omega) (by omega)]
      rfl
theorem g_IsTruth {K : Nat} {f : Fld} {l : List Int} (hK : 1000 ≤ K) (hc : check f = 0) (hl : l.length ≤ 250) : G_IsTruth K f l = some (tru f l) := by
  obtain ⟨hr, hw, h5, ht, _, _⟩ := check_ok hc
  unfold G_IsTruth tru
  rw [bd (g_IsAllowed hK hw hr hl)]
  cases h1 : alw f l with
  | false => rfl
  | true =>
    have h2 : (l.length : Int) = f.rows := by
      simp only [alw, Bool.and_eq_true, decide_eq_true_eq] at h1; exact h1.2.1
    have := l_IsTruth hK f hr.2 ht l h2 (by omega) f.ts.length K 0 (by omega) (by omega)
    rw [Int.natCast_zero] at this
    rw [nt, bd this, List.drop_zero]
    cases h3 : f.ts.all (fun t => inR (tdid l t) t.lo t.hi) <;> rfl
end Go.Proofs.Ythogdgkafaclaaa
end
section
namespace Go.Proofs.Ythogdgkafaclaaa
/-- The i-th list of so many numbers. -/
def nthL (b : Int) : Nat → Int → List Int
  | 0, _ => []
  | n + 1, i => (i % b - 1) :: nthL b n (i / b)
theorem nthL_len (b : Int) : ∀ (n : Nat) (i : Int), (nthL b n i).length = n
  | 0, _ => rfl
  | n + 1, i => by simp [nthL, nthL_len b n]
theorem nthL_surj (b : Int) (hb : 1 ≤ b) : ∀ (l : List Int), (∀ x ∈ l, -1 ≤ x ∧ x ≤ b - 2) → ∃ i : Nat, (i : Int) < b ^ l.length ∧ nthL b l.length i = l
  | [], _ => ⟨0, by simp, rfl⟩
  | x :: l, h => by
    obtain ⟨i, hi, he⟩ := nthL_surj b hb l fun y hy => h y (List.mem_cons_of_mem _ hy)
    have hx := h x (List.mem_cons_self ..)
    have h0 : 0 ≤ (x + 1) + b * (i : Int) := by
      have : 0 ≤ b * (i : Int) := Int.mul_nonneg (by omega) (by omega)
      omega
    refine ⟨((x + 1) + b * (i : Int)).toNat, ?_, ?_⟩
    · have h2 : b ^ (l.length + 1) = b * b ^ l.length := by rw [Int.pow_succ, Int.mul_comm]
      rw [Int.toNat_of_nonneg h0, List.length_cons, h2]
      have h1 : b * ((i : Int) + 1) ≤ b * b ^ l.length := Int.mul_le_mul_of_nonneg_left (by omega) (by omega)
      rw [Int.mul_add, Int.mul_one] at h1
      omega
    · rw [Int.toNat_of_nonneg h0]
      simp only [List.length_cons, nthL]
      rw [Int.add_mul_emod_self_left, Int.add_mul_ediv_left _ _ (by omega), Int.emod_eq_of_lt (by omega) (by omega), Int.ediv_eq_zero_of_lt (by omega) (by omega), Int.zero_add, he]
      congr 1
      omega
theorem l_Nth (f : Fld) (hw : 1 ≤ f.wd ∧ f.wd ≤ 3) (hr : f.rows ≤ 7) : ∀ (n m i : Nat) (s : Int) (acc : List Int), f.rows = i + n → n < m → 0 ≤ s → s ≤ 1000000 → acc.length ≤ i → G_Nth_L2 f m s acc (i : Int) = some (acc ++ nthL (f.wd + 1) n s)
  | n, 0, i, s, acc, h, hm, _, _, _ => by omega
  | 0, m + 1, i, s, acc, h, hm, h0, h1, hl => by
    unfold G_Nth_L2
    rw [cf (df (by omega))]
    simp [nthL]
  | n + 1, m + 1, i, s, acc, h, hm, h0, h1, hl => by
    unfold G_Nth_L2
    have h2 : 0 ≤ s % (f.wd + 1) := Int.emod_nonneg _ (by omega)
    have h3 : s % (f.wd + 1) < f.wd + 1 := Int.emod_lt_of_pos _ (by omega)
    have h4 : 0 ≤ s / (f.wd + 1) := Int.ediv_nonneg h0 (by omega)
    have h5 : s / (f.wd + 1) ≤ s := Int.ediv_le_self _ h0
    have e : ((i : Int) + 1) = ((i + 1 : Nat) : Int) := by omega
    rw [ct (dt (by omega)), i64b (by omega) (by omega), remb h0 (by omega), i64b (by omega) (by omega), ifob (by simp; omega), i64b (by omega) (by omega), quob h0 (by omega), i64b (by omega) (by omega), i64b (by omega) (by omega), e,
      l_Nth f hw hr n m (i + 1) _ _ (by omega) (by omega) h4 (by omega) (by simp; omega)]
    simp [nthL]
theorem g_Nth {K : Nat} {f : Fld} {i : Int} (hK : 1000 ≤ K) (hc : check f = 0) (h0 : 0 ≤ i) (h1 : i ≤ 1000000) : G_Nth K f i = some (nthL (f.wd + 1) f.rows.toNat i) := by
  obtain ⟨hr, hw, _⟩ := check_ok hc
  unfold G_Nth
  have := l_Nth f hw hr.2 f.rows.toNat K 0 i [] (by omega) (by omega) h0 h1 (by simp)
  rw [Int.natCast_zero, List.nil_append] at this
  rw [bd this]
/-- The reference's truths. -/
def refs (f : Fld) : List (List Int) := ((List.range (many f).toNat).map fun i : Nat => nthL (f.wd + 1) f.rows.toNat (i : Int)).filter (tru f)
theorem l_Truths {K : Nat} (hK : 1000 ≤ K) (f : Fld) (hc : check f = 0) (hm2 : many f ≤ 250) : ∀ (n m i : Nat) (acc : List (List Int)), many f = i + n → n < m → acc.length ≤ i →
    G_Truths_L2 K f m acc (i : Int) = some (acc ++ ((List.range' i n).map fun i : Nat => nthL (f.wd + 1) f.rows.toNat (i : Int)).filter (tru f))
  | n, 0, i, acc, h, hm, _ => by omega
  | 0, m + 1, i, acc, h, hm, hl => by
    obtain ⟨hr, hw, _⟩ := check_ok hc
    unfold G_Truths_L2
    rw [bd (g_Many hK (by omega) (by omega) (by omega) (by omega)), cf (df (by omega))]
    simp
  | n + 1, m + 1, i, acc, h, hm, hl => by
    obtain ⟨hr, hw, _⟩ := check_ok hc
    unfold G_Truths_L2
    have e : ((i : Int) + 1) = ((i + 1 : Nat) : Int) := by omega
    rw [bd (g_Many hK (by omega) (by omega) (by omega) (by omega)), ct (dt (by omega)), bd (g_Nth hK hc (by omega) (by omega)), bd (g_IsTruth hK hc (by rw [nthL_len]; omega)), List.range'_succ, List.map_cons, List.filter_cons]
    cases h1 : tru f (nthL (f.wd + 1) f.rows.toNat (i : Int)) with
    | false =>
      rw [cf rfl, i64b (by omega) (by omega), e, l_Truths hK f hc hm2 n m (i + 1) acc (by omega) (by omega) (by omega)]
      rfl
    | true =>
      rw [ct rfl, ifob (by simp; omega), i64b (by omega) (by omega), e, l_Truths hK f hc hm2 n m (i + 1) _ (by omega) (by omega) (by simp; omega)]
      simp
theorem many_nn {f : Fld} (hc : check f = 0) : 0 ≤ many f := by
  obtain ⟨hr, hw, _⟩ := check_ok hc
  exact (pow_bd7 (f.wd + 1) (by omega) (by omega) f.rows.toNat (by omega)).1
theorem g_Truths {K : Nat} {f : Fld} (hK : 1000 ≤ K) (hc : check f = 0) (hm : many f ≤ 250) : G_Truths K f = some (refs f) := by
  have h0 := many_nn hc
  unfold G_Truths
  have := l_Truths hK f hc hm (many f).toNat K 0 [] (by omega) (by omega) (by simp)
  rw [Int.natCast_zero, List.nil_append] at this
  rw [bd this]
  unfold refs
  rw [List.range_eq_range']
theorem tru_alw {f : Fld} {l : List Int} (h : tru f l = true) : (∀ x ∈ l, okWho f x = true) ∧ (l.length : Int) = f.rows ∧ inR ((part l (-1) 0 l.length : Nat) : Int) f.lo f.hi = true := by
  simp only [tru, alw, Bool.and_eq_true, decide_eq_true_eq, List.all_eq_true] at h
  exact ⟨h.1.1, h.1.2.1, h.1.2.2⟩
theorem mem_refs {f : Fld} (hc : check f = 0) {l : List Int} : l ∈ refs f ↔ tru f l = true := by
  obtain ⟨hr, hw, _⟩ := check_ok hc
  unfold refs
  rw [List.mem_filter]
  constructor
  · exact fun h => h.2
  · intro h
    refine ⟨?_, h⟩
    obtain ⟨h1, h2, _⟩ := tru_alw h
    obtain ⟨i, hi, he⟩ := nthL_surj (f.wd + 1) (by omega) l fun x hx => by
      have := h1 x hx
      rw [okWho_in f x hw.1, inR_iff] at this
      omega
    have hl : f.rows.toNat = l.length := by omega
    rw [List.mem_map]
    refine ⟨i, ?_, by rw [hl]; exact he⟩
    have h0 := many_nn hc
    have hm : many f = (f.wd + 1) ^ l.length := by unfold many; rw [hl]
    rw [List.mem_range]
    omega
theorem refs_len (f : Fld) (hc : check f = 0) : ((refs f).length : Int) ≤ many f := by
  have h0 := many_nn hc
  have h1 : (refs f).length ≤ (many f).toNat := by
    unfold refs
    refine Nat.le_trans (List.length_filter_le _ _) ?_
    simp
  omega
theorem mem_whos {wd x : Int} (hw : 0 ≤ wd) : x ∈ whos wd ↔ -1 ≤ x ∧ x ≤ wd - 1 := by
  simp only [whos, List.mem_map, List.mem_range]
  constructor
  · rintro ⟨j, hj, rfl⟩; omega
  · intro h; exact ⟨(x + 1).toNat, by omega, by omega⟩
theorem mem_enum (p : List Int → Bool) (wd : Int) : ∀ (k : Nat) (pre a : List Int), a ∈ enum p wd k pre ↔ ∃ t : List Int, t.length = k ∧ (∀ x ∈ t, x ∈ whos wd) ∧ p (pad (pre ++ t)) = true ∧ a = pad (pre ++ t)
  | 0, pre, a => by
    unfold enum
    constructor
    · intro h
      split at h
      · rename_i hp
        exact ⟨[], rfl, by simp, by simpa using hp, by simpa using h⟩
      · cases h
    · rintro ⟨t, ht, _, hp, rfl⟩
      obtain rfl := List.length_eq_zero_iff.1 ht
      rw [List.append_nil] at hp ⊢
      rw [if_pos hp]; simp
  | k + 1, pre, a => by
    simp only [enum, List.mem_flatMap]
    constructor
    · rintro ⟨x, hx, h⟩
      obtain ⟨t, h1, h2, h3, h4⟩ := (mem_enum p wd k _ a).1 h
      rw [List.append_assoc, List.singleton_append] at h3 h4
      exact ⟨x :: t, by simp [h1], by simpa using ⟨hx, h2⟩, h3, h4⟩
    · rintro ⟨t, h1, h2, h3, h4⟩
      cases t with
      | nil => simp at h1
      | cons x t =>
        refine ⟨x, h2 x (List.mem_cons_self ..), (mem_enum p wd k _ a).2 ⟨t, by simpa using h1, fun y hy => h2 y (List.mem_cons_of_mem _ hy), ?_, ?_⟩⟩
        · rw [List.append_assoc, List.singleton_append]; exact h3
        · rw [List.append_assoc, List.singleton_append]; exact h4
theorem all_congr {α : Type} {p q : α → Bool} : ∀ {l : List α}, (∀ x ∈ l, p x = q x) → l.all p = l.all q
  | [], _ => rfl
  | a :: l, h => by rw [List.all_cons, List.all_cons, h a (List.mem_cons_self ..), all_congr fun x hx => h x (List.mem_cons_of_mem _ hx)]
theorem right_tru {f : Fld} {l : List Int} (ht : ∀ t ∈ f.ts, talOk f t = true) (hl : (l.length : Int) = f.rows) : rightB f (pad l) [] = (f.ts.all (fun t => inR (tdid l t) t.lo t.hi) && inR ((part l (-1) 0 l.length : Nat) : Int) f.lo f.hi) := by
  unfold rightB
  rw [allAt_nil]
  congr 1
  · refine all_congr fun t h => ?_
    have h1 := talOk_bd (ht t h)
    rw [didK_part _ _ ⟨h1.2.1.1, h1.2.1.2.1⟩, tdid_pad f l t hl (ht t h)]
  · have h2 : f.rows.toNat = l.length := by omega
    have h3 : (pad l).take f.rows.toNat = l.take l.length := by
      unfold pad; rw [h2, List.take_append_of_le_length (Nat.le_refl _)]
    rw [h3]
    unfold part
    rw [List.drop_zero]
theorem mem_truths {f : Fld} (hc : check f = 0) {a : List Int} : a ∈ truths f [] ↔ ∃ l, l ∈ refs f ∧ a = pad l := by
  obtain ⟨hr, hw, _, ht, _⟩ := check_ok hc
  unfold truths
  rw [mem_enum]
  constructor
  · rintro ⟨t, h1, h2, h3, h4⟩
    rw [List.nil_append] at h3 h4
    refine ⟨t, (mem_refs hc).2 ?_, h4⟩
    have hl : (t.length : Int) = f.rows := by omega
    have h3' : rightB f (pad t) [] = true := h3
    rw [right_tru ht hl, Bool.and_eq_true] at h3'
    have h5 : t.all (okWho f) = true := by
      rw [List.all_eq_true]
      intro x hx
      rw [okWho_in f x hw.1, inR_iff]
      have := (mem_whos (by omega)).1 (h2 x hx)
      omega
    unfold tru alw
    rw [h5, h3'.1, h3'.2]
    simp [hl]
  · rintro ⟨l, h, rfl⟩
    have h1 := (mem_refs hc).1 h
    obtain ⟨h2, h3, h4⟩ := tru_alw h1
    refine ⟨l, by omega, fun x hx => ?_, ?_, by simp⟩
    · rw [mem_whos (by omega)]
      have := h2 x hx
      rw [okWho_in f x hw.1, inR_iff] at this
      omega
    · rw [List.nil_append]
      show rightB f (pad l) [] = true
      rw [right_tru ht h3, h4]
      simp only [tru, Bool.and_eq_true] at h1
      rw [h1.2]; rfl
theorem truths_nil {f : Fld} (hc : check f = 0) : truths f [] = [] ↔ refs f = [] := by
  constructor
  · intro h
    rw [List.eq_nil_iff_forall_not_mem] at h ⊢
    exact fun l hl => h (pad l) ((mem_truths hc).2 ⟨l, hl, rfl⟩)
  · intro h
    rw [List.eq_nil_iff_forall_not_mem] at h ⊢
    rintro a ha
    obtain ⟨l, hl, _⟩ := (mem_truths hc).1 ha
    exact h l hl
/-- The error that comes with a question. -/
def sureE (f : Fld) : Int := if check f ≠ 0 then check f else if refs f = [] then 11 else 0
theorem g_sure {K : Nat} {f : Fld} (hK : 1000 ≤ K) (ht : thin f = true) : G_sure K f = some (if sureE f = 0 then refs f else [], sureE f) := by
  unfold G_sure
  rw [bd (g_fault hK)]
  by_cases hc : check f = 0
  · rw [cf (by simp [hc]), bd (g_Truths hK hc (thin_many ht hc))]
    by_cases h : refs f = []
    · have hs : sureE f = 11 := by unfold sureE; rw [if_neg (by simp [hc]), if_pos h]
      rw [ct (by simp [h]), hs]; rfl
    · have hs : sureE f = 0 := by unfold sureE; rw [if_neg (by simp [hc]), if_neg h]
      rw [cf (by simp [h]), hs]; rfl
  · have hs : sureE f = check f := by unfold sureE; rw [if_pos hc]
    rw [ct (by simp [hc]), hs, if_neg hc]
theorem askE_true (f : Fld) : askE f true = sureE f := by
  unfold askE sureE
  by_cases hc : check f = 0
  · simp only [hc, ne_eq, not_true_eq_false, if_false]
    by_cases h : refs f = []
    · rw [if_neg (by decide), if_pos h, if_pos ((truths_nil hc).2 h)]
    · rw [if_neg (by decide), if_neg h, if_neg (fun e => h ((truths_nil hc).1 e))]
  · rw [if_pos hc, if_pos hc]
theorem cntr_pad {f : Fld} {l : List Int} {who : Int} (hl : (l.length : Int) = f.rows) : cntr f (pad l) who = (part l who 0 l.length : Nat) := by
  unfold cntr part pad
  have h2 : f.rows.toNat = l.length := by omega
  rw [h2, List.take_append_of_le_length (Nat.le_refl _), List.drop_zero]
end Go.Proofs.Ythogdgkafaclaaa
end
section
namespace Go.Proofs.Ythogdgkafaclaaa
theorem sorted_ext : ∀ {l m : List Int}, l.Pairwise (· < ·) → m.Pairwise (· < ·) → (∀ x, x ∈ l ↔ x ∈ m) → l = m
  | [], [], _, _, _ => rfl
  | [], b :: m, _, _, h => by have := (h b).2 (List.mem_cons_self ..); cases this
  | a :: l, [], _, _, h => by have := (h a).1 (List.mem_cons_self ..); cases this
  | a :: l, b :: m, h1, h2, h => by
    rw [List.pairwise_cons] at h1 h2
    have hab : a = b := by
      rcases List.mem_cons.1 ((h a).1 (List.mem_cons_self ..)) with e | e
      · exact e
      · rcases List.mem_cons.1 ((h b).2 (List.mem_cons_self ..)) with e2 | e2
        · exact e2.symm
        · have := h1.1 b e2; have := h2.1 a e; omega
    subst hab
    congr 1
    refine sorted_ext h1.2 h2.2 fun x => ⟨fun hx => ?_, fun hx => ?_⟩
    · rcases List.mem_cons.1 ((h x).1 (List.mem_cons_of_mem _ hx)) with e | e
      · have := h1.1 x hx; omega
      · exact e
    · rcases List.mem_cons.1 ((h x).2 (List.mem_cons_of_mem _ hx)) with e | e
      · have := h2.1 x hx; omega
      · exact e
theorem getI {zs : List Int} {m : Nat} (h : m < zs.length) : zs.toArray[m]! = zs[m] := by
  rw [getElem!_pos zs.toArray m (by simpa using h)]; simp
theorem compact_inv {zs : List Int} (hs : zs.Pairwise (· ≤ ·)) : ∀ m, m ≤ zs.length → (Lib.compactUpTo zs.toArray m).Pairwise (· < ·) ∧ ∀ x, x ∈ Lib.compactUpTo zs.toArray m ↔ x ∈ zs.take m
  | 0, _ => by simp [Lib.compactUpTo]
  | m + 1, h => by
    obtain ⟨h1, h2⟩ := compact_inv hs m (by omega)
    have hm : m < zs.length := by omega
    rw [Lib.compactUpTo_succ, List.take_succ_eq_append_getElem hm, getI hm]
    have hle : ∀ x ∈ zs.take m, x ≤ zs[m] := fun x hx => by
      obtain ⟨i, hi, rfl⟩ := List.mem_iff_getElem.1 hx
      rw [List.getElem_take]
      simp at hi
      exact (List.pairwise_iff_getElem.1 hs) i m _ hm (by omega)
    by_cases hk : Lib.keeps zs.toArray m = true
    · rw [if_pos hk]
      refine ⟨?_, fun x => by rw [List.mem_append, List.mem_append, h2]⟩
      rw [List.pairwise_append]
      refine ⟨h1, by simp, fun x hx y hy => ?_⟩
      obtain rfl : y = zs[m] := by simpa using hy
      have hx2 := (h2 x).1 hx
      have hx3 := hle x hx2
      simp only [Lib.keeps, decide_eq_true_eq] at hk
      rcases hk with rfl | hk
      · simp at hx2
      · have hm1 : 0 < m := by
          rcases Nat.eq_zero_or_pos m with rfl | h0
          · simp at hx2
          · exact h0
        rw [getI hm, getI (by omega : m - 1 < zs.length)] at hk
        obtain ⟨i, hi, rfl⟩ := List.mem_iff_getElem.1 hx2
        rw [List.getElem_take] at hx3 ⊢
        simp at hi
        have h5 : zs[m - 1] ≤ zs[m] := (List.pairwise_iff_getElem.1 hs) (m - 1) m _ hm (by omega)
        have h4 : zs[i] ≤ zs[m - 1] := by
          by_cases e : i = m - 1
          · subst e; exact Int.le_refl _
          · exact (List.pairwise_iff_getElem.1 hs) i (m - 1) _ _ (by omega)
        have h6 : zs[m] ≠ zs[m - 1] := hk
        show zs[i] < zs[m]
        omega
    · rw [if_neg hk, List.append_nil]
      refine ⟨h1, fun x => ?_⟩
      rw [h2]
      have hk2 : ¬ (m = 0 ∨ zs.toArray[m]! ≠ zs.toArray[m - 1]!) := by simpa [Lib.keeps] using hk
      have hm1 : 0 < m := by
        rcases Nat.eq_zero_or_pos m with rfl | h0
        · exact absurd (.inl rfl) hk2
        · exact h0
      have he : zs.toArray[m]! = zs.toArray[m - 1]! := Decidable.byContradiction fun e => hk2 (.inr e)
      rw [getI hm, getI (by omega : m - 1 < zs.length)] at he
      have hin : zs[m] ∈ zs.take m := by
        rw [he, List.mem_iff_getElem]
        exact ⟨m - 1, by simp; omega, by simp⟩
      simp only [List.mem_append, List.mem_singleton]
      exact ⟨.inl, fun h => h.elim id fun e => e ▸ hin⟩
theorem whos_sorted (wd : Int) : (whos wd).Pairwise (· < ·) := by
  unfold whos
  rw [List.pairwise_map]
  exact List.pairwise_lt_range.imp fun h => by omega
/-- Who stands in a row of some lists. -/
def whoS (wd : Int) (T : List (List Int)) (row : Nat) : List Int := (whos wd).filter fun x => T.any fun a => a.getD row 0 == x
theorem whoF_eq {wd : Int} {T : List (List Int)} {row : Int} (hw : 0 ≤ wd) (hb : ∀ a ∈ T, -1 ≤ a.getD row.toNat 0 ∧ a.getD row.toNat 0 ≤ wd - 1) : whoF T row = whoS wd T row.toNat := by
  unfold whoF
  have hs : ((T.map fun a : List Int => a.getD row.toNat 0).mergeSort fun x y => decide (x ≤ y)).Pairwise (· ≤ ·) := by
    have := List.pairwise_mergeSort (le := fun x y : Int => decide (x ≤ y)) (fun a b c h1 h2 => by simp at *; omega) (fun a b => by simp; omega) (T.map fun a : List Int => a.getD row.toNat 0)
    exact this.imp fun h => by simpa using h
  obtain ⟨h1, h2⟩ := compact_inv hs _ (Nat.le_refl _)
  refine sorted_ext h1 ((whos_sorted wd).filter _) fun x => ?_
  rw [show Lib.compact ((T.map fun a : List Int => a.getD row.toNat 0).mergeSort fun x y => decide (x ≤ y)) = Lib.compactUpTo ((T.map fun a : List Int => a.getD row.toNat 0).mergeSort fun x y => decide (x ≤ y)).toArray ((T.map fun a : List Int => a.getD row.toNat 0).mergeSort fun x y => decide (x ≤ y)).length from rfl, h2, List.take_length, List.mem_mergeSort]
  unfold whoS
  simp only [List.mem_map, List.mem_filter, mem_whos hw, List.any_eq_true, beq_iff_eq]
  constructor
  · rintro ⟨a, ha, rfl⟩; exact ⟨hb a ha, a, ha, rfl⟩
  · rintro ⟨_, a, ha, e⟩; exact ⟨a, ha, e⟩
def f4 : Fld := ⟨4, 2, 0, 0, [⟨0, 0, 2, 2, 3⟩, ⟨1, 2, 3, 1, 2⟩]⟩
def f5 : Fld := ⟨4, 2, 0, 0, [⟨0, 0, 2, 2, 3⟩, ⟨1, 2, 3, 1, 2⟩, ⟨0, 0, 1, 2, 2⟩]⟩
def f6 : Fld := ⟨4, 2, 0, 0, [⟨0, 0, 2, 2, 3⟩, ⟨1, 2, 3, 1, 2⟩, ⟨1, 0, 1, 2, 2⟩]⟩
theorem who4 : whoF (truths f4 []) 3 = [0, 1] := by
  rw [whoF_eq (wd := 2) (by omega) (by decide +kernel)]
  decide +kernel
theorem awake_1000 : G_awake 1000 = some true := by
  unfold G_awake
  rw [bd (show G_four 1000 [] = some f4 from rfl), bd (show Q_Done 1000 f4 = some ([(2, 3), (1, 2)], 0) by decide +kernel), bd (show G_four 1000 [] = some f4 from rfl)]
  rw [bd (show Q_Who 1000 f4 3 = some ([0, 1], 0) by unfold Q_Who; rw [who4]; decide +kernel)]
  rw [bd (show G_two 1000 = some ⟨0, 0, 1, 2, 2⟩ from rfl), bd (show G_four 1000 [⟨0, 0, 1, 2, 2⟩] = some f5 from rfl), bd (show Q_Ask 1000 f5 0 = some ([2, 3], 0) by decide +kernel), bd (show G_four 1000 [] = some f4 from rfl)]
  rw [bd (show Q_Next 1000 f4 0 = some (0, 3, 0) by decide +kernel), bd (show G_wrong 1000 = some ⟨1, 0, 1, 2, 2⟩ from rfl), bd (show G_four 1000 [⟨1, 0, 1, 2, 2⟩] = some f6 from rfl), bd (show Q_First 1000 f6 = some (2, 0) by decide +kernel)]
  rw [bd (show G_wrong 1000 = some ⟨1, 0, 1, 2, 2⟩ from rfl), bd (show G_four 1000 [⟨1, 0, 1, 2, 2⟩] = some f6 from rfl), bd (show Q_Leave 1000 f6 = some ([0], 0) by decide +kernel)]
  decide +kernel
end Go.Proofs.Ythogdgkafaclaaa
end
section
namespace Go.Proofs.Ythogdgkafaclaaa
theorem l_same (l : List Int) (hl : l.length ≤ 900) : ∀ (n m i : Nat), l.length = i + n → n < m → G_same_L2 l l m (i : Int) = some (.inr ())
  | n, 0, i, h, hm => by omega
  | 0, m + 1, i, h, hm => by
    unfold G_same_L2
    rw [cf (df (by omega))]
  | n + 1, m + 1, i, h, hm => by
    unfold G_same_L2
    have hi : i < l.length := by omega
    have e : ((i : Int) + 1) = ((i + 1 : Nat) : Int) := by omega
    rw [ct (dt (by omega)), idxb hi, idxb hi, cf (by simp), i64b (by omega) (by omega), e, l_same l hl n m (i + 1) (by omega) (by omega)]
theorem g_same {K : Nat} (hK : 1000 ≤ K) {l : List Int} (hl : l.length ≤ 900) : G_same K l l = some true := by
  unfold G_same
  have := l_same l hl l.length K 0 (by omega) (by omega)
  rw [Int.natCast_zero] at this
  rw [cf (by simp), bd this]
  rfl
theorem askE_eq (f : Fld) (b : Bool) : askE f b = if check f = 0 ∧ b = false then 2 else sureE f := by
  cases b with
  | true => rw [askE_true, if_neg (by simp)]
  | false =>
    unfold askE sureE
    by_cases hc : check f = 0
    · rw [if_neg (by simp [hc]), if_pos rfl, if_pos ⟨hc, rfl⟩]
    · rw [if_pos hc, if_neg (by simp [hc]), if_pos hc]
theorem sureE_bad {f : Fld} (h : check f ≠ 0) : sureE f = check f := by unfold sureE; rw [if_pos h]
end Go.Proofs.Ythogdgkafaclaaa
end
section
namespace Go.Proofs.Ythogdgkafaclaaa
theorem g_list {K : Nat} {l : List Int} (hl : l.length ≤ 1000000) : G_list K l = some l := by
  unfold G_list
  rw [ifob (by simp; omega), List.nil_append]
end Go.Proofs.Ythogdgkafaclaaa
end
section
namespace Go.Proofs.Ythogdgkafaclaaa
/-- The places of the bits that are set. -/
def bitsL (s : Nat) : List Int := ((List.range 8).filter fun x => s / 2 ^ x % 2 == 1).map fun x : Nat => (x : Int)
def lexB : List Int → List Int → Bool
  | a :: as1, b :: bs1 => if a = b then lexB as1 bs1 else decide (a < b)
  | [], _ :: _ => true
  | _, [] => false
/-- Shorter, or as1 long and before it. -/
def sh (a b : List Int) : Bool := decide (a.length < b.length) || (a.length == b.length && lexB a b)
theorem lexB_irr : ∀ a : List Int, lexB a a = false
  | [] => rfl
  | a :: as1 => by rw [lexB, if_pos rfl, lexB_irr as1]
theorem lexB_trans : ∀ a b c : List Int, lexB a b = true → lexB b c = true → lexB a c = true
  | [], b, [], h1, h2 => by cases b <;> cases h1; cases h2
  | [], b, c :: cs1, h1, h2 => rfl
  | a :: as1, [], c, h1, h2 => by cases h1
  | a :: as1, b :: bs1, [], h1, h2 => by cases h2
  | a :: as1, b :: bs1, c :: cs1, h1, h2 => by
    rw [lexB] at h1 h2 ⊢
    by_cases e : a = b
    · subst e
      rw [if_pos rfl] at h1
      by_cases e2 : a = c
      · subst e2
        rw [if_pos rfl] at h2 ⊢
        exact lexB_trans as1 bs1 cs1 h1 h2
      · rw [if_neg e2] at h2 ⊢; exact h2
    · rw [if_neg e, decide_eq_true_eq] at h1
      by_cases e2 : b = c
      · subst e2
        rw [if_neg e, decide_eq_true_eq]; exact h1
      · rw [if_neg e2, decide_eq_true_eq] at h2
        rw [if_neg (by omega), decide_eq_true_eq]; omega
theorem sh_iff {a b : List Int} : sh a b = true ↔ a.length < b.length ∨ (a.length = b.length ∧ lexB a b = true) := by simp [sh]
theorem sh_irr (a : List Int) : sh a a = false := by
  rw [Bool.eq_false_iff]; intro h
  rcases sh_iff.1 h with h | h
  · omega
  · rw [lexB_irr] at h; cases h.2
theorem sh_trans {a b c : List Int} (h : sh a b = true) (g : sh b c = true) : sh a c = true := by
  rw [sh_iff] at h g ⊢
  rcases h with h | h <;> rcases g with g | g
  · exact .inl (by omega)
  · exact .inl (by omega)
  · exact .inl (by omega)
  · exact .inr ⟨by omega, lexB_trans _ _ _ h.2 g.2⟩
theorem l_Before (a b : List Int) (ha : a.length ≤ 900) (hb : b.length ≤ 900) : ∀ (n m i : Nat), a.length = i + n → i ≤ b.length → n < m →
    (G_Before_L1 a b m (i : Int)).bind (fun z => Sum.elim (fun q1 => some q1) (fun _ => some (decide ((a.length : Int) < (b.length : Int)))) z) = some (lexB (a.drop i) (b.drop i))
  | n, 0, i, h, _, hm => by omega
  | 0, m + 1, i, h, hib, hm => by
    unfold G_Before_L1
    rw [cf (df (by omega)), List.drop_eq_nil_of_le (by omega : a.length ≤ i)]
    show some _ = _
    by_cases e : i < b.length
    · rw [List.drop_eq_getElem_cons e, dt (by omega)]; rfl
    · rw [List.drop_eq_nil_of_le (by omega : b.length ≤ i), df (by omega)]; rfl
  | n + 1, m + 1, i, h, hib, hm => by
    unfold G_Before_L1
    have hi : i < a.length := by omega
    have e : ((i : Int) + 1) = ((i + 1 : Nat) : Int) := by omega
    rw [ct (dt (by omega)), List.drop_eq_getElem_cons hi]
    by_cases hj : i < b.length
    · rw [ct (dt (by omega)), idxb hi, idxb hj, List.drop_eq_getElem_cons hj, lexB]
      by_cases he : a[i] = b[i]
      · rw [if_pos he, cf (by simp [he]), i64b (by omega) (by omega), e]
        exact l_Before a b ha hb n m (i + 1) (by omega) (by omega) (by omega)
      · rw [if_neg he, ct (by simp [he]), idxb hi, idxb hj]
        rfl
    · rw [cf (df (by omega)), List.drop_eq_nil_of_le (by omega : b.length ≤ i)]
      show some _ = _
      rw [df (by omega)]; rfl
theorem g_Before {K : Nat} (hK : 1000 ≤ K) {a b : List Int} (ha : a.length ≤ 900) (hb : b.length ≤ 900) : G_Before K a b = some (lexB a b) := by
  unfold G_Before
  have := l_Before a b ha hb a.length K 0 (by omega) (by omega) (by omega)
  rw [Int.natCast_zero, List.drop_zero, List.drop_zero] at this
  exact this
theorem g_Shorter {K : Nat} (hK : 1000 ≤ K) {a b : List Int} (ha : a.length ≤ 900) (hb : b.length ≤ 900) : G_Shorter K a b = some (sh a b) := by
  unfold G_Shorter sh
  by_cases h : a.length < b.length
  · rw [ct (dt (by omega)), dt h]; rfl
  · rw [cf (df (by omega)), df h, Bool.false_or]
    by_cases h2 : a.length = b.length
    · rw [ct (by simp [h2]), bd (g_Before hK ha hb)]
      simp [h2]
    · rw [cf (by simp; omega)]
      simp [h2]
theorem bits_all : ∀ s : Nat, s < 256 → G_Bits 1000 (s : Int) = some (bitsL s) := by decide +kernel
theorem cand_in : ∀ n : Nat, n < 8 → ∀ s : Nat, s < 2 ^ n → bitsL s ∈ candAll (n : Int) (n + 1) := by decide +kernel
theorem cand_of : ∀ n : Nat, n < 8 → ∀ l ∈ candAll (n : Int) (n + 1), ∃ s : Nat, s < 2 ^ n ∧ bitsL s = l := by decide +kernel
theorem cand_sorted : ∀ n : Nat, n < 8 → (candAll (n : Int) (n + 1)).Pairwise fun a b => sh a b = true := by decide +kernel
theorem bits_len : ∀ s : Nat, (bitsL s).length ≤ 8 := fun s => by
  unfold bitsL
  rw [List.length_map]
  exact Nat.le_trans (List.length_filter_le _ _) (by simp)
theorem fnd_spec {p : List Int → Bool} : ∀ {L : List (List Int)} (cur : List Int), L.any p = true → ∃ A x B, L = A ++ x :: B ∧ p x = true ∧ (∀ a ∈ A, p a = false) ∧ fnd p cur L = x
  | [], cur, h => by cases h
  | c :: L, cur, h => by
    by_cases hc : p c = true
    · exact ⟨[], c, L, rfl, hc, by simp, by rw [fnd, if_pos hc]⟩
    · have hc' : p c = false := by simpa using hc
      rw [List.any_cons, hc', Bool.false_or] at h
      obtain ⟨A, x, B, h1, h2, h3, h4⟩ := fnd_spec c h
      refine ⟨c :: A, x, B, by rw [h1]; rfl, h2, ?_, by rw [fnd, if_neg hc]; exact h4⟩
      intro a ha
      rcases List.mem_cons.1 ha with rfl | ha
      · exact hc'
      · exact h3 a ha
/-- In turn, the reference takes a shorter list that passes. -/
def pickF (p : List Int → Bool) (cur : List Int) (s : Nat) : List Int := if (sh (bitsL s) cur && p (bitsL s)) = true then bitsL s else cur
theorem pick_inv {n : Nat} (hn : n < 8) {p : List Int → Bool} {c0 : List Int} (h0 : c0 ∈ candAll (n : Int) (n + 1)) (hp : p c0 = true) : ∀ k, k ≤ 2 ^ n →
    (List.range k).foldl (pickF p) c0 ∈ candAll (n : Int) (n + 1) ∧ p ((List.range k).foldl (pickF p) c0) = true ∧ ∀ s, s < k → p (bitsL s) = true → sh (bitsL s) ((List.range k).foldl (pickF p) c0) = false
  | 0, _ => ⟨h0, hp, fun s hs => by omega⟩
  | k + 1, hk => by
    obtain ⟨h1, h2, h3⟩ := pick_inv hn h0 hp k (by omega)
    rw [range_fold]
    generalize (List.range k).foldl (pickF p) c0 = cur at h1 h2 h3
    unfold pickF
    by_cases hc : (sh (bitsL k) cur && p (bitsL k)) = true
    · rw [if_pos hc]
      rw [Bool.and_eq_true] at hc
      refine ⟨cand_in n hn k (by omega), hc.2, fun s hs hps => ?_⟩
      rcases Nat.lt_or_ge s k with h | h
      · rw [Bool.eq_false_iff]
        intro hh
        have := h3 s h hps
        rw [sh_trans hh hc.1] at this
        cases this
      · obtain rfl : s = k := by omega
        exact sh_irr _
    · rw [if_neg hc]
      refine ⟨h1, h2, fun s hs hps => ?_⟩
      rcases Nat.lt_or_ge s k with h | h
      · exact h3 s h hps
      · obtain rfl : s = k := by omega
        rw [hps, Bool.and_true] at hc
        simpa using hc
theorem pick_fnd {n : Nat} (hn : n < 8) {p : List Int → Bool} {c0 : List Int} (h0 : c0 ∈ candAll (n : Int) (n + 1)) (hp : p c0 = true) (cur : List Int) : (List.range (2 ^ n)).foldl (pickF p) c0 = fnd p cur (candAll (n : Int) (n + 1)) := by
  obtain ⟨h1, h2, h3⟩ := pick_inv hn h0 hp (2 ^ n) (Nat.le_refl _)
  obtain ⟨A, x, B, g1, g2, g3, g4⟩ := fnd_spec (p := p) cur (List.any_eq_true.2 ⟨c0, h0, hp⟩)
  rw [g4]
  generalize (List.range (2 ^ n)).foldl (pickF p) c0 = c at h1 h2 h3
  have hs := cand_sorted n hn
  have hx : x ∈ candAll (n : Int) (n + 1) := by rw [g1]; simp
  obtain ⟨s, hs1, rfl⟩ := cand_of n hn x hx
  have h4 := h3 s hs1 g2
  rw [g1] at h1 hs
  rw [List.pairwise_append] at hs
  rcases List.mem_append.1 h1 with h | h
  · rw [g3 c h] at h2; cases h2
  · rcases List.mem_cons.1 h with h | h
    · exact h
    · have := (List.pairwise_cons.1 hs.2.1).1 c h
      rw [this] at h4; cases h4
theorem shortest_pick {n : Nat} (hn : n < 8) {p : List Int → Bool} {c0 : List Int} (h0 : c0 ∈ candAll (n : Int) (n + 1)) (hp : p c0 = true) : shortestL (n : Int) p = (List.range (2 ^ n)).foldl (pickF p) c0 := by
  unfold shortestL
  rw [show ((n : Int) + 1).toNat = n + 1 by omega, pick_fnd hn h0 hp]
end Go.Proofs.Ythogdgkafaclaaa
end
section
set_option linter.unusedVariables false
set_option linter.unusedSimpArgs false
namespace Go.Proofs.Ythogdgkafaclaaa
open Go.RowKit
def G_WeedAsks (K_ : Nat) (p0 : Fld) (p1 : Int) (p2 : List Int) : Option (Bool) :=
  (G_Thin K_ p0).bind fun r2 => cond (!r2) ((ifo (G_awake K_ = some true)).bind fun _ => some (true)) (cond (decide (9 < (p2.length : Int))) ((ifo (G_awake K_ = some true)).bind fun _ => some (true)) ((G_Field K_ p0).bind fun r12 => (Q_Ask K_ r12 p1).bind fun r14 => (G_Field K_ p0).bind fun r16 => (G_list K_ p2).bind fun r18 => (Q_ProveAsk K_ r16 p1 r18).bind fun r20 => (G_sure K_ p0).bind fun r22 => (G_fault K_ p0).bind fun r24 => cond (r24 == 0) ((i64 (p0.wd - 1)).bind fun _ => (G_In K_ p1 0 (p0.wd - 1)).bind fun r28 => cond (!r28) (cond (2 != 0) (cond (r14.2 == 2) (cond ((r14.1.length : Int) == 0) (cond (!r20) ((ifo (G_awake K_ = some true)).bind fun _ => some (true)) (some (false))) (some (false))) (some (false))) ((G_IsRows K_ p0 p2).bind fun r40 => cond (r40.2) ((G_Settles K_ r22.1 p1 r40.1).bind fun r43 => cond (r20 == r43) (cond (r14.2 == 0) ((G_Ask K_ p0 r22.1 p1).bind fun r47 => (G_same K_ r14.1 r47).bind fun r49 => cond (r49) ((ifo (G_awake K_ = some true)).bind fun _ => some (true)) (some (false))) (some (false))) (some (false))) (cond (r20 == false) (cond (r14.2 == 0) ((G_Ask K_ p0 r22.1 p1).bind fun r56 => (G_same K_ r14.1 r56).bind fun r58 => cond (r58) ((ifo (G_awake K_ = some true)).bind fun _ => some (true)) (some (false))) (some (false))) (some (false))))) (cond (r22.2 != 0) (cond (r14.2 == r22.2) (cond ((r14.1.length : Int) == 0) (cond (!r20) ((ifo (G_awake K_ = some true)).bind fun _ => some (true)) (some (false))) (some (false))) (some (false))) ((G_IsRows K_ p0 p2).bind fun r72 => cond (r72.2) ((G_Settles K_ r22.1 p1 r72.1).bind fun r75 => cond (r20 == r75) (cond (r14.2 == 0) ((G_Ask K_ p0 r22.1 p1).bind fun r79 => (G_same K_ r14.1 r79).bind fun r81 => cond (r81) ((ifo (G_awake K_ = some true)).bind fun _ => some (true)) (some (false))) (some (false))) (some (false))) (cond (r20 == false) (cond (r14.2 == 0) ((G_Ask K_ p0 r22.1 p1).bind fun r88 => (G_same K_ r14.1 r88).bind fun r90 => cond (r90) ((ifo (G_awake K_ = some true)).bind fun _ => some (true)) (some (false))) (some (false))) (some (false)))))) (cond (r22.2 != 0) (cond (r14.2 == r22.2) (cond ((r14.1.length : Int) == 0) (cond (!r20) ((ifo (G_awake K_ = some true)).bind fun _ => some (true)) (some (false))) (some (false))) (some (false))) ((G_IsRows K_ p0 p2).bind fun r103 => cond (r103.2) ((G_Settles K_ r22.1 p1 r103.1).bind fun r106 => cond (r20 == r106) (cond (r14.2 == 0) ((G_Ask K_ p0 r22.1 p1).bind fun r110 => (G_same K_ r14.1 r110).bind fun r112 => cond (r112) ((ifo (G_awake K_ = some true)).bind fun _ => some (true)) (some (false))) (some (false))) (some (false))) (cond (r20 == false) (cond (r14.2 == 0) ((G_Ask K_ p0 r22.1 p1).bind fun r119 => (G_same K_ r14.1 r119).bind fun r121 => cond (r121) ((ifo (G_awake K_ = some true)).bind fun _ => some (true)) (some (false))) (some (false))) (some (false)))))))
end Go.Proofs.Ythogdgkafaclaaa
end
section
namespace Go.Proofs.Ythogdgkafaclaaa
theorem cvU {β : Type} {f : Unit → Option β} {x : Nat} (h : x < 64) : (cvO .u64 (x : Int)).bind f = f () := bd (by
  have : ∀ x : Nat, x < 64 → cvO .u64 (x : Int) = some () := by decide +kernel
  exact this x h)
theorem shrb {β : Type} {f : Unit → Option β} {a : Int} {x : Nat} (h : x < 64) : (shrO a (x : Int)).bind f = f () := bd (if_pos ⟨by omega, by omega⟩)
theorem shr_nat (s x : Nat) : shrI (s : Int) (x : Int) = ((s / 2 ^ x : Nat) : Int) := by
  unfold shrI
  rw [show (x : Int).toNat = x by omega]
  simp
theorem shr_odd (s x : Nat) : shrI (s : Int) (x : Int) % 2 = ((s / 2 ^ x % 2 : Nat) : Int) := by rw [shr_nat]; simp
/-- Two lists say the same of the rows that are asked about. -/
def alike (s : Nat) (fr n : Nat) (a b : List Int) : Bool := (List.range' fr n).all fun x => s / 2 ^ x % 2 == 0 || a.getD x 0 == b.getD x 0
theorem gd {T : List (List Int)} {i : Nat} (h : i < T.length) : T[i] = T.getD i [] := by simp [List.getElem?_eq_getElem h]
theorem gd0 {l : List Int} {i : Nat} (h : i < l.length) : l[i] = l.getD i 0 := by simp [List.getElem?_eq_getElem h]
theorem l_S14 (T : List (List Int)) (s i j : Nat) (hi : i < T.length) (hj : j < T.length) {k : Nat} (hk : k ≤ 7) (hT : ∀ a ∈ T, a.length = k) : ∀ (n m x : Nat) (b : Bool), k = x + n → n < m →
    G_Settles_L14 T (s : Int) (i : Int) (j : Int) m b (x : Int) = some (b && alike s x n (T.getD i []) (T.getD j []))
  | n, 0, x, b, h, hm => by omega
  | 0, m + 1, x, b, h, hm => by
    unfold G_Settles_L14
    have hli := hT _ (List.getElem_mem hi)
    rw [idxb hi, cf (df (by omega))]
    simp [alike]
  | n + 1, m + 1, x, b, h, hm => by
    unfold G_Settles_L14
    have hli := hT _ (List.getElem_mem hi)
    have hlj := hT _ (List.getElem_mem hj)
    have e : ((x : Int) + 1) = ((x + 1 : Nat) : Int) := by omega
    rw [idxb hi, ct (dt (by omega))]
    cases b with
    | false => rfl
    | true =>
      have h0 : 0 ≤ shrI (s : Int) (x : Int) := by rw [shr_nat]; exact Int.natCast_nonneg _
      rw [ct rfl, cvU (by omega), shrb (by omega), remb h0 (by omega), shr_odd]
      have ha : alike s x (n + 1) (T.getD i []) (T.getD j []) = ((s / 2 ^ x % 2 == 0 || (T.getD i []).getD x 0 == (T.getD j []).getD x 0) && alike s (x + 1) n (T.getD i []) (T.getD j [])) := by
        unfold alike; rw [List.range'_succ, List.all_cons]
      rw [ha, Bool.true_and]
      by_cases hb : s / 2 ^ x % 2 = 0
      · rw [ct (by simp [hb]), i64b (by omega) (by omega), e, l_S14 T s i j hi hj hk hT n m (x + 1) true (by omega) (by omega)]
        simp [hb]
      · have hxi : x < T[i].length := by omega
        have hxj : x < T[j].length := by omega
        have hbi : (((s / 2 ^ x % 2 : Nat) : Int) == 0) = false := by rw [beq_eq_false_iff_ne]; exact fun hh => hb (Int.natCast_eq_zero.1 hh)
        rw [cf hbi, idxb hi, idxb hxi, idxb hj, idxb hxj, i64b (by omega) (by omega), e, l_S14 T s i j hi hj hk hT n m (x + 1) _ (by omega) (by omega), gd0 hxi, gd0 hxj, gd hi, gd hj]
        have : (s / 2 ^ x % 2 == 0) = false := by simp; omega
        rw [this, Bool.false_or]
/-- Two lists differ in somebody's number, and say the same. -/
def clash (T : List (List Int)) (who : Int) (s k i j : Nat) : Bool := ((part (T.getD i []) who 0 k : Nat) : Int) != ((part (T.getD j []) who 0 k : Nat) : Int) && alike s 0 k (T.getD i []) (T.getD j [])
theorem l_S3 {K : Nat} (hK : 1000 ≤ K) (T : List (List Int)) (who : Int) (s i : Nat) (hi : i < T.length) (hl : T.length ≤ 250) {k : Nat} (hk : k ≤ 7) (hT : ∀ a ∈ T, a.length = k) : ∀ (n m j : Nat), i = j + n → n < m →
    G_Settles_L3 K T who (s : Int) (i : Int) m (j : Int) = some (if (List.range' j n).any (clash T who s k i) = true then .inl false else .inr ())
  | n, 0, j, h, hm => by omega
  | 0, m + 1, j, h, hm => by
    unfold G_Settles_L3
    rw [cf (df (by omega))]
    rfl
  | n + 1, m + 1, j, h, hm => by
    unfold G_Settles_L3
    have hj : j < T.length := by omega
    have hli := hT _ (List.getElem_mem hi)
    have hlj := hT _ (List.getElem_mem hj)
    have e : ((j : Int) + 1) = ((j + 1 : Nat) : Int) := by omega
    have h14 := l_S14 T s i j hi hj hk hT k K 0 (((part T[i] who 0 k : Nat) : Int) != ((part T[j] who 0 k : Nat) : Int)) (by omega) (by omega)
    rw [Int.natCast_zero] at h14
    rw [ct (dt (by omega)), idxb hi, idxb hi, i64b (by omega) (by omega), bd (g_Did0 (n := k) (by omega) (by omega) (by omega) (by omega)), idxb hj, idxb hj, i64b (by omega) (by omega), bd (g_Did0 (n := k) (by omega) (by omega) (by omega) (by omega)), bd h14, List.range'_succ, List.any_cons]
    have hc : clash T who s k i j = (((part T[i] who 0 k : Nat) : Int) != ((part T[j] who 0 k : Nat) : Int) && alike s 0 k (T.getD i []) (T.getD j [])) := by rw [gd hi, gd hj]; rfl
    rw [← hc]
    cases hcl : clash T who s k i j with
    | true => rfl
    | false => rw [cf rfl, i64b (by omega) (by omega), e, l_S3 hK T who s i hi hl hk hT n m (j + 1) (by omega) (by omega), Bool.false_or]
theorem l_S1 {K : Nat} (hK : 1000 ≤ K) (T : List (List Int)) (who : Int) (s : Nat) (hl : T.length ≤ 250) {k : Nat} (hk : k ≤ 7) (hT : ∀ a ∈ T, a.length = k) : ∀ (n m i : Nat), T.length = i + n → n < m →
    G_Settles_L1 K T who (s : Int) m (i : Int) = some (if ((List.range' i n).any fun i => (List.range i).any (clash T who s k i)) = true then .inl false else .inr ())
  | n, 0, i, h, hm => by omega
  | 0, m + 1, i, h, hm => by
    unfold G_Settles_L1
    rw [cf (df (by omega))]
    rfl
  | n + 1, m + 1, i, h, hm => by
    unfold G_Settles_L1
    have hi : i < T.length := by omega
    have e : ((i : Int) + 1) = ((i + 1 : Nat) : Int) := by omega
    have h3 := l_S3 hK T who s i hi hl hk hT i K 0 (by omega) (by omega)
    rw [Int.natCast_zero, ← List.range_eq_range'] at h3
    rw [ct (dt (by omega)), bd h3, List.range'_succ, List.any_cons]
    by_cases hc : (List.range i).any (clash T who s k i) = true
    · rw [if_pos hc, if_pos (by rw [hc]; rfl)]
      rfl
    · have hc2 : (List.range i).any (clash T who s k i) = false := Bool.eq_false_iff.2 hc
      rw [if_neg hc, hc2, Bool.false_or, Sum.elim_inr, i64b (by omega) (by omega), e]
      exact l_S1 hK T who s hl hk hT n m (i + 1) (by omega) (by omega)
/-- The reference's word whether some rows settle somebody's number. -/
def setR (T : List (List Int)) (who : Int) (k s : Nat) : Bool := !((List.range T.length).any fun i => (List.range i).any (clash T who s k i))
theorem g_Settles {K : Nat} (hK : 1000 ≤ K) {T : List (List Int)} {who : Int} {s : Nat} (hl : T.length ≤ 250) {k : Nat} (hk : k ≤ 7) (hT : ∀ a ∈ T, a.length = k) : G_Settles K T who (s : Int) = some (setR T who k s) := by
  unfold G_Settles setR
  have := l_S1 hK T who s hl hk hT T.length K 0 (by omega) (by omega)
  rw [Int.natCast_zero, ← List.range_eq_range'] at this
  rw [bd this]
  cases (List.range T.length).any fun i => (List.range i).any (clash T who s k i) <;> rfl
theorem alike_iff {s k : Nat} {a b : List Int} : alike s 0 k a b = true ↔ ∀ x, x < k → s / 2 ^ x % 2 = 0 ∨ a.getD x 0 = b.getD x 0 := by
  unfold alike
  rw [← List.range_eq_range']
  simp [List.all_eq_true]
theorem alike_comm (s k : Nat) (a b : List Int) : alike s 0 k a b = alike s 0 k b a := by
  rw [Bool.eq_iff_iff, alike_iff, alike_iff]
  exact ⟨fun h x hx => (h x hx).imp id Eq.symm, fun h x hx => (h x hx).imp id Eq.symm⟩
theorem setR_iff {T : List (List Int)} {who : Int} {k s : Nat} : setR T who k s = true ↔ ∀ a ∈ T, ∀ b ∈ T, alike s 0 k a b = true → part a who 0 k = part b who 0 k := by
  unfold setR
  rw [Bool.not_eq_true', Bool.eq_false_iff]
  constructor
  · intro h a ha b hb hab
    refine Decidable.byContradiction fun hne => h ?_
    obtain ⟨i, hi, rfl⟩ := List.mem_iff_getElem.1 ha
    obtain ⟨j, hj, rfl⟩ := List.mem_iff_getElem.1 hb
    have hij : i ≠ j := by rintro rfl; exact hne rfl
    rw [List.any_eq_true]
    rcases Nat.lt_or_gt_of_ne hij with hlt | hlt
    · refine ⟨j, by simpa using hj, List.any_eq_true.2 ⟨i, by simpa using hlt, ?_⟩⟩
      unfold clash
      rw [← gd hi, ← gd hj, alike_comm, hab, Bool.and_true]
      simp only [bne_iff_ne, ne_eq]
      omega
    · refine ⟨i, by simpa using hi, List.any_eq_true.2 ⟨j, by simpa using hlt, ?_⟩⟩
      unfold clash
      rw [← gd hi, ← gd hj, hab, Bool.and_true]
      simp only [bne_iff_ne, ne_eq]
      omega
  · intro h hc
    rw [List.any_eq_true] at hc
    obtain ⟨i, hi, hc⟩ := hc
    rw [List.any_eq_true] at hc
    obtain ⟨j, hj, hc⟩ := hc
    have hi : i < T.length := by simpa using hi
    have hj : j < i := by simpa using hj
    unfold clash at hc
    rw [← gd hi, ← gd (by omega : j < T.length), Bool.and_eq_true] at hc
    have := h _ (List.getElem_mem hi) _ (List.getElem_mem (by omega : j < T.length)) hc.2
    simp [this] at hc
theorem foldl_set_get (a : List Int) (i : Nat) (hi : i < 7) : ∀ (l z : List Int), z.length = 7 → (l.foldl (fun key r => key.set r.toNat (a.getD r.toNat 0)) z).getD i 0 = if l.any (fun r => r.toNat == i) = true then a.getD i 0 else z.getD i 0
  | [], z, _ => rfl
  | r :: l, z, hz => by
    rw [List.foldl_cons, foldl_set_get a i hi l _ (by simpa using hz), List.any_cons]
    by_cases h : l.any (fun r => r.toNat == i) = true
    · rw [if_pos h, if_pos (by simp [h])]
    · rw [if_neg h]
      by_cases hr : r.toNat = i
      · rw [if_pos (by simp [hr]), hr, getD_set_eq (by omega)]
      · rw [if_neg (by simp [hr]; simpa using h), getD_set_ne2 (Ne.symm hr)]
theorem keyOf_get (rows a : List Int) {i : Nat} (hi : i < 7) : (keyOf rows a).getD i 0 = if rows.any (fun r => r.toNat == i) = true then a.getD i 0 else 0 := by
  unfold keyOf
  rw [foldl_set_get a i hi rows _ (by simp)]
  congr 1
  have : ∀ i, i < 7 → (List.replicate 7 (0 : Int)).getD i 0 = 0 := by decide
  exact this i hi
theorem keyOf_eq {rows a b : List Int} (h : ∀ r ∈ rows, 0 ≤ r ∧ r ≤ 6) : keyOf rows a = keyOf rows b ↔ ∀ r ∈ rows, a.getD r.toNat 0 = b.getD r.toNat 0 := by
  constructor
  · intro e r hr
    have hr7 := h r hr
    have h1 := keyOf_get rows a (i := r.toNat) (by omega)
    have h2 := keyOf_get rows b (i := r.toNat) (by omega)
    have ha : rows.any (fun x => x.toNat == r.toNat) = true := List.any_eq_true.2 ⟨r, hr, by simp⟩
    rw [if_pos ha] at h1 h2
    rw [← h1, ← h2, e]
  · intro e
    refine List.ext_getElem (by rw [keyOf_len, keyOf_len]) fun i h1 h2 => ?_
    have hi : i < 7 := by rw [keyOf_len] at h1; exact h1
    rw [gd0 h1, gd0 h2, keyOf_get rows a hi, keyOf_get rows b hi]
    by_cases hc : rows.any (fun r => r.toNat == i) = true
    · rw [if_pos hc, if_pos hc]
      obtain ⟨r, hr, hri⟩ := List.any_eq_true.1 hc
      have := e r hr
      have hri : r.toNat = i := by simpa using hri
      rw [hri] at this
      exact this
    · rw [if_neg hc, if_neg hc]
theorem mem_bits {s : Nat} {r : Int} : r ∈ bitsL s ↔ ∃ x : Nat, x < 8 ∧ s / 2 ^ x % 2 = 1 ∧ r = x := by
  unfold bitsL
  simp only [List.mem_map, List.mem_filter, List.mem_range, beq_iff_eq]
  constructor
  · rintro ⟨x, ⟨h1, h2⟩, rfl⟩; exact ⟨x, h1, h2, rfl⟩
  · rintro ⟨x, h1, h2, rfl⟩; exact ⟨x, ⟨h1, h2⟩, rfl⟩
theorem bit_lt {s x k : Nat} (hs : s < 2 ^ k) (h : s / 2 ^ x % 2 = 1) : x < k := by
  refine Decidable.byContradiction fun hx => ?_
  have : s < 2 ^ x := Nat.lt_of_lt_of_le hs (Nat.pow_le_pow_right (by omega) (by omega))
  rw [Nat.div_eq_of_lt this] at h
  cases h
/-- Both say the same. -/
theorem settles_refs {f : Fld} (hc : check f = 0) (who : Int) {s : Nat} (hs : s < 2 ^ f.rows.toNat) : settlesB f (truths f []) who (bitsL s) = setR (refs f) who f.rows.toNat s := by
  obtain ⟨hr2, hw, _⟩ := check_ok hc
  have hlen : ∀ l ∈ refs f, (l.length : Int) = f.rows := fun l hl => (tru_alw ((mem_refs hc).1 hl)).2.1
  have hb : ∀ r ∈ bitsL s, 0 ≤ r ∧ r ≤ 6 := fun r hr => by
    obtain ⟨x, _, h2, rfl⟩ := mem_bits.1 hr
    have := bit_lt hs h2
    omega
  have hal : ∀ a ∈ refs f, ∀ b ∈ refs f, (keyOf (bitsL s) (pad a) = keyOf (bitsL s) (pad b) ↔ alike s 0 f.rows.toNat a b = true) := fun a ha b hb2 => by
    have h1 := hlen a ha
    have h2 := hlen b hb2
    rw [keyOf_eq hb, alike_iff]
    constructor
    · intro h x hx
      rcases Nat.mod_two_eq_zero_or_one (s / 2 ^ x) with h0 | h0
      · exact .inl h0
      · have := h (x : Int) (mem_bits.2 ⟨x, by omega, h0, rfl⟩)
        rw [show (x : Int).toNat = x by omega] at this
        unfold pad at this
        rw [getD_app (by omega), getD_app (by omega)] at this
        exact .inr this
    · intro h r hr
      obtain ⟨x, _, h0, rfl⟩ := mem_bits.1 hr
      have hx := bit_lt hs h0
      rw [show (x : Int).toNat = x by omega]
      unfold pad
      rw [getD_app (by omega), getD_app (by omega)]
      rcases h x hx with h | h
      · omega
      · exact h
  have hpt : ∀ a ∈ refs f, cntr f (pad a) who = ((part a who 0 f.rows.toNat : Nat) : Int) := fun a ha => by
    have h1 := hlen a ha
    rw [cntr_pad h1, show a.length = f.rows.toNat by omega]
  rw [Bool.eq_iff_iff, settles_iff, setR_iff]
  constructor
  · intro h a ha b hb2 hab
    have := h (pad a) ((mem_truths hc).2 ⟨a, ha, rfl⟩) (pad b) ((mem_truths hc).2 ⟨b, hb2, rfl⟩) ((hal a ha b hb2).2 hab)
    rw [hpt a ha, hpt b hb2] at this
    omega
  · intro h a ha b hb2 hab
    obtain ⟨x, hx, rfl⟩ := (mem_truths hc).1 ha
    obtain ⟨y, hy, rfl⟩ := (mem_truths hc).1 hb2
    rw [hpt x hx, hpt y hy]
    have := h x hx y hy ((hal x hx y hy).1 hab)
    omega
end Go.Proofs.Ythogdgkafaclaaa
end
section
namespace Go.Proofs.Ythogdgkafaclaaa
theorem shl_two : ∀ r : Nat, r < 8 → shlO 1 (r : Int) = some () ∧ shlI 1 (r : Int) = ((2 ^ r : Nat) : Int) ∧ cvO .u64 (r : Int) = some () ∧ 2 ^ r ≤ 128 ∧ 1 ≤ 2 ^ r ∧ bitsL (2 ^ r - 1) ∈ candAll (r : Int) (r + 1) := by decide +kernel
theorem full_all : ∀ r : Nat, r < 8 → ∀ x : Nat, x < r → (2 ^ r - 1) / 2 ^ x % 2 = 1 := by decide +kernel
theorem l_Ask {f : Fld} (hc : check f = 0) (hm : many f ≤ 250) (who : Int) {r : Nat} (hr : f.rows = r) (p : List Int → Bool) (hp : ∀ s, s < 2 ^ r → p (bitsL s) = setR (refs f) who r s) : ∀ (n m i : Nat) (cur : List Int), 2 ^ r = i + n → n < m → cur.length ≤ 8 →
    G_Ask_L7 1000 f (refs f) who m cur (i : Int) = some ((List.range' i n).foldl (pickF p) cur)
  | n, 0, i, cur, h, hm, _ => by omega
  | 0, m + 1, i, cur, h, hm, hl => by
    obtain ⟨hr2, hw, _⟩ := check_ok hc
    obtain ⟨s1, s2, s3, s4, s5, s6⟩ := shl_two r (by omega)
    unfold G_Ask_L7
    rw [hr, bd s3, bd s1, s2, cf (df (by omega))]
    rfl
  | n + 1, m + 1, i, cur, h, hm2, hl => by
    obtain ⟨hr2, hw, _⟩ := check_ok hc
    obtain ⟨s1, s2, s3, s4, s5, s6⟩ := shl_two r (by omega)
    have e : ((i : Int) + 1) = ((i + 1 : Nat) : Int) := by omega
    have hrl := refs_len f hc
    have hT : ∀ a ∈ refs f, a.length = r := fun a ha => by
      have := (tru_alw ((mem_refs hc).1 ha)).2.1
      omega
    have hb := bits_len i
    unfold G_Ask_L7
    rw [hr, bd s3, bd s1, s2, ct (dt (by omega)), bd (bits_all i (by omega)), bd (g_Shorter (Nat.le_refl _) (by omega) (by omega)), List.range'_succ, List.foldl_cons]
    have hpi := hp i (by omega)
    cases h1 : sh (bitsL i) cur with
    | false =>
      have : pickF p cur i = cur := by unfold pickF; rw [h1, Bool.false_and, if_neg Bool.false_ne_true]
      rw [this, cf rfl, i64b (by omega) (by omega), e]
      exact l_Ask hc hm who hr p hp n m (i + 1) cur (by omega) (by omega) hl
    | true =>
      rw [ct rfl, bd (g_Settles (Nat.le_refl _) (by omega) (by omega) hT)]
      cases h2 : setR (refs f) who r i with
      | false =>
        have : pickF p cur i = cur := by unfold pickF; rw [h1, hpi, h2, Bool.and_false, if_neg Bool.false_ne_true]
        rw [this, cf rfl, i64b (by omega) (by omega), e]
        exact l_Ask hc hm who hr p hp n m (i + 1) cur (by omega) (by omega) hl
      | true =>
        have : pickF p cur i = bitsL i := by unfold pickF; rw [h1, hpi, h2, Bool.and_true, if_pos rfl]
        rw [this, ct rfl, i64b (by omega) (by omega), e]
        exact l_Ask hc hm who hr p hp n m (i + 1) _ (by omega) (by omega) hb
theorem settles_full {f : Fld} (hc : check f = 0) (who : Int) : setR (refs f) who f.rows.toNat (2 ^ f.rows.toNat - 1) = true := by
  obtain ⟨hr2, hw, _⟩ := check_ok hc
  rw [setR_iff]
  intro a ha b hb hab
  have h1 := (tru_alw ((mem_refs hc).1 ha)).2.1
  have h2 := (tru_alw ((mem_refs hc).1 hb)).2.1
  rw [alike_iff] at hab
  have : a = b := by
    refine List.ext_getElem (by omega) fun i g1 g2 => ?_
    rw [gd0 g1, gd0 g2]
    rcases hab i (by omega) with h | h
    · rw [full_all f.rows.toNat (by omega) i (by omega)] at h; cases h
    · exact h
  rw [this]
theorem g_Ask {f : Fld} (hc : check f = 0) (hm : many f ≤ 250) (who : Int) : G_Ask 1000 f (refs f) who = some (shortestL f.rows (fun rows => settlesB f (truths f []) who rows)) := by
  obtain ⟨hr2, hw, _⟩ := check_ok hc
  obtain ⟨r, hr⟩ : ∃ r : Nat, f.rows = r := ⟨f.rows.toNat, by omega⟩
  have hrt : f.rows.toNat = r := by omega
  obtain ⟨s1, s2, s3, s4, s5, s6⟩ := shl_two r (by omega)
  have hp : ∀ s, s < 2 ^ r → (fun rows => settlesB f (truths f []) who rows) (bitsL s) = setR (refs f) who r s := fun s hs => by
    have := settles_refs hc who (s := s) (by rw [hrt]; exact hs)
    rw [hrt] at this
    exact this
  have hl := l_Ask hc hm who hr _ hp (2 ^ r) 1000 0 (bitsL (2 ^ r - 1)) (by omega) (by omega) (bits_len _)
  rw [Int.natCast_zero, ← List.range_eq_range'] at hl
  have hfull := settles_full hc who
  rw [hrt] at hfull
  rw [← hp (2 ^ r - 1) (by omega)] at hfull
  have hsp := shortest_pick (n := r) (by omega) s6 hfull
  unfold G_Ask
  rw [hr, bd s3, bd s1, s2, i64b (by omega) (by omega)]
  have e : (((2 ^ r : Nat) : Int) - 1) = ((2 ^ r - 1 : Nat) : Int) := by omega
  rw [e, bd (bits_all _ (by omega)), bd hl, hsp]
end Go.Proofs.Ythogdgkafaclaaa
end
section
namespace Go.Proofs.Ythogdgkafaclaaa
theorem shortest_spec {n : Nat} (hn : n < 8) {p : List Int → Bool} {s0 : Nat} (h0 : s0 < 2 ^ n) (hp : p (bitsL s0) = true) :
    ∃ s, s < 2 ^ n ∧ shortestL (n : Int) p = bitsL s ∧ p (bitsL s) = true ∧ ∀ s', s' < 2 ^ n → p (bitsL s') = true → sh (bitsL s') (bitsL s) = false := by
  rw [shortest_pick hn (cand_in n hn s0 h0) hp]
  obtain ⟨h1, h2, h3⟩ := pick_inv hn (cand_in n hn s0 h0) hp (2 ^ n) (Nat.le_refl _)
  obtain ⟨s, hs, he⟩ := cand_of n hn _ h1
  refine ⟨s, hs, he.symm, ?_, fun s' hs' hp' => ?_⟩
  · rw [he]; exact h2
  · rw [he]; exact h3 s' hs' hp'
end Go.Proofs.Ythogdgkafaclaaa
end
section
namespace Go.Proofs.Ythogdgkafaclaaa
/-- By so many questions c can be known of what is in S; g says what is answered. -/
def Qn (c : List Int → Int) (g : List Int → Nat → Int) (R : Nat) : Nat → (List Int → Prop) → Prop
  | 0, S => ∀ a b, S a → S b → c a = c b
  | m + 1, S => (∀ a b, S a → S b → c a = c b) ∨ ∃ r, r < R ∧ ∀ v, Qn c g R m (fun a => S a ∧ g a r = v)
section
variable {c : List Int → Int} {g : List Int → Nat → Int} {R : Nat} {S S' : List Int → Prop}
theorem Qn_all (hc : ∀ a b, S a → S b → (∀ r, r < R → g a r = g b r) → c a = c b) : Qn c g R R S := by
  have key : ∀ (k : Nat), k ≤ R → ∀ (S : List Int → Prop), (∀ a b, S a → S b → (∀ r, r < R → g a r = g b r) → c a = c b) → (∀ a b, S a → S b → ∀ r, k ≤ r → r < R → g a r = g b r) → Qn c g R k S := by
    intro k
    induction k with
    | zero => exact fun _ S h1 h2 a b ha hb => h1 a b ha hb fun r hr => h2 a b ha hb r (Nat.zero_le _) hr
    | succ k ih =>
      intro hk S h1 h2
      refine .inr ⟨k, by omega, fun v => ih (by omega) _ (fun a b ha hb => h1 a b ha.1 hb.1) fun a b ha hb r hr1 hr2 => ?_⟩
      rcases Nat.lt_or_ge k r with h | h
      · exact h2 a b ha.1 hb.1 r h hr2
      · obtain rfl : r = k := by omega
        rw [ha.2, hb.2]
  exact key R (Nat.le_refl _) S hc fun a b _ _ r h1 h2 => by omega
end
end Go.Proofs.Ythogdgkafaclaaa
end
section
namespace Go.Proofs.Ythogdgkafaclaaa
theorem bitb {β : Type} {f : Unit → Option β} {a b : Nat} (ha : a < 1000000) (hb : b < 1000000) : (bitO (a : Int) (b : Int)).bind f = f () := bd (if_pos ⟨⟨by omega, by omega⟩, by omega, by omega⟩)
theorem orN (a b : Nat) : orI (a : Int) (b : Int) = ((a ||| b : Nat) : Int) := by unfold orI; rw [Int.toNat_natCast, Int.toNat_natCast]
theorem tb (s i : Nat) : (s / 2 ^ i % 2 == 1) = s.testBit i := by rw [Nat.testBit_eq_decide_div_mod_eq]; rfl
theorem shl_all : ∀ r : Nat, r < 8 → shlO 1 (r : Int) = some () ∧ shlI 1 (r : Int) = ((2 ^ r : Nat) : Int) ∧ shlO 2 (r : Int) = some () ∧ shlI 2 (r : Int) - 1 = ((2 ^ (r + 1) - 1 : Nat) : Int) ∧ 2 ^ r ≤ 128 ∧ 2 ^ (r + 1) ≤ 256 ∧ 1 ≤ 2 ^ r := by decide +kernel
/-- All lists, by their numbers. -/
def lists (f : Fld) : List (List Int) := (List.range (many f).toNat).map fun i : Nat => nthL (f.wd + 1) f.rows.toNat (i : Int)
end Go.Proofs.Ythogdgkafaclaaa
end
section
namespace Go.Proofs.Ythogdgkafaclaaa
/-- The reference's lists: their numbers, and what they say. -/
abbrev cR (who : Int) : List Int → Int := fun a => ((part a who 0 a.length : Nat) : Int)
abbrev gR : List Int → Nat → Int := fun a r => a.getD r 0
section
variable {f : Fld} {T : List (List Int)} {who : Int}
/-- What the lists at hand are. -/
def OkT (f : Fld) (T : List (List Int)) : Prop := T.length ≤ 250 ∧ ∀ a ∈ T, (a.length : Int) = f.rows ∧ ∀ r, r < f.rows.toNat → -1 ≤ a.getD r 0 ∧ a.getD r 0 ≤ f.wd - 1
theorem cR_ext {a b : List Int} (ha : (a.length : Int) = f.rows) (hb : (b.length : Int) = f.rows) (h : ∀ r, r < f.rows.toNat → gR a r = gR b r) : cR who a = cR who b := by
  have : a = b := by
    refine List.ext_getElem (by omega) fun i h1 h2 => ?_
    rw [gd0 h1, gd0 h2]; exact h i (by omega)
  rw [this]
theorem OkT.all (h : OkT f T) : Qn (cR who) gR f.rows.toNat f.rows.toNat (· ∈ T) := Qn_all fun a b ha hb hh => cR_ext (h.2 a ha).1 (h.2 b hb).1 hh
end
end Go.Proofs.Ythogdgkafaclaaa
end
section
namespace Go.Proofs.Ythogdgkafaclaaa
/-- The bits of some rows. -/
def orL (l : List Int) : Nat := l.foldl (fun s x => s ||| 2 ^ x.toNat) 0
theorem orL_bit : ∀ (l : List Int) (z x : Nat), (l.foldl (fun s x => s ||| 2 ^ x.toNat) z).testBit x = (z.testBit x || l.any fun r => r.toNat == x)
  | [], z, x => by simp
  | r :: l, z, x => by
    rw [List.foldl_cons, orL_bit l, Nat.testBit_or, Nat.testBit_two_pow, List.any_cons, Bool.or_assoc]
    congr 2
theorem orL_lt {k : Nat} : ∀ (l : List Int) (z : Nat), z < 2 ^ k → (∀ x ∈ l, x.toNat < k) → l.foldl (fun s x => s ||| 2 ^ x.toNat) z < 2 ^ k
  | [], z, h, _ => h
  | r :: l, z, h, hl => by
    rw [List.foldl_cons]
    exact orL_lt l _ (Nat.or_lt_two_pow h (Nat.pow_lt_pow_right (by omega) (hl r (List.mem_cons_self ..)))) fun x hx => hl x (List.mem_cons_of_mem _ hx)
theorem inc_iff {f : Fld} {l : List Int} : incB f l = true ↔ (∀ x ∈ l, 0 ≤ x ∧ x ≤ f.rows - 1) ∧ l.Pairwise (· < ·) := by
  constructor
  · intro h
    refine ⟨incB_rows h, ?_⟩
    have key : ∀ i j, i < j → (hj : j < l.length) → l.getD i 0 < l.getD j 0 := by
      intro i j hij
      induction j with
      | zero => omega
      | succ j ih =>
        intro hj
        have h1 := incB_iff.1 h (j + 1) hj
        unfold okRow at h1
        rw [Bool.and_eq_true, Bool.or_eq_true, decide_eq_true_eq, decide_eq_true_eq] at h1
        have h2 : l.getD j 0 < l.getD (j + 1) 0 := by
          rcases h1.2 with h3 | h3
          · omega
          · simpa using h3
        rcases Nat.lt_or_ge i j with h3 | h3
        · have := ih h3 (by omega); omega
        · obtain rfl : i = j := by omega
          exact h2
    rw [List.pairwise_iff_getElem]
    intro i j hi hj hij
    rw [gd0 hi, gd0 hj]; exact key i j hij hj
  · rintro ⟨h1, h2⟩
    rw [incB_iff]
    intro i hi
    unfold okRow
    rw [Bool.and_eq_true, Bool.or_eq_true, decide_eq_true_eq, decide_eq_true_eq, inR_iff, ← gd0 hi]
    refine ⟨h1 _ (List.getElem_mem hi), ?_⟩
    cases i with
    | zero => exact .inl rfl
    | succ i =>
      refine .inr ?_
      rw [Nat.add_sub_cancel, ← gd0 (by omega)]
      exact (List.pairwise_iff_getElem.1 h2) i (i + 1) (by omega) hi (by omega)
theorem bitsL_sorted (s : Nat) : (bitsL s).Pairwise (· < ·) := by
  unfold bitsL
  rw [List.pairwise_map]
  exact (List.pairwise_lt_range.filter _).imp fun h => by omega
theorem bits_orL {k : Nat} (hk : k ≤ 8) {l : List Int} (h1 : ∀ x ∈ l, 0 ≤ x ∧ x ≤ (k : Int) - 1) (h2 : l.Pairwise (· < ·)) : bitsL (orL l) = l ∧ orL l < 2 ^ k := by
  refine ⟨sorted_ext (bitsL_sorted _) h2 fun x => ?_, orL_lt l 0 Nat.one_le_two_pow fun x hx => by have := h1 x hx; omega⟩
  rw [mem_bits]
  constructor
  · rintro ⟨y, hy, hb, rfl⟩
    have hb2 : (orL l).testBit y = true := by rw [← tb]; simpa using hb
    unfold orL at hb2
    rw [orL_bit, Nat.zero_testBit, Bool.false_or, List.any_eq_true] at hb2
    obtain ⟨r, hr, he⟩ := hb2
    have := h1 r hr
    rw [beq_iff_eq] at he
    rw [show (y : Int) = r by omega]; exact hr
  · intro hx
    have := h1 x hx
    refine ⟨x.toNat, by omega, ?_, by omega⟩
    have : (orL l).testBit x.toNat = true := by
      unfold orL
      rw [orL_bit, List.any_eq_true.2 ⟨x, hx, by simp⟩, Bool.or_true]
    rw [← tb] at this; simpa using this
theorem orL_take (l : List Int) {i : Nat} (hi : i < l.length) : orL (l.take (i + 1)) = orL (l.take i) ||| 2 ^ (l.getD i 0).toNat := by
  unfold orL
  rw [List.take_succ_eq_append_getElem hi, List.foldl_append, gd0 hi]; rfl
theorem l_IsRows {f : Fld} (hr : 1 ≤ f.rows ∧ f.rows ≤ 7) (l : List Int) (hl : l.length ≤ 900) : ∀ (n m i : Nat), l.length = i + n → n < m → (∀ j, j < i → okRow f l j = true) →
    G_IsRows_L2 1000 f l m ((orL (l.take i) : Nat) : Int) (i : Int) = some (if incB f l = true then .inr ((orL l : Nat) : Int) else .inl (0, false))
  | n, 0, i, h, hm, _ => by omega
  | 0, m + 1, i, h, hm, hok => by
    unfold G_IsRows_L2
    rw [cf (df (by omega)), List.take_of_length_le (by omega), if_pos (incB_iff.2 fun j hj => hok j (by omega))]
  | n + 1, m + 1, i, h, hm, hok => by
    unfold G_IsRows_L2
    have hi : i < l.length := by omega
    have e : ((i : Int) + 1) = ((i + 1 : Nat) : Int) := by omega
    have hbad : okRow f l i = false → ¬ incB f l = true := fun hb hh => by rw [incB_iff.1 hh i hi] at hb; cases hb
    have hlt7 : orL (l.take i) < 2 ^ 7 := orL_lt _ 0 (by decide) fun x hx => by
      obtain ⟨j, hj, rfl⟩ := List.mem_iff_getElem.1 hx
      rw [List.length_take] at hj
      have hjl : j < l.length := by omega
      have := hok j (by omega)
      unfold okRow at this
      rw [Bool.and_eq_true, inR_iff, ← gd0 hjl] at this
      rw [List.getElem_take]
      omega
    rw [ct (dt (by omega)), idxb hi, i64b (by omega) (by omega), bd (g_In ..)]
    cases h1 : inR l[i] 0 (f.rows - 1) with
    | false =>
      have : okRow f l i = false := by unfold okRow; rw [← gd0 hi, h1]; rfl
      rw [nf, if_neg (hbad this)]
    | true =>
      have hin := inR_iff.1 h1
      obtain ⟨x, hx⟩ : ∃ x : Nat, l[i] = x := ⟨l[i].toNat, by omega⟩
      have hgx : l.getD i 0 = x := by rw [← gd0 hi]; exact hx
      have hx7 : x < 7 := by omega
      obtain ⟨s1, s2, _, _, s5, _⟩ := shl_all x (by omega)
      have hor : orL (l.take i) ||| 2 ^ x = orL (l.take (i + 1)) := by rw [orL_take l hi, hgx]; simp
      rw [nt]
      by_cases h0 : i = 0
      · subst h0
        have hok0 : okRow f l 0 = true := by unfold okRow; rw [← gd0 hi, h1]; rfl
        rw [cf (by decide), idxb hi, hx, cvU (by omega), bd s1, s2, bitb (by omega) (by omega), i64b (by omega) (by omega), e, orN, hor]
        refine l_IsRows hr l hl n m (0 + 1) (by omega) (by omega) fun j hj => ?_
        obtain rfl : j = 0 := by omega
        exact hok0
      · have e2 : (i : Int) - 1 = ((i - 1 : Nat) : Int) := by omega
        rw [ct (dt (by omega)), idxb hi, i64b (by omega) (by omega), e2, idxb (by omega : i - 1 < l.length)]
        by_cases h3 : l[i] ≤ l[i - 1]
        · have : okRow f l i = false := by
            unfold okRow
            rw [← gd0 hi, ← gd0 (by omega : i - 1 < l.length), h1, df h0, df (by omega)]; rfl
          rw [ct (dt h3), if_neg (hbad this)]
        · have hoki : okRow f l i = true := by
            unfold okRow
            rw [← gd0 hi, ← gd0 (by omega : i - 1 < l.length), h1, dt (by omega : l[i - 1] < l[i]), Bool.or_true]; rfl
          rw [cf (df h3), idxb hi, hx, cvU (by omega), bd s1, s2, bitb (by omega) (by omega), i64b (by omega) (by omega), e, orN, hor]
          refine l_IsRows hr l hl n m (i + 1) (by omega) (by omega) fun j hj => ?_
          rcases Nat.lt_or_ge j i with h4 | h4
          · exact hok j h4
          · obtain rfl : j = i := by omega
            exact hoki
theorem g_IsRows {f : Fld} (hr : 1 ≤ f.rows ∧ f.rows ≤ 7) {l : List Int} (hl : l.length ≤ 900) : G_IsRows 1000 f l = some (if incB f l = true then (((orL l : Nat) : Int), true) else (0, false)) := by
  unfold G_IsRows
  have := l_IsRows hr l hl l.length 1000 0 (by omega) (by omega) (fun j hj => by omega)
  rw [Int.natCast_zero, List.take_zero] at this
  have e : ((orL [] : Nat) : Int) = 0 := rfl
  rw [e] at this
  rw [bd this]
  by_cases h : incB f l = true
  · rw [if_pos h, if_pos h]; rfl
  · rw [if_neg h, if_neg h]; rfl
/-- The fewest rows. -/
def askL (f : Fld) (n : Int) : List Int := shortestL f.rows (fun rows => settlesB f (truths f []) n rows)
theorem ask_spec {f : Fld} (hc : check f = 0) (n : Int) : ∃ s, s < 2 ^ f.rows.toNat ∧ askL f n = bitsL s ∧ setR (refs f) n f.rows.toNat s = true ∧ ∀ s', s' < 2 ^ f.rows.toNat → setR (refs f) n f.rows.toNat s' = true → sh (bitsL s') (bitsL s) = false := by
  obtain ⟨hr, hw, _⟩ := check_ok hc
  have h1 := settles_full hc n
  have h2 : 1 ≤ 2 ^ f.rows.toNat := Nat.one_le_two_pow
  rw [← settles_refs hc n (by omega)] at h1
  obtain ⟨s, hs, e, hp, hmin⟩ := shortest_spec (n := f.rows.toNat) (by omega) (p := fun rows => settlesB f (truths f []) n rows) (s0 := 2 ^ f.rows.toNat - 1) (by omega) h1
  refine ⟨s, hs, ?_, by rw [← settles_refs hc n hs]; exact hp, fun s' hs' hp' => hmin s' hs' (by rw [← settles_refs hc n hs'] at hp'; exact hp')⟩
  unfold askL
  rw [show f.rows = (f.rows.toNat : Int) by omega]; exact e
theorem askL_len {f : Fld} (hc : check f = 0) (n : Int) : (askL f n).length ≤ 8 := by
  obtain ⟨s, _, e, _⟩ := ask_spec hc n
  rw [e]; exact bits_len s
theorem q_Ask (K : Nat) (f : Fld) (n : Int) : Q_Ask K f n = some (if askE f (whoB f n) = 0 then (askL f n, 0) else ([], askE f (whoB f n))) := rfl
theorem g_Ask2 {f : Fld} (hc : check f = 0) (hm : many f ≤ 250) (who : Int) : G_Ask 1000 f (refs f) who = some (askL f who) := g_Ask hc hm who
/-- Whether rows settle, for both. -/
theorem prove_settles {f : Fld} (hc : check f = 0) (n : Int) {l : List Int} (hi : incB f l = true) : settlesB f (truths f []) n l = setR (refs f) n f.rows.toNat (orL l) := by
  obtain ⟨hr, hw, _⟩ := check_ok hc
  obtain ⟨h1, h2⟩ := inc_iff.1 hi
  obtain ⟨h3, h4⟩ := bits_orL (k := f.rows.toNat) (by omega) (fun x hx => by have := h1 x hx; omega) h2
  rw [← settles_refs hc n h4, h3]
theorem settles_g {f : Fld} (hc : check f = 0) (hm : many f ≤ 250) (who : Int) (s : Nat) : G_Settles 1000 (refs f) who (s : Int) = some (setR (refs f) who f.rows.toNat s) := by
  obtain ⟨hr, hw, _⟩ := check_ok hc
  have := refs_len f hc
  exact g_Settles (Nat.le_refl _) (by omega) (k := f.rows.toNat) (by omega) fun a ha => by
    have := (tru_alw ((mem_refs hc).1 ha)).2.1
    omega
theorem weedAsks_plain (f : Fld) (n : Int) (rows : List Int) : G_WeedAsks 1000 f n rows = some true := by
  unfold G_WeedAsks
  rw [bd (g_Thin (Nat.le_refl _))]
  cases ht : thin f with
  | false => rw [nf, ifob awake_1000]
  | true =>
    rw [nt]
    by_cases h9 : 9 < (rows.length : Int)
    · rw [ct (dt h9), ifob awake_1000]
    · rw [cf (df h9), bd (g_Field (Nat.le_refl _) (thin_len ht)), bd (q_Ask 1000 f n), bd (g_Field (Nat.le_refl _) (thin_len ht)), bd (g_list (by omega))]
      unfold Q_ProveAsk whoB
      rw [ifob (by omega), Option.bind_some, bd (g_sure (Nat.le_refl _) ht), bd (g_fault (Nat.le_refl _))]
      by_cases hc : check f = 0
      · obtain ⟨hr, hw, _⟩ := check_ok hc
        have hmany := thin_many ht hc
        rw [ct (by simp [hc]), i64b (by omega) (by omega), bd (g_In ..)]
        cases hi : inR n 0 (f.wd - 1) with
        | false =>
          have ha : askE f false = 2 := by rw [askE_eq, if_pos ⟨hc, rfl⟩]
          rw [nf, ct (by decide), ha, if_neg (by decide), ct (by decide), ct (by decide), ct (by simp), ifob awake_1000]
        | true =>
          rw [nt, askE_true]
          by_cases hs : sureE f = 0
          · simp only [if_pos hs]
            rw [cf (by simp [hs]), bd (g_IsRows hr (by omega)), hs]
            by_cases hinc : incB f rows = true
            · rw [if_pos hinc, ct rfl, bd (settles_g hc hmany n _), hinc, prove_settles hc n hinc, ct (by simp), ct (by simp), bd (g_Ask2 hc hmany n), bd (g_same (l := askL f n) (Nat.le_refl _) (Nat.le_trans (askL_len hc n) (by decide))), ct rfl, ifob awake_1000]
            · rw [if_neg hinc, cf rfl, ct (by simp [Bool.eq_false_iff.2 hinc]), ct (by simp), bd (g_Ask2 hc hmany n), bd (g_same (l := askL f n) (Nat.le_refl _) (Nat.le_trans (askL_len hc n) (by decide))), ct rfl, ifob awake_1000]
          · simp only [if_neg hs]
            rw [ct (by simp [hs]), ct (by simp), ct (by simp), ct (by simp [hs]), ifob awake_1000]
      · have ha : ∀ b, askE f b = check f := fun b => by rw [askE_eq, if_neg (by simp [hc]), sureE_bad hc]
        rw [cf (by simp [hc])]
        simp only [ha, sureE_bad hc, if_neg hc]
        rw [ct (by simp [hc]), ct (by simp), ct (by simp), ct (by simp [hc]), ifob awake_1000]
theorem weedAsks_true (f : Fld) (n : Int) (rows : List Int) : ∃ K, G_WeedAsks K f n rows = some true := ⟨1000, weedAsks_plain f n rows⟩
end Go.Proofs.Ythogdgkafaclaaa
end
section
set_option linter.unusedVariables false
set_option linter.unusedSimpArgs false
namespace Go.Proofs.Ythogdgkafaclaaa
open Go.RowKit
open AF
attribute [local irreducible] Ex1 WL CC CW LV Ret ObOp Agg One Own
theorem a17 (K_ : Nat) (p0 : Fld) (p1 : Int) (p2 : List Int) (A0_0 : Option Addr) (c0_0 : Nat) (A2_0 : Option Addr) (c2_0 : Nat) (Z : Nat → Prop) (w : World) (hS0_0 : Sl eTly w Z A0_0 c0_0 p0.ts) (hS2_0 : Sl (eInt .i64) w Z A2_0 c2_0 p2) (hG : G_WeedAsks K_ p0 p1 p2 = some true) :
    Ret Try.prog 17 #[.agg #[I p0.rows, I p0.wd, I p0.lo, I p0.hi, .slice A0_0 p0.ts.length c0_0], I p1, .slice A2_0 p2.length c2_0] w (fun v w' => Ext w w' ∧ v = .bool true) := by
 unfold G_WeedAsks at hG
 refine ret_of_cc (N := 99) Try.func17 rfl rfl (by simp) ?_
 intro fr0 ha hdf
 have hp_0 := sl_arg (i := 0) (v := .agg #[I p0.rows, I p0.wd, I p0.lo, I p0.hi, .slice A0_0 p0.ts.length c0_0]) ha rfl
 have hp_1 := sl_arg (i := 1) (v := I p1) ha rfl
 have hp_2 := sl_arg (i := 2) (v := .slice A2_0 p2.length c2_0) ha rfl
 clear ha
 have hp0 := Hp.refl w
 have hS0_0_0 := hS0_0.mv (mv_start w)
 have hS2_0_0 := hS2_0.mv (mv_start w)
 refine cc_seq <| cc_region <| we rfl (fun st => x_box (v := .agg #[I p0.rows, I p0.wd, I p0.lo, I p0.hi, .slice A0_0 p0.ts.length c0_0]) (cs := #[I p0.rows, I p0.wd, I p0.lo, I p0.hi, .slice A0_0 p0.ts.length c0_0]) (ee st hp_0) rfl) ?_
 rintro _ w1 ⟨b1, rfl, nb1⟩
 have hp1 : Hp w [some b1] w1 := hp0.new nb1.gr (Nat.le_of_eq nb1.b_eq.symm) (Nat.lt_of_lt_of_eq (Nat.lt_succ_self _) nb1.sz.symm)
 refine wa rfl (v := .bool false) rfl <| wl_end <| lv_next <| cc_seq <| cc_seq <| cc_region <| wd rfl (fun st => x_loadn (l := [I p0.rows, I p0.wd, I p0.lo, I p0.hi, .slice A0_0 p0.ts.length c0_0]) agg_26 (ee st rfl) nb1.bk rfl rfl) ?_
 have hS0_0_1 : Sl eTly w1 (ZZ Z w.heap.size [some b1]) A0_0 c0_0 p0.ts := (hS0_0_0.mv (mv_new nb1.gr (Nat.le_of_eq nb1.b_eq.symm)))
 replace hG := bind_some hG; obtain ⟨r2, hr2, hG⟩ := hG
 refine we rfl (fun st => x_call0 own_20 (ee st rfl) (am1 (ee st rfl)) (a20 K_ p0 A0_0 c0_0 ZA _ hS0_0_1.all r2 hr2)) ?_
 rintro _ w3 ⟨hx2, rfl⟩
 have hp2 : Hp w [some b1] w3 := hp1.ext hx2
 refine wd rfl (fun st => x_not (ee st rfl)) <| wm rfl (v := .bool !r2) rfl ?_
 rcases bool_cases (!r2) with hc4 | hc4
 ·replace hG := cond_t hG hc4
  have hc4_5 : r2 = false := by simpa using hc4
  refine wl_skip (c := true) rfl rfl (guard_eq rfl hc4) (by decide) rfl (by decide) <| wl_skip (c := true) rfl rfl (guard_eq rfl hc4) (by decide) rfl (by decide) <| wl_skip (c := true) rfl rfl (guard_eq rfl hc4) (by decide) rfl (by decide) <| wd rfl (fun st => x_pick_t (v := .bool true) (ee st rfl) hc4 (ee st rfl)) <| wl_end <| lv_next <| cc_cond_t rfl rfl <| cc_seq <| cc_region ?_
  replace hG := ifo_bind hG; obtain ⟨hw6, hG⟩ := hG
  refine we rfl (fun st => x_call0 own_21 (ee st rfl) am0 (a21 K_ ZA _ hw6)) ?_
  rintro _ w7 ⟨hx6, rfl⟩
  have hp3 : Hp w [some b1] w7 := hp2.ext hx6
  refine wa rfl (v := .bool true) rfl <| wl_end <| lv_next <| cc_ret <| lv_then_ret ?_
  have hr_ := Option.some.inj hG
  refine lv_ret1 rfl rfl ?_
  exact ⟨hp3.fin, congrArg Value.bool hr_⟩
 ·replace hG := cond_f hG hc4
  have hc4_8 : r2 = true := by simpa using hc4
  refine wl_detg rfl rfl (guard_eq rfl hc4) rfl (by decide) (fun st => x_move (v := .slice A2_0 p2.length c2_0) (ee st hp_2)) <| wl_detg rfl rfl (guard_eq rfl hc4) rfl (by decide) (fun st => x_len Try.underlying43 (ee st rfl)) <| wl_detg rfl rfl (guard_eq rfl hc4) rfl (by decide) (fun st => x_gtr (ee st rfl) (ee st rfl)) <| wd rfl (fun st => x_pick_f (v := .bool (decide (9 < (p2.length : Int)))) (ee st rfl) hc4 (ee st rfl)) <| wl_end <| lv_next ?_
  rcases bool_cases (decide (9 < (p2.length : Int))) with hc9 | hc9
  ·replace hG := cond_t hG hc9
   refine cc_cond_t rfl hc9 <| cc_seq <| cc_region ?_
   replace hG := ifo_bind hG; obtain ⟨hw10, hG⟩ := hG
   refine we rfl (fun st => x_call0 own_21 (ee st rfl) am0 (a21 K_ ZA _ hw10)) ?_
   rintro _ w11 ⟨hx10, rfl⟩
   have hp4 : Hp w [some b1] w11 := hp2.ext hx10
   refine wa rfl (v := .bool true) rfl <| wl_end <| lv_next <| cc_ret <| lv_then_ret ?_
   have hr_ := Option.some.inj hG
   refine lv_ret1 rfl rfl ?_
   exact ⟨hp4.fin, congrArg Value.bool hr_⟩
  ·replace hG := cond_f hG hc9
   refine cc_cond_f rfl hc9 <| cc_skip <| lv_next <| cc_seq <| cc_region ?_
   have bk1_2 : Bk w3 b1 26 #[I p0.rows, I p0.wd, I p0.lo, I p0.hi, .slice A0_0 p0.ts.length c0_0] := (nb1.bk.ext hx2)
   refine wd rfl (fun st => x_loadn (l := [I p0.rows, I p0.wd, I p0.lo, I p0.hi, .slice A0_0 p0.ts.length c0_0]) agg_26 (ee st rfl) bk1_2 rfl rfl) ?_
   have hS0_0_2 : Sl eTly w3 (ZZ Z w.heap.size [some b1]) A0_0 c0_0 p0.ts := (hS0_0_1.mv (mv_ext hx2))
   replace hG := bind_some hG; obtain ⟨r12, hr12, hG⟩ := hG
   refine we rfl (fun st => x_call0 own_23 (ee st rfl) (am1 (ee st rfl)) (a23 K_ p0 A0_0 c0_0 (ZZ Z w.heap.size [some b1]) _ hS0_0_2 r12 hr12)) ?_
   rintro _ w13 ⟨hx12, ⟨_, rfl, ⟨A12_r0, c12_r0, rfl, hS12_r0⟩⟩⟩
   have hp5 : Hp w [some b1] w13 := hp2.ext hx12
   have hS12_r0 := hS12_r0.mv (hp2.call (Nat.le_refl _))
   refine wm rfl (v := I p1) hp_1 ?_
   replace hG := bind_some hG; obtain ⟨r14, hr14, hG⟩ := hG
   refine we rfl (fun st => x_call0 own_42 (ee st rfl) (am2 (ee st rfl) (ee st rfl)) (a42 K_ r12 p1 A12_r0 c12_r0 (ZZ Z w.heap.size [some b1]) _ hS12_r0 r14 hr14)) ?_
   rintro _ w15 ⟨hx14, _, _, rfl, ⟨A14_ra, c14_ra, rfl, hS14_ra⟩, rfl⟩
   have hp6 : Hp w [some b1] w15 := hp5.ext hx14
   have hS14_ra := hS14_ra.mv (hp5.call (Nat.le_refl _))
   refine wm rfl (v := .tuple #[.slice A14_ra r14.1.length c14_ra, I r14.2]) rfl <| wd rfl (fun st => x_extract (v := .slice A14_ra r14.1.length c14_ra) (ee st rfl) rfl) <| wd rfl (fun st => x_extract (v := I r14.2) (ee st rfl) rfl) <| wa rfl (v := .slice A14_ra r14.1.length c14_ra) rfl <| wa rfl (v := I r14.2) rfl <| wl_end <| lv_next <| cc_seq <| cc_region ?_
   have bk1_6 : Bk w15 b1 26 #[I p0.rows, I p0.wd, I p0.lo, I p0.hi, .slice A0_0 p0.ts.length c0_0] := ((bk1_2.ext hx12).ext hx14)
   refine wd rfl (fun st => x_loadn (l := [I p0.rows, I p0.wd, I p0.lo, I p0.hi, .slice A0_0 p0.ts.length c0_0]) agg_26 (ee st rfl) bk1_6 rfl rfl) ?_
   have hS0_0_6 : Sl eTly w15 (ZZ Z w.heap.size [some b1]) A0_0 c0_0 p0.ts := ((hS0_0_2.mv (mv_ext hx12)).mv (mv_ext hx14))
   replace hG := bind_some hG; obtain ⟨r16, hr16, hG⟩ := hG
   refine we rfl (fun st => x_call0 own_23 (ee st rfl) (am1 (ee st rfl)) (a23 K_ p0 A0_0 c0_0 (ZZ Z w.heap.size [some b1]) _ hS0_0_6 r16 hr16)) ?_
   rintro _ w17 ⟨hx16, ⟨_, rfl, ⟨A16_r0, c16_r0, rfl, hS16_r0⟩⟩⟩
   have hp7 : Hp w [some b1] w17 := hp6.ext hx16
   have hS16_r0 := hS16_r0.mv (hp6.call (Nat.le_refl _))
   refine wm rfl (v := I p1) hp_1 <| wm rfl (v := .slice A2_0 p2.length c2_0) hp_2 ?_
   have hS2_0_7 : Sl (eInt .i64) w17 (ZZ Z w.heap.size [some b1]) A2_0 c2_0 p2 := (((((hS2_0_0.mv (mv_new nb1.gr (Nat.le_of_eq nb1.b_eq.symm))).mv (mv_ext hx2)).mv (mv_ext hx12)).mv (mv_ext hx14)).mv (mv_ext hx16))
   replace hG := bind_some hG; obtain ⟨r18, hr18, hG⟩ := hG
   refine we rfl (fun st => x_call0 own_53 (ee st rfl) (am1 (ee st rfl)) (a53 K_ p2 A2_0 c2_0 (ZZ Z w.heap.size [some b1]) _ hS2_0_7 r18 hr18)) ?_
   rintro _ w19 ⟨hx18, ⟨A18_r, c18_r, rfl, hS18_r⟩⟩
   have hp8 : Hp w [some b1] w19 := hp7.ext hx18
   have hS18_r := hS18_r.mv (hp7.call (Nat.le_refl _))
   have hS16_r0_8 : Sl eTly w19 (ZZ Z w.heap.size [some b1]) A16_r0 c16_r0 r16.ts := (hS16_r0.mv (mv_ext hx18))
   replace hG := bind_some hG; obtain ⟨r20, hr20, hG⟩ := hG
   refine we rfl (fun st => x_call0 own_57 (ee st rfl) (am3 (ee st rfl) (ee st rfl) (ee st rfl)) (a57 K_ r16 p1 r18 A16_r0 c16_r0 A18_r c18_r ZA _ hS16_r0_8.all hS18_r.all r20 hr20)) ?_
   rintro _ w21 ⟨hx20, rfl⟩
   have hp9 : Hp w [some b1] w21 := hp8.ext hx20
   refine wa rfl (v := .bool r20) rfl <| wl_end <| lv_next <| cc_seq <| cc_region ?_
   have bk1_9 : Bk w21 b1 26 #[I p0.rows, I p0.wd, I p0.lo, I p0.hi, .slice A0_0 p0.ts.length c0_0] := (((bk1_6.ext hx16).ext hx18).ext hx20)
   refine wd rfl (fun st => x_loadn (l := [I p0.rows, I p0.wd, I p0.lo, I p0.hi, .slice A0_0 p0.ts.length c0_0]) agg_26 (ee st rfl) bk1_9 rfl rfl) ?_
   have hS0_0_9 : Sl eTly w21 (ZZ Z w.heap.size [some b1]) A0_0 c0_0 p0.ts := (((hS0_0_6.mv (mv_ext hx16)).mv (mv_ext hx18)).mv (mv_ext hx20))
   replace hG := bind_some hG; obtain ⟨r22, hr22, hG⟩ := hG
   refine we rfl (fun st => x_call0 own_24 (ee st rfl) (am1 (ee st rfl)) (a24 K_ p0 A0_0 c0_0 (ZZ Z w.heap.size [some b1]) _ hS0_0_9 r22 hr22)) ?_
   rintro _ w23 ⟨hx22, _, _, rfl, ⟨A22_ra, c22_ra, rfl, hS22_ra⟩, rfl⟩
   have hp10 : Hp w [some b1] w23 := hp9.ext hx22
   have hS22_ra := hS22_ra.mv (hp9.call (Nat.le_refl _))
   refine wm rfl (v := .tuple #[.slice A22_ra r22.1.length c22_ra, I r22.2]) rfl <| wd rfl (fun st => x_extract (v := .slice A22_ra r22.1.length c22_ra) (ee st rfl) rfl) <| wd rfl (fun st => x_extract (v := I r22.2) (ee st rfl) rfl) <| wa rfl (v := .slice A22_ra r22.1.length c22_ra) rfl <| wa rfl (v := I r22.2) rfl <| wl_end <| lv_next <| cc_seq <| cc_seq <| cc_region ?_
   have bk1_10 : Bk w23 b1 26 #[I p0.rows, I p0.wd, I p0.lo, I p0.hi, .slice A0_0 p0.ts.length c0_0] := (bk1_9.ext hx22)
   refine wd rfl (fun st => x_loadn (l := [I p0.rows, I p0.wd, I p0.lo, I p0.hi, .slice A0_0 p0.ts.length c0_0]) agg_26 (ee st rfl) bk1_10 rfl rfl) ?_
   have hS0_0_10 : Sl eTly w23 (ZZ Z w.heap.size [some b1]) A0_0 c0_0 p0.ts := (hS0_0_9.mv (mv_ext hx22))
   replace hG := bind_some hG; obtain ⟨r24, hr24, hG⟩ := hG
   refine we rfl (fun st => x_call0 own_28 (ee st rfl) (am1 (ee st rfl)) (a28 K_ p0 A0_0 c0_0 ZA _ hS0_0_10.all r24 hr24)) ?_
   rintro _ w25 ⟨hx24, rfl⟩
   have hp11 : Hp w [some b1] w25 := hp10.ext hx24
   refine wd rfl (fun st => x_eql (ee st rfl) (ee st rfl)) <| wm rfl (v := .bool (r24 == 0)) rfl ?_
   rcases bool_cases (r24 == 0) with hc26 | hc26
   ·replace hG := cond_t hG hc26
    refine wl_detg rfl rfl (guard_eq rfl hc26) rfl (by decide) (fun st => x_move (v := I p1) (ee st hp_1)) <| wl_detg rfl rfl (guard_eq rfl hc26) rfl (by decide) (fun st => x_fieldAddr (ee st rfl) (fz_26_1 _ _)) ?_
    have bk1_11 : Bk w25 b1 26 #[I p0.rows, I p0.wd, I p0.lo, I p0.hi, .slice A0_0 p0.ts.length c0_0] := (bk1_10.ext hx24)
    refine wl_detg rfl rfl (guard_eq rfl hc26) rfl (by decide) (fun st => x_load1 (v := I p0.wd) one_3 (ee st rfl) bk1_11 rfl) ?_
    replace hG := i64_bind hG; obtain ⟨hf27, hG⟩ := hG
    refine wl_detg rfl rfl (guard_eq rfl hc26) rfl (by decide) (fun st => x_sub (ee st rfl) (ee st rfl) hf27) ?_
    replace hG := bind_some hG; obtain ⟨r28, hr28, hG⟩ := hG
    refine wl_exg rfl rfl (guard_eq rfl hc26) rfl (by decide) (fun st => x_call0 own_29 (ee st rfl) (am3 (ee st rfl) (ee st rfl) (ee st rfl)) (a29 K_ p1 0 (p0.wd - 1) ZA _ r28 hr28)) ?_
    rintro _ w29 ⟨hx28, rfl⟩
    have hp12 : Hp w [some b1] w29 := hp11.ext hx28
    refine wl_detg rfl rfl (guard_eq rfl hc26) rfl (by decide) (fun st => x_not (ee st rfl)) <| wd rfl (fun st => x_pick_t (v := .bool !r28) (ee st rfl) hc26 (ee st rfl)) <| wl_end <| lv_next ?_
    rcases bool_cases (!r28) with hc30 | hc30
    ·replace hG := cond_t hG hc30
     have hc30_31 : r28 = false := by simpa using hc30
     refine cc_cond_t rfl hc30 <| cc_region <| wa rfl (v := I 2) rfl <| wl_end <| lv_next <| cc_seq <| cc_seq <| cc_region <| wm rfl (v := I 2) rfl <| wd rfl (fun st => x_neq (ee st rfl) (ee st rfl)) <| wl_end <| lv_next ?_
     rcases bool_cases (2 != 0) with hc32 | hc32
     ·replace hG := cond_t hG hc32
      refine cc_cond_t rfl hc32 <| cc_seq <| cc_region <| wm rfl (v := I r14.2) rfl <| wm rfl (v := I 2) rfl <| wd rfl (fun st => x_eql (ee st rfl) (ee st rfl)) <| wm rfl (v := .bool (r14.2 == 2)) rfl ?_
      rcases bool_cases (r14.2 == 2) with hc33 | hc33
      ·replace hG := cond_t hG hc33
       refine wl_detg rfl rfl (guard_eq rfl hc33) rfl (by decide) (fun st => x_move (v := .slice A14_ra r14.1.length c14_ra) (ee st rfl)) <| wl_detg rfl rfl (guard_eq rfl hc33) rfl (by decide) (fun st => x_len Try.underlying43 (ee st rfl)) <| wl_detg rfl rfl (guard_eq rfl hc33) rfl (by decide) (fun st => x_eql (ee st rfl) (ee st rfl)) <| wd rfl (fun st => x_pick_t (v := .bool ((r14.1.length : Int) == 0)) (ee st rfl) hc33 (ee st rfl)) <| wm rfl (v := .bool ((r14.1.length : Int) == 0)) rfl ?_
       rcases bool_cases ((r14.1.length : Int) == 0) with hc34 | hc34
       ·replace hG := cond_t hG hc34
        refine wl_detg rfl rfl (guard_eq rfl hc34) rfl (by decide) (fun st => x_move (v := .bool r20) (ee st rfl)) <| wl_detg rfl rfl (guard_eq rfl hc34) rfl (by decide) (fun st => x_not (ee st rfl)) <| wd rfl (fun st => x_pick_t (v := .bool !r20) (ee st rfl) hc34 (ee st rfl)) <| wm rfl (v := .bool !r20) rfl ?_
        rcases bool_cases (!r20) with hc35 | hc35
        ·replace hG := cond_t hG hc35
         have hc35_36 : r20 = false := by simpa using hc35
         replace hG := ifo_bind hG; obtain ⟨hw37, hG⟩ := hG
         refine wl_exg rfl rfl (guard_eq rfl hc35) rfl (by decide) (fun st => x_call0 own_21 (ee st rfl) am0 (a21 K_ ZA _ hw37)) ?_
         rintro _ w38 ⟨hx37, rfl⟩
         have hp13 : Hp w [some b1] w38 := hp12.ext hx37
         refine wd rfl (fun st => x_pick_t (v := .bool true) (ee st rfl) hc35 (ee st rfl)) <| wa rfl (v := .bool true) rfl <| wl_end <| lv_next <| cc_ret <| lv_then_ret ?_
         have hr_ := Option.some.inj hG
         refine lv_ret1 rfl rfl ?_
         exact ⟨hp13.fin, congrArg Value.bool hr_⟩
        ·replace hG := cond_f hG hc35
         exact absurd (Option.some.inj hG) (by decide)
       ·replace hG := cond_f hG hc34
        exact absurd (Option.some.inj hG) (by decide)
      ·replace hG := cond_f hG hc33
       exact absurd (Option.some.inj hG) (by decide)
     ·replace hG := cond_f hG hc32
      refine cc_cond_f rfl hc32 <| cc_skip <| lv_next <| cc_seq <| cc_region ?_
      have bk1_12 : Bk w29 b1 26 #[I p0.rows, I p0.wd, I p0.lo, I p0.hi, .slice A0_0 p0.ts.length c0_0] := (bk1_11.ext hx28)
      refine wd rfl (fun st => x_loadn (l := [I p0.rows, I p0.wd, I p0.lo, I p0.hi, .slice A0_0 p0.ts.length c0_0]) agg_26 (ee st rfl) bk1_12 rfl rfl) <| wm rfl (v := .slice A2_0 p2.length c2_0) hp_2 ?_
      have hS0_0_12 : Sl eTly w29 (ZZ Z w.heap.size [some b1]) A0_0 c0_0 p0.ts := ((hS0_0_10.mv (mv_ext hx24)).mv (mv_ext hx28))
      have hS2_0_12 : Sl (eInt .i64) w29 (ZZ Z w.heap.size [some b1]) A2_0 c2_0 p2 := (((((hS2_0_7.mv (mv_ext hx18)).mv (mv_ext hx20)).mv (mv_ext hx22)).mv (mv_ext hx24)).mv (mv_ext hx28))
      replace hG := bind_some hG; obtain ⟨r40, hr40, hG⟩ := hG
      refine we rfl (fun st => x_call0 own_58 (ee st rfl) (am2 (ee st rfl) (ee st rfl)) (a58 K_ p0 p2 A0_0 c0_0 A2_0 c2_0 ZA _ hS0_0_12.all hS2_0_12.all r40 hr40)) ?_
      rintro _ w41 ⟨hx40, _, _, rfl, rfl, rfl⟩
      have hp14 : Hp w [some b1] w41 := hp12.ext hx40
      refine wm rfl (v := .tuple #[I r40.1, .bool r40.2]) rfl <| wd rfl (fun st => x_extract (v := I r40.1) (ee st rfl) rfl) <| wd rfl (fun st => x_extract (v := .bool r40.2) (ee st rfl) rfl) <| wa rfl (v := I r40.1) rfl <| wa rfl (v := .bool r40.2) rfl <| wl_end <| lv_next <| cc_seq <| cc_region <| wm rfl (v := .bool r20) rfl <| wm rfl (v := .bool r40.2) rfl <| wm rfl (v := .bool r40.2) rfl ?_
      rcases bool_cases (r40.2) with hc42 | hc42
      ·replace hG := cond_t hG hc42
       refine wl_detg rfl rfl (guard_eq rfl hc42) rfl (by decide) (fun st => x_move (v := .slice A22_ra r22.1.length c22_ra) (ee st rfl)) <| wl_detg rfl rfl (guard_eq rfl hc42) rfl (by decide) (fun st => x_move (v := I p1) (ee st hp_1)) <| wl_detg rfl rfl (guard_eq rfl hc42) rfl (by decide) (fun st => x_move (v := I r40.1) (ee st rfl)) ?_
       have hS22_ra_14 : Sl (eSl (eInt .i64)) w41 (ZZ Z w.heap.size [some b1]) A22_ra c22_ra r22.1 := (((hS22_ra.mv (mv_ext hx24)).mv (mv_ext hx28)).mv (mv_ext hx40))
       replace hG := bind_some hG; obtain ⟨r43, hr43, hG⟩ := hG
       refine wl_exg rfl rfl (guard_eq rfl hc42) rfl (by decide) (fun st => x_call0 own_59 (ee st rfl) (am3 (ee st rfl) (ee st rfl) (ee st rfl)) (a59 K_ r22.1 p1 r40.1 A22_ra c22_ra ZA _ hS22_ra_14.all r43 hr43)) ?_
       rintro _ w44 ⟨hx43, rfl⟩
       have hp15 : Hp w [some b1] w44 := hp14.ext hx43
       refine wd rfl (fun st => x_pick_t (v := .bool r43) (ee st rfl) hc42 (ee st rfl)) <| wd rfl (fun st => x_eqB eqb_4 (ee st rfl) (ee st rfl)) <| wm rfl (v := .bool (r20 == r43)) rfl ?_
       rcases bool_cases (r20 == r43) with hc45 | hc45
       ·replace hG := cond_t hG hc45
        refine wl_detg rfl rfl (guard_eq rfl hc45) rfl (by decide) (fun st => x_move (v := I r14.2) (ee st rfl)) <| wl_detg rfl rfl (guard_eq rfl hc45) rfl (by decide) (fun st => x_eql (ee st rfl) (ee st rfl)) <| wd rfl (fun st => x_pick_t (v := .bool (r14.2 == 0)) (ee st rfl) hc45 (ee st rfl)) <| wm rfl (v := .bool (r14.2 == 0)) rfl ?_
        rcases bool_cases (r14.2 == 0) with hc46 | hc46
        ·replace hG := cond_t hG hc46
         refine wl_detg rfl rfl (guard_eq rfl hc46) rfl (by decide) (fun st => x_move (v := .slice A14_ra r14.1.length c14_ra) (ee st rfl)) ?_
         have bk1_15 : Bk w44 b1 26 #[I p0.rows, I p0.wd, I p0.lo, I p0.hi, .slice A0_0 p0.ts.length c0_0] := ((bk1_12.ext hx40).ext hx43)
         refine wl_detg rfl rfl (guard_eq rfl hc46) rfl (by decide) (fun st => x_loadn (l := [I p0.rows, I p0.wd, I p0.lo, I p0.hi, .slice A0_0 p0.ts.length c0_0]) agg_26 (ee st rfl) bk1_15 rfl rfl) <| wl_detg rfl rfl (guard_eq rfl hc46) rfl (by decide) (fun st => x_move (v := .slice A22_ra r22.1.length c22_ra) (ee st rfl)) <| wl_detg rfl rfl (guard_eq rfl hc46) rfl (by decide) (fun st => x_move (v := I p1) (ee st hp_1)) ?_
         have hS0_0_15 : Sl eTly w44 (ZZ Z w.heap.size [some b1]) A0_0 c0_0 p0.ts := ((hS0_0_12.mv (mv_ext hx40)).mv (mv_ext hx43))
         have hS22_ra_15 : Sl (eSl (eInt .i64)) w44 (ZZ Z w.heap.size [some b1]) A22_ra c22_ra r22.1 := (hS22_ra_14.mv (mv_ext hx43))
         replace hG := bind_some hG; obtain ⟨r47, hr47, hG⟩ := hG
         refine wl_exg rfl rfl (guard_eq rfl hc46) rfl (by decide) (fun st => x_call0 own_60 (ee st rfl) (am3 (ee st rfl) (ee st rfl) (ee st rfl)) (a60 K_ p0 r22.1 p1 A0_0 c0_0 A22_ra c22_ra (ZZ Z w.heap.size [some b1]) _ hS0_0_15 hS22_ra_15 r47 hr47)) ?_
         rintro _ w48 ⟨hx47, ⟨A47_r, c47_r, rfl, hS47_r⟩⟩
         have hp16 : Hp w [some b1] w48 := hp15.ext hx47
         have hS47_r := hS47_r.mv (hp15.call (Nat.le_refl _))
         have hS14_ra_16 : Sl (eInt .i64) w48 (ZZ Z w.heap.size [some b1]) A14_ra c14_ra r14.1 := (((((((((hS14_ra.mv (mv_ext hx16)).mv (mv_ext hx18)).mv (mv_ext hx20)).mv (mv_ext hx22)).mv (mv_ext hx24)).mv (mv_ext hx28)).mv (mv_ext hx40)).mv (mv_ext hx43)).mv (mv_ext hx47))
         replace hG := bind_some hG; obtain ⟨r49, hr49, hG⟩ := hG
         refine wl_exg rfl rfl (guard_eq rfl hc46) rfl (by decide) (fun st => x_call0 own_30 (ee st rfl) (am2 (ee st rfl) (ee st rfl)) (a30 K_ r14.1 r47 A14_ra c14_ra A47_r c47_r ZA _ hS14_ra_16.all hS47_r.all r49 hr49)) ?_
         rintro _ w50 ⟨hx49, rfl⟩
         have hp17 : Hp w [some b1] w50 := hp16.ext hx49
         refine wd rfl (fun st => x_pick_t (v := .bool r49) (ee st rfl) hc46 (ee st rfl)) <| wm rfl (v := .bool r49) rfl ?_
         rcases bool_cases (r49) with hc51 | hc51
         ·replace hG := cond_t hG hc51
          replace hG := ifo_bind hG; obtain ⟨hw52, hG⟩ := hG
          refine wl_exg rfl rfl (guard_eq rfl hc51) rfl (by decide) (fun st => x_call0 own_21 (ee st rfl) am0 (a21 K_ ZA _ hw52)) ?_
          rintro _ w53 ⟨hx52, rfl⟩
          have hp18 : Hp w [some b1] w53 := hp17.ext hx52
          refine wd rfl (fun st => x_pick_t (v := .bool true) (ee st rfl) hc51 (ee st rfl)) <| wa rfl (v := .bool true) rfl <| wl_end <| lv_next <| cc_ret ?_
          have hr_ := Option.some.inj hG
          refine lv_ret1 rfl rfl ?_
          exact ⟨hp18.fin, congrArg Value.bool hr_⟩
         ·replace hG := cond_f hG hc51
          exact absurd (Option.some.inj hG) (by decide)
        ·replace hG := cond_f hG hc46
         exact absurd (Option.some.inj hG) (by decide)
       ·replace hG := cond_f hG hc45
        exact absurd (Option.some.inj hG) (by decide)
      ·replace hG := cond_f hG hc42
       refine wl_skip (c := false) rfl rfl (guard_eq rfl hc42) (by decide) rfl (by decide) <| wl_skip (c := false) rfl rfl (guard_eq rfl hc42) (by decide) rfl (by decide) <| wl_skip (c := false) rfl rfl (guard_eq rfl hc42) (by decide) rfl (by decide) <| wl_skip (c := false) rfl rfl (guard_eq rfl hc42) (by decide) rfl (by decide) <| wd rfl (fun st => x_pick_f (v := .bool false) (ee st rfl) hc42 (ee st rfl)) <| wd rfl (fun st => x_eqB eqb_4 (ee st rfl) (ee st rfl)) <| wm rfl (v := .bool (r20 == false)) rfl ?_
       rcases bool_cases (r20 == false) with hc54 | hc54
       ·replace hG := cond_t hG hc54
        refine wl_detg rfl rfl (guard_eq rfl hc54) rfl (by decide) (fun st => x_move (v := I r14.2) (ee st rfl)) <| wl_detg rfl rfl (guard_eq rfl hc54) rfl (by decide) (fun st => x_eql (ee st rfl) (ee st rfl)) <| wd rfl (fun st => x_pick_t (v := .bool (r14.2 == 0)) (ee st rfl) hc54 (ee st rfl)) <| wm rfl (v := .bool (r14.2 == 0)) rfl ?_
        rcases bool_cases (r14.2 == 0) with hc55 | hc55
        ·replace hG := cond_t hG hc55
         refine wl_detg rfl rfl (guard_eq rfl hc55) rfl (by decide) (fun st => x_move (v := .slice A14_ra r14.1.length c14_ra) (ee st rfl)) ?_
         have bk1_14 : Bk w41 b1 26 #[I p0.rows, I p0.wd, I p0.lo, I p0.hi, .slice A0_0 p0.ts.length c0_0] := (bk1_12.ext hx40)
         refine wl_detg rfl rfl (guard_eq rfl hc55) rfl (by decide) (fun st => x_loadn (l := [I p0.rows, I p0.wd, I p0.lo, I p0.hi, .slice A0_0 p0.ts.length c0_0]) agg_26 (ee st rfl) bk1_14 rfl rfl) <| wl_detg rfl rfl (guard_eq rfl hc55) rfl (by decide) (fun st => x_move (v := .slice A22_ra r22.1.length c22_ra) (ee st rfl)) <| wl_detg rfl rfl (guard_eq rfl hc55) rfl (by decide) (fun st => x_move (v := I p1) (ee st hp_1)) ?_
         have hS0_0_14 : Sl eTly w41 (ZZ Z w.heap.size [some b1]) A0_0 c0_0 p0.ts := (hS0_0_12.mv (mv_ext hx40))
         have hS22_ra_14 : Sl (eSl (eInt .i64)) w41 (ZZ Z w.heap.size [some b1]) A22_ra c22_ra r22.1 := (((hS22_ra.mv (mv_ext hx24)).mv (mv_ext hx28)).mv (mv_ext hx40))
         replace hG := bind_some hG; obtain ⟨r56, hr56, hG⟩ := hG
         refine wl_exg rfl rfl (guard_eq rfl hc55) rfl (by decide) (fun st => x_call0 own_60 (ee st rfl) (am3 (ee st rfl) (ee st rfl) (ee st rfl)) (a60 K_ p0 r22.1 p1 A0_0 c0_0 A22_ra c22_ra (ZZ Z w.heap.size [some b1]) _ hS0_0_14 hS22_ra_14 r56 hr56)) ?_
         rintro _ w57 ⟨hx56, ⟨A56_r, c56_r, rfl, hS56_r⟩⟩
         have hp19 : Hp w [some b1] w57 := hp14.ext hx56
         have hS56_r := hS56_r.mv (hp14.call (Nat.le_refl _))
         have hS14_ra_19 : Sl (eInt .i64) w57 (ZZ Z w.heap.size [some b1]) A14_ra c14_ra r14.1 := ((((((((hS14_ra.mv (mv_ext hx16)).mv (mv_ext hx18)).mv (mv_ext hx20)).mv (mv_ext hx22)).mv (mv_ext hx24)).mv (mv_ext hx28)).mv (mv_ext hx40)).mv (mv_ext hx56))
         replace hG := bind_some hG; obtain ⟨r58, hr58, hG⟩ := hG
         refine wl_exg rfl rfl (guard_eq rfl hc55) rfl (by decide) (fun st => x_call0 own_30 (ee st rfl) (am2 (ee st rfl) (ee st rfl)) (a30 K_ r14.1 r56 A14_ra c14_ra A56_r c56_r ZA _ hS14_ra_19.all hS56_r.all r58 hr58)) ?_
         rintro _ w59 ⟨hx58, rfl⟩
         have hp20 : Hp w [some b1] w59 := hp19.ext hx58
         refine wd rfl (fun st => x_pick_t (v := .bool r58) (ee st rfl) hc55 (ee st rfl)) <| wm rfl (v := .bool r58) rfl ?_
         rcases bool_cases (r58) with hc60 | hc60
         ·replace hG := cond_t hG hc60
          replace hG := ifo_bind hG; obtain ⟨hw61, hG⟩ := hG
          refine wl_exg rfl rfl (guard_eq rfl hc60) rfl (by decide) (fun st => x_call0 own_21 (ee st rfl) am0 (a21 K_ ZA _ hw61)) ?_
          rintro _ w62 ⟨hx61, rfl⟩
          have hp21 : Hp w [some b1] w62 := hp20.ext hx61
          refine wd rfl (fun st => x_pick_t (v := .bool true) (ee st rfl) hc60 (ee st rfl)) <| wa rfl (v := .bool true) rfl <| wl_end <| lv_next <| cc_ret ?_
          have hr_ := Option.some.inj hG
          refine lv_ret1 rfl rfl ?_
          exact ⟨hp21.fin, congrArg Value.bool hr_⟩
         ·replace hG := cond_f hG hc60
          exact absurd (Option.some.inj hG) (by decide)
        ·replace hG := cond_f hG hc55
         exact absurd (Option.some.inj hG) (by decide)
       ·replace hG := cond_f hG hc54
        exact absurd (Option.some.inj hG) (by decide)
    ·replace hG := cond_f hG hc30
     have hc30_63 : r28 = true := by simpa using hc30
     refine cc_cond_f rfl hc30 <| cc_skip <| lv_next <| cc_seq <| cc_seq <| cc_region <| wm rfl (v := I r22.2) rfl <| wd rfl (fun st => x_neq (ee st rfl) (ee st rfl)) <| wl_end <| lv_next ?_
     rcases bool_cases (r22.2 != 0) with hc64 | hc64
     ·replace hG := cond_t hG hc64
      refine cc_cond_t rfl hc64 <| cc_seq <| cc_region <| wm rfl (v := I r14.2) rfl <| wm rfl (v := I r22.2) rfl <| wd rfl (fun st => x_eql (ee st rfl) (ee st rfl)) <| wm rfl (v := .bool (r14.2 == r22.2)) rfl ?_
      rcases bool_cases (r14.2 == r22.2) with hc65 | hc65
      ·replace hG := cond_t hG hc65
       refine wl_detg rfl rfl (guard_eq rfl hc65) rfl (by decide) (fun st => x_move (v := .slice A14_ra r14.1.length c14_ra) (ee st rfl)) <| wl_detg rfl rfl (guard_eq rfl hc65) rfl (by decide) (fun st => x_len Try.underlying43 (ee st rfl)) <| wl_detg rfl rfl (guard_eq rfl hc65) rfl (by decide) (fun st => x_eql (ee st rfl) (ee st rfl)) <| wd rfl (fun st => x_pick_t (v := .bool ((r14.1.length : Int) == 0)) (ee st rfl) hc65 (ee st rfl)) <| wm rfl (v := .bool ((r14.1.length : Int) == 0)) rfl ?_
       rcases bool_cases ((r14.1.length : Int) == 0) with hc66 | hc66
       ·replace hG := cond_t hG hc66
        refine wl_detg rfl rfl (guard_eq rfl hc66) rfl (by decide) (fun st => x_move (v := .bool r20) (ee st rfl)) <| wl_detg rfl rfl (guard_eq rfl hc66) rfl (by decide) (fun st => x_not (ee st rfl)) <| wd rfl (fun st => x_pick_t (v := .bool !r20) (ee st rfl) hc66 (ee st rfl)) <| wm rfl (v := .bool !r20) rfl ?_
        rcases bool_cases (!r20) with hc67 | hc67
        ·replace hG := cond_t hG hc67
         have hc67_68 : r20 = false := by simpa using hc67
         replace hG := ifo_bind hG; obtain ⟨hw69, hG⟩ := hG
         refine wl_exg rfl rfl (guard_eq rfl hc67) rfl (by decide) (fun st => x_call0 own_21 (ee st rfl) am0 (a21 K_ ZA _ hw69)) ?_
         rintro _ w70 ⟨hx69, rfl⟩
         have hp22 : Hp w [some b1] w70 := hp12.ext hx69
         refine wd rfl (fun st => x_pick_t (v := .bool true) (ee st rfl) hc67 (ee st rfl)) <| wa rfl (v := .bool true) rfl <| wl_end <| lv_next <| cc_ret <| lv_then_ret ?_
         have hr_ := Option.some.inj hG
         refine lv_ret1 rfl rfl ?_
         exact ⟨hp22.fin, congrArg Value.bool hr_⟩
        ·replace hG := cond_f hG hc67
         exact absurd (Option.some.inj hG) (by decide)
       ·replace hG := cond_f hG hc66
        exact absurd (Option.some.inj hG) (by decide)
      ·replace hG := cond_f hG hc65
       exact absurd (Option.some.inj hG) (by decide)
     ·replace hG := cond_f hG hc64
      refine cc_cond_f rfl hc64 <| cc_skip <| lv_next <| cc_seq <| cc_region ?_
      have bk1_12 : Bk w29 b1 26 #[I p0.rows, I p0.wd, I p0.lo, I p0.hi, .slice A0_0 p0.ts.length c0_0] := (bk1_11.ext hx28)
      refine wd rfl (fun st => x_loadn (l := [I p0.rows, I p0.wd, I p0.lo, I p0.hi, .slice A0_0 p0.ts.length c0_0]) agg_26 (ee st rfl) bk1_12 rfl rfl) <| wm rfl (v := .slice A2_0 p2.length c2_0) hp_2 ?_
      have hS0_0_12 : Sl eTly w29 (ZZ Z w.heap.size [some b1]) A0_0 c0_0 p0.ts := ((hS0_0_10.mv (mv_ext hx24)).mv (mv_ext hx28))
      have hS2_0_12 : Sl (eInt .i64) w29 (ZZ Z w.heap.size [some b1]) A2_0 c2_0 p2 := (((((hS2_0_7.mv (mv_ext hx18)).mv (mv_ext hx20)).mv (mv_ext hx22)).mv (mv_ext hx24)).mv (mv_ext hx28))
      replace hG := bind_some hG; obtain ⟨r72, hr72, hG⟩ := hG
      refine we rfl (fun st => x_call0 own_58 (ee st rfl) (am2 (ee st rfl) (ee st rfl)) (a58 K_ p0 p2 A0_0 c0_0 A2_0 c2_0 ZA _ hS0_0_12.all hS2_0_12.all r72 hr72)) ?_
      rintro _ w73 ⟨hx72, _, _, rfl, rfl, rfl⟩
      have hp23 : Hp w [some b1] w73 := hp12.ext hx72
      refine wm rfl (v := .tuple #[I r72.1, .bool r72.2]) rfl <| wd rfl (fun st => x_extract (v := I r72.1) (ee st rfl) rfl) <| wd rfl (fun st => x_extract (v := .bool r72.2) (ee st rfl) rfl) <| wa rfl (v := I r72.1) rfl <| wa rfl (v := .bool r72.2) rfl <| wl_end <| lv_next <| cc_seq <| cc_region <| wm rfl (v := .bool r20) rfl <| wm rfl (v := .bool r72.2) rfl <| wm rfl (v := .bool r72.2) rfl ?_
      rcases bool_cases (r72.2) with hc74 | hc74
      ·replace hG := cond_t hG hc74
       refine wl_detg rfl rfl (guard_eq rfl hc74) rfl (by decide) (fun st => x_move (v := .slice A22_ra r22.1.length c22_ra) (ee st rfl)) <| wl_detg rfl rfl (guard_eq rfl hc74) rfl (by decide) (fun st => x_move (v := I p1) (ee st hp_1)) <| wl_detg rfl rfl (guard_eq rfl hc74) rfl (by decide) (fun st => x_move (v := I r72.1) (ee st rfl)) ?_
       have hS22_ra_23 : Sl (eSl (eInt .i64)) w73 (ZZ Z w.heap.size [some b1]) A22_ra c22_ra r22.1 := (((hS22_ra.mv (mv_ext hx24)).mv (mv_ext hx28)).mv (mv_ext hx72))
       replace hG := bind_some hG; obtain ⟨r75, hr75, hG⟩ := hG
       refine wl_exg rfl rfl (guard_eq rfl hc74) rfl (by decide) (fun st => x_call0 own_59 (ee st rfl) (am3 (ee st rfl) (ee st rfl) (ee st rfl)) (a59 K_ r22.1 p1 r72.1 A22_ra c22_ra ZA _ hS22_ra_23.all r75 hr75)) ?_
       rintro _ w76 ⟨hx75, rfl⟩
       have hp24 : Hp w [some b1] w76 := hp23.ext hx75
       refine wd rfl (fun st => x_pick_t (v := .bool r75) (ee st rfl) hc74 (ee st rfl)) <| wd rfl (fun st => x_eqB eqb_4 (ee st rfl) (ee st rfl)) <| wm rfl (v := .bool (r20 == r75)) rfl ?_
       rcases bool_cases (r20 == r75) with hc77 | hc77
       ·replace hG := cond_t hG hc77
        refine wl_detg rfl rfl (guard_eq rfl hc77) rfl (by decide) (fun st => x_move (v := I r14.2) (ee st rfl)) <| wl_detg rfl rfl (guard_eq rfl hc77) rfl (by decide) (fun st => x_eql (ee st rfl) (ee st rfl)) <| wd rfl (fun st => x_pick_t (v := .bool (r14.2 == 0)) (ee st rfl) hc77 (ee st rfl)) <| wm rfl (v := .bool (r14.2 == 0)) rfl ?_
        rcases bool_cases (r14.2 == 0) with hc78 | hc78
        ·replace hG := cond_t hG hc78
         refine wl_detg rfl rfl (guard_eq rfl hc78) rfl (by decide) (fun st => x_move (v := .slice A14_ra r14.1.length c14_ra) (ee st rfl)) ?_
         have bk1_24 : Bk w76 b1 26 #[I p0.rows, I p0.wd, I p0.lo, I p0.hi, .slice A0_0 p0.ts.length c0_0] := ((bk1_12.ext hx72).ext hx75)
         refine wl_detg rfl rfl (guard_eq rfl hc78) rfl (by decide) (fun st => x_loadn (l := [I p0.rows, I p0.wd, I p0.lo, I p0.hi, .slice A0_0 p0.ts.length c0_0]) agg_26 (ee st rfl) bk1_24 rfl rfl) <| wl_detg rfl rfl (guard_eq rfl hc78) rfl (by decide) (fun st => x_move (v := .slice A22_ra r22.1.length c22_ra) (ee st rfl)) <| wl_detg rfl rfl (guard_eq rfl hc78) rfl (by decide) (fun st => x_move (v := I p1) (ee st hp_1)) ?_
         have hS0_0_24 : Sl eTly w76 (ZZ Z w.heap.size [some b1]) A0_0 c0_0 p0.ts := ((hS0_0_12.mv (mv_ext hx72)).mv (mv_ext hx75))
         have hS22_ra_24 : Sl (eSl (eInt .i64)) w76 (ZZ Z w.heap.size [some b1]) A22_ra c22_ra r22.1 := (hS22_ra_23.mv (mv_ext hx75))
         replace hG := bind_some hG; obtain ⟨r79, hr79, hG⟩ := hG
         refine wl_exg rfl rfl (guard_eq rfl hc78) rfl (by decide) (fun st => x_call0 own_60 (ee st rfl) (am3 (ee st rfl) (ee st rfl) (ee st rfl)) (a60 K_ p0 r22.1 p1 A0_0 c0_0 A22_ra c22_ra (ZZ Z w.heap.size [some b1]) _ hS0_0_24 hS22_ra_24 r79 hr79)) ?_
         rintro _ w80 ⟨hx79, ⟨A79_r, c79_r, rfl, hS79_r⟩⟩
         have hp25 : Hp w [some b1] w80 := hp24.ext hx79
         have hS79_r := hS79_r.mv (hp24.call (Nat.le_refl _))
         have hS14_ra_25 : Sl (eInt .i64) w80 (ZZ Z w.heap.size [some b1]) A14_ra c14_ra r14.1 := (((((((((hS14_ra.mv (mv_ext hx16)).mv (mv_ext hx18)).mv (mv_ext hx20)).mv (mv_ext hx22)).mv (mv_ext hx24)).mv (mv_ext hx28)).mv (mv_ext hx72)).mv (mv_ext hx75)).mv (mv_ext hx79))
         replace hG := bind_some hG; obtain ⟨r81, hr81, hG⟩ := hG
         refine wl_exg rfl rfl (guard_eq rfl hc78) rfl (by decide) (fun st => x_call0 own_30 (ee st rfl) (am2 (ee st rfl) (ee st rfl)) (a30 K_ r14.1 r79 A14_ra c14_ra A79_r c79_r ZA _ hS14_ra_25.all hS79_r.all r81 hr81)) ?_
         rintro _ w82 ⟨hx81, rfl⟩
         have hp26 : Hp w [some b1] w82 := hp25.ext hx81
         refine wd rfl (fun st => x_pick_t (v := .bool r81) (ee st rfl) hc78 (ee st rfl)) <| wm rfl (v := .bool r81) rfl ?_
         rcases bool_cases (r81) with hc83 | hc83
         ·replace hG := cond_t hG hc83
          replace hG := ifo_bind hG; obtain ⟨hw84, hG⟩ := hG
          refine wl_exg rfl rfl (guard_eq rfl hc83) rfl (by decide) (fun st => x_call0 own_21 (ee st rfl) am0 (a21 K_ ZA _ hw84)) ?_
          rintro _ w85 ⟨hx84, rfl⟩
          have hp27 : Hp w [some b1] w85 := hp26.ext hx84
          refine wd rfl (fun st => x_pick_t (v := .bool true) (ee st rfl) hc83 (ee st rfl)) <| wa rfl (v := .bool true) rfl <| wl_end <| lv_next <| cc_ret ?_
          have hr_ := Option.some.inj hG
          refine lv_ret1 rfl rfl ?_
          exact ⟨hp27.fin, congrArg Value.bool hr_⟩
         ·replace hG := cond_f hG hc83
          exact absurd (Option.some.inj hG) (by decide)
        ·replace hG := cond_f hG hc78
         exact absurd (Option.some.inj hG) (by decide)
       ·replace hG := cond_f hG hc77
        exact absurd (Option.some.inj hG) (by decide)
      ·replace hG := cond_f hG hc74
       refine wl_skip (c := false) rfl rfl (guard_eq rfl hc74) (by decide) rfl (by decide) <| wl_skip (c := false) rfl rfl (guard_eq rfl hc74) (by decide) rfl (by decide) <| wl_skip (c := false) rfl rfl (guard_eq rfl hc74) (by decide) rfl (by decide) <| wl_skip (c := false) rfl rfl (guard_eq rfl hc74) (by decide) rfl (by decide) <| wd rfl (fun st => x_pick_f (v := .bool false) (ee st rfl) hc74 (ee st rfl)) <| wd rfl (fun st => x_eqB eqb_4 (ee st rfl) (ee st rfl)) <| wm rfl (v := .bool (r20 == false)) rfl ?_
       rcases bool_cases (r20 == false) with hc86 | hc86
       ·replace hG := cond_t hG hc86
        refine wl_detg rfl rfl (guard_eq rfl hc86) rfl (by decide) (fun st => x_move (v := I r14.2) (ee st rfl)) <| wl_detg rfl rfl (guard_eq rfl hc86) rfl (by decide) (fun st => x_eql (ee st rfl) (ee st rfl)) <| wd rfl (fun st => x_pick_t (v := .bool (r14.2 == 0)) (ee st rfl) hc86 (ee st rfl)) <| wm rfl (v := .bool (r14.2 == 0)) rfl ?_
        rcases bool_cases (r14.2 == 0) with hc87 | hc87
        ·replace hG := cond_t hG hc87
         refine wl_detg rfl rfl (guard_eq rfl hc87) rfl (by decide) (fun st => x_move (v := .slice A14_ra r14.1.length c14_ra) (ee st rfl)) ?_
         have bk1_23 : Bk w73 b1 26 #[I p0.rows, I p0.wd, I p0.lo, I p0.hi, .slice A0_0 p0.ts.length c0_0] := (bk1_12.ext hx72)
         refine wl_detg rfl rfl (guard_eq rfl hc87) rfl (by decide) (fun st => x_loadn (l := [I p0.rows, I p0.wd, I p0.lo, I p0.hi, .slice A0_0 p0.ts.length c0_0]) agg_26 (ee st rfl) bk1_23 rfl rfl) <| wl_detg rfl rfl (guard_eq rfl hc87) rfl (by decide) (fun st => x_move (v := .slice A22_ra r22.1.length c22_ra) (ee st rfl)) <| wl_detg rfl rfl (guard_eq rfl hc87) rfl (by decide) (fun st => x_move (v := I p1) (ee st hp_1)) ?_
         have hS0_0_23 : Sl eTly w73 (ZZ Z w.heap.size [some b1]) A0_0 c0_0 p0.ts := (hS0_0_12.mv (mv_ext hx72))
         have hS22_ra_23 : Sl (eSl (eInt .i64)) w73 (ZZ Z w.heap.size [some b1]) A22_ra c22_ra r22.1 := (((hS22_ra.mv (mv_ext hx24)).mv (mv_ext hx28)).mv (mv_ext hx72))
         replace hG := bind_some hG; obtain ⟨r88, hr88, hG⟩ := hG
         refine wl_exg rfl rfl (guard_eq rfl hc87) rfl (by decide) (fun st => x_call0 own_60 (ee st rfl) (am3 (ee st rfl) (ee st rfl) (ee st rfl)) (a60 K_ p0 r22.1 p1 A0_0 c0_0 A22_ra c22_ra (ZZ Z w.heap.size [some b1]) _ hS0_0_23 hS22_ra_23 r88 hr88)) ?_
         rintro _ w89 ⟨hx88, ⟨A88_r, c88_r, rfl, hS88_r⟩⟩
         have hp28 : Hp w [some b1] w89 := hp23.ext hx88
         have hS88_r := hS88_r.mv (hp23.call (Nat.le_refl _))
         have hS14_ra_28 : Sl (eInt .i64) w89 (ZZ Z w.heap.size [some b1]) A14_ra c14_ra r14.1 := ((((((((hS14_ra.mv (mv_ext hx16)).mv (mv_ext hx18)).mv (mv_ext hx20)).mv (mv_ext hx22)).mv (mv_ext hx24)).mv (mv_ext hx28)).mv (mv_ext hx72)).mv (mv_ext hx88))
         replace hG := bind_some hG; obtain ⟨r90, hr90, hG⟩ := hG
         refine wl_exg rfl rfl (guard_eq rfl hc87) rfl (by decide) (fun st => x_call0 own_30 (ee st rfl) (am2 (ee st rfl) (ee st rfl)) (a30 K_ r14.1 r88 A14_ra c14_ra A88_r c88_r ZA _ hS14_ra_28.all hS88_r.all r90 hr90)) ?_
         rintro _ w91 ⟨hx90, rfl⟩
         have hp29 : Hp w [some b1] w91 := hp28.ext hx90
         refine wd rfl (fun st => x_pick_t (v := .bool r90) (ee st rfl) hc87 (ee st rfl)) <| wm rfl (v := .bool r90) rfl ?_
         rcases bool_cases (r90) with hc92 | hc92
         ·replace hG := cond_t hG hc92
          replace hG := ifo_bind hG; obtain ⟨hw93, hG⟩ := hG
          refine wl_exg rfl rfl (guard_eq rfl hc92) rfl (by decide) (fun st => x_call0 own_21 (ee st rfl) am0 (a21 K_ ZA _ hw93)) ?_
          rintro _ w94 ⟨hx93, rfl⟩
          have hp30 : Hp w [some b1] w94 := hp29.ext hx93
          refine wd rfl (fun st => x_pick_t (v := .bool true) (ee st rfl) hc92 (ee st rfl)) <| wa rfl (v := .bool true) rfl <| wl_end <| lv_next <| cc_ret ?_
          have hr_ := Option.some.inj hG
          refine lv_ret1 rfl rfl ?_
          exact ⟨hp30.fin, congrArg Value.bool hr_⟩
         ·replace hG := cond_f hG hc92
          exact absurd (Option.some.inj hG) (by decide)
        ·replace hG := cond_f hG hc87
         exact absurd (Option.some.inj hG) (by decide)
       ·replace hG := cond_f hG hc86
        exact absurd (Option.some.inj hG) (by decide)
   ·replace hG := cond_f hG hc26
    refine wl_skip (c := false) rfl rfl (guard_eq rfl hc26) (by decide) rfl (by decide) <| wl_skip (c := false) rfl rfl (guard_eq rfl hc26) (by decide) rfl (by decide) <| wl_skip (c := false) rfl rfl (guard_eq rfl hc26) (by decide) rfl (by decide) <| wl_skip (c := false) rfl rfl (guard_eq rfl hc26) (by decide) rfl (by decide) <| wl_skip (c := false) rfl rfl (guard_eq rfl hc26) (by decide) rfl (by decide) <| wl_skip (c := false) rfl rfl (guard_eq rfl hc26) (by decide) rfl (by decide) <| wd rfl (fun st => x_pick_f (v := .bool false) (ee st rfl) hc26 (ee st rfl)) <| wl_end <| lv_next <| cc_cond_f rfl rfl <| cc_skip <| lv_next <| cc_seq <| cc_seq <| cc_region <| wm rfl (v := I r22.2) rfl <| wd rfl (fun st => x_neq (ee st rfl) (ee st rfl)) <| wl_end <| lv_next ?_
    rcases bool_cases (r22.2 != 0) with hc95 | hc95
    ·replace hG := cond_t hG hc95
     refine cc_cond_t rfl hc95 <| cc_seq <| cc_region <| wm rfl (v := I r14.2) rfl <| wm rfl (v := I r22.2) rfl <| wd rfl (fun st => x_eql (ee st rfl) (ee st rfl)) <| wm rfl (v := .bool (r14.2 == r22.2)) rfl ?_
     rcases bool_cases (r14.2 == r22.2) with hc96 | hc96
     ·replace hG := cond_t hG hc96
      refine wl_detg rfl rfl (guard_eq rfl hc96) rfl (by decide) (fun st => x_move (v := .slice A14_ra r14.1.length c14_ra) (ee st rfl)) <| wl_detg rfl rfl (guard_eq rfl hc96) rfl (by decide) (fun st => x_len Try.underlying43 (ee st rfl)) <| wl_detg rfl rfl (guard_eq rfl hc96) rfl (by decide) (fun st => x_eql (ee st rfl) (ee st rfl)) <| wd rfl (fun st => x_pick_t (v := .bool ((r14.1.length : Int) == 0)) (ee st rfl) hc96 (ee st rfl)) <| wm rfl (v := .bool ((r14.1.length : Int) == 0)) rfl ?_
      rcases bool_cases ((r14.1.length : Int) == 0) with hc97 | hc97
      ·replace hG := cond_t hG hc97
       refine wl_detg rfl rfl (guard_eq rfl hc97) rfl (by decide) (fun st => x_move (v := .bool r20) (ee st rfl)) <| wl_detg rfl rfl (guard_eq rfl hc97) rfl (by decide) (fun st => x_not (ee st rfl)) <| wd rfl (fun st => x_pick_t (v := .bool !r20) (ee st rfl) hc97 (ee st rfl)) <| wm rfl (v := .bool !r20) rfl ?_
       rcases bool_cases (!r20) with hc98 | hc98
       ·replace hG := cond_t hG hc98
        have hc98_99 : r20 = false := by simpa using hc98
        replace hG := ifo_bind hG; obtain ⟨hw100, hG⟩ := hG
        refine wl_exg rfl rfl (guard_eq rfl hc98) rfl (by decide) (fun st => x_call0 own_21 (ee st rfl) am0 (a21 K_ ZA _ hw100)) ?_
        rintro _ w101 ⟨hx100, rfl⟩
        have hp31 : Hp w [some b1] w101 := hp11.ext hx100
        refine wd rfl (fun st => x_pick_t (v := .bool true) (ee st rfl) hc98 (ee st rfl)) <| wa rfl (v := .bool true) rfl <| wl_end <| lv_next <| cc_ret <| lv_then_ret ?_
        have hr_ := Option.some.inj hG
        refine lv_ret1 rfl rfl ?_
        exact ⟨hp31.fin, congrArg Value.bool hr_⟩
       ·replace hG := cond_f hG hc98
        exact absurd (Option.some.inj hG) (by decide)
      ·replace hG := cond_f hG hc97
       exact absurd (Option.some.inj hG) (by decide)
     ·replace hG := cond_f hG hc96
      exact absurd (Option.some.inj hG) (by decide)
    ·replace hG := cond_f hG hc95
     refine cc_cond_f rfl hc95 <| cc_skip <| lv_next <| cc_seq <| cc_region ?_
     have bk1_11 : Bk w25 b1 26 #[I p0.rows, I p0.wd, I p0.lo, I p0.hi, .slice A0_0 p0.ts.length c0_0] := (bk1_10.ext hx24)
     refine wd rfl (fun st => x_loadn (l := [I p0.rows, I p0.wd, I p0.lo, I p0.hi, .slice A0_0 p0.ts.length c0_0]) agg_26 (ee st rfl) bk1_11 rfl rfl) <| wm rfl (v := .slice A2_0 p2.length c2_0) hp_2 ?_
     have hS0_0_11 : Sl eTly w25 (ZZ Z w.heap.size [some b1]) A0_0 c0_0 p0.ts := (hS0_0_10.mv (mv_ext hx24))
     have hS2_0_11 : Sl (eInt .i64) w25 (ZZ Z w.heap.size [some b1]) A2_0 c2_0 p2 := ((((hS2_0_7.mv (mv_ext hx18)).mv (mv_ext hx20)).mv (mv_ext hx22)).mv (mv_ext hx24))
     replace hG := bind_some hG; obtain ⟨r103, hr103, hG⟩ := hG
     refine we rfl (fun st => x_call0 own_58 (ee st rfl) (am2 (ee st rfl) (ee st rfl)) (a58 K_ p0 p2 A0_0 c0_0 A2_0 c2_0 ZA _ hS0_0_11.all hS2_0_11.all r103 hr103)) ?_
     rintro _ w104 ⟨hx103, _, _, rfl, rfl, rfl⟩
     have hp32 : Hp w [some b1] w104 := hp11.ext hx103
     refine wm rfl (v := .tuple #[I r103.1, .bool r103.2]) rfl <| wd rfl (fun st => x_extract (v := I r103.1) (ee st rfl) rfl) <| wd rfl (fun st => x_extract (v := .bool r103.2) (ee st rfl) rfl) <| wa rfl (v := I r103.1) rfl <| wa rfl (v := .bool r103.2) rfl <| wl_end <| lv_next <| cc_seq <| cc_region <| wm rfl (v := .bool r20) rfl <| wm rfl (v := .bool r103.2) rfl <| wm rfl (v := .bool r103.2) rfl ?_
     rcases bool_cases (r103.2) with hc105 | hc105
     ·replace hG := cond_t hG hc105
      refine wl_detg rfl rfl (guard_eq rfl hc105) rfl (by decide) (fun st => x_move (v := .slice A22_ra r22.1.length c22_ra) (ee st rfl)) <| wl_detg rfl rfl (guard_eq rfl hc105) rfl (by decide) (fun st => x_move (v := I p1) (ee st hp_1)) <| wl_detg rfl rfl (guard_eq rfl hc105) rfl (by decide) (fun st => x_move (v := I r103.1) (ee st rfl)) ?_
      have hS22_ra_32 : Sl (eSl (eInt .i64)) w104 (ZZ Z w.heap.size [some b1]) A22_ra c22_ra r22.1 := ((hS22_ra.mv (mv_ext hx24)).mv (mv_ext hx103))
      replace hG := bind_some hG; obtain ⟨r106, hr106, hG⟩ := hG
      refine wl_exg rfl rfl (guard_eq rfl hc105) rfl (by decide) (fun st => x_call0 own_59 (ee st rfl) (am3 (ee st rfl) (ee st rfl) (ee st rfl)) (a59 K_ r22.1 p1 r103.1 A22_ra c22_ra ZA _ hS22_ra_32.all r106 hr106)) ?_
      rintro _ w107 ⟨hx106, rfl⟩
      have hp33 : Hp w [some b1] w107 := hp32.ext hx106
      refine wd rfl (fun st => x_pick_t (v := .bool r106) (ee st rfl) hc105 (ee st rfl)) <| wd rfl (fun st => x_eqB eqb_4 (ee st rfl) (ee st rfl)) <| wm rfl (v := .bool (r20 == r106)) rfl ?_
      rcases bool_cases (r20 == r106) with hc108 | hc108
      ·replace hG := cond_t hG hc108
       refine wl_detg rfl rfl (guard_eq rfl hc108) rfl (by decide) (fun st => x_move (v := I r14.2) (ee st rfl)) <| wl_detg rfl rfl (guard_eq rfl hc108) rfl (by decide) (fun st => x_eql (ee st rfl) (ee st rfl)) <| wd rfl (fun st => x_pick_t (v := .bool (r14.2 == 0)) (ee st rfl) hc108 (ee st rfl)) <| wm rfl (v := .bool (r14.2 == 0)) rfl ?_
       rcases bool_cases (r14.2 == 0) with hc109 | hc109
       ·replace hG := cond_t hG hc109
        refine wl_detg rfl rfl (guard_eq rfl hc109) rfl (by decide) (fun st => x_move (v := .slice A14_ra r14.1.length c14_ra) (ee st rfl)) ?_
        have bk1_33 : Bk w107 b1 26 #[I p0.rows, I p0.wd, I p0.lo, I p0.hi, .slice A0_0 p0.ts.length c0_0] := ((bk1_11.ext hx103).ext hx106)
        refine wl_detg rfl rfl (guard_eq rfl hc109) rfl (by decide) (fun st => x_loadn (l := [I p0.rows, I p0.wd, I p0.lo, I p0.hi, .slice A0_0 p0.ts.length c0_0]) agg_26 (ee st rfl) bk1_33 rfl rfl) <| wl_detg rfl rfl (guard_eq rfl hc109) rfl (by decide) (fun st => x_move (v := .slice A22_ra r22.1.length c22_ra) (ee st rfl)) <| wl_detg rfl rfl (guard_eq rfl hc109) rfl (by decide) (fun st => x_move (v := I p1) (ee st hp_1)) ?_
        have hS0_0_33 : Sl eTly w107 (ZZ Z w.heap.size [some b1]) A0_0 c0_0 p0.ts := ((hS0_0_11.mv (mv_ext hx103)).mv (mv_ext hx106))
        have hS22_ra_33 : Sl (eSl (eInt .i64)) w107 (ZZ Z w.heap.size [some b1]) A22_ra c22_ra r22.1 := (hS22_ra_32.mv (mv_ext hx106))
        replace hG := bind_some hG; obtain ⟨r110, hr110, hG⟩ := hG
        refine wl_exg rfl rfl (guard_eq rfl hc109) rfl (by decide) (fun st => x_call0 own_60 (ee st rfl) (am3 (ee st rfl) (ee st rfl) (ee st rfl)) (a60 K_ p0 r22.1 p1 A0_0 c0_0 A22_ra c22_ra (ZZ Z w.heap.size [some b1]) _ hS0_0_33 hS22_ra_33 r110 hr110)) ?_
        rintro _ w111 ⟨hx110, ⟨A110_r, c110_r, rfl, hS110_r⟩⟩
        have hp34 : Hp w [some b1] w111 := hp33.ext hx110
        have hS110_r := hS110_r.mv (hp33.call (Nat.le_refl _))
        have hS14_ra_34 : Sl (eInt .i64) w111 (ZZ Z w.heap.size [some b1]) A14_ra c14_ra r14.1 := ((((((((hS14_ra.mv (mv_ext hx16)).mv (mv_ext hx18)).mv (mv_ext hx20)).mv (mv_ext hx22)).mv (mv_ext hx24)).mv (mv_ext hx103)).mv (mv_ext hx106)).mv (mv_ext hx110))
        replace hG := bind_some hG; obtain ⟨r112, hr112, hG⟩ := hG
        refine wl_exg rfl rfl (guard_eq rfl hc109) rfl (by decide) (fun st => x_call0 own_30 (ee st rfl) (am2 (ee st rfl) (ee st rfl)) (a30 K_ r14.1 r110 A14_ra c14_ra A110_r c110_r ZA _ hS14_ra_34.all hS110_r.all r112 hr112)) ?_
        rintro _ w113 ⟨hx112, rfl⟩
        have hp35 : Hp w [some b1] w113 := hp34.ext hx112
        refine wd rfl (fun st => x_pick_t (v := .bool r112) (ee st rfl) hc109 (ee st rfl)) <| wm rfl (v := .bool r112) rfl ?_
        rcases bool_cases (r112) with hc114 | hc114
        ·replace hG := cond_t hG hc114
         replace hG := ifo_bind hG; obtain ⟨hw115, hG⟩ := hG
         refine wl_exg rfl rfl (guard_eq rfl hc114) rfl (by decide) (fun st => x_call0 own_21 (ee st rfl) am0 (a21 K_ ZA _ hw115)) ?_
         rintro _ w116 ⟨hx115, rfl⟩
         have hp36 : Hp w [some b1] w116 := hp35.ext hx115
         refine wd rfl (fun st => x_pick_t (v := .bool true) (ee st rfl) hc114 (ee st rfl)) <| wa rfl (v := .bool true) rfl <| wl_end <| lv_next <| cc_ret ?_
         have hr_ := Option.some.inj hG
         refine lv_ret1 rfl rfl ?_
         exact ⟨hp36.fin, congrArg Value.bool hr_⟩
        ·replace hG := cond_f hG hc114
         exact absurd (Option.some.inj hG) (by decide)
       ·replace hG := cond_f hG hc109
        exact absurd (Option.some.inj hG) (by decide)
      ·replace hG := cond_f hG hc108
       exact absurd (Option.some.inj hG) (by decide)
     ·replace hG := cond_f hG hc105
      refine wl_skip (c := false) rfl rfl (guard_eq rfl hc105) (by decide) rfl (by decide) <| wl_skip (c := false) rfl rfl (guard_eq rfl hc105) (by decide) rfl (by decide) <| wl_skip (c := false) rfl rfl (guard_eq rfl hc105) (by decide) rfl (by decide) <| wl_skip (c := false) rfl rfl (guard_eq rfl hc105) (by decide) rfl (by decide) <| wd rfl (fun st => x_pick_f (v := .bool false) (ee st rfl) hc105 (ee st rfl)) <| wd rfl (fun st => x_eqB eqb_4 (ee st rfl) (ee st rfl)) <| wm rfl (v := .bool (r20 == false)) rfl ?_
      rcases bool_cases (r20 == false) with hc117 | hc117
      ·replace hG := cond_t hG hc117
       refine wl_detg rfl rfl (guard_eq rfl hc117) rfl (by decide) (fun st => x_move (v := I r14.2) (ee st rfl)) <| wl_detg rfl rfl (guard_eq rfl hc117) rfl (by decide) (fun st => x_eql (ee st rfl) (ee st rfl)) <| wd rfl (fun st => x_pick_t (v := .bool (r14.2 == 0)) (ee st rfl) hc117 (ee st rfl)) <| wm rfl (v := .bool (r14.2 == 0)) rfl ?_
       rcases bool_cases (r14.2 == 0) with hc118 | hc118
       ·replace hG := cond_t hG hc118
        refine wl_detg rfl rfl (guard_eq rfl hc118) rfl (by decide) (fun st => x_move (v := .slice A14_ra r14.1.length c14_ra) (ee st rfl)) ?_
        have bk1_32 : Bk w104 b1 26 #[I p0.rows, I p0.wd, I p0.lo, I p0.hi, .slice A0_0 p0.ts.length c0_0] := (bk1_11.ext hx103)
        refine wl_detg rfl rfl (guard_eq rfl hc118) rfl (by decide) (fun st => x_loadn (l := [I p0.rows, I p0.wd, I p0.lo, I p0.hi, .slice A0_0 p0.ts.length c0_0]) agg_26 (ee st rfl) bk1_32 rfl rfl) <| wl_detg rfl rfl (guard_eq rfl hc118) rfl (by decide) (fun st => x_move (v := .slice A22_ra r22.1.length c22_ra) (ee st rfl)) <| wl_detg rfl rfl (guard_eq rfl hc118) rfl (by decide) (fun st => x_move (v := I p1) (ee st hp_1)) ?_
        have hS0_0_32 : Sl eTly w104 (ZZ Z w.heap.size [some b1]) A0_0 c0_0 p0.ts := (hS0_0_11.mv (mv_ext hx103))
        have hS22_ra_32 : Sl (eSl (eInt .i64)) w104 (ZZ Z w.heap.size [some b1]) A22_ra c22_ra r22.1 := ((hS22_ra.mv (mv_ext hx24)).mv (mv_ext hx103))
        replace hG := bind_some hG; obtain ⟨r119, hr119, hG⟩ := hG
        refine wl_exg rfl rfl (guard_eq rfl hc118) rfl (by decide) (fun st => x_call0 own_60 (ee st rfl) (am3 (ee st rfl) (ee st rfl) (ee st rfl)) (a60 K_ p0 r22.1 p1 A0_0 c0_0 A22_ra c22_ra (ZZ Z w.heap.size [some b1]) _ hS0_0_32 hS22_ra_32 r119 hr119)) ?_
        rintro _ w120 ⟨hx119, ⟨A119_r, c119_r, rfl, hS119_r⟩⟩
        have hp37 : Hp w [some b1] w120 := hp32.ext hx119
        have hS119_r := hS119_r.mv (hp32.call (Nat.le_refl _))
        have hS14_ra_37 : Sl (eInt .i64) w120 (ZZ Z w.heap.size [some b1]) A14_ra c14_ra r14.1 := (((((((hS14_ra.mv (mv_ext hx16)).mv (mv_ext hx18)).mv (mv_ext hx20)).mv (mv_ext hx22)).mv (mv_ext hx24)).mv (mv_ext hx103)).mv (mv_ext hx119))
        replace hG := bind_some hG; obtain ⟨r121, hr121, hG⟩ := hG
        refine wl_exg rfl rfl (guard_eq rfl hc118) rfl (by decide) (fun st => x_call0 own_30 (ee st rfl) (am2 (ee st rfl) (ee st rfl)) (a30 K_ r14.1 r119 A14_ra c14_ra A119_r c119_r ZA _ hS14_ra_37.all hS119_r.all r121 hr121)) ?_
        rintro _ w122 ⟨hx121, rfl⟩
        have hp38 : Hp w [some b1] w122 := hp37.ext hx121
        refine wd rfl (fun st => x_pick_t (v := .bool r121) (ee st rfl) hc118 (ee st rfl)) <| wm rfl (v := .bool r121) rfl ?_
        rcases bool_cases (r121) with hc123 | hc123
        ·replace hG := cond_t hG hc123
         replace hG := ifo_bind hG; obtain ⟨hw124, hG⟩ := hG
         refine wl_exg rfl rfl (guard_eq rfl hc123) rfl (by decide) (fun st => x_call0 own_21 (ee st rfl) am0 (a21 K_ ZA _ hw124)) ?_
         rintro _ w125 ⟨hx124, rfl⟩
         have hp39 : Hp w [some b1] w125 := hp38.ext hx124
         refine wd rfl (fun st => x_pick_t (v := .bool true) (ee st rfl) hc123 (ee st rfl)) <| wa rfl (v := .bool true) rfl <| wl_end <| lv_next <| cc_ret ?_
         have hr_ := Option.some.inj hG
         refine lv_ret1 rfl rfl ?_
         exact ⟨hp39.fin, congrArg Value.bool hr_⟩
        ·replace hG := cond_f hG hc123
         exact absurd (Option.some.inj hG) (by decide)
       ·replace hG := cond_f hG hc118
        exact absurd (Option.some.inj hG) (by decide)
      ·replace hG := cond_f hG hc117
       exact absurd (Option.some.inj hG) (by decide)
end Go.Proofs.Ythogdgkafaclaaa
end
section
namespace Go.Proofs.Ythogdgkafaclaaa
open Go.RowKit Go.ChangeShapes Go.WideShapes
theorem mapM_all {α β : Type} {g : α → Option β} : ∀ {l : List α} {r : List β}, l.mapM g = some r → ∀ x ∈ l, ∃ y, g x = some y
  | [], _, _, x, hx => by cases hx
  | a :: l, r, h, x, hx => by
    rw [List.mapM_cons] at h
    obtain ⟨y, hy, h2⟩ := Option.bind_eq_some_iff.1 h
    obtain ⟨ys, hys, _⟩ := Option.bind_eq_some_iff.1 h2
    rcases List.mem_cons.1 hx with rfl | hx
    · exact ⟨y, hy⟩
    · exact mapM_all hys x hx
/-- A reading of this type is data of this kind. -/
def Opn {α : Type} (P : Program) (t : TypeId) (e : Enc α) (wf : α → Prop) : Prop :=
  ∀ (H : Type) (enc : TypeId × Value → H) (w : World) (sp : Nat → Bool) (fuel : Nat) (cs : List Value) (x : DataW H × List MemPlace), DataW.trod enc P w 0 sp true fuel t cs = some x → ∃ a, e.R w ZA cs a ∧ wf a
def wfI (k : IntKind) (n : Int) : Prop := (Lit.int k n).wf = true
section
variable {P : Program} {t : TypeId}
theorem opn_int {k : IntKind} (ht : P.underlying t = some (.int k)) : Opn P t (eInt k) (wfI k) := by
  intro H enc w sp fuel cs x h
  obtain ⟨n, h1, _, h3⟩ := DataW.trod_int ht h
  exact ⟨n, h1, h3⟩
/-- A struct's fields. -/
theorem trod_fields {fs : Array Field} (ht : P.underlying t = some (.struct fs)) {H : Type} {enc : TypeId × Value → H} {w : World} {sp : Nat → Bool} {fuel : Nat} {cs : List Value} {x : DataW H × List MemPlace} (h : DataW.trod enc P w 0 sp true fuel t cs = some x) :
    cs.length = P.cellsOf t ∧ ∃ fuel', ∀ (i ft off : Nat), (fs[i]?).map (fun f => (f.type, f.offset)) = some (ft, off) → ∃ y, DataW.trod enc P w 0 sp true fuel' ft ((cs.drop off).take (P.cellsOf ft)) = some y := by
  cases fuel with
  | zero => simp [DataW.trod] at h
  | succ fuel =>
    unfold DataW.trod at h
    simp only [ht] at h
    split at h
    · rename_i hl
      obtain ⟨xs, hx, _⟩ := Option.map_eq_some_iff.1 h
      refine ⟨hl, fuel, fun i ft off hf => ?_⟩
      obtain ⟨f, hf', he⟩ := Option.map_eq_some_iff.1 hf
      obtain ⟨e1, e2⟩ : f.type = ft ∧ f.offset = off := by simpa using he
      have hm : f ∈ fs.toList := by rw [← Array.getElem?_toList] at hf'; exact List.mem_of_getElem? hf'
      have := mapM_all hx f hm
      rw [e1, e2] at this
      exact this
    · cases h
theorem cells_cell {w : World} {a : Addr} {n : Nat} {cs : List Value} (h : w.cells? 0 a n = some cs) : cs.length = n ∧ ∀ j u, cs[j]? = some u → w.cell? (a.add j) = some u := by
  unfold World.cells? at h
  rw [if_pos (Nat.zero_le _)] at h
  have hl := mapM_some_length h
  refine ⟨by simpa using hl, ?_⟩
  have key : ∀ (l : List Nat) (r : List Value), l.mapM (fun i => w.cell? (a.add i)) = some r → ∀ (j i : Nat) (u : Value), l[j]? = some i → r[j]? = some u → w.cell? (a.add i) = some u := by
    intro l
    induction l with
    | nil => intro r _ j i u hj; simp at hj
    | cons b l ih =>
      intro r h j i u hj hr
      rw [List.mapM_cons] at h
      obtain ⟨y, hy, h2⟩ := Option.bind_eq_some_iff.1 h
      obtain ⟨ys, hys, h3⟩ := Option.bind_eq_some_iff.1 h2
      obtain rfl : y :: ys = r := by simpa using h3
      cases j with
      | zero =>
        obtain rfl : b = i := by simpa using hj
        obtain rfl : y = u := by simpa using hr
        exact hy
      | succ j => exact ih ys hys j i u (by simpa using hj) (by simpa using hr)
  intro j u hj
  have hlt : j < n := by
    have := (List.getElem?_eq_some_iff.1 hj).1
    have h2 : cs.length = n := by simpa using hl
    omega
  exact key _ _ h j j u (by simp [hlt]) hj
theorem cell_none {w : World} {a : Addr} {u : Value} (h : w.cell? a = some u) : ∃ b o, a = ⟨b, o, none⟩ ∧ b < w.heap.size := by
  obtain ⟨b, o, pt⟩ := a
  cases pt with
  | none =>
    refine ⟨b, o, rfl, ?_⟩
    unfold World.cell? at h
    cases hq : w.heap[b]? with
    | none => simp [hq] at h
    | some o => exact (Array.getElem?_eq_some_iff.1 hq).1
  | some q =>
    unfold World.cell? at h
    cases hq : w.heap[b]? with
    | none => simp [hq] at h
    | some ob => cases ob <;> simp [hq] at h
theorem add_add {a : Addr} {k j : Nat} (h : k ≤ j) : (a.add k).add (j - k) = a.add j := by
  obtain ⟨b, o, pt⟩ := a
  cases pt with
  | none => rw [addr_add, addr_add, addr_add]; congr 1; omega
  | some q =>
    unfold Addr.add
    by_cases hj : j = 0
    · have : k = 0 := by omega
      subst this; subst hj; simp
    · by_cases hk : k = 0
      · subst hk; simp [hj]
      · by_cases hjk : j - k = 0
        · have : j = k := by omega
          subst this; simp [hk]
        · simp [hj, hk, hjk]; omega
/-- Slices of what can be read. -/
theorem opn_slice {α : Type} {e : TypeId} {ee : Enc α} {wf : α → Prop} (ht : P.underlying t = some (.slice e)) (hc : P.cellsOf e = ee.sz) (h0 : 0 < ee.sz) (ho : Opn P e ee wf) : Opn P t (eSl ee) (fun xs => xs.length ≤ maxLen ∧ ∀ x ∈ xs, wf x) := by
  intro H enc w sp fuel cs x h
  rcases Go.Deep.open_slice ht h with ⟨rfl, _⟩ | ⟨a, len, cap, m, n0, D, Pl, rfl, _, hlc, hcm, hm, _, hall⟩
  · exact ⟨[], ⟨none, 0, rfl, Sl.nil _ _ _⟩, by simp, by simp⟩
  · have hlm : len ≤ m := by rw [hm]; split <;> omega
    have key : ∀ n, n ≤ len → ∃ css xs, R2 ee w ZA css xs ∧ xs.length = n ∧ (∀ x ∈ xs, wf x) ∧ ∀ j u, css.flatten[j]? = some u → w.cell? (a.add j) = some u := by
      intro n
      induction n with
      | zero => exact fun _ => ⟨[], [], trivial, rfl, by simp, by simp⟩
      | succ n ih =>
        intro hn
        obtain ⟨css, xs, h1, h2, h3, h4⟩ := ih (by omega)
        obtain ⟨ds, hd, hy2⟩ := hall n (by omega)
        obtain ⟨z, hz, hwz⟩ := ho _ _ _ _ _ _ _ hy2
        obtain ⟨hl, hcell⟩ := cells_cell hd
        refine ⟨css ++ [ds], xs ++ [z], h1.append ⟨hz, trivial⟩, by simp [h2], ?_, ?_⟩
        · intro x hx
          rcases List.mem_append.1 hx with hx | hx
          · exact h3 x hx
          · rw [List.mem_singleton.1 hx]; exact hwz
        · intro j u hj
          rw [List.flatten_append] at hj
          rcases Nat.lt_or_ge j css.flatten.length with hlt | hge
          · rw [List.getElem?_append_left hlt] at hj
            exact h4 j u hj
          · rw [List.getElem?_append_right hge] at hj
            have h5 := hcell (j - css.flatten.length) u (by simpa using hj)
            have hfl : css.flatten.length = n * ee.sz := by rw [h1.flen, h2]
            rw [hfl] at h5 hge
            rw [hc] at h5
            rw [add_add hge] at h5
            exact h5
    obtain ⟨css, xs, h1, h2, h3, h4⟩ := key len (Nat.le_refl _)
    refine ⟨xs, ⟨some a, cap, by rw [h2], by rw [h2]; exact hlc, (fun e => by cases e), css, h1, ?_⟩, by rw [h2]; exact Nat.le_trans hlc hcm, h3⟩
    cases hf : css.flatten with
    | nil => exact .inl rfl
    | cons u us =>
      have hu := h4 0 u (by rw [hf]; rfl)
      obtain ⟨b, o, hab, hlt⟩ := cell_none hu
      have ha : a = ⟨b, o, none⟩ := by
        obtain ⟨b', o', pt⟩ := a
        cases pt <;> simp [Addr.add] at hab ⊢
        exact hab
      subst ha
      refine .inr ⟨b, o, rfl, trivial, hlt, fun j u hj => ?_⟩
      have := h4 j u (by rw [hf]; exact hj)
      rw [addr_add] at this
      exact this
end
section
variable {H : Type} {enc : TypeId × Value → H} {P : Program} {W W' : World}
theorem trodAll_carry {sp : Nat → Bool} : ∀ {ts : List TypeId} {vs : List Value} {ds : List (DataW H)} {ps : List MemPlace}, DataW.TrodAll enc P W 0 sp true ts vs ds ps → (∀ p ∈ ps, W.sameAt W' p) → DataW.TrodAll enc P W' 0 sp true ts vs ds ps
  | [], _, _, _, h, _ => by
    obtain ⟨rfl, rfl, rfl⟩ := trodAll_nil h
    exact rfl
  | _ :: _, _, _, _, h, hs => by
    obtain ⟨v, vs1, d, ds1, a, b, rfl, rfl, rfl, ⟨n, hn⟩, h2⟩ := trodAll_cons h
    exact ⟨a, b, ⟨n, DataW.trod_carry n _ _ _ hn fun p hp => hs p (List.mem_append_left _ hp)⟩, trodAll_carry h2 fun p hp => hs p (List.mem_append_right _ hp), rfl⟩
theorem args_read (K : Kids P (· < P.types.size)) (hz : ∀ t e, t < P.types.size → P.underlying t = some (.slice e) → 0 < P.cellsOf e) {ts : List TypeId} {vs : List Value} {ds : List (DataW H)} {ps : List MemPlace} (hT : ∀ t ∈ ts, t < P.types.size)
    (hA : DataW.TrodAll enc P W 0 (fun _ => true) true ts vs ds ps) (hb : Ext W W') (hlt : ∀ p ∈ ps, p.block < W.heap.size) (sp : Nat → Bool) (hs : ∀ p ∈ ps, sp p.block = true) : DataW.TrodAll enc P W' 0 sp true ts vs ds ps :=
  trodAll_carry (DataW.TrodAll.respare K hz hT hA hs) fun p hp => (below_of_ext hb).same (hlt p hp)
variable {α : Type} {e : Enc α} {wf : α → Prop} {t : TypeId} {b0 : Nat} {v : Value} {d : DataW H} {p : List MemPlace} {sp : Nat → Bool}
theorem val_agg {fs : Array Field} (ht : P.underlying t = some (.struct fs)) (ho : Opn P t e wf) (hv : Value.okWide P W .any b0 t v) (h : DataW.Trod enc P W 0 sp true t v d p) : ∃ a cs, v = .agg cs.toArray ∧ e.R W ZA cs a ∧ wf a := by
  unfold Value.okWide at hv
  rw [ht] at hv
  obtain ⟨cs, rfl, _⟩ := hv
  obtain ⟨n, hn⟩ := h
  obtain ⟨a, h1, h2⟩ := ho _ _ _ _ _ _ _ hn
  exact ⟨a, cs.toList, by simp, h1, h2⟩
theorem val_sl {ee : TypeId} (ht : P.underlying t = some (.slice ee)) {wf : List α → Prop} (ho : Opn P t (eSl e) wf) (hv : Value.okWide P W .any b0 t v) (h : DataW.Trod enc P W 0 sp true t v d p) : ∃ xs A c, v = .slice A xs.length c ∧ Sl e W ZA A c xs ∧ wf xs := by
  obtain ⟨A, n, c, rfl⟩ := okWide_slice ht hv
  obtain ⟨m, hm⟩ := h
  obtain ⟨xs, ⟨A2, c2, h1, h2⟩, h3⟩ := ho _ _ _ _ _ _ _ hm
  have : Value.slice A n c = Value.slice A2 xs.length c2 := by simpa [Value.cells] using h1
  exact ⟨xs, A2, c2, this, h2, h3⟩
theorem val_int {k : IntKind} (ht : P.underlying t = some (.int k)) (hv : Value.okWide P W .any b0 t v) (h : DataW.Trod enc P W 0 sp true t v d p) : ∃ n, v = .int k n ∧ wfI k n := by
  obtain ⟨n, h1, _, _, h4⟩ := open_int ht hv h
  exact ⟨n, h1, h4⟩
/-- The row's end: the call has laid new blocks alone. -/
theorem post_of_ext {f : Func} {s : ChangeSpec} {apart fresh handsOn again : Bool} {args : Array Value} {v : Value} {ds gs : List (DataW H)} {before pa pv : List MemPlace}
    (hW : DataW.Whole enc P f.params.toList s.vars apart W args.toList ds gs before)
    (hres : ∀ (b : Nat) (sp : Nat → Bool) (hd : Bool), DataW.TrodAll enc P W' b sp hd f.resultTypes.toList (v.resultList f.resultTypes.size) (s.fn H (ds ++ gs)).results [])
    (hargs : ∀ sp : Nat → Bool, (∀ p ∈ before, sp p.block = true) → DataW.TrodAll enc P W' 0 sp true f.params.toList args.toList (s.fn H (ds ++ gs)).args pa)
    (hvars : ∀ sp : Nat → Bool, (∀ p ∈ before, sp p.block = true) → DataW.TrodVars enc P W' sp s.vars (s.fn H (ds ++ gs)).vars pv)
    (hps : before = pa ++ pv) (hx : Ext W W')
    (hok : ∀ (j : Nat) (t : TypeId) (r : Value), f.resultTypes[j]? = some t → (v.resultList f.resultTypes.size)[j]? = some r → Value.okWide P W' .any 0 t r) :
    s.post enc P f apart fresh handsOn again W args v W' := by
  have hb := below_of_ext hx
  have hlt : ∀ p ∈ before, p.block < W.heap.size := fun p hp => hW.lt p hp
  have hold : ∀ p ∈ before, (fun b => decide (b < W.heap.size)) p.block = true := fun p hp => by simpa using hlt p hp
  refine ⟨ds, gs, before, [], pa, pv, hW, hres _ _ _, hargs _ hold, hvars _ hold, World.keptBut_mono (fun p hp => ⟨hp, ?_⟩) (hb.frame (· ∈ before)), fun _ => ?_⟩
  · rw [hps, List.mem_append] at hp
    exact Or.inr hp
  · obtain ⟨_, _, _, _, _, hz, hn⟩ := hW
    refine ⟨hok, _, _, ([] ++ pa) ++ pv, ⟨[] ++ pa, pv, trodAll_append (hargs _ (fun _ _ => rfl)) (hres _ _ _), hvars _ (fun _ _ => rfl), rfl, ?_, ?_⟩, ?_⟩
    · intro b off hp
      have hin : MemPlace.cell b off ∈ before := by rw [hps]; simpa using hp
      rw [hb.frozen (hlt _ hin)]
      exact hz b off hin
    · intro ha
      have := hn ha
      rw [hps] at this
      simpa using this
    · intro p hp _
      rw [hps]
      simpa using hp
theorem ret_calls {f : FuncId} {args : Array Value} {w : World} {R : Value → World → Prop} (h : Ret P f args w R) : Calls P f args w (fun e w' => ∃ v, e = .returned v ∧ R v w') := h
end
end Go.Proofs.Ythogdgkafaclaaa
end
section
set_option linter.unusedVariables false
set_option linter.unusedSimpArgs false
namespace Go.Proofs.Ythogdgkafaclaaa
open Go.RowKit
open Go.RowKit Go.ChangeShapes Go.WideShapes
theorem len_2 : ∀ {cs : List Value}, cs.length = 2 → ∃ a0 a1, cs = [a0, a1]
  | [a0, a1], _ => ⟨a0, a1, rfl⟩
theorem len_5 : ∀ {cs : List Value}, cs.length = 5 → ∃ a0 a1 a2 a3 a4, cs = [a0, a1, a2, a3, a4]
  | [a0, a1, a2, a3, a4], _ => ⟨a0, a1, a2, a3, a4, rfl⟩
theorem opn_23 : Opn Try.prog 23 eR (fun x => (wfI .i64 x.1 ∧ wfI .i64 x.2)) := by
  intro H enc w sp fuel cs x h
  obtain ⟨hl, fuel', hf⟩ := trod_fields Try.underlying23 h
  have hc : Try.prog.cellsOf 23 = 2 := by kernel_rfl
  rw [hc] at hl
  have k3 : Try.prog.cellsOf 3 = 1 := by kernel_rfl
  obtain ⟨a0, a1, rfl⟩ := len_2 hl
  obtain ⟨y0, hy0⟩ := hf 0 3 0 rfl
  simp only [k3, List.drop_zero, List.drop_succ_cons, List.take_succ_cons, List.take_zero] at hy0
  obtain ⟨n0, h0, w0⟩ := (opn_int Try.underlying3) _ _ _ _ _ _ _ hy0
  cases h0
  obtain ⟨y1, hy1⟩ := hf 1 3 1 rfl
  simp only [k3, List.drop_zero, List.drop_succ_cons, List.take_succ_cons, List.take_zero] at hy1
  obtain ⟨n1, h1, w1⟩ := (opn_int Try.underlying3) _ _ _ _ _ _ _ hy1
  cases h1
  exact ⟨⟨n0, n1⟩, rfl, w0, w1⟩
theorem opn_68 : Opn Try.prog 68 eTly (fun x => (wfI .i64 x.who ∧ wfI .i64 x.fr ∧ wfI .i64 x.to ∧ (wfI .i64 ((⟨x.lo, x.hi⟩ : (Int × Int)).1) ∧ wfI .i64 ((⟨x.lo, x.hi⟩ : (Int × Int)).2)))) := by
  intro H enc w sp fuel cs x h
  obtain ⟨hl, fuel', hf⟩ := trod_fields Try.underlying68 h
  have hc : Try.prog.cellsOf 68 = 5 := by kernel_rfl
  rw [hc] at hl
  have k3 : Try.prog.cellsOf 3 = 1 := by kernel_rfl
  have k23 : Try.prog.cellsOf 23 = 2 := by kernel_rfl
  obtain ⟨a0, a1, a2, a3, a4, rfl⟩ := len_5 hl
  obtain ⟨y0, hy0⟩ := hf 0 3 0 rfl
  simp only [k3, List.drop_zero, List.drop_succ_cons, List.take_succ_cons, List.take_zero] at hy0
  obtain ⟨n0, h0, w0⟩ := (opn_int Try.underlying3) _ _ _ _ _ _ _ hy0
  cases h0
  obtain ⟨y1, hy1⟩ := hf 1 3 1 rfl
  simp only [k3, List.drop_zero, List.drop_succ_cons, List.take_succ_cons, List.take_zero] at hy1
  obtain ⟨n1, h1, w1⟩ := (opn_int Try.underlying3) _ _ _ _ _ _ _ hy1
  cases h1
  obtain ⟨y2, hy2⟩ := hf 2 3 2 rfl
  simp only [k3, List.drop_zero, List.drop_succ_cons, List.take_succ_cons, List.take_zero] at hy2
  obtain ⟨n2, h2, w2⟩ := (opn_int Try.underlying3) _ _ _ _ _ _ _ hy2
  cases h2
  obtain ⟨y3, hy3⟩ := hf 3 23 3 rfl
  simp only [k23, List.drop_zero, List.drop_succ_cons, List.take_succ_cons, List.take_zero] at hy3
  obtain ⟨n3, h3, w3⟩ := opn_23 _ _ _ _ _ _ _ hy3
  cases h3
  exact ⟨⟨n0, n1, n2, n3.1, n3.2⟩, rfl, w0, w1, w2, w3⟩
theorem opn_26 : Opn Try.prog 26 eFld (fun x => (wfI .i64 x.rows ∧ wfI .i64 x.wd ∧ (wfI .i64 ((⟨x.lo, x.hi⟩ : (Int × Int)).1) ∧ wfI .i64 ((⟨x.lo, x.hi⟩ : (Int × Int)).2)) ∧ (x.ts.length ≤ maxLen ∧ ∀ y ∈ x.ts, (wfI .i64 y.who ∧ wfI .i64 y.fr ∧ wfI .i64 y.to ∧ (wfI .i64 ((⟨y.lo, y.hi⟩ : (Int × Int)).1) ∧ wfI .i64 ((⟨y.lo, y.hi⟩ : (Int × Int)).2)))))) := by
  intro H enc w sp fuel cs x h
  obtain ⟨hl, fuel', hf⟩ := trod_fields Try.underlying26 h
  have hc : Try.prog.cellsOf 26 = 5 := by kernel_rfl
  rw [hc] at hl
  have k3 : Try.prog.cellsOf 3 = 1 := by kernel_rfl
  have k23 : Try.prog.cellsOf 23 = 2 := by kernel_rfl
  have k24 : Try.prog.cellsOf 24 = 1 := by kernel_rfl
  obtain ⟨a0, a1, a2, a3, a4, rfl⟩ := len_5 hl
  obtain ⟨y0, hy0⟩ := hf 0 3 0 rfl
  simp only [k3, List.drop_zero, List.drop_succ_cons, List.take_succ_cons, List.take_zero] at hy0
  obtain ⟨n0, h0, w0⟩ := (opn_int Try.underlying3) _ _ _ _ _ _ _ hy0
  cases h0
  obtain ⟨y1, hy1⟩ := hf 1 3 1 rfl
  simp only [k3, List.drop_zero, List.drop_succ_cons, List.take_succ_cons, List.take_zero] at hy1
  obtain ⟨n1, h1, w1⟩ := (opn_int Try.underlying3) _ _ _ _ _ _ _ hy1
  cases h1
  obtain ⟨y2, hy2⟩ := hf 2 23 2 rfl
  simp only [k23, List.drop_zero, List.drop_succ_cons, List.take_succ_cons, List.take_zero] at hy2
  obtain ⟨n2, h2, w2⟩ := opn_23 _ _ _ _ _ _ _ hy2
  cases h2
  obtain ⟨y3, hy3⟩ := hf 3 24 4 rfl
  simp only [k24, List.drop_zero, List.drop_succ_cons, List.take_succ_cons, List.take_zero] at hy3
  obtain ⟨n3, ⟨A3, c3, h3, s3⟩, w3⟩ := (opn_slice Try.underlying24 (by kernel_rfl) (by decide) opn_68) _ _ _ _ _ _ _ hy3
  cases h3
  exact ⟨⟨n0, n1, n2.1, n2.2, n3⟩, ⟨A3, c3, rfl, s3⟩, w0, w1, w2, w3⟩
theorem ownT : ownKnob Try.prog.godebug = none := by kernel_rfl
theorem kidsT : Kids Try.prog (· < Try.prog.types.size) := kids_rows (by kernel_rfl) (by kernel_rfl)
theorem fullT : ∀ t e, t < Try.prog.types.size → Try.prog.underlying t = some (.slice e) → 0 < Try.prog.cellsOf e := slices_full_of Try.prog (by kernel_rfl)
end Go.Proofs.Ythogdgkafaclaaa
end
section
set_option linter.unusedVariables false
set_option linter.unusedSimpArgs false
namespace Go.Proofs.Ythogdgkafaclaaa
open Go.RowKit
open Go.RowKit Go.ChangeShapes Go.WideShapes Go.ChangeAt
set_option maxRecDepth 100000 in
theorem weedAsks_lifted (os : Os) (started : os.Started) (H : Type) (enc : TypeId × Value → H) :
    ReturnsInHanded {} Try.checked os 17 .any (Rows.weedAsksSpec.pre6 enc Try.prog Try.f17 Rows.weedAsksRow.domain false) (Rows.weedAsksSpec.post enc Try.prog Try.f17 false true false false) := by
  refine returnsInHanded_of_change (C := Try.checked) ownT started (by kernel_rfl) Try.func17
    (ChangeSpec.witness6 (enc := enc) (C := Try.checked) false ⟨#[], #[.agg #[.int .i64 0, .int .i64 0, .int .i64 0, .int .i64 0, .slice none 0 0], .int .i64 0, .slice none 0 0], []⟩ 8 (by kernel_rfl) (by kernel_rfl) (by kernel_rfl) (by kernel_rfl)) ?_
  intro W base args ds gs before hval0 hW hcnd _
  have hval : ∀ (j : Nat) t v, Try.f17.params[j]? = some t → args[j]? = some v → Value.okWide Try.prog W .any base t v := hval0
  have hW' := hW
  obtain ⟨p, q, hA0, hV, rfl, hfz, hnd⟩ := hW
  have hA : DataW.TrodAll enc Try.prog W 0 (fun _ => true) true Try.f17.params.toList args.toList ds p := hA0
  obtain ⟨rfl, rfl⟩ := trodVars_none hV
  simp only [List.append_nil] at hW'
  have hlt : ∀ x ∈ p, x.block < W.heap.size := fun x hx => by simpa using hW'.lt x hx
  have hAk := hA
  rw [Try.params17] at hA hval
  obtain ⟨v0, v1, v2, d0, d1, d2, p0, p1, p2, rfl, rfl, rfl, h0, h1, h2⟩ := trodAll_three hA
  obtain ⟨x0, cs0, hv0, ⟨A0_0, c0_0, rfl, s0_0⟩, w0⟩ := val_agg Try.underlying26 opn_26 (hval 0 26 v0 rfl rfl) h0
  obtain ⟨x1, hv1, w1⟩ := val_int Try.underlying3 (hval 1 3 v1 rfl rfl) h1
  obtain ⟨x2, A2, c2, hv2, s2, w2⟩ := val_sl Try.underlying43 (opn_slice Try.underlying43 (by kernel_rfl) (by decide) (opn_int Try.underlying3)) (hval 2 43 v2 rfl rfl) h2
  subst hv0
  subst hv1
  subst hv2
  obtain ⟨K, hG⟩ := weedAsks_true x0 x1 x2
  refine (ret_calls (a17 K x0 x1 x2 A0_0 c0_0 A2 c2 ZA W s0_0 s2 hG)).mono fun e W' ⟨v, he, hx, hv⟩ => ?_
  subst he
  subst hv
  exact ⟨_, rfl, post_of_ext (pa := (p0 ++ p1 ++ p2)) (pv := []) hW' (fun _ _ _ => trodAll_mk1 (shut_bool Try.underlying4 _)) (fun sp hs => args_read kidsT fullT (by rw [Try.params17]; decide) hAk hx hlt sp (fun x hx' => hs x (by simpa using hx'))) (fun _ _ => rfl) (by simp) hx (ok_one (by kernel_rfl) rfl (okWide_bool_mk Try.underlying4 _))⟩
theorem weedAsks_holds : Rows.WeedAsksSaid :=
  OpenClaim.holds_of_wide 17 Try.f17 rfl rfl rfl rfl rfl rfl rfl ⟨rfl, rfl, rfl, rfl, rfl⟩ rfl rfl rfl rfl rfl (by kernel_rfl) Try.func17 (by kernel_rfl)
    (of_decide_eq_true (by kernel_rfl)) (by unfold Func.isWrapper; first | (rw [if_pos (by decide +kernel)]; kernel_rfl) | (rw [if_neg (by decide +kernel)]; exact ⟨rfl, rfl⟩))
    (fun os started H enc _ => weedAsks_lifted os started H enc)
end Go.Proofs.Ythogdgkafaclaaa
end
