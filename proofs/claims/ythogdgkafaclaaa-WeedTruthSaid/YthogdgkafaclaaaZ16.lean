import Derived.Test.YthogdgkafaclaaaBD5
import Derived.ProofKit
import Derived.ChangeSame
import Derived.SizedLaws
import Derived.Deep.Slices
import Derived.Test.YthogdgkafaclaaaProg
import Derived.Test.YthogdgkafaclaaaRows
/-
  Proved: the law WeedTruth returns true for every argument that the row hands over, and leaves every argument as it was; no condition beside the row's own.
-/
set_option linter.all false
section
namespace Go.Proofs.Ythogdgkafaclaaa
theorem bd {α β : Type} {x : Option α} {a : α} {f : α → Option β} (h : x = some a) : x.bind f = f a := by rw [h]; rfl
theorem i64b {β : Type} {x : Int} {f : Int → Option β} (h0 : -9223372036854775808 ≤ x) (h1 : x ≤ 9223372036854775807) : (i64 x).bind f = f x := bd (i64_eq h0 h1)
theorem idxb {α β : Type} {xs : List α} {k : Nat} {f : α → Option β} (h : k < xs.length) : (idx xs (k : Int)).bind f = f xs[k] := bd (idx_eq h)
theorem ifob {β : Type} {p : Prop} [Decidable p] {f : Unit → Option β} (h : p) : (ifo p).bind f = f () := bd (if_pos h)
theorem remb {β : Type} {a b : Int} {f : Int → Option β} (h0 : 0 ≤ a) (h1 : 1 ≤ b) : (rem a b).bind f = f (a % b) := bd (if_pos ⟨h0, h1⟩)
theorem quob {β : Type} {a b : Int} {f : Int → Option β} (h0 : 0 ≤ a) (h1 : 1 ≤ b) : (quo a b).bind f = f (a / b) := bd (if_pos ⟨h0, h1⟩)
theorem cond_eq {α : Type} {b : Bool} {x y z : α} (h1 : b = true → x = z) (h2 : b = false → y = z) : cond b x y = z := by cases b; exact h2 rfl; exact h1 rfl
theorem ct {α : Type} {b : Bool} {x y : α} (h : b = true) : cond b x y = x := by rw [h]; rfl
theorem cf {α : Type} {b : Bool} {x y : α} (h : b = false) : cond b x y = y := by rw [h]; rfl
theorem nt {α : Type} {x y : α} : cond (!true) x y = y := rfl
theorem nf {α : Type} {x y : α} : cond (!false) x y = x := rfl
theorem dt {p : Prop} [Decidable p] (h : p) : decide p = true := decide_eq_true h
theorem df {p : Prop} [Decidable p] (h : ¬ p) : decide p = false := decide_eq_false h
theorem g_In (K : Nat) (n a b : Int) : G_In K n a b = some (inR n a b) := by unfold G_In inR; cases decide (a ≤ n) <;> rfl
theorem g_Within (K : Nat) (f : Fld) (lo hi : Int) : G_Within K (⟨lo, hi⟩ : Int × Int) 0 f.rows = some (rngOk f lo hi) := by
  unfold G_Within rngOk
  simp only []
  cases decide ((0 : Int) ≤ lo) <;> cases decide (lo ≤ hi) <;> rfl
/-- How often somebody stands in a part of a list. -/
def part (l : List Int) (who : Int) (fr n : Nat) : Nat := cnt who ((l.drop fr).take n)
theorem part_succ (l : List Int) (who : Int) (fr n : Nat) (h : fr < l.length) : part l who fr (n + 1) = (if l[fr] = who then 1 else 0) + part l who (fr + 1) n := by
  unfold part cnt
  rw [List.drop_eq_getElem_cons h, List.take_succ_cons, List.countP_cons]
  simp only [beq_iff_eq]
  omega
theorem part_le (l : List Int) (who : Int) (fr n : Nat) : part l who fr n ≤ n := by
  unfold part cnt
  exact Nat.le_trans List.countP_le_length (by simp; omega)
theorem l_Did (l : List Int) (who to : Int) : ∀ (n m i : Nat) (s : Int), to + 1 = i + n → n < m → 0 ≤ s → s + n ≤ 1000000 → i + n ≤ l.length → i + n ≤ 1000000 → G_Did_L1 l who to m s (i : Int) = some (s + (part l who i n : Nat))
  | n, 0, i, s, h, hm, _, _, _, _ => by omega
  | 0, m + 1, i, s, h, hm, h0, h1, hl, hl2 => by
    unfold G_Did_L1
    rw [cf (df (by omega))]
    simp [part, cnt]
  | n + 1, m + 1, i, s, h, hm, h0, h1, hl, hl2 => by
    unfold G_Did_L1
    have hi : i < l.length := by omega
    rw [ct (dt (by omega)), idxb hi]
    have e : ((i : Int) + 1) = ((i + 1 : Nat) : Int) := by omega
    rw [part_succ l who i n hi]
    refine cond_eq (fun hb => ?_) (fun hb => ?_)
    · rw [i64b (by omega) (by omega), i64b (by omega) (by omega), e, l_Did l who to n m (i + 1) (s + 1) (by omega) (by omega) (by omega) (by omega) (by omega) (by omega)]
      rw [if_pos (by simpa using hb)]
      congr 1; omega
    · rw [i64b (by omega) (by omega), e, l_Did l who to n m (i + 1) s (by omega) (by omega) (by omega) (by omega) (by omega) (by omega)]
      rw [if_neg (by simpa using hb)]
      congr 1; omega
theorem g_Did {K : Nat} {l : List Int} {who : Int} {fr n : Nat} {to : Int} (ht : to + 1 = fr + n) (hK : n < K) (hl : fr + n ≤ l.length) (hb : fr + n ≤ 1000000) : G_Did K l who (fr : Int) to = some (part l who fr n : Nat) := by
  unfold G_Did
  rw [l_Did l who to n K fr 0 ht hK (by omega) (by omega) hl hb]
  simp
theorem g_Did0 {K : Nat} {l : List Int} {who : Int} {n : Nat} {to : Int} (ht : to + 1 = n) (hK : n < K) (hl : n ≤ l.length) (hb : n ≤ 1000000) : G_Did K l who 0 to = some (part l who 0 n : Nat) := by
  have := g_Did (K := K) (l := l) (who := who) (fr := 0) (n := n) (to := to) (by omega) hK (by omega) (by omega)
  simpa using this
theorem l_Many (f : Fld) (hw : 0 ≤ f.wd) (hw3 : f.wd ≤ 3) (hr : f.rows ≤ 7) : ∀ (n m i : Nat) (s : Int), f.rows = i + n → n < m → 0 ≤ s → s * (f.wd + 1) ^ n ≤ 1000000 → G_Many_L2 f m s (i : Int) = some (s * (f.wd + 1) ^ n)
  | n, 0, i, s, h, hm, _, _ => by omega
  | 0, m + 1, i, s, h, hm, h0, h1 => by
    unfold G_Many_L2
    rw [cf (df (by omega))]
    simp
  | n + 1, m + 1, i, s, h, hm, h0, h1 => by
    unfold G_Many_L2
    have hp : 1 ≤ (f.wd + 1) ^ n := by
      have h9 : 0 < (f.wd + 1) ^ n := Int.pow_pos (by omega)
      omega
    have hs : s * (f.wd + 1) * (f.wd + 1) ^ n ≤ 1000000 := by
      rw [Int.mul_assoc]; rw [Int.pow_succ, Int.mul_comm ((f.wd + 1) ^ n)] at h1; exact h1
    have h2 : 0 ≤ s * (f.wd + 1) := Int.mul_nonneg h0 (by omega)
    have h3 : s * (f.wd + 1) ≤ 1000000 := by
      have h4 := Int.mul_le_mul_of_nonneg_left hp h2
      omega
    rw [ct (dt (by omega)), i64b (by omega) (by omega), i64b (by omega) (by omega), i64b (by omega) (by omega)]
    have e : ((i : Int) + 1) = ((i + 1 : Nat) : Int) := by omega
    rw [e, l_Many f hw hw3 hr n m (i + 1) (s * (f.wd + 1)) (by omega) (by omega) h2 hs]
    rw [Int.mul_assoc, Int.pow_succ, Int.mul_comm ((f.wd + 1) ^ n)]
theorem g_Many {K : Nat} {f : Fld} (hK : 1000 ≤ K) (hw : 0 ≤ f.wd) (hw3 : f.wd ≤ 3) (hr0 : 0 ≤ f.rows) (hr : f.rows ≤ 7) : G_Many K f = some (many f) := by
  unfold G_Many
  have h := (pow_bd7 (f.wd + 1) (by omega) (by omega) f.rows.toNat (by omega)).2
  have := l_Many f hw hw3 hr f.rows.toNat K 0 1 (by omega) (by omega) (by omega) (by omega)
  rw [Int.natCast_zero] at this
  rw [this]
  simp [many]
theorem talOk_ref (f : Fld) (t : Tly) : talOk f t = (inR t.who 0 (f.wd - 1) && (inR t.fr 0 (f.rows - 1) && (inR t.to t.fr (f.rows - 1) && rngOk f t.lo t.hi))) := by
  rw [Bool.eq_iff_iff]
  unfold talOk
  simp only [Bool.and_eq_true, inR_iff, decide_eq_true_eq]
  constructor
  · rintro ⟨⟨⟨⟨h1, h2⟩, h3⟩, h4⟩, h5⟩; exact ⟨h1, h2, ⟨h4, h3.2⟩, h5⟩
  · rintro ⟨h1, h2, ⟨h3, h4⟩, h5⟩; exact ⟨⟨⟨⟨h1, h2⟩, by omega, h4⟩, h3⟩, h5⟩
theorem l_Fault (K : Nat) (f : Fld) (hr : 1 ≤ f.rows ∧ f.rows ≤ 7) (hw : 1 ≤ f.wd ∧ f.wd ≤ 3) (hl : f.ts.length ≤ 1000000) : ∀ (n m i : Nat), f.ts.length = i + n → n < m → G_Fault_L12 K f m (i : Int) = some (if (f.ts.drop i).all (talOk f) = true then .inr () else .inl 1)
  | n, 0, i, h, hm => by omega
  | 0, m + 1, i, h, hm => by
    unfold G_Fault_L12
    rw [cf (df (by omega)), List.drop_eq_nil_of_le (by omega)]
    rfl
  | n + 1, m + 1, i, h, hm => by
    unfold G_Fault_L12
    have hi : i < f.ts.length := by omega
    rw [ct (dt (by omega)), idxb hi, i64b (by omega) (by omega), bd (g_In ..), List.drop_eq_getElem_cons hi, List.all_cons, talOk_ref]
    cases h1 : inR f.ts[i].who 0 (f.wd - 1) with
    | false => rfl
    | true =>
      rw [nt, i64b (by omega) (by omega), bd (g_In ..)]
      cases h2 : inR f.ts[i].fr 0 (f.rows - 1) with
      | false => rfl
      | true =>
        rw [nt, i64b (by omega) (by omega), bd (g_In ..)]
        cases h3 : inR f.ts[i].to f.ts[i].fr (f.rows - 1) with
        | false => rfl
        | true =>
          rw [nt, bd (g_Within ..)]
          cases h4 : rngOk f f.ts[i].lo f.ts[i].hi with
          | false => rfl
          | true =>
            have e : ((i : Int) + 1) = ((i + 1 : Nat) : Int) := by omega
            rw [nt, i64b (by omega) (by omega), e, l_Fault K f hr hw hl n m (i + 1) (by omega) (by omega)]
            rfl
theorem g_Fault {K : Nat} {f : Fld} (hK : 1000 ≤ K) : G_Fault K f = some (check f) := by
  unfold G_Fault check
  by_cases hb : big f = true
  · rw [if_pos hb]
    simp only [big, Bool.or_eq_true, decide_eq_true_eq] at hb
    by_cases h1 : 7 < f.rows
    · rw [ct (dt h1)]
    · rw [cf (df h1)]
      by_cases h2 : 3 < f.wd
      · rw [ct (dt h2)]
      · rw [cf (df h2), ct (dt (by omega))]
  · rw [if_neg hb]
    simp only [big, Bool.or_eq_true, decide_eq_true_eq, not_or] at hb
    rw [cf (df hb.1), cf (df hb.2.1), cf (df hb.2.2)]
    by_cases hr : f.rows < 1
    · rw [ct (dt hr), if_pos (by simp [bad, hr])]
    · by_cases hw : f.wd < 1
      · rw [cf (df hr), ct (dt hw), if_pos (by simp [bad, hw])]
      · rw [cf (df hr), cf (df hw), bd (g_Within ..)]
        have hbad : bad f = (!rngOk f f.lo f.hi || !f.ts.all (talOk f)) := by simp [bad, hr, hw]
        rw [hbad]
        cases h3 : rngOk f f.lo f.hi with
        | false => rfl
        | true =>
          have := l_Fault K f ⟨by omega, by omega⟩ ⟨by omega, by omega⟩ (by omega) f.ts.length K 0 (by omega) (by omega)
          rw [Int.natCast_zero] at this
          rw [nt, bd this, List.drop_zero]
          cases h4 : f.ts.all (talOk f) with
          | false => rfl
          | true =>
            rw [if_pos rfl, if_neg (by decide)]
            show (G_Many K f).bind _ = _
            rw [bd (g_Many hK (by omega) (by omega) (by omega) (by omega))]
            by_cases h5 : 2500 < many f
            · rw [ct (dt h5), if_pos h5]
            · rw [cf (df h5), if_neg h5]
theorem g_fault {K : Nat} {f : Fld} (hK : 1000 ≤ K) : G_fault K f = some (check f) := by unfold G_fault; rw [bd (g_Fault hK)]
/-- The fields that the laws go through. -/
def thin (f : Fld) : Bool := decide (f.ts.length ≤ 7) && (decide (check f ≠ 0) || decide (many f ≤ 250))
theorem g_Thin {K : Nat} {f : Fld} (hK : 1000 ≤ K) : G_Thin K f = some (thin f) := by
  unfold G_Thin thin
  by_cases h1 : f.ts.length ≤ 7
  · rw [ct (dt (by omega)), bd (g_Fault hK)]
    by_cases h2 : check f = 0
    · obtain ⟨hr, hw, _⟩ := check_ok h2
      rw [cf (by simp [h2]), bd (g_Many hK (by omega) (by omega) (by omega) (by omega))]
      simp [h1, h2]
    · rw [ct (by simp [h2])]
      simp [h1, h2]
  · rw [cf (df (by omega))]
    simp [h1]
theorem thin_many {f : Fld} (h : thin f = true) (hc : check f = 0) : many f ≤ 250 := by
  simp only [thin, Bool.and_eq_true, Bool.or_eq_true, decide_eq_true_eq] at h
  rcases h.2 with h2 | h2
  · exact absurd hc h2
  · exact h2
theorem g_to (K : Nat) (r : Int × Int) : G_to K r = some r := rfl
theorem l_Field (K : Nat) (f : Fld) (hl : f.ts.length ≤ 7) : ∀ (n m i : Nat), f.ts.length = i + n → n < m → G_Field_L7 K f m (i : Int) (f.ts.take i) = some f.ts
  | n, 0, i, h, hm => by omega
  | 0, m + 1, i, h, hm => by
    unfold G_Field_L7
    rw [cf (df (by omega)), List.take_of_length_le (by omega)]
  | n + 1, m + 1, i, h, hm => by
    unfold G_Field_L7
    have hi : i < f.ts.length := by omega
    have e : ((i : Int) + 1) = ((i + 1 : Nat) : Int) := by omega
    rw [ct (dt (by omega)), idxb hi, bd (g_to ..), ifob (by simp; omega), i64b (by omega) (by omega), e]
    have ht : f.ts.take i ++ [(⟨f.ts[i].who, f.ts[i].fr, f.ts[i].to, f.ts[i].lo, f.ts[i].hi⟩ : Tly)] = f.ts.take (i + 1) := (List.take_succ_eq_append_getElem hi).symm
    show G_Field_L7 K f m ((i + 1 : Nat) : Int) (f.ts.take i ++ [(⟨f.ts[i].who, f.ts[i].fr, f.ts[i].to, f.ts[i].lo, f.ts[i].hi⟩ : Tly)]) = _
    rw [ht, l_Field K f hl n m (i + 1) (by omega) (by omega)]
theorem g_Field {K : Nat} {f : Fld} (hK : 1000 ≤ K) (hl : f.ts.length ≤ 7) : G_Field K f = some f := by
  unfold G_Field
  have := l_Field K f hl f.ts.length K 0 (by omega) (by omega)
  rw [Int.natCast_zero, List.take_zero] at this
  rw [bd (g_to ..), bd this]
/-- All tallies but none. -/
theorem allAt_nil (l : List Int) : ∀ (ts : List Tly) (i : Nat), allAt l [] i ts = ts.all fun t => inR (didK l [t.who, t.fr, t.to]) t.lo t.hi
  | [], _ => rfl
  | t :: ts, i => by
    rw [allAt, allAt_nil l ts (i + 1), List.all_cons]
    rfl
/-- Somebody's rows in a tally's stretch. -/
def tdid (l : List Int) (t : Tly) : Int := (part l t.who t.fr.toNat (t.to + 1 - t.fr).toNat : Nat)
theorem didK_part (l : List Int) (t : Tly) (h : 0 ≤ t.fr ∧ t.fr ≤ t.to) : didK l [t.who, t.fr, t.to] = tdid l t := by
  unfold didK tdid part
  have : (t.to + 1).toNat - t.fr.toNat = (t.to + 1 - t.fr).toNat := by omega
  simp only [this]
theorem part_pad (l : List Int) (who : Int) (fr n : Nat) (h : fr + n ≤ l.length) : part (pad l) who fr n = part l who fr n := by
  unfold part pad
  rw [List.drop_append_of_le_length (by omega), List.take_append_of_le_length (by simp; omega)]
theorem tdid_pad (f : Fld) (l : List Int) (t : Tly) (hl : (l.length : Int) = f.rows) (h : talOk f t = true) : tdid (pad l) t = tdid l t := by
  have := talOk_bd h
  unfold tdid
  rw [part_pad _ _ _ _ (by omega)]
/-- What the reference calls allowed, and a truth. -/
def alw (f : Fld) (l : List Int) : Bool := l.all (okWho f) && (decide ((l.length : Int) = f.rows) && inR ((part l (-1) 0 l.length : Nat) : Int) f.lo f.hi)
def tru (f : Fld) (l : List Int) : Bool := alw f l && f.ts.all fun t => inR (tdid l t) t.lo t.hi
theorem okWho_in (f : Fld) (n : Int) (hw : 1 ≤ f.wd) : okWho f n = inR n (-1) (f.wd - 1) := by
  rw [Bool.eq_iff_iff]
  simp only [okWho, Bool.or_eq_true, beq_iff_eq, inR_iff]
  omega
end Go.Proofs.Ythogdgkafaclaaa
end
section
namespace Go.Proofs.Ythogdgkafaclaaa
/-- The i-th list of so many numbers. -/
def nthL (b : Int) : Nat → Int → List Int
  | 0, _ => []
  | n + 1, i => (i % b - 1) :: nthL b n (i / b)
theorem nthL_len (b : Int) : ∀ (n : Nat) (i : Int), (nthL b n i).length = n
  | 0, _ => rfl
  | n + 1, i => by simp [nthL, nthL_len b n]
theorem nthL_surj (b : Int) (hb : 1 ≤ b) : ∀ (l : List Int), (∀ x ∈ l, -1 ≤ x ∧ x ≤ b - 2) → ∃ i : Nat, (i : Int) < b ^ l.length ∧ nthL b l.length i = l
  | [], _ => ⟨0, by simp, rfl⟩
  | x :: l, h => by
    obtain ⟨i, hi, he⟩ := nthL_surj b hb l fun y hy => h y (List.mem_cons_of_mem _ hy)
    have hx := h x (List.mem_cons_self ..)
    have h0 : 0 ≤ (x + 1) + b * (i : Int) := by
      have : 0 ≤ b * (i : Int) := Int.mul_nonneg (by omega) (by omega)
      omega
    refine ⟨((x + 1) + b * (i : Int)).toNat, ?_, ?_⟩
    · have h2 : b ^ (l.length + 1) = b * b ^ l.length := by rw [Int.pow_succ, Int.mul_comm]
      rw [Int.toNat_of_nonneg h0, List.length_cons, h2]
      have h1 : b * ((i : Int) + 1) ≤ b * b ^ l.length := Int.mul_le_mul_of_nonneg_left (by omega) (by omega)
      rw [Int.mul_add, Int.mul_one] at h1
      omega
    · rw [Int.toNat_of_nonneg h0]
      simp only [List.length_cons, nthL]
      rw [Int.add_mul_emod_self_left, Int.add_mul_ediv_left _ _ (by omega), Int.emod_eq_of_lt (by omega) (by omega), Int.ediv_eq_zero_of_lt (by omega) (by omega), Int.zero_add, he]
      congr 1
      omega
theorem l_Nth (f : Fld) (hw : 1 ≤ f.wd ∧ f.wd ≤ 3) (hr : f.rows ≤ 7) : ∀ (n m i : Nat) (s : Int) (acc : List Int), f.rows = i + n → n < m → 0 ≤ s → s ≤ 1000000 → acc.length ≤ i → G_Nth_L2 f m s acc (i : Int) = some (acc ++ nthL (f.wd + 1) n s)
  | n, 0, i, s, acc, h, hm, _, _, _ => by omega
  | 0, m + 1, i, s, acc, h, hm, h0, h1, hl => by
    unfold G_Nth_L2
    rw [cf (df (by omega))]
    simp [nthL]
  | n + 1, m + 1, i, s, acc, h, hm, h0, h1, hl => by
    unfold G_Nth_L2
    have h2 : 0 ≤ s % (f.wd + 1) := Int.emod_nonneg _ (by omega)
    have h3 : s % (f.wd + 1) < f.wd + 1 := Int.emod_lt_of_pos _ (by omega)
    have h4 : 0 ≤ s / (f.wd + 1) := Int.ediv_nonneg h0 (by omega)
    have h5 : s / (f.wd + 1) ≤ s := Int.ediv_le_self _ h0
    have e : ((i : Int) + 1) = ((i + 1 : Nat) : Int) := by omega
    rw [ct (dt (by omega)), i64b (by omega) (by omega), remb h0 (by omega), i64b (by omega) (by omega), ifob (by simp; omega), i64b (by omega) (by omega), quob h0 (by omega), i64b (by omega) (by omega), i64b (by omega) (by omega), e,
      l_Nth f hw hr n m (i + 1) _ _ (by omega) (by omega) h4 (by omega) (by simp; omega)]
    simp [nthL]
theorem g_Nth {K : Nat} {f : Fld} {i : Int} (hK : 1000 ≤ K) (hc : check f = 0) (h0 : 0 ≤ i) (h1 : i ≤ 1000000) : G_Nth K f i = some (nthL (f.wd + 1) f.rows.toNat i) := by
  obtain ⟨hr, hw, _⟩ := check_ok hc
  unfold G_Nth
  have := l_Nth f hw hr.2 f.rows.toNat K 0 i [] (by omega) (by omega) h0 h1 (by simp)
  rw [Int.natCast_zero, List.nil_append] at this
  rw [bd this]
/-- The reference's truths. -/
def refs (f : Fld) : List (List Int) := ((List.range (many f).toNat).map fun i : Nat => nthL (f.wd + 1) f.rows.toNat (i : Int)).filter (tru f)
theorem many_nn {f : Fld} (hc : check f = 0) : 0 ≤ many f := by
  obtain ⟨hr, hw, _⟩ := check_ok hc
  exact (pow_bd7 (f.wd + 1) (by omega) (by omega) f.rows.toNat (by omega)).1
theorem tru_alw {f : Fld} {l : List Int} (h : tru f l = true) : (∀ x ∈ l, okWho f x = true) ∧ (l.length : Int) = f.rows ∧ inR ((part l (-1) 0 l.length : Nat) : Int) f.lo f.hi = true := by
  simp only [tru, alw, Bool.and_eq_true, decide_eq_true_eq, List.all_eq_true] at h
  exact ⟨h.1.1, h.1.2.1, h.1.2.2⟩
theorem mem_refs {f : Fld} (hc : check f = 0) {l : List Int} : l ∈ refs f ↔ tru f l = true := by
  obtain ⟨hr, hw, _⟩ := check_ok hc
  unfold refs
  rw [List.mem_filter]
  constructor
  · exact fun h => h.2
  · intro h
    refine ⟨?_, h⟩
    obtain ⟨h1, h2, _⟩ := tru_alw h
    obtain ⟨i, hi, he⟩ := nthL_surj (f.wd + 1) (by omega) l fun x hx => by
      have := h1 x hx
      rw [okWho_in f x hw.1, inR_iff] at this
      omega
    have hl : f.rows.toNat = l.length := by omega
    rw [List.mem_map]
    refine ⟨i, ?_, by rw [hl]; exact he⟩
    have h0 := many_nn hc
    have hm : many f = (f.wd + 1) ^ l.length := by unfold many; rw [hl]
    rw [List.mem_range]
    omega
theorem mem_whos {wd x : Int} (hw : 0 ≤ wd) : x ∈ whos wd ↔ -1 ≤ x ∧ x ≤ wd - 1 := by
  simp only [whos, List.mem_map, List.mem_range]
  constructor
  · rintro ⟨j, hj, rfl⟩; omega
  · intro h; exact ⟨(x + 1).toNat, by omega, by omega⟩
theorem mem_enum (p : List Int → Bool) (wd : Int) : ∀ (k : Nat) (pre a : List Int), a ∈ enum p wd k pre ↔ ∃ t : List Int, t.length = k ∧ (∀ x ∈ t, x ∈ whos wd) ∧ p (pad (pre ++ t)) = true ∧ a = pad (pre ++ t)
  | 0, pre, a => by
    unfold enum
    constructor
    · intro h
      split at h
      · rename_i hp
        exact ⟨[], rfl, by simp, by simpa using hp, by simpa using h⟩
      · cases h
    · rintro ⟨t, ht, _, hp, rfl⟩
      obtain rfl := List.length_eq_zero_iff.1 ht
      rw [List.append_nil] at hp ⊢
      rw [if_pos hp]; simp
  | k + 1, pre, a => by
    simp only [enum, List.mem_flatMap]
    constructor
    · rintro ⟨x, hx, h⟩
      obtain ⟨t, h1, h2, h3, h4⟩ := (mem_enum p wd k _ a).1 h
      rw [List.append_assoc, List.singleton_append] at h3 h4
      exact ⟨x :: t, by simp [h1], by simpa using ⟨hx, h2⟩, h3, h4⟩
    · rintro ⟨t, h1, h2, h3, h4⟩
      cases t with
      | nil => simp at h1
      | cons x t =>
        refine ⟨x, h2 x (List.mem_cons_self ..), (mem_enum p wd k _ a).2 ⟨t, by simpa using h1, fun y hy => h2 y (List.mem_cons_of_mem _ hy), ?_, ?_⟩⟩
        · rw [List.append_assoc, List.singleton_append]; exact h3
        · rw [List.append_assoc, List.singleton_append]; exact h4
theorem all_congr {α : Type} {p q : α → Bool} : ∀ {l : List α}, (∀ x ∈ l, p x = q x) → l.all p = l.all q
  | [], _ => rfl
  | a :: l, h => by rw [List.all_cons, List.all_cons, h a (List.mem_cons_self ..), all_congr fun x hx => h x (List.mem_cons_of_mem _ hx)]
theorem right_tru {f : Fld} {l : List Int} (ht : ∀ t ∈ f.ts, talOk f t = true) (hl : (l.length : Int) = f.rows) : rightB f (pad l) [] = (f.ts.all (fun t => inR (tdid l t) t.lo t.hi) && inR ((part l (-1) 0 l.length : Nat) : Int) f.lo f.hi) := by
  unfold rightB
  rw [allAt_nil]
  congr 1
  · refine all_congr fun t h => ?_
    have h1 := talOk_bd (ht t h)
    rw [didK_part _ _ ⟨h1.2.1.1, h1.2.1.2.1⟩, tdid_pad f l t hl (ht t h)]
  · have h2 : f.rows.toNat = l.length := by omega
    have h3 : (pad l).take f.rows.toNat = l.take l.length := by
      unfold pad; rw [h2, List.take_append_of_le_length (Nat.le_refl _)]
    rw [h3]
    unfold part
    rw [List.drop_zero]
theorem mem_truths {f : Fld} (hc : check f = 0) {a : List Int} : a ∈ truths f [] ↔ ∃ l, l ∈ refs f ∧ a = pad l := by
  obtain ⟨hr, hw, _, ht, _⟩ := check_ok hc
  unfold truths
  rw [mem_enum]
  constructor
  · rintro ⟨t, h1, h2, h3, h4⟩
    rw [List.nil_append] at h3 h4
    refine ⟨t, (mem_refs hc).2 ?_, h4⟩
    have hl : (t.length : Int) = f.rows := by omega
    have h3' : rightB f (pad t) [] = true := h3
    rw [right_tru ht hl, Bool.and_eq_true] at h3'
    have h5 : t.all (okWho f) = true := by
      rw [List.all_eq_true]
      intro x hx
      rw [okWho_in f x hw.1, inR_iff]
      have := (mem_whos (by omega)).1 (h2 x hx)
      omega
    unfold tru alw
    rw [h5, h3'.1, h3'.2]
    simp [hl]
  · rintro ⟨l, h, rfl⟩
    have h1 := (mem_refs hc).1 h
    obtain ⟨h2, h3, h4⟩ := tru_alw h1
    refine ⟨l, by omega, fun x hx => ?_, ?_, by simp⟩
    · rw [mem_whos (by omega)]
      have := h2 x hx
      rw [okWho_in f x hw.1, inR_iff] at this
      omega
    · rw [List.nil_append]
      show rightB f (pad l) [] = true
      rw [right_tru ht h3, h4]
      simp only [tru, Bool.and_eq_true] at h1
      rw [h1.2]; rfl
theorem truths_nil {f : Fld} (hc : check f = 0) : truths f [] = [] ↔ refs f = [] := by
  constructor
  · intro h
    rw [List.eq_nil_iff_forall_not_mem] at h ⊢
    exact fun l hl => h (pad l) ((mem_truths hc).2 ⟨l, hl, rfl⟩)
  · intro h
    rw [List.eq_nil_iff_forall_not_mem] at h ⊢
    rintro a ha
    obtain ⟨l, hl, _⟩ := (mem_truths hc).1 ha
    exact h l hl
/-- The error that comes with a question. -/
def sureE (f : Fld) : Int := if check f ≠ 0 then check f else if refs f = [] then 11 else 0
theorem askE_true (f : Fld) : askE f true = sureE f := by
  unfold askE sureE
  by_cases hc : check f = 0
  · simp only [hc, ne_eq, not_true_eq_false, if_false]
    by_cases h : refs f = []
    · rw [if_neg (by decide), if_pos h, if_pos ((truths_nil hc).2 h)]
    · rw [if_neg (by decide), if_neg h, if_neg (fun e => h ((truths_nil hc).1 e))]
  · rw [if_pos hc, if_pos hc]
theorem cntr_pad {f : Fld} {l : List Int} {who : Int} (hl : (l.length : Int) = f.rows) : cntr f (pad l) who = (part l who 0 l.length : Nat) := by
  unfold cntr part pad
  have h2 : f.rows.toNat = l.length := by omega
  rw [h2, List.take_append_of_le_length (Nat.le_refl _), List.drop_zero]
/-- A least and a greatest number, from a first one on. -/
theorem foldl_mm (g : List Int → Int) : ∀ (T : List (List Int)) (r : Int × Int),
    (T.foldl (fun r a => (min r.1 (g a), max r.2 (g a))) r).1 ≤ r.1 ∧ r.2 ≤ (T.foldl (fun r a => (min r.1 (g a), max r.2 (g a))) r).2 ∧
    (∀ a ∈ T, (T.foldl (fun r a => (min r.1 (g a), max r.2 (g a))) r).1 ≤ g a ∧ g a ≤ (T.foldl (fun r a => (min r.1 (g a), max r.2 (g a))) r).2) ∧
    ((T.foldl (fun r a => (min r.1 (g a), max r.2 (g a))) r).1 = r.1 ∨ ∃ a ∈ T, (T.foldl (fun r a => (min r.1 (g a), max r.2 (g a))) r).1 = g a) ∧
    ((T.foldl (fun r a => (min r.1 (g a), max r.2 (g a))) r).2 = r.2 ∨ ∃ a ∈ T, (T.foldl (fun r a => (min r.1 (g a), max r.2 (g a))) r).2 = g a)
  | [], r => ⟨Int.le_refl _, Int.le_refl _, by simp, .inl rfl, .inl rfl⟩
  | b :: T, r => by
    obtain ⟨h1, h2, h3, h4, h5⟩ := foldl_mm g T (min r.1 (g b), max r.2 (g b))
    rw [List.foldl_cons]
    simp only [] at h1 h2 h3 h4 h5
    refine ⟨by clear h4 h5; omega, by clear h4 h5; omega, ?_, ?_, ?_⟩
    · clear h4 h5
      intro a ha
      rcases List.mem_cons.1 ha with rfl | ha
      · exact ⟨by omega, by omega⟩
      · exact h3 a ha
    · clear h5
      rcases h4 with h4 | ⟨a, ha, h4⟩
      · by_cases h : r.1 ≤ g b
        · exact .inl (by omega)
        · exact .inr ⟨b, List.mem_cons_self .., by omega⟩
      · exact .inr ⟨a, List.mem_cons_of_mem _ ha, h4⟩
    · clear h4
      rcases h5 with h5 | ⟨a, ha, h5⟩
      · by_cases h : g b ≤ r.2
        · exact .inl (by omega)
        · exact .inr ⟨b, List.mem_cons_self .., by omega⟩
      · exact .inr ⟨a, List.mem_cons_of_mem _ ha, h5⟩
/-- The reference's bounds. -/
def didB (T : List (List Int)) (who : Int) : Int × Int := T.foldl (fun (r : Int × Int) (a : List Int) => (min r.1 (part a who 0 a.length : Nat), max r.2 (part a who 0 a.length : Nat))) (1099511627776, -1099511627776)
/-- Both say the same of the same truths. -/
theorem doneOf_didB {f : Fld} (hc : check f = 0) (hn : refs f ≠ []) (who : Int) : doneOf f (truths f []) who = didB (refs f) who := by
  obtain ⟨hr, hw, _⟩ := check_ok hc
  have hmin : ∀ (r : Int × Int) (a : List Int), rngS f who r a = (min r.1 (cntr f a who), max r.2 (cntr f a who)) := fun r a => rfl
  have hfold : doneOf f (truths f []) who = (truths f []).foldl (fun r a => (min r.1 (cntr f a who), max r.2 (cntr f a who))) (cntr f ((truths f []).headD []) who, cntr f ((truths f []).headD []) who) := rfl
  have hne : truths f [] ≠ [] := fun e => hn ((truths_nil hc).1 e)
  have hhd : (truths f []).headD [] ∈ truths f [] := by
    cases h : truths f [] with
    | nil => exact absurd h hne
    | cons a T => simp
  obtain ⟨p1, p2, p3, p4, p5⟩ := foldl_mm (fun a => cntr f a who) (truths f []) (cntr f ((truths f []).headD []) who, cntr f ((truths f []).headD []) who)
  obtain ⟨q1, q2, q3, q4, q5⟩ := foldl_mm (fun a => ((part a who 0 a.length : Nat) : Int)) (refs f) (1099511627776, -1099511627776)
  rw [← hfold] at p1 p2 p3 p4 p5
  have hd : didB (refs f) who = (refs f).foldl (fun r a => (min r.1 ((part a who 0 a.length : Nat) : Int), max r.2 ((part a who 0 a.length : Nat) : Int))) (1099511627776, -1099511627776) := rfl
  rw [← hd] at q1 q2 q3 q4 q5
  have hlen : ∀ l ∈ refs f, (l.length : Int) = f.rows := fun l hl => (tru_alw ((mem_refs hc).1 hl)).2.1
  -- each is met by the other
  have toP : ∀ l ∈ refs f, ∃ a ∈ truths f [], cntr f a who = ((part l who 0 l.length : Nat) : Int) := fun l hl => ⟨pad l, (mem_truths hc).2 ⟨l, hl, rfl⟩, cntr_pad (hlen l hl)⟩
  have toQ : ∀ a ∈ truths f [], ∃ l ∈ refs f, cntr f a who = ((part l who 0 l.length : Nat) : Int) := fun a ha => by
    obtain ⟨l, hl, rfl⟩ := (mem_truths hc).1 ha
    exact ⟨l, hl, cntr_pad (hlen l hl)⟩
  have bnd : ∀ l ∈ refs f, ((part l who 0 l.length : Nat) : Int) ≤ 7 := fun l hl => by
    have h1 := part_le l who 0 l.length
    have h2 := hlen l hl
    omega
  obtain ⟨l0, hl0⟩ : ∃ l, l ∈ refs f := by
    cases h : refs f with
    | nil => exact absurd h hn
    | cons a T => exact ⟨a, List.mem_cons_self ..⟩
  have b0 := bnd l0 hl0
  have m0 := q3 l0 hl0
  have P4 : ∃ a ∈ truths f [], (doneOf f (truths f []) who).1 = cntr f a who := by
    rcases p4 with h | h
    · exact ⟨_, hhd, h⟩
    · exact h
  have P5 : ∃ a ∈ truths f [], (doneOf f (truths f []) who).2 = cntr f a who := by
    rcases p5 with h | h
    · exact ⟨_, hhd, h⟩
    · exact h
  have Q4 : ∃ a ∈ refs f, (didB (refs f) who).1 = ((part a who 0 a.length : Nat) : Int) := by
    rcases q4 with h | h
    · simp only [] at h m0; omega
    · exact h
  have Q5 : ∃ a ∈ refs f, (didB (refs f) who).2 = ((part a who 0 a.length : Nat) : Int) := by
    rcases q5 with h | h
    · simp only [] at h m0; omega
    · exact h
  obtain ⟨a4, ha4, e4⟩ := P4
  obtain ⟨a5, ha5, e5⟩ := P5
  obtain ⟨l4, hl4, g4⟩ := Q4
  obtain ⟨l5, hl5, g5⟩ := Q5
  obtain ⟨x4, hx4, i4⟩ := toQ a4 ha4
  obtain ⟨x5, hx5, i5⟩ := toQ a5 ha5
  obtain ⟨y4, hy4, j4⟩ := toP l4 hl4
  obtain ⟨y5, hy5, j5⟩ := toP l5 hl5
  have u1 := (q3 x4 hx4).1
  have u2 := (q3 x5 hx5).2
  have u3 := (p3 y4 hy4).1
  have u4 := (p3 y5 hy5).2
  refine Prod.ext ?_ ?_ <;> omega
theorem donesTo_len (f : Fld) (T : List (List Int)) (k : Nat) : (donesTo f T k).length = k := by simp [donesTo]
theorem donesTo_get (f : Fld) (T : List (List Int)) (k i : Nat) (h : i < (donesTo f T k).length) : (donesTo f T k)[i] = doneOf f T (i : Int) := by simp [donesTo]
end Go.Proofs.Ythogdgkafaclaaa
end
section
namespace Go.Proofs.Ythogdgkafaclaaa
theorem sorted_ext : ∀ {l m : List Int}, l.Pairwise (· < ·) → m.Pairwise (· < ·) → (∀ x, x ∈ l ↔ x ∈ m) → l = m
  | [], [], _, _, _ => rfl
  | [], b :: m, _, _, h => by have := (h b).2 (List.mem_cons_self ..); cases this
  | a :: l, [], _, _, h => by have := (h a).1 (List.mem_cons_self ..); cases this
  | a :: l, b :: m, h1, h2, h => by
    rw [List.pairwise_cons] at h1 h2
    have hab : a = b := by
      rcases List.mem_cons.1 ((h a).1 (List.mem_cons_self ..)) with e | e
      · exact e
      · rcases List.mem_cons.1 ((h b).2 (List.mem_cons_self ..)) with e2 | e2
        · exact e2.symm
        · have := h1.1 b e2; have := h2.1 a e; omega
    subst hab
    congr 1
    refine sorted_ext h1.2 h2.2 fun x => ⟨fun hx => ?_, fun hx => ?_⟩
    · rcases List.mem_cons.1 ((h x).1 (List.mem_cons_of_mem _ hx)) with e | e
      · have := h1.1 x hx; omega
      · exact e
    · rcases List.mem_cons.1 ((h x).2 (List.mem_cons_of_mem _ hx)) with e | e
      · have := h2.1 x hx; omega
      · exact e
theorem getI {zs : List Int} {m : Nat} (h : m < zs.length) : zs.toArray[m]! = zs[m] := by
  rw [getElem!_pos zs.toArray m (by simpa using h)]; simp
theorem compact_inv {zs : List Int} (hs : zs.Pairwise (· ≤ ·)) : ∀ m, m ≤ zs.length → (Lib.compactUpTo zs.toArray m).Pairwise (· < ·) ∧ ∀ x, x ∈ Lib.compactUpTo zs.toArray m ↔ x ∈ zs.take m
  | 0, _ => by simp [Lib.compactUpTo]
  | m + 1, h => by
    obtain ⟨h1, h2⟩ := compact_inv hs m (by omega)
    have hm : m < zs.length := by omega
    rw [Lib.compactUpTo_succ, List.take_succ_eq_append_getElem hm, getI hm]
    have hle : ∀ x ∈ zs.take m, x ≤ zs[m] := fun x hx => by
      obtain ⟨i, hi, rfl⟩ := List.mem_iff_getElem.1 hx
      rw [List.getElem_take]
      simp at hi
      exact (List.pairwise_iff_getElem.1 hs) i m _ hm (by omega)
    by_cases hk : Lib.keeps zs.toArray m = true
    · rw [if_pos hk]
      refine ⟨?_, fun x => by rw [List.mem_append, List.mem_append, h2]⟩
      rw [List.pairwise_append]
      refine ⟨h1, by simp, fun x hx y hy => ?_⟩
      obtain rfl : y = zs[m] := by simpa using hy
      have hx2 := (h2 x).1 hx
      have hx3 := hle x hx2
      simp only [Lib.keeps, decide_eq_true_eq] at hk
      rcases hk with rfl | hk
      · simp at hx2
      · have hm1 : 0 < m := by
          rcases Nat.eq_zero_or_pos m with rfl | h0
          · simp at hx2
          · exact h0
        rw [getI hm, getI (by omega : m - 1 < zs.length)] at hk
        obtain ⟨i, hi, rfl⟩ := List.mem_iff_getElem.1 hx2
        rw [List.getElem_take] at hx3 ⊢
        simp at hi
        have h5 : zs[m - 1] ≤ zs[m] := (List.pairwise_iff_getElem.1 hs) (m - 1) m _ hm (by omega)
        have h4 : zs[i] ≤ zs[m - 1] := by
          by_cases e : i = m - 1
          · subst e; exact Int.le_refl _
          · exact (List.pairwise_iff_getElem.1 hs) i (m - 1) _ _ (by omega)
        have h6 : zs[m] ≠ zs[m - 1] := hk
        show zs[i] < zs[m]
        omega
    · rw [if_neg hk, List.append_nil]
      refine ⟨h1, fun x => ?_⟩
      rw [h2]
      have hk2 : ¬ (m = 0 ∨ zs.toArray[m]! ≠ zs.toArray[m - 1]!) := by simpa [Lib.keeps] using hk
      have hm1 : 0 < m := by
        rcases Nat.eq_zero_or_pos m with rfl | h0
        · exact absurd (.inl rfl) hk2
        · exact h0
      have he : zs.toArray[m]! = zs.toArray[m - 1]! := Decidable.byContradiction fun e => hk2 (.inr e)
      rw [getI hm, getI (by omega : m - 1 < zs.length)] at he
      have hin : zs[m] ∈ zs.take m := by
        rw [he, List.mem_iff_getElem]
        exact ⟨m - 1, by simp; omega, by simp⟩
      simp only [List.mem_append, List.mem_singleton]
      exact ⟨.inl, fun h => h.elim id fun e => e ▸ hin⟩
theorem whos_sorted (wd : Int) : (whos wd).Pairwise (· < ·) := by
  unfold whos
  rw [List.pairwise_map]
  exact List.pairwise_lt_range.imp fun h => by omega
/-- Who stands in a row of some lists. -/
def whoS (wd : Int) (T : List (List Int)) (row : Nat) : List Int := (whos wd).filter fun x => T.any fun a => a.getD row 0 == x
theorem whoF_eq {wd : Int} {T : List (List Int)} {row : Int} (hw : 0 ≤ wd) (hb : ∀ a ∈ T, -1 ≤ a.getD row.toNat 0 ∧ a.getD row.toNat 0 ≤ wd - 1) : whoF T row = whoS wd T row.toNat := by
  unfold whoF
  have hs : ((T.map fun a : List Int => a.getD row.toNat 0).mergeSort fun x y => decide (x ≤ y)).Pairwise (· ≤ ·) := by
    have := List.pairwise_mergeSort (le := fun x y : Int => decide (x ≤ y)) (fun a b c h1 h2 => by simp at *; omega) (fun a b => by simp; omega) (T.map fun a : List Int => a.getD row.toNat 0)
    exact this.imp fun h => by simpa using h
  obtain ⟨h1, h2⟩ := compact_inv hs _ (Nat.le_refl _)
  refine sorted_ext h1 ((whos_sorted wd).filter _) fun x => ?_
  rw [show Lib.compact ((T.map fun a : List Int => a.getD row.toNat 0).mergeSort fun x y => decide (x ≤ y)) = Lib.compactUpTo ((T.map fun a : List Int => a.getD row.toNat 0).mergeSort fun x y => decide (x ≤ y)).toArray ((T.map fun a : List Int => a.getD row.toNat 0).mergeSort fun x y => decide (x ≤ y)).length from rfl, h2, List.take_length, List.mem_mergeSort]
  unfold whoS
  simp only [List.mem_map, List.mem_filter, mem_whos hw, List.any_eq_true, beq_iff_eq]
  constructor
  · rintro ⟨a, ha, rfl⟩; exact ⟨hb a ha, a, ha, rfl⟩
  · rintro ⟨_, a, ha, e⟩; exact ⟨a, ha, e⟩
def f4 : Fld := ⟨4, 2, 0, 0, [⟨0, 0, 2, 2, 3⟩, ⟨1, 2, 3, 1, 2⟩]⟩
def f5 : Fld := ⟨4, 2, 0, 0, [⟨0, 0, 2, 2, 3⟩, ⟨1, 2, 3, 1, 2⟩, ⟨0, 0, 1, 2, 2⟩]⟩
def f6 : Fld := ⟨4, 2, 0, 0, [⟨0, 0, 2, 2, 3⟩, ⟨1, 2, 3, 1, 2⟩, ⟨1, 0, 1, 2, 2⟩]⟩
theorem who4 : whoF (truths f4 []) 3 = [0, 1] := by
  rw [whoF_eq (wd := 2) (by omega) (by decide +kernel)]
  decide +kernel
theorem awake_1000 : G_awake 1000 = some true := by
  unfold G_awake
  rw [bd (show G_four 1000 [] = some f4 from rfl), bd (show Q_Done 1000 f4 = some ([(2, 3), (1, 2)], 0) by decide +kernel), bd (show G_four 1000 [] = some f4 from rfl)]
  rw [bd (show Q_Who 1000 f4 3 = some ([0, 1], 0) by unfold Q_Who; rw [who4]; decide +kernel)]
  rw [bd (show G_two 1000 = some ⟨0, 0, 1, 2, 2⟩ from rfl), bd (show G_four 1000 [⟨0, 0, 1, 2, 2⟩] = some f5 from rfl), bd (show Q_Ask 1000 f5 0 = some ([2, 3], 0) by decide +kernel), bd (show G_four 1000 [] = some f4 from rfl)]
  rw [bd (show Q_Next 1000 f4 0 = some (0, 3, 0) by decide +kernel), bd (show G_wrong 1000 = some ⟨1, 0, 1, 2, 2⟩ from rfl), bd (show G_four 1000 [⟨1, 0, 1, 2, 2⟩] = some f6 from rfl), bd (show Q_First 1000 f6 = some (2, 0) by decide +kernel)]
  rw [bd (show G_wrong 1000 = some ⟨1, 0, 1, 2, 2⟩ from rfl), bd (show G_four 1000 [⟨1, 0, 1, 2, 2⟩] = some f6 from rfl), bd (show Q_Leave 1000 f6 = some ([0], 0) by decide +kernel)]
  decide +kernel
end Go.Proofs.Ythogdgkafaclaaa
end
section
namespace Go.Proofs.Ythogdgkafaclaaa
theorem whoS_len (wd : Int) (T : List (List Int)) (row : Nat) : (whoS wd T row).length ≤ (wd + 1).toNat := by
  unfold whoS
  refine Nat.le_trans (List.length_filter_le _ _) ?_
  rw [whos_len]; exact Nat.le_refl _
/-- The truths of both say the same of a row. -/
theorem who_refs {f : Fld} (hc : check f = 0) {row : Nat} (hr : (row : Int) < f.rows) : whoF (truths f []) (row : Int) = whoS f.wd (refs f) row := by
  obtain ⟨hr2, hw, _⟩ := check_ok hc
  rw [whoF_eq (wd := f.wd) (by omega) fun a ha => truths_bd (by omega) a ha _ (by omega)]
  have ht : (row : Int).toNat = row := by omega
  rw [ht]
  unfold whoS
  refine List.filter_congr fun x _ => ?_
  rw [Bool.eq_iff_iff, List.any_eq_true, List.any_eq_true]
  constructor
  · rintro ⟨a, ha, h⟩
    obtain ⟨l, hl, rfl⟩ := (mem_truths hc).1 ha
    have := (tru_alw ((mem_refs hc).1 hl)).2.1
    refine ⟨l, hl, ?_⟩
    rw [show (pad l).getD row 0 = l.getD row 0 by unfold pad; exact getD_app (by omega)] at h
    exact h
  · rintro ⟨l, hl, h⟩
    have := (tru_alw ((mem_refs hc).1 hl)).2.1
    refine ⟨pad l, (mem_truths hc).2 ⟨l, hl, rfl⟩, ?_⟩
    rw [show (pad l).getD row 0 = l.getD row 0 by unfold pad; exact getD_app (by omega)]
    exact h
end Go.Proofs.Ythogdgkafaclaaa
end
section
namespace Go.Proofs.Ythogdgkafaclaaa
theorem g_list {K : Nat} {l : List Int} (hl : l.length ≤ 1000000) : G_list K l = some l := by
  unfold G_list
  rw [ifob (by simp; omega), List.nil_append]
theorem prove_tru {f : Fld} (hc : check f = 0) (xs : List Int) : (check f == 0 && decide ((xs.length : Int) = f.rows) && xs.all (okWho f) && rightB f (pad xs) []) = tru f xs := by
  obtain ⟨hr2, hw, _, ht, _⟩ := check_ok hc
  unfold tru alw
  rw [hc]
  by_cases hl : (xs.length : Int) = f.rows
  · rw [right_tru ht hl]
    simp only [hl, decide_true, beq_self_eq_true, Bool.true_and]
    rw [Bool.and_assoc]
    congr 1
    rw [Bool.and_comm]
  · simp [hl]
end Go.Proofs.Ythogdgkafaclaaa
end
section
namespace Go.Proofs.Ythogdgkafaclaaa
/-- The places of the bits that are set. -/
def bitsL (s : Nat) : List Int := ((List.range 8).filter fun x => s / 2 ^ x % 2 == 1).map fun x : Nat => (x : Int)
def lexB : List Int → List Int → Bool
  | a :: as1, b :: bs1 => if a = b then lexB as1 bs1 else decide (a < b)
  | [], _ :: _ => true
  | _, [] => false
/-- Shorter, or as1 long and before it. -/
def sh (a b : List Int) : Bool := decide (a.length < b.length) || (a.length == b.length && lexB a b)
theorem lexB_irr : ∀ a : List Int, lexB a a = false
  | [] => rfl
  | a :: as1 => by rw [lexB, if_pos rfl, lexB_irr as1]
theorem lexB_trans : ∀ a b c : List Int, lexB a b = true → lexB b c = true → lexB a c = true
  | [], b, [], h1, h2 => by cases b <;> cases h1; cases h2
  | [], b, c :: cs1, h1, h2 => rfl
  | a :: as1, [], c, h1, h2 => by cases h1
  | a :: as1, b :: bs1, [], h1, h2 => by cases h2
  | a :: as1, b :: bs1, c :: cs1, h1, h2 => by
    rw [lexB] at h1 h2 ⊢
    by_cases e : a = b
    · subst e
      rw [if_pos rfl] at h1
      by_cases e2 : a = c
      · subst e2
        rw [if_pos rfl] at h2 ⊢
        exact lexB_trans as1 bs1 cs1 h1 h2
      · rw [if_neg e2] at h2 ⊢; exact h2
    · rw [if_neg e, decide_eq_true_eq] at h1
      by_cases e2 : b = c
      · subst e2
        rw [if_neg e, decide_eq_true_eq]; exact h1
      · rw [if_neg e2, decide_eq_true_eq] at h2
        rw [if_neg (by omega), decide_eq_true_eq]; omega
theorem sh_iff {a b : List Int} : sh a b = true ↔ a.length < b.length ∨ (a.length = b.length ∧ lexB a b = true) := by simp [sh]
theorem sh_irr (a : List Int) : sh a a = false := by
  rw [Bool.eq_false_iff]; intro h
  rcases sh_iff.1 h with h | h
  · omega
  · rw [lexB_irr] at h; cases h.2
theorem sh_trans {a b c : List Int} (h : sh a b = true) (g : sh b c = true) : sh a c = true := by
  rw [sh_iff] at h g ⊢
  rcases h with h | h <;> rcases g with g | g
  · exact .inl (by omega)
  · exact .inl (by omega)
  · exact .inl (by omega)
  · exact .inr ⟨by omega, lexB_trans _ _ _ h.2 g.2⟩
theorem cand_in : ∀ n : Nat, n < 8 → ∀ s : Nat, s < 2 ^ n → bitsL s ∈ candAll (n : Int) (n + 1) := by decide +kernel
theorem cand_of : ∀ n : Nat, n < 8 → ∀ l ∈ candAll (n : Int) (n + 1), ∃ s : Nat, s < 2 ^ n ∧ bitsL s = l := by decide +kernel
theorem cand_sorted : ∀ n : Nat, n < 8 → (candAll (n : Int) (n + 1)).Pairwise fun a b => sh a b = true := by decide +kernel
theorem fnd_spec {p : List Int → Bool} : ∀ {L : List (List Int)} (cur : List Int), L.any p = true → ∃ A x B, L = A ++ x :: B ∧ p x = true ∧ (∀ a ∈ A, p a = false) ∧ fnd p cur L = x
  | [], cur, h => by cases h
  | c :: L, cur, h => by
    by_cases hc : p c = true
    · exact ⟨[], c, L, rfl, hc, by simp, by rw [fnd, if_pos hc]⟩
    · have hc' : p c = false := by simpa using hc
      rw [List.any_cons, hc', Bool.false_or] at h
      obtain ⟨A, x, B, h1, h2, h3, h4⟩ := fnd_spec c h
      refine ⟨c :: A, x, B, by rw [h1]; rfl, h2, ?_, by rw [fnd, if_neg hc]; exact h4⟩
      intro a ha
      rcases List.mem_cons.1 ha with rfl | ha
      · exact hc'
      · exact h3 a ha
/-- In turn, the reference takes a shorter list that passes. -/
def pickF (p : List Int → Bool) (cur : List Int) (s : Nat) : List Int := if (sh (bitsL s) cur && p (bitsL s)) = true then bitsL s else cur
theorem pick_inv {n : Nat} (hn : n < 8) {p : List Int → Bool} {c0 : List Int} (h0 : c0 ∈ candAll (n : Int) (n + 1)) (hp : p c0 = true) : ∀ k, k ≤ 2 ^ n →
    (List.range k).foldl (pickF p) c0 ∈ candAll (n : Int) (n + 1) ∧ p ((List.range k).foldl (pickF p) c0) = true ∧ ∀ s, s < k → p (bitsL s) = true → sh (bitsL s) ((List.range k).foldl (pickF p) c0) = false
  | 0, _ => ⟨h0, hp, fun s hs => by omega⟩
  | k + 1, hk => by
    obtain ⟨h1, h2, h3⟩ := pick_inv hn h0 hp k (by omega)
    rw [range_fold]
    generalize (List.range k).foldl (pickF p) c0 = cur at h1 h2 h3
    unfold pickF
    by_cases hc : (sh (bitsL k) cur && p (bitsL k)) = true
    · rw [if_pos hc]
      rw [Bool.and_eq_true] at hc
      refine ⟨cand_in n hn k (by omega), hc.2, fun s hs hps => ?_⟩
      rcases Nat.lt_or_ge s k with h | h
      · rw [Bool.eq_false_iff]
        intro hh
        have := h3 s h hps
        rw [sh_trans hh hc.1] at this
        cases this
      · obtain rfl : s = k := by omega
        exact sh_irr _
    · rw [if_neg hc]
      refine ⟨h1, h2, fun s hs hps => ?_⟩
      rcases Nat.lt_or_ge s k with h | h
      · exact h3 s h hps
      · obtain rfl : s = k := by omega
        rw [hps, Bool.and_true] at hc
        simpa using hc
theorem pick_fnd {n : Nat} (hn : n < 8) {p : List Int → Bool} {c0 : List Int} (h0 : c0 ∈ candAll (n : Int) (n + 1)) (hp : p c0 = true) (cur : List Int) : (List.range (2 ^ n)).foldl (pickF p) c0 = fnd p cur (candAll (n : Int) (n + 1)) := by
  obtain ⟨h1, h2, h3⟩ := pick_inv hn h0 hp (2 ^ n) (Nat.le_refl _)
  obtain ⟨A, x, B, g1, g2, g3, g4⟩ := fnd_spec (p := p) cur (List.any_eq_true.2 ⟨c0, h0, hp⟩)
  rw [g4]
  generalize (List.range (2 ^ n)).foldl (pickF p) c0 = c at h1 h2 h3
  have hs := cand_sorted n hn
  have hx : x ∈ candAll (n : Int) (n + 1) := by rw [g1]; simp
  obtain ⟨s, hs1, rfl⟩ := cand_of n hn x hx
  have h4 := h3 s hs1 g2
  rw [g1] at h1 hs
  rw [List.pairwise_append] at hs
  rcases List.mem_append.1 h1 with h | h
  · rw [g3 c h] at h2; cases h2
  · rcases List.mem_cons.1 h with h | h
    · exact h
    · have := (List.pairwise_cons.1 hs.2.1).1 c h
      rw [this] at h4; cases h4
theorem shortest_pick {n : Nat} (hn : n < 8) {p : List Int → Bool} {c0 : List Int} (h0 : c0 ∈ candAll (n : Int) (n + 1)) (hp : p c0 = true) : shortestL (n : Int) p = (List.range (2 ^ n)).foldl (pickF p) c0 := by
  unfold shortestL
  rw [show ((n : Int) + 1).toNat = n + 1 by omega, pick_fnd hn h0 hp]
end Go.Proofs.Ythogdgkafaclaaa
end
section
namespace Go.Proofs.Ythogdgkafaclaaa
theorem gd0 {l : List Int} {i : Nat} (h : i < l.length) : l[i] = l.getD i 0 := by simp [List.getElem?_eq_getElem h]
theorem mem_bits {s : Nat} {r : Int} : r ∈ bitsL s ↔ ∃ x : Nat, x < 8 ∧ s / 2 ^ x % 2 = 1 ∧ r = x := by
  unfold bitsL
  simp only [List.mem_map, List.mem_filter, List.mem_range, beq_iff_eq]
  constructor
  · rintro ⟨x, ⟨h1, h2⟩, rfl⟩; exact ⟨x, h1, h2, rfl⟩
  · rintro ⟨x, h1, h2, rfl⟩; exact ⟨x, ⟨h1, h2⟩, rfl⟩
end Go.Proofs.Ythogdgkafaclaaa
end
section
namespace Go.Proofs.Ythogdgkafaclaaa
theorem allAt_iff (l out : List Int) : ∀ (ts : List Tly) (i : Nat), allAt l out i ts = true ↔ ∀ k t, ts[k]? = some t → okAt l out (i + k) t = true
  | [], i => by simp [allAt]
  | s :: ts, i => by
    rw [allAt, Bool.and_eq_true, allAt_iff l out ts (i + 1)]
    constructor
    · rintro ⟨h1, h2⟩ k t hk
      cases k with
      | zero =>
        obtain rfl : s = t := by simpa using hk
        simpa using h1
      | succ k =>
        have := h2 k t (by simpa using hk)
        rw [show i + (k + 1) = i + 1 + k by omega]; exact this
    · intro h
      exact ⟨by simpa using h 0 s rfl, fun k t hk => by
        have := h (k + 1) t (by simpa using hk)
        rw [show i + 1 + k = i + (k + 1) by omega]; exact this⟩
/-- A tally is right in a list. -/
def rt (l : List Int) (t : Tly) : Bool := inR (tdid l t) t.lo t.hi
theorem mem_truthsO {f : Fld} (hc : check f = 0) {out a : List Int} : a ∈ truths f out ↔ ∃ l, alw f l = true ∧ (∀ (k : Nat) t, f.ts[k]? = some t → out.contains (k : Int) = true ∨ rt l t = true) ∧ a = pad l := by
  obtain ⟨hr, hw, _, ht, _⟩ := check_ok hc
  have key : ∀ l : List Int, (l.length : Int) = f.rows → (rightB f (pad l) out = true ↔ inR ((part l (-1) 0 l.length : Nat) : Int) f.lo f.hi = true ∧ ∀ (k : Nat) t, f.ts[k]? = some t → out.contains (k : Int) = true ∨ rt l t = true) := by
    intro l hl
    unfold rightB
    rw [Bool.and_eq_true, allAt_iff]
    have h3 : (pad l).take f.rows.toNat = l.take l.length := by
      unfold pad; rw [show f.rows.toNat = l.length by omega, List.take_append_of_le_length (Nat.le_refl _)]
    rw [h3]
    have hp : part l (-1) 0 l.length = cnt (-1) (l.take l.length) := by unfold part; rw [List.drop_zero]
    rw [hp, and_comm]
    refine and_congr Iff.rfl ⟨fun h k t hk => ?_, fun h k t hk => ?_⟩
    · have h2 := h k t hk
      have h4 := talOk_bd (ht t (List.mem_of_getElem? hk))
      unfold okAt at h2
      rw [Bool.or_eq_true, didK_part _ _ ⟨h4.2.1.1, h4.2.1.2.1⟩, tdid_pad f l t hl (ht t (List.mem_of_getElem? hk)), Nat.zero_add] at h2
      exact h2
    · have h2 := h k t hk
      have h4 := talOk_bd (ht t (List.mem_of_getElem? hk))
      unfold okAt
      rw [Bool.or_eq_true, didK_part _ _ ⟨h4.2.1.1, h4.2.1.2.1⟩, tdid_pad f l t hl (ht t (List.mem_of_getElem? hk)), Nat.zero_add]
      exact h2
  have hall : ∀ l : List Int, l.all (okWho f) = true ↔ ∀ x ∈ l, x ∈ whos f.wd := fun l => by
    rw [List.all_eq_true]
    refine ⟨fun h x hx => ?_, fun h x hx => ?_⟩
    · have := h x hx
      rw [okWho_in f x hw.1, inR_iff] at this
      exact (mem_whos (by omega)).2 (by omega)
    · rw [okWho_in f x hw.1, inR_iff]
      have := (mem_whos (by omega)).1 (h x hx)
      omega
  unfold truths
  rw [mem_enum]
  constructor
  · rintro ⟨t, h1, h2, h3, h4⟩
    rw [List.nil_append] at h3 h4
    have hl : (t.length : Int) = f.rows := by omega
    obtain ⟨h5, h6⟩ := (key t hl).1 h3
    refine ⟨t, ?_, h6, h4⟩
    unfold alw
    rw [(hall t).2 h2, h5]
    simp [hl]
  · rintro ⟨l, h1, h2, rfl⟩
    simp only [alw, Bool.and_eq_true, decide_eq_true_eq] at h1
    refine ⟨l, by omega, (hall l).1 h1.1, ?_, by simp⟩
    rw [List.nil_append]
    exact (key l h1.2.1).2 ⟨h1.2.2, h2⟩
theorem truths_ne {f : Fld} (hc : check f = 0) {out : List Int} : truths f out ≠ [] ↔ ∃ l, alw f l = true ∧ ∀ (k : Nat) t, f.ts[k]? = some t → out.contains (k : Int) = true ∨ rt l t = true := by
  constructor
  · intro h
    obtain ⟨a, ha⟩ := List.exists_mem_of_ne_nil _ h
    obtain ⟨l, h1, h2, _⟩ := (mem_truthsO hc).1 ha
    exact ⟨l, h1, h2⟩
  · rintro ⟨l, h1, h2⟩ e
    have := (mem_truthsO hc (out := out) (a := pad l)).2 ⟨l, h1, h2, rfl⟩
    rw [e] at this
    cases this
/-- The field with other tallies. -/
theorem check_sub {f : Fld} (hc : check f = 0) {ts : List Tly} (h5 : ts.length ≤ 5) (ht : ∀ t ∈ ts, talOk f t = true) : check { f with ts := ts } = 0 := by
  obtain ⟨hr, hw, h6, ht2, hl, hm⟩ := check_ok hc
  unfold check
  rw [if_neg, if_neg, if_neg]
  · show ¬ 2500 < many f; omega
  · simp only [bad, Bool.or_eq_true, decide_eq_true_eq, Bool.not_eq_true', not_or, Bool.not_eq_false, List.all_eq_true]
    exact ⟨by omega, by omega, hl, ht⟩
  · simp only [big, Bool.or_eq_true, decide_eq_true_eq, not_or]
    omega
/-- Some list is allowed. -/
theorem alw_some {f : Fld} (hc : check f = 0) : ∃ l, alw f l = true := by
  obtain ⟨hr, hw, h6, ht2, hl, hm⟩ := check_ok hc
  simp only [rngOk, Bool.and_eq_true, decide_eq_true_eq] at hl
  refine ⟨List.replicate f.lo.toNat (-1) ++ List.replicate (f.rows - f.lo).toNat 0, ?_⟩
  have h1 : part (List.replicate f.lo.toNat (-1) ++ List.replicate (f.rows - f.lo).toNat 0) (-1) 0 (List.replicate f.lo.toNat (-1 : Int) ++ List.replicate (f.rows - f.lo).toNat 0).length = f.lo.toNat := by
    unfold part cnt
    rw [List.drop_zero, List.take_length, List.countP_append, List.countP_replicate, List.countP_replicate]
    simp
  unfold alw
  rw [h1]
  simp only [Bool.and_eq_true, decide_eq_true_eq, List.all_eq_true, inR_iff, List.length_append, List.length_replicate]
  refine ⟨fun x hx => ?_, by omega, by omega⟩
  rw [okWho_in f x hw.1, inR_iff]
  rcases List.mem_append.1 hx with h | h
  · have := (List.mem_replicate.1 h).2; omega
  · have := (List.mem_replicate.1 h).2; omega
theorem shortest_spec {n : Nat} (hn : n < 8) {p : List Int → Bool} {s0 : Nat} (h0 : s0 < 2 ^ n) (hp : p (bitsL s0) = true) :
    ∃ s, s < 2 ^ n ∧ shortestL (n : Int) p = bitsL s ∧ p (bitsL s) = true ∧ ∀ s', s' < 2 ^ n → p (bitsL s') = true → sh (bitsL s') (bitsL s) = false := by
  rw [shortest_pick hn (cand_in n hn s0 h0) hp]
  obtain ⟨h1, h2, h3⟩ := pick_inv hn (cand_in n hn s0 h0) hp (2 ^ n) (Nat.le_refl _)
  obtain ⟨s, hs, he⟩ := cand_of n hn _ h1
  refine ⟨s, hs, he.symm, ?_, fun s' hs' hp' => ?_⟩
  · rw [he]; exact h2
  · rw [he]; exact h3 s' hs' hp'
theorem sh_len {a b : List Int} (h : sh a b = false) : b.length ≤ a.length := by
  rw [Bool.eq_false_iff] at h
  refine Decidable.byContradiction fun hh => h (sh_iff.2 (.inl (by omega)))
theorem bits_has {s x : Nat} (hx : x < 8) : (bitsL s).contains (x : Int) = (s / 2 ^ x % 2 == 1) := by
  rw [Bool.eq_iff_iff, List.contains_iff_mem, mem_bits, beq_iff_eq]
  constructor
  · rintro ⟨y, hy, h, e⟩
    obtain rfl : x = y := by omega
    exact h
  · intro h; exact ⟨x, hx, h, rfl⟩
end Go.Proofs.Ythogdgkafaclaaa
end
section
namespace Go.Proofs.Ythogdgkafaclaaa
/-- By so many questions c can be known of what is in S; g says what is answered. -/
def Qn (c : List Int → Int) (g : List Int → Nat → Int) (R : Nat) : Nat → (List Int → Prop) → Prop
  | 0, S => ∀ a b, S a → S b → c a = c b
  | m + 1, S => (∀ a b, S a → S b → c a = c b) ∨ ∃ r, r < R ∧ ∀ v, Qn c g R m (fun a => S a ∧ g a r = v)
section
variable {c : List Int → Int} {g : List Int → Nat → Int} {R : Nat} {S S' : List Int → Prop}
theorem Qn_all (hc : ∀ a b, S a → S b → (∀ r, r < R → g a r = g b r) → c a = c b) : Qn c g R R S := by
  have key : ∀ (k : Nat), k ≤ R → ∀ (S : List Int → Prop), (∀ a b, S a → S b → (∀ r, r < R → g a r = g b r) → c a = c b) → (∀ a b, S a → S b → ∀ r, k ≤ r → r < R → g a r = g b r) → Qn c g R k S := by
    intro k
    induction k with
    | zero => exact fun _ S h1 h2 a b ha hb => h1 a b ha hb fun r hr => h2 a b ha hb r (Nat.zero_le _) hr
    | succ k ih =>
      intro hk S h1 h2
      refine .inr ⟨k, by omega, fun v => ih (by omega) _ (fun a b ha hb => h1 a b ha.1 hb.1) fun a b ha hb r hr1 hr2 => ?_⟩
      rcases Nat.lt_or_ge k r with h | h
      · exact h2 a b ha.1 hb.1 r h hr2
      · obtain rfl : r = k := by omega
        rw [ha.2, hb.2]
  exact key R (Nat.le_refl _) S hc fun a b _ _ r h1 h2 => by omega
end
end Go.Proofs.Ythogdgkafaclaaa
end
section
namespace Go.Proofs.Ythogdgkafaclaaa
theorem tb (s i : Nat) : (s / 2 ^ i % 2 == 1) = s.testBit i := by rw [Nat.testBit_eq_decide_div_mod_eq]; rfl
/-- All lists, by their numbers. -/
def lists (f : Fld) : List (List Int) := (List.range (many f).toNat).map fun i : Nat => nthL (f.wd + 1) f.rows.toNat (i : Int)
/-- There is a truth without some tallies. -/
def posB (f : Fld) (out : List Int) : Bool := decide (truths f out ≠ [])
theorem posB_iff {f : Fld} (hc : check f = 0) {s : Nat} : posB f (bitsL s) = true ↔ ∃ l, alw f l = true ∧ ∀ (i : Nat) t, f.ts[i]? = some t → s.testBit i = true ∨ rt l t = true := by
  obtain ⟨hr, hw, h5, _⟩ := check_ok hc
  unfold posB
  rw [decide_eq_true_eq, truths_ne hc]
  refine exists_congr fun l => and_congr Iff.rfl ?_
  refine forall_congr' fun i => forall_congr' fun t => ⟨fun h hi => ?_, fun h hi => ?_⟩
  · obtain ⟨hlt, _⟩ := List.getElem?_eq_some_iff.1 hi
    have := h hi
    rw [bits_has (by omega), tb] at this; exact this
  · obtain ⟨hlt, _⟩ := List.getElem?_eq_some_iff.1 hi
    rw [bits_has (by omega), tb]; exact h hi
theorem posB_full {f : Fld} (hc : check f = 0) : posB f (bitsL (2 ^ f.ts.length - 1)) = true := by
  rw [posB_iff hc]
  obtain ⟨l, hl⟩ := alw_some hc
  refine ⟨l, hl, fun i t hi => ?_⟩
  obtain ⟨hlt, _⟩ := List.getElem?_eq_some_iff.1 hi
  exact .inl (by rw [Nat.testBit_two_pow_sub_one, dt hlt])
/-- The smallest set. -/
def leaveL (f : Fld) : List Int := shortestL (f.ts.length : Int) (posB f)
theorem leave_spec {f : Fld} (hc : check f = 0) : ∃ s, s < 2 ^ f.ts.length ∧ leaveL f = bitsL s ∧ posB f (bitsL s) = true ∧ ∀ s', s' < 2 ^ f.ts.length → posB f (bitsL s') = true → sh (bitsL s') (bitsL s) = false := by
  obtain ⟨hr, hw, h5, _⟩ := check_ok hc
  have h2 : 1 ≤ 2 ^ f.ts.length := Nat.one_le_two_pow
  exact shortest_spec (by omega) (s0 := 2 ^ f.ts.length - 1) (by omega) (posB_full hc)
theorem alw_up (f : Fld) (k : Nat) (l : List Int) : alw (upF f k) l = alw f l := rfl
theorem check_up {f : Fld} (hc : check f = 0) (k : Nat) : check (upF f k) = 0 := by
  obtain ⟨hr, hw, h5, ht, _⟩ := check_ok hc
  exact check_sub hc (by simp; omega) fun t h => ht t (List.mem_of_mem_take h)
/-- The first so many tallies are right together. -/
theorem up_iff {f : Fld} (hc : check f = 0) (k : Nat) : truths (upF f k) [] ≠ [] ↔ ∃ l, alw f l = true ∧ ∀ (i : Nat) t, f.ts[i]? = some t → i < k → rt l t = true := by
  rw [truths_ne (check_up hc k)]
  refine exists_congr fun l => and_congr (by rw [alw_up]) (forall_congr' fun i => forall_congr' fun t => ?_)
  show ((f.ts.take k)[i]? = some t → _) ↔ _
  rw [List.getElem?_take]
  constructor
  · intro h hi hk
    rw [if_pos hk] at h
    rcases h hi with h1 | h1
    · simp at h1
    · exact h1
  · intro h hi
    split at hi
    · exact .inr (h hi ‹_›)
    · cases hi
theorem q_Leave (K : Nat) (f : Fld) : Q_Leave K f = some (if check f = 0 then (leaveL f, 0) else ([], check f)) := rfl
end Go.Proofs.Ythogdgkafaclaaa
end
section
namespace Go.Proofs.Ythogdgkafaclaaa
/-- The reference's lists: their numbers, and what they say. -/
abbrev cR (who : Int) : List Int → Int := fun a => ((part a who 0 a.length : Nat) : Int)
abbrev gR : List Int → Nat → Int := fun a r => a.getD r 0
section
variable {f : Fld} {T : List (List Int)} {who : Int}
/-- What the lists at hand are. -/
def OkT (f : Fld) (T : List (List Int)) : Prop := T.length ≤ 250 ∧ ∀ a ∈ T, (a.length : Int) = f.rows ∧ ∀ r, r < f.rows.toNat → -1 ≤ a.getD r 0 ∧ a.getD r 0 ≤ f.wd - 1
theorem cR_ext {a b : List Int} (ha : (a.length : Int) = f.rows) (hb : (b.length : Int) = f.rows) (h : ∀ r, r < f.rows.toNat → gR a r = gR b r) : cR who a = cR who b := by
  have : a = b := by
    refine List.ext_getElem (by omega) fun i h1 h2 => ?_
    rw [gd0 h1, gd0 h2]; exact h i (by omega)
  rw [this]
theorem OkT.all (h : OkT f T) : Qn (cR who) gR f.rows.toNat f.rows.toNat (· ∈ T) := Qn_all fun a b ha hb hh => cR_ext (h.2 a ha).1 (h.2 b hb).1 hh
end
end Go.Proofs.Ythogdgkafaclaaa
end
section
namespace Go.Proofs.Ythogdgkafaclaaa
theorem g_ready (f : Fld) : G_ready 1000 f = some (thin f && check f == 0) := by
  unfold G_ready
  rw [bd (g_Thin (Nat.le_refl _))]
  cases thin f with
  | false => rfl
  | true => rw [ct rfl, bd (g_fault (Nat.le_refl _))]; rfl
theorem refs_nil {f : Fld} (hc : check f = 0) : sureE f = if refs f = [] then 11 else 0 := by unfold sureE; rw [if_neg (by simp [hc])]
end Go.Proofs.Ythogdgkafaclaaa
end
section
namespace Go.Proofs.Ythogdgkafaclaaa
/-- The error of Done. -/
theorem q_Done (K : Nat) (f : Fld) : Q_Done K f = some (if sureE f = 0 then (donesTo f (truths f []) f.wd.toNat, 0) else ([], sureE f)) := by unfold Q_Done; rw [askE_true]
theorem q_First (K : Nat) (f : Fld) : Q_First K f = some (if check f = 0 then (match firstF f with | some i => ((i : Int), 0) | none => (0, 7)) else (0, check f)) := rfl
end Go.Proofs.Ythogdgkafaclaaa
end
section
namespace Go.Proofs.Ythogdgkafaclaaa
theorem q_Who {K : Nat} {f : Fld} (hc : check f = 0) {row : Nat} (hr : (row : Int) < f.rows) : Q_Who K f (row : Int) = some (if sureE f = 0 then (whoS f.wd (refs f) row, 0) else ([], sureE f)) := by
  unfold Q_Who
  have : inR (row : Int) 0 (f.rows - 1) = true := inR_iff.2 (by omega)
  rw [this, askE_true, who_refs hc hr]
/-- Both ends are reached. -/
theorem didB_ends {f : Fld} (hc : check f = 0) (hn : refs f ≠ []) (who : Int) : (∃ a ∈ refs f, cR who a = (didB (refs f) who).1) ∧ (∃ a ∈ refs f, cR who a = (didB (refs f) who).2) ∧ ∀ a ∈ refs f, (didB (refs f) who).1 ≤ cR who a ∧ cR who a ≤ (didB (refs f) who).2 := by
  obtain ⟨hr, hw, _⟩ := check_ok hc
  obtain ⟨q1, q2, q3, q4, q5⟩ := foldl_mm (fun a => ((part a who 0 a.length : Nat) : Int)) (refs f) (1099511627776, -1099511627776)
  have hd : didB (refs f) who = (refs f).foldl (fun r a => (min r.1 ((part a who 0 a.length : Nat) : Int), max r.2 ((part a who 0 a.length : Nat) : Int))) (1099511627776, -1099511627776) := rfl
  rw [← hd] at q1 q2 q3 q4 q5
  obtain ⟨l0, hl0⟩ := List.exists_mem_of_ne_nil _ hn
  have b0 : ((part l0 who 0 l0.length : Nat) : Int) ≤ 7 := by
    have h1 := part_le l0 who 0 l0.length
    have h2 := (tru_alw ((mem_refs hc).1 hl0)).2.1
    omega
  have m0 := q3 l0 hl0
  refine ⟨?_, ?_, q3⟩
  · rcases q4 with h | ⟨a, ha, h⟩
    · simp only [] at h m0; omega
    · exact ⟨a, ha, h.symm⟩
  · rcases q5 with h | ⟨a, ha, h⟩
    · simp only [] at h m0; omega
    · exact ⟨a, ha, h.symm⟩
end Go.Proofs.Ythogdgkafaclaaa
end
section
namespace Go.Proofs.Ythogdgkafaclaaa
theorem part_all (l : List Int) (who : Int) : part l who 0 l.length = l.countP (fun x => x == who) := by
  unfold part cnt
  rw [List.drop_zero, List.take_length]
/-- How many rows those before somebody did, or nobody. -/
def below_ (l : List Int) (i : Int) : Nat := l.countP fun x => decide (x < i)
theorem below_zero {l : List Int} (h : ∀ x ∈ l, -1 ≤ x) : below_ l 0 = part l (-1) 0 l.length := by
  rw [part_all]
  unfold below_
  refine List.countP_congr fun x hx => ?_
  have := h x hx
  rw [decide_eq_true_eq, beq_iff_eq]; omega
theorem below_succ (l : List Int) (i : Int) : below_ l (i + 1) = below_ l i + part l i 0 l.length := by
  rw [part_all]
  unfold below_
  induction l with
  | nil => rfl
  | cons x l ih =>
    rw [List.countP_cons, List.countP_cons, List.countP_cons, ih]
    by_cases h1 : x < i
    · have h2 : ¬ x = i := by omega
      have h3 : x < i + 1 := by omega
      simp [h1, h2, h3]; omega
    · by_cases h2 : x = i
      · have h3 : x < i + 1 := by omega
        have e1 : decide (x < i + 1) = true := decide_eq_true h3
        have e2 : decide (x < i) = false := decide_eq_false h1
        have e3 : (x == i) = true := by rw [beq_iff_eq]; exact h2
        simp only [e1, e2, e3, if_true, Bool.false_eq_true, if_false]; omega
      · have h3 : ¬ x < i + 1 := by omega
        simp [h1, h2, h3]
theorem below_end {l : List Int} {n : Int} (h : ∀ x ∈ l, x < n) : below_ l n = l.length := by
  unfold below_
  rw [List.countP_eq_length]
  exact fun x hx => dt (h x hx)
theorem tru_iff {f : Fld} {l : List Int} : tru f l = true ↔ alw f l = true ∧ ∀ t ∈ f.ts, rt l t = true := by
  unfold tru rt
  rw [Bool.and_eq_true, List.all_eq_true]
theorem refs_ne {f : Fld} (hc : check f = 0) {l : List Int} (h : tru f l = true) : refs f ≠ [] := fun e => by
  have := (mem_refs hc).2 h
  rw [e] at this; cases this
theorem sureE_of {f : Fld} (hc : check f = 0) {l : List Int} (h : tru f l = true) : sureE f = 0 := by rw [refs_nil hc, if_neg (refs_ne hc h)]
/-- Nothing need be left out where there is a truth. -/
theorem leave_nil {f : Fld} (hc : check f = 0) {l : List Int} (h : tru f l = true) : leaveL f = [] := by
  obtain ⟨s, hs, e, hp, hmin⟩ := leave_spec hc
  rw [tru_iff] at h
  have h0 : posB f (bitsL 0) = true := by
    rw [posB_iff hc]
    exact ⟨l, h.1, fun i t hi => .inr (h.2 t (List.mem_of_getElem? hi))⟩
  have := sh_len (hmin 0 Nat.one_le_two_pow h0)
  rw [e]
  have e0 : (bitsL 0).length = 0 := by decide
  exact List.eq_nil_of_length_eq_zero (by omega)
/-- No tally is wrong there. -/
theorem first_nil {f : Fld} (hc : check f = 0) {l : List Int} (h : tru f l = true) : firstF f = none := by
  rw [tru_iff] at h
  unfold firstF
  rw [List.find?_eq_none]
  intro i hi
  have : truths (upF f (i + 1)) [] ≠ [] := (up_iff hc (i + 1)).2 ⟨l, h.1, fun j t hj _ => h.2 t (List.mem_of_getElem? hj)⟩
  unfold firstP
  simp [this]
theorem alw_iff {f : Fld} (hw : 1 ≤ f.wd) {l : List Int} : alw f l = true ↔ (∀ x ∈ l, -1 ≤ x ∧ x ≤ f.wd - 1) ∧ (l.length : Int) = f.rows ∧ f.lo ≤ (part l (-1) 0 l.length : Nat) ∧ ((part l (-1) 0 l.length : Nat) : Int) ≤ f.hi := by
  unfold alw
  rw [Bool.and_eq_true, Bool.and_eq_true, decide_eq_true_eq, inR_iff, List.all_eq_true]
  refine and_congr ⟨fun h x hx => ?_, fun h x hx => ?_⟩ Iff.rfl
  · have := h x hx
    rwa [okWho_in f x hw, inR_iff] at this
  · rw [okWho_in f x hw, inR_iff]; exact h x hx
end Go.Proofs.Ythogdgkafaclaaa
end
section
set_option linter.unusedVariables false
set_option linter.unusedSimpArgs false
namespace Go.Proofs.Ythogdgkafaclaaa
open Go.RowKit
def G_WeedTruth_L42 (K_ : Nat) (r9 : Fld × (List Int)) (r15 : (List (Int × Int)) × Int) : Nat → Int → Int → Option ((Bool) ⊕ (Int))
  | 0, _, _ => none
  | m_ + 1, s42_15, s42_16 => cond (decide (s42_16 < (r15.1.length : Int))) ((i64 (r9.1.rows - 1)).bind fun _ => (G_Did K_ r9.2 s42_16 0 (r9.1.rows - 1)).bind fun r45 => (idx r15.1 s42_16).bind fun x47 => (G_in_ K_ r45 x47).bind fun r48 => cond (!r48) (some (.inl false)) ((i64 (s42_15 + r45)).bind fun _ => (i64 (s42_16 + 1)).bind fun _ => G_WeedTruth_L42 K_ r9 r15 m_ (s42_15 + r45) (s42_16 + 1))) (some (.inr s42_15))
def G_WeedTruth_L55 (K_ : Nat) (r9 : Fld × (List Int)) : Nat → Int → Option ((Bool) ⊕ (Unit))
  | 0, _ => none
  | m_ + 1, s55_18 => cond (decide (s55_18 < r9.1.rows)) ((G_Field K_ r9.1).bind fun r57 => (Q_Who K_ r57 s55_18).bind fun r59 => cond (r59.2 != 0) (some (.inl false)) ((idx r9.2 s55_18).bind fun x62 => (G_has K_ r59.1 x62).bind fun r63 => cond (!r63) (some (.inl false)) ((i64 (s55_18 + 1)).bind fun _ => G_WeedTruth_L55 K_ r9 m_ (s55_18 + 1)))) (some (.inr ()))
def G_WeedTruth (K_ : Nat) (p0 : Fld) (p1 : Int) (p2 : List Int) : Option (Bool) :=
  (G_ready K_ p0).bind fun r2 => cond (!r2) ((ifo (G_awake K_ = some true)).bind fun _ => some (true)) ((G_Told K_ p0 p1 p2).bind fun r9 => (G_Field K_ r9.1).bind fun r13 => (Q_Done K_ r13).bind fun r15 => (G_Field K_ r9.1).bind fun r17 => (Q_Leave K_ r17).bind fun r19 => (G_Field K_ r9.1).bind fun r21 => (Q_First K_ r21).bind fun r23 => cond (r15.2 != 0) (some (false)) (cond ((r15.1.length : Int) != r9.1.wd) (some (false)) (cond (r19.2 != 0) (some (false)) (cond ((r19.1.length : Int) != 0) (some (false)) (cond (r23.2 != 7) (some (false)) ((G_Field K_ r9.1).bind fun r30 => (G_list K_ r9.2).bind fun r32 => (Q_ProveTruth K_ r30 r32).bind fun r34 => cond (!r34) (some (false)) ((i64 (r9.1.rows - 1)).bind fun _ => (G_Did K_ r9.2 (-1) 0 (r9.1.rows - 1)).bind fun r40 => (G_WeedTruth_L42 K_ r9 r15 K_ r40 (0 : Int)).bind fun z => Sum.elim (fun q42 => some (q42)) (fun q42 => (G_WeedTruth_L55 K_ r9 K_ (0 : Int)).bind fun z => Sum.elim (fun q55 => some (q55)) (fun q55 => cond (q42 == r9.1.rows) ((ifo (G_awake K_ = some true)).bind fun _ => some (true)) (some (false))) z) z)))))))
end Go.Proofs.Ythogdgkafaclaaa
end
section
namespace Go.Proofs.Ythogdgkafaclaaa
theorem cv16 {β : Type} {g : Unit → Option β} {x : Int} (h : 0 ≤ x ∧ x < 65536) : (cvO .i64 x).bind g = g () := bd (by
  have : IntKind.i64.wrap x = x := wrap_fit ⟨by omega, by omega⟩
  unfold cvO; rw [if_pos this])
theorem has_drop (l : List Int) (x : Int) (hl : l.length ≤ 900) : ∀ (n m i : Nat), l.length = i + n → n < m → G_has_L1 l x m (i : Int) = some (if (l.drop i).contains x = true then .inl true else .inr ())
  | n, 0, i, h, hm => by omega
  | 0, m + 1, i, h, hm => by
    unfold G_has_L1
    rw [cf (df (by omega)), List.drop_eq_nil_of_le (by omega)]; rfl
  | n + 1, m + 1, i, h, hm => by
    unfold G_has_L1
    have hi : i < l.length := by omega
    have e : ((i : Int) + 1) = ((i + 1 : Nat) : Int) := by omega
    rw [ct (dt (by omega)), idxb hi, List.drop_eq_getElem_cons hi, List.contains_cons]
    by_cases h1 : l[i] = x
    · rw [ct (by simp [h1]), if_pos (by simp [h1])]
    · have h2 : (x == l[i]) = false := by rw [beq_eq_false_iff_ne]; exact fun e => h1 e.symm
      rw [cf (by simp [h1]), i64b (by omega) (by omega), e, has_drop l x hl n m (i + 1) (by omega) (by omega), h2, Bool.false_or]
theorem g_has {l : List Int} {x : Int} (hl : l.length ≤ 900) : G_has 1000 l x = some (l.contains x) := by
  unfold G_has
  have := has_drop l x hl l.length 1000 0 (by omega) (by omega)
  rw [Int.natCast_zero, List.drop_zero] at this
  rw [bd this]
  cases l.contains x <;> rfl
theorem g_in {n : Int} {r : Int × Int} : G_in_ 1000 n r = some (decide (r.1 ≤ n) && decide (n ≤ r.2)) := by
  unfold G_in_
  cases decide (r.1 ≤ n) <;> rfl
theorem g_word {ws : List Int} (hws : ∀ x ∈ ws, 0 ≤ x ∧ x < 65536) {i : Int} (hi : 0 ≤ i) : ∃ v, G_word 1000 ws i = some v ∧ 0 ≤ v ∧ v < 65536 := by
  unfold G_word
  by_cases h : ws.length = 0
  · rw [ct (by simp [h])]; exact ⟨0, rfl, by omega, by omega⟩
  · obtain ⟨m0, m1⟩ : 0 ≤ i % (ws.length : Int) ∧ i % (ws.length : Int) < (ws.length : Int) := ⟨Int.emod_nonneg _ (by omega), Int.emod_lt_of_pos _ (by omega)⟩
    obtain ⟨k, hk⟩ : ∃ k : Nat, i % (ws.length : Int) = k := ⟨(i % (ws.length : Int)).toNat, by omega⟩
    have hkl : k < ws.length := by omega
    have hb := hws _ (List.getElem_mem hkl)
    rw [cf (by rw [beq_eq_false_iff_ne]; omega), remb hi (by omega), hk, idxb hkl, cv16 hb]
    exact ⟨_, rfl, hb.1, hb.2⟩
/-- Tallies that are right in a list. -/
def OkTs (f : Fld) (t : List Int) (ts : List Tly) : Prop := ∀ y ∈ ts, talOk f y = true ∧ rt t y = true
theorem mod6 (W : Int) : 0 ≤ W % 6 ∧ W % 6 < 6 := ⟨Int.emod_nonneg _ (by omega), Int.emod_lt_of_pos _ (by omega)⟩
theorem l_Told {f : Fld} (hc : check f = 0) {ws : List Int} (hws : ∀ x ∈ ws, 0 ≤ x ∧ x < 65536) {t : List Int} (ht : (t.length : Int) = f.rows) {W : Int} (hW : G_word 1000 ws 0 = some W) (hW0 : 0 ≤ W) : ∀ (n m i : Nat) (ts : List Tly), W % 6 = i + n → n < m → ts.length = i → OkTs f t ts →
    ∃ ts', G_Told_L16 1000 f ws t m (i : Int) ts = some ts' ∧ ts'.length ≤ 5 ∧ OkTs f t ts'
  | n, 0, i, ts, h, hm, _, _ => by omega
  | 0, m + 1, i, ts, h, hm, hl, hok => by
    have h6 := mod6 W
    unfold G_Told_L16
    rw [bd hW, remb hW0 (by omega), cf (df (by omega))]
    exact ⟨ts, rfl, by omega, hok⟩
  | n + 1, m + 1, i, ts, h, hm, hl, hok => by
    obtain ⟨hr, hw, h5, _⟩ := check_ok hc
    have h6 := mod6 W
    have e : ((i : Int) + 1) = ((i + 1 : Nat) : Int) := by omega
    obtain ⟨v, hv, v0, v1⟩ := g_word hws (i := ((i + 1 : Nat) : Int)) (by omega)
    unfold G_Told_L16
    rw [bd hW, remb hW0 (by omega), ct (dt (by omega)), i64b (by omega) (by omega), e, bd hv, remb v0 (by omega), quob v0 (by omega)]
    obtain ⟨who, hwho⟩ : ∃ c, c = v % f.wd := ⟨_, rfl⟩
    have w0 : 0 ≤ who ∧ who < f.wd := by rw [hwho]; exact ⟨Int.emod_nonneg _ (by omega), Int.emod_lt_of_pos _ (by omega)⟩
    have q0 : 0 ≤ v / 4 ∧ v / 4 ≤ v := ⟨Int.ediv_nonneg v0 (by omega), Int.ediv_le_self _ v0⟩
    rw [i64b (by omega) (by omega), remb q0.1 (by omega)]
    obtain ⟨fr, hfr⟩ : ∃ c, c = v / 4 % f.rows := ⟨_, rfl⟩
    have f0 : 0 ≤ fr ∧ fr < f.rows := by rw [hfr]; exact ⟨Int.emod_nonneg _ (by omega), Int.emod_lt_of_pos _ (by omega)⟩
    have q1 : 0 ≤ v / 32 ∧ v / 32 ≤ v := ⟨Int.ediv_nonneg v0 (by omega), Int.ediv_le_self _ v0⟩
    rw [quob v0 (by omega), i64b (by omega) (by omega), ← hfr, i64b (by omega) (by omega), remb q1.1 (by omega)]
    obtain ⟨d, hd⟩ : ∃ c, c = v / 32 % (f.rows - fr) := ⟨_, rfl⟩
    have d0 : 0 ≤ d ∧ d < f.rows - fr := by rw [hd]; exact ⟨Int.emod_nonneg _ (by omega), Int.emod_lt_of_pos _ (by omega)⟩
    have hdid := g_Did (K := 1000) (l := t) (who := who) (fr := fr.toNat) (n := (d + 1).toNat) (to := fr + d) (by omega) (by omega) (by omega) (by omega)
    rw [Int.toNat_of_nonneg f0.1] at hdid
    have hpl := part_le t who fr.toNat (d + 1).toNat
    obtain ⟨p, hp⟩ : ∃ p : Nat, p = part t who fr.toNat (d + 1).toNat := ⟨_, rfl⟩
    rw [← hp] at hdid hpl
    have q2 : 0 ≤ v / 256 ∧ v / 256 ≤ v := ⟨Int.ediv_nonneg v0 (by omega), Int.ediv_le_self _ v0⟩
    have q3 : 0 ≤ v / 512 ∧ v / 512 ≤ v := ⟨Int.ediv_nonneg v0 (by omega), Int.ediv_le_self _ v0⟩
    rw [← hd, i64b (by omega) (by omega), ← hwho, bd hdid, quob v0 (by omega), i64b (by omega) (by omega), remb q2.1 (by omega), i64b (by omega) (by omega), quob v0 (by omega), i64b (by omega) (by omega), remb q3.1 (by omega), i64b (by omega) (by omega), ifob (by simp; omega), i64b (by omega) (by omega)]
    refine l_Told hc hws ht hW hW0 n m (i + 1) _ (by omega) (by omega) (by rw [List.length_append, hl]; rfl) fun y hy => ?_
    rcases List.mem_append.1 hy with hy | hy
    · exact hok y hy
    · rw [List.mem_singleton] at hy
      subst hy
      constructor
      · unfold talOk rngOk
        simp only [Bool.and_eq_true, inR_iff, decide_eq_true_eq]
        refine ⟨⟨⟨⟨?_, ?_⟩, ?_⟩, ?_⟩, ?_⟩ <;> omega
      · unfold rt tdid
        simp only []
        rw [show (fr + d + 1 - fr).toNat = (d + 1).toNat by omega, ← hp, inR_iff]
        omega
theorem nthL_bd0 (b : Int) (hb : 1 ≤ b) : ∀ (n : Nat) (i : Int), ∀ x ∈ nthL b n i, -1 ≤ x ∧ x ≤ b - 2
  | 0, i, x, hx => by cases hx
  | n + 1, i, x, hx => by
    have h1 : 0 ≤ i % b := Int.emod_nonneg _ (by omega)
    have h2 : i % b < b := Int.emod_lt_of_pos _ (by omega)
    unfold nthL at hx
    rcases List.mem_cons.1 hx with rfl | hx
    · omega
    · exact nthL_bd0 b hb n _ x hx
/-- The field that is told, and the list that is a truth of it. -/
theorem g_Told {f : Fld} (hc : check f = 0) (hm : many f ≤ 250) {which : Int} (hwh : 0 ≤ which ∧ which < 65536) {ws : List Int} (hws : ∀ x ∈ ws, 0 ≤ x ∧ x < 65536) :
    ∃ x t, G_Told 1000 f which ws = some (x, t) ∧ check x = 0 ∧ tru x t = true := by
  obtain ⟨hr, hw, h5, htal, hrng, hm2⟩ := check_ok hc
  have hm1 : 1 ≤ many f := by
    have : 0 < (f.wd + 1) ^ f.rows.toNat := Int.pow_pos (by omega)
    unfold many; omega
  have hmod : 0 ≤ which % many f ∧ which % many f < many f := ⟨Int.emod_nonneg _ (by omega), Int.emod_lt_of_pos _ (by omega)⟩
  obtain ⟨t, ht⟩ : ∃ t, t = nthL (f.wd + 1) f.rows.toNat (which % many f) := ⟨_, rfl⟩
  have htl : (t.length : Int) = f.rows := by rw [ht, nthL_len]; omega
  have hdid := g_Did0 (K := 1000) (l := t) (who := -1) (n := t.length) (to := f.rows - 1) (by omega) (by omega) (Nat.le_refl _) (by omega)
  obtain ⟨W, hW, hW0, _⟩ := g_word hws (i := 0) (by omega)
  have h6 : 0 ≤ W % 6 ∧ W % 6 < 6 := ⟨Int.emod_nonneg _ (by omega), Int.emod_lt_of_pos _ (by omega)⟩
  obtain ⟨ts, h1, h2, h3⟩ := l_Told hc hws htl hW hW0 (W % 6).toNat 1000 0 [] (by omega) (by omega) rfl (fun y hy => by cases hy)
  rw [Int.natCast_zero] at h1
  have hpl := part_le t (-1) 0 t.length
  simp only [rngOk, Bool.and_eq_true, decide_eq_true_eq] at hrng
  obtain ⟨p, hp⟩ : ∃ p : Nat, p = part t (-1) 0 t.length := ⟨_, rfl⟩
  rw [← hp] at hdid hpl
  refine ⟨⟨f.rows, f.wd, min f.lo p, max f.hi p, ts⟩, t, ?_, ?_, ?_⟩
  · unfold G_Told
    rw [cv16 hwh, bd (g_Many (Nat.le_refl _) (by omega) (by omega) (by omega) (by omega)), remb hwh.1 hm1, bd (g_Nth (Nat.le_refl _) hc hmod.1 (by omega)), ← ht, i64b (by omega) (by omega), bd hdid, bd h1]
  · unfold check
    rw [if_neg, if_neg, if_neg]
    · show ¬ 2500 < many f; omega
    · simp only [bad, Bool.or_eq_true, decide_eq_true_eq, Bool.not_eq_true', not_or, Bool.not_eq_false, List.all_eq_true]
      refine ⟨by omega, by omega, ?_, fun y hy => (h3 y hy).1⟩
      unfold rngOk
      simp only [Bool.and_eq_true, decide_eq_true_eq]
      omega
    · simp only [big, Bool.or_eq_true, decide_eq_true_eq, not_or]
      omega
  · rw [tru_iff]
    refine ⟨?_, fun y hy => (h3 y hy).2⟩
    rw [alw_iff (f := ⟨f.rows, f.wd, min f.lo p, max f.hi p, ts⟩) hw.1, ← hp]
    refine ⟨fun x hx => ?_, htl, ?_, ?_⟩
    · show -1 ≤ x ∧ x ≤ f.wd - 1
      have := nthL_bd0 (f.wd + 1) (by omega) f.rows.toNat (which % many f) x (by rw [← ht]; exact hx)
      omega
    · show min f.lo p ≤ (p : Int); omega
    · show (p : Int) ≤ max f.hi p; omega
section
variable {x : Fld} (hc : check x = 0) {t : List Int} (ht : tru x t = true)
include hc ht
theorem l_Truth42 (r : List (Int × Int) × Int) (hr : r.1 = donesTo x (truths x []) x.wd.toNat) : ∀ (n m i : Nat), x.wd = i + n → n < m → G_WeedTruth_L42 1000 (x, t) r m ((below_ t (i : Int) : Nat) : Int) (i : Int) = some (.inr x.rows)
  | n, 0, i, h, hm => by omega
  | 0, m + 1, i, h, hm => by
    obtain ⟨hr2, hw, h5, _⟩ := check_ok hc
    obtain ⟨h1, h2, _⟩ := (alw_iff hw.1).1 (tru_iff.1 ht).1
    unfold G_WeedTruth_L42
    rw [cf (df (by rw [hr, donesTo_len]; omega)), below_end fun y hy => by have := h1 y hy; omega, h2]
  | n + 1, m + 1, i, h, hm => by
    obtain ⟨hr2, hw, h5, _⟩ := check_ok hc
    obtain ⟨h1, h2, _⟩ := (alw_iff hw.1).1 (tru_iff.1 ht).1
    have e : ((i : Int) + 1) = ((i + 1 : Nat) : Int) := by omega
    have hi : i < r.1.length := by rw [hr, donesTo_len]; omega
    have hne := refs_ne hc ht
    have hri : r.1[i] = didB (refs x) (i : Int) := by
      rw [← doneOf_didB hc hne]
      simp only [hr]
      exact donesTo_get ..
    have hb := (didB_ends hc hne (i : Int)).2.2 t ((mem_refs hc).2 ht)
    have hpl := part_le t (i : Int) 0 t.length
    have hbl : below_ t (i : Int) ≤ t.length := List.countP_le_length
    have hcR : cR (i : Int) t = ((part t (i : Int) 0 t.length : Nat) : Int) := rfl
    unfold G_WeedTruth_L42
    simp only []
    rw [ct (dt (by omega)), i64b (by omega) (by omega), bd (g_Did0 (n := t.length) (by omega) (by omega) (by omega) (by omega)), idxb hi, hri, bd g_in, dt (by omega), dt (by omega), Bool.and_true, nt, i64b (by omega) (by omega), i64b (by omega) (by omega)]
    have e2 : ((below_ t (i : Int) : Nat) : Int) + ((part t (i : Int) 0 t.length : Nat) : Int) = ((below_ t ((i + 1 : Nat) : Int) : Nat) : Int) := by
      rw [← e, below_succ]; omega
    rw [e, e2]
    exact l_Truth42 r hr n m (i + 1) (by omega) (by omega)
theorem l_Truth55 (hm5 : x.ts.length ≤ 5) : ∀ (n m i : Nat), x.rows = i + n → n < m → G_WeedTruth_L55 1000 (x, t) m (i : Int) = some (.inr ())
  | n, 0, i, h, hm => by omega
  | 0, m + 1, i, h, hm => by
    unfold G_WeedTruth_L55
    simp only []
    rw [cf (df (by omega))]
  | n + 1, m + 1, i, h, hm => by
    obtain ⟨hr2, hw, h5, _⟩ := check_ok hc
    obtain ⟨h1, h2, _⟩ := (alw_iff hw.1).1 (tru_iff.1 ht).1
    have e : ((i : Int) + 1) = ((i + 1 : Nat) : Int) := by omega
    have hit : i < t.length := by omega
    have hs : sureE x = 0 := sureE_of hc ht
    have hin : (whoS x.wd (refs x) i).contains t[i] = true := by
      rw [List.contains_iff_mem]
      unfold whoS
      rw [List.mem_filter, mem_whos (by omega), List.any_eq_true]
      refine ⟨h1 _ (List.getElem_mem hit), t, (mem_refs hc).2 ht, ?_⟩
      rw [beq_iff_eq, gd0 hit]
    have hwl := whoS_len x.wd (refs x) i
    unfold G_WeedTruth_L55
    simp only []
    rw [ct (dt (by omega)), bd (g_Field (Nat.le_refl _) (by omega)), bd (q_Who (K := 1000) hc (by omega)), if_pos hs]
    simp only []
    rw [cf (by decide), idxb hit, bd (g_has (by omega)), hin, nt, i64b (by omega) (by omega), e]
    exact l_Truth55 hm5 n m (i + 1) (by omega) (by omega)
end
theorem weedTruth_plain (f : Fld) (which : Int) (ws : List Int) (hwh : 0 ≤ which ∧ which < 65536) (hws : ∀ x ∈ ws, 0 ≤ x ∧ x < 65536) : G_WeedTruth 1000 f which ws = some true := by
  unfold G_WeedTruth
  rw [bd (g_ready f)]
  cases hrd : (thin f && check f == 0) with
  | false => rw [nf, ifob awake_1000]
  | true =>
    rw [Bool.and_eq_true, beq_iff_eq] at hrd
    obtain ⟨ht0, hc0⟩ := hrd
    obtain ⟨x, t, hT, hc, ht⟩ := g_Told hc0 (thin_many ht0 hc0) hwh hws
    obtain ⟨hr, hw, h5, _⟩ := check_ok hc
    obtain ⟨h1, h2, _⟩ := (alw_iff hw.1).1 (tru_iff.1 ht).1
    have hs : sureE x = 0 := sureE_of hc ht
    have hF := g_Field (K := 1000) (f := x) (Nat.le_refl _) (by omega)
    rw [nt, bd hT]
    simp only []
    rw [bd hF, bd (q_Done 1000 x), if_pos hs, bd hF, bd (q_Leave 1000 x), if_pos hc, leave_nil hc ht, bd hF, bd (q_First 1000 x), if_pos hc, first_nil hc ht]
    simp only []
    rw [cf (by decide), cf (by rw [donesTo_len]; simp; omega), cf (by decide), cf (by decide), cf (by decide), bd hF, bd (g_list (by omega))]
    unfold Q_ProveTruth
    have hp : (check x == 0 && decide ((t.length : Int) = x.rows) && t.all (okWho x) && rightB x (pad t) []) = true := by rw [prove_tru hc t]; exact ht
    have hd := g_Did0 (K := 1000) (l := t) (who := -1) (n := t.length) (to := x.rows - 1) (by omega) (by omega) (Nat.le_refl _) (by omega)
    have h42 := l_Truth42 hc ht (donesTo x (truths x []) x.wd.toNat, 0) rfl x.wd.toNat 1000 0 (by omega) (by omega)
    rw [Int.natCast_zero, below_zero fun y hy => (h1 y hy).1] at h42
    have h55 := l_Truth55 hc ht h5 x.rows.toNat 1000 0 (by omega) (by omega)
    rw [Int.natCast_zero] at h55
    rw [ifob (by omega), Option.bind_some, hp, nt, i64b (by omega) (by omega), bd hd, bd h42, Sum.elim_inr, bd h55, Sum.elim_inr, ct (by simp), ifob awake_1000]
theorem weedTruth_true (f : Fld) (which : Int) (ws : List Int) (hwh : 0 ≤ which ∧ which < 65536) (hws : ∀ x ∈ ws, 0 ≤ x ∧ x < 65536) : ∃ K, G_WeedTruth K f which ws = some true := ⟨1000, weedTruth_plain f which ws hwh hws⟩
end Go.Proofs.Ythogdgkafaclaaa
end
section
set_option linter.unusedVariables false
set_option linter.unusedSimpArgs false
namespace Go.Proofs.Ythogdgkafaclaaa
open Go.RowKit
open AF
attribute [local irreducible] Ex1 WL CC CW LV Ret ObOp Agg One Own
theorem a16 (K_ : Nat) (p0 : Fld) (p1 : Int) (p2 : List Int) (A0_0 : Option Addr) (c0_0 : Nat) (A2_0 : Option Addr) (c2_0 : Nat) (Z : Nat → Prop) (w : World) (hS0_0 : Sl eTly w Z A0_0 c0_0 p0.ts) (hS2_0 : Sl (eInt .u16) w Z A2_0 c2_0 p2) (hG : G_WeedTruth K_ p0 p1 p2 = some true) :
    Ret Try.prog 16 #[.agg #[I p0.rows, I p0.wd, I p0.lo, I p0.hi, .slice A0_0 p0.ts.length c0_0], .int .u16 p1, .slice A2_0 p2.length c2_0] w (fun v w' => Ext w w' ∧ v = .bool true) := by
 unfold G_WeedTruth at hG
 refine ret_of_cc (N := 138) Try.func16 rfl rfl (by simp) ?_
 intro fr0 ha hdf
 have hp_0 := sl_arg (i := 0) (v := .agg #[I p0.rows, I p0.wd, I p0.lo, I p0.hi, .slice A0_0 p0.ts.length c0_0]) ha rfl
 have hp_1 := sl_arg (i := 1) (v := .int .u16 p1) ha rfl
 have hp_2 := sl_arg (i := 2) (v := .slice A2_0 p2.length c2_0) ha rfl
 clear ha
 have hp0 := Hp.refl w
 have hS0_0_0 := hS0_0.mv (mv_start w)
 have hS2_0_0 := hS2_0.mv (mv_start w)
 refine cc_seq <| cc_region <| we rfl (fun st => x_box (v := .agg #[I p0.rows, I p0.wd, I p0.lo, I p0.hi, .slice A0_0 p0.ts.length c0_0]) (cs := #[I p0.rows, I p0.wd, I p0.lo, I p0.hi, .slice A0_0 p0.ts.length c0_0]) (ee st hp_0) rfl) ?_
 rintro _ w1 ⟨b1, rfl, nb1⟩
 have hp1 : Hp w [some b1] w1 := hp0.new nb1.gr (Nat.le_of_eq nb1.b_eq.symm) (Nat.lt_of_lt_of_eq (Nat.lt_succ_self _) nb1.sz.symm)
 refine wa rfl (v := .bool false) rfl <| wl_end <| lv_next <| cc_seq <| cc_seq <| cc_region <| wd rfl (fun st => x_loadn (l := [I p0.rows, I p0.wd, I p0.lo, I p0.hi, .slice A0_0 p0.ts.length c0_0]) agg_26 (ee st rfl) nb1.bk rfl rfl) ?_
 have hS0_0_1 : Sl eTly w1 (ZZ Z w.heap.size [some b1]) A0_0 c0_0 p0.ts := (hS0_0_0.mv (mv_new nb1.gr (Nat.le_of_eq nb1.b_eq.symm)))
 replace hG := bind_some hG; obtain ⟨r2, hr2, hG⟩ := hG
 refine we rfl (fun st => x_call0 own_39 (ee st rfl) (am1 (ee st rfl)) (a39 K_ p0 A0_0 c0_0 ZA _ hS0_0_1.all r2 hr2)) ?_
 rintro _ w3 ⟨hx2, rfl⟩
 have hp2 : Hp w [some b1] w3 := hp1.ext hx2
 refine wd rfl (fun st => x_not (ee st rfl)) <| wl_end <| lv_next ?_
 rcases bool_cases (!r2) with hc4 | hc4
 ·replace hG := cond_t hG hc4
  have hc4_5 : r2 = false := by simpa using hc4
  refine cc_cond_t rfl hc4 <| cc_seq <| cc_region ?_
  replace hG := ifo_bind hG; obtain ⟨hw6, hG⟩ := hG
  refine we rfl (fun st => x_call0 own_21 (ee st rfl) am0 (a21 K_ ZA _ hw6)) ?_
  rintro _ w7 ⟨hx6, rfl⟩
  have hp3 : Hp w [some b1] w7 := hp2.ext hx6
  refine wa rfl (v := .bool true) rfl <| wl_end <| lv_next <| cc_ret <| lv_then_ret ?_
  have hr_ := Option.some.inj hG
  refine lv_ret1 rfl rfl ?_
  exact ⟨hp3.fin, congrArg Value.bool hr_⟩
 ·replace hG := cond_f hG hc4
  have hc4_8 : r2 = true := by simpa using hc4
  refine cc_cond_f rfl hc4 <| cc_skip <| lv_next <| cc_seq <| cc_region ?_
  have bk1_2 : Bk w3 b1 26 #[I p0.rows, I p0.wd, I p0.lo, I p0.hi, .slice A0_0 p0.ts.length c0_0] := (nb1.bk.ext hx2)
  refine wd rfl (fun st => x_loadn (l := [I p0.rows, I p0.wd, I p0.lo, I p0.hi, .slice A0_0 p0.ts.length c0_0]) agg_26 (ee st rfl) bk1_2 rfl rfl) <| wm rfl (v := .int .u16 p1) hp_1 <| wm rfl (v := .slice A2_0 p2.length c2_0) hp_2 ?_
  have hS0_0_2 : Sl eTly w3 (ZZ Z w.heap.size [some b1]) A0_0 c0_0 p0.ts := (hS0_0_1.mv (mv_ext hx2))
  have hS2_0_2 : Sl (eInt .u16) w3 (ZZ Z w.heap.size [some b1]) A2_0 c2_0 p2 := ((hS2_0_0.mv (mv_new nb1.gr (Nat.le_of_eq nb1.b_eq.symm))).mv (mv_ext hx2))
  replace hG := bind_some hG; obtain ⟨r9, hr9, hG⟩ := hG
  refine we rfl (fun st => x_call0 own_55 (ee st rfl) (am3 (ee st rfl) (ee st rfl) (ee st rfl)) (a55 K_ p0 p1 p2 A0_0 c0_0 A2_0 c2_0 (ZZ Z w.heap.size [some b1]) _ hS0_0_2 hS2_0_2 r9 hr9)) ?_
  rintro _ w10 ⟨hx9, _, _, rfl, ⟨_, rfl, ⟨A9_ra0, c9_ra0, rfl, hS9_ra0⟩⟩, ⟨A9_rb, c9_rb, rfl, hS9_rb⟩⟩
  have hp4 : Hp w [some b1] w10 := hp2.ext hx9
  have hS9_ra0 := hS9_ra0.mv (hp2.call (Nat.le_refl _))
  have hS9_rb := hS9_rb.mv (hp2.call (Nat.le_refl _))
  refine wm rfl (v := .tuple #[.agg #[I r9.1.rows, I r9.1.wd, I r9.1.lo, I r9.1.hi, .slice A9_ra0 r9.1.ts.length c9_ra0], .slice A9_rb r9.2.length c9_rb]) rfl <| wd rfl (fun st => x_extract (v := .agg #[I r9.1.rows, I r9.1.wd, I r9.1.lo, I r9.1.hi, .slice A9_ra0 r9.1.ts.length c9_ra0]) (ee st rfl) rfl) <| wd rfl (fun st => x_extract (v := .slice A9_rb r9.2.length c9_rb) (ee st rfl) rfl) <| we rfl (fun st => x_alloc (cs := #[I 0, I 0, I 0, I 0, .slice none 0 0]) zero_26 rfl) ?_
  rintro _ w11 ⟨b11, rfl, nb11⟩
  have hp5 : Hp w [some b11, some b1] w11 := hp4.new nb11.gr (Nat.le_of_eq nb11.b_eq.symm) (Nat.lt_of_lt_of_eq (Nat.lt_succ_self _) nb11.sz.symm)
  refine wl_ex0 rfl rfl (fun st => x_store (n := 5) (l := [I r9.1.rows, I r9.1.wd, I r9.1.lo, I r9.1.hi, .slice A9_ra0 r9.1.ts.length c9_ra0]) (cs' := #[I r9.1.rows, I r9.1.wd, I r9.1.lo, I r9.1.hi, .slice A9_ra0 r9.1.ts.length c9_ra0]) (ee st rfl) (ee st rfl) sz_26 nb11.bk rfl rfl (show 0 + 5 ≤ 5 by decide) (one_cells rfl) rfl) ?_
  rintro _ w12 sb12
  have hp6 : Hp w [some b11, some b1] w12 := hp5.gr sb12.gr (hp5.ge 0 rfl)
  refine wa rfl (v := .slice A9_rb r9.2.length c9_rb) rfl <| wl_end <| lv_next <| cc_seq <| cc_region <| wd rfl (fun st => x_loadn (l := [I r9.1.rows, I r9.1.wd, I r9.1.lo, I r9.1.hi, .slice A9_ra0 r9.1.ts.length c9_ra0]) agg_26 (ee st rfl) sb12.bk rfl rfl) ?_
  have hS9_ra0_6 : Sl eTly w12 (ZZ Z w.heap.size [some b11, some b1]) A9_ra0 c9_ra0 r9.1.ts := ((hS9_ra0.mv (mv_new nb11.gr (Nat.le_of_eq nb11.b_eq.symm))).mv (hp5.mv0 sb12.gr 0 rfl))
  replace hG := bind_some hG; obtain ⟨r13, hr13, hG⟩ := hG
  refine we rfl (fun st => x_call0 own_23 (ee st rfl) (am1 (ee st rfl)) (a23 K_ r9.1 A9_ra0 c9_ra0 (ZZ Z w.heap.size [some b11, some b1]) _ hS9_ra0_6 r13 hr13)) ?_
  rintro _ w14 ⟨hx13, ⟨_, rfl, ⟨A13_r0, c13_r0, rfl, hS13_r0⟩⟩⟩
  have hp7 : Hp w [some b11, some b1] w14 := hp6.ext hx13
  have hS13_r0 := hS13_r0.mv (hp6.call (Nat.le_refl _))
  replace hG := bind_some hG; obtain ⟨r15, hr15, hG⟩ := hG
  refine we rfl (fun st => x_call0 own_22 (ee st rfl) (am1 (ee st rfl)) (a22 K_ r13 A13_r0 c13_r0 (ZZ Z w.heap.size [some b11, some b1]) _ hS13_r0 r15 hr15)) ?_
  rintro _ w16 ⟨hx15, _, _, rfl, ⟨A15_ra, c15_ra, rfl, hS15_ra⟩, rfl⟩
  have hp8 : Hp w [some b11, some b1] w16 := hp7.ext hx15
  have hS15_ra := hS15_ra.mv (hp7.call (Nat.le_refl _))
  refine wm rfl (v := .tuple #[.slice A15_ra r15.1.length c15_ra, I r15.2]) rfl <| wd rfl (fun st => x_extract (v := .slice A15_ra r15.1.length c15_ra) (ee st rfl) rfl) <| wd rfl (fun st => x_extract (v := I r15.2) (ee st rfl) rfl) <| wa rfl (v := .slice A15_ra r15.1.length c15_ra) rfl <| wa rfl (v := I r15.2) rfl <| wl_end <| lv_next <| cc_seq <| cc_region ?_
  have bk11_8 : Bk w16 b11 26 #[I r9.1.rows, I r9.1.wd, I r9.1.lo, I r9.1.hi, .slice A9_ra0 r9.1.ts.length c9_ra0] := ((sb12.bk.ext hx13).ext hx15)
  refine wd rfl (fun st => x_loadn (l := [I r9.1.rows, I r9.1.wd, I r9.1.lo, I r9.1.hi, .slice A9_ra0 r9.1.ts.length c9_ra0]) agg_26 (ee st rfl) bk11_8 rfl rfl) ?_
  have hS9_ra0_8 : Sl eTly w16 (ZZ Z w.heap.size [some b11, some b1]) A9_ra0 c9_ra0 r9.1.ts := ((hS9_ra0_6.mv (mv_ext hx13)).mv (mv_ext hx15))
  replace hG := bind_some hG; obtain ⟨r17, hr17, hG⟩ := hG
  refine we rfl (fun st => x_call0 own_23 (ee st rfl) (am1 (ee st rfl)) (a23 K_ r9.1 A9_ra0 c9_ra0 (ZZ Z w.heap.size [some b11, some b1]) _ hS9_ra0_8 r17 hr17)) ?_
  rintro _ w18 ⟨hx17, ⟨_, rfl, ⟨A17_r0, c17_r0, rfl, hS17_r0⟩⟩⟩
  have hp9 : Hp w [some b11, some b1] w18 := hp8.ext hx17
  have hS17_r0 := hS17_r0.mv (hp8.call (Nat.le_refl _))
  replace hG := bind_some hG; obtain ⟨r19, hr19, hG⟩ := hG
  refine we rfl (fun st => x_call0 own_35 (ee st rfl) (am1 (ee st rfl)) (a35 K_ r17 A17_r0 c17_r0 (ZZ Z w.heap.size [some b11, some b1]) _ hS17_r0 r19 hr19)) ?_
  rintro _ w20 ⟨hx19, _, _, rfl, ⟨A19_ra, c19_ra, rfl, hS19_ra⟩, rfl⟩
  have hp10 : Hp w [some b11, some b1] w20 := hp9.ext hx19
  have hS19_ra := hS19_ra.mv (hp9.call (Nat.le_refl _))
  refine wm rfl (v := .tuple #[.slice A19_ra r19.1.length c19_ra, I r19.2]) rfl <| wd rfl (fun st => x_extract (v := .slice A19_ra r19.1.length c19_ra) (ee st rfl) rfl) <| wd rfl (fun st => x_extract (v := I r19.2) (ee st rfl) rfl) <| wa rfl (v := .slice A19_ra r19.1.length c19_ra) rfl <| wa rfl (v := I r19.2) rfl <| wl_end <| lv_next <| cc_seq <| cc_region ?_
  have bk11_10 : Bk w20 b11 26 #[I r9.1.rows, I r9.1.wd, I r9.1.lo, I r9.1.hi, .slice A9_ra0 r9.1.ts.length c9_ra0] := ((bk11_8.ext hx17).ext hx19)
  refine wd rfl (fun st => x_loadn (l := [I r9.1.rows, I r9.1.wd, I r9.1.lo, I r9.1.hi, .slice A9_ra0 r9.1.ts.length c9_ra0]) agg_26 (ee st rfl) bk11_10 rfl rfl) ?_
  have hS9_ra0_10 : Sl eTly w20 (ZZ Z w.heap.size [some b11, some b1]) A9_ra0 c9_ra0 r9.1.ts := ((hS9_ra0_8.mv (mv_ext hx17)).mv (mv_ext hx19))
  replace hG := bind_some hG; obtain ⟨r21, hr21, hG⟩ := hG
  refine we rfl (fun st => x_call0 own_23 (ee st rfl) (am1 (ee st rfl)) (a23 K_ r9.1 A9_ra0 c9_ra0 (ZZ Z w.heap.size [some b11, some b1]) _ hS9_ra0_10 r21 hr21)) ?_
  rintro _ w22 ⟨hx21, ⟨_, rfl, ⟨A21_r0, c21_r0, rfl, hS21_r0⟩⟩⟩
  have hp11 : Hp w [some b11, some b1] w22 := hp10.ext hx21
  have hS21_r0 := hS21_r0.mv (hp10.call (Nat.le_refl _))
  replace hG := bind_some hG; obtain ⟨r23, hr23, hG⟩ := hG
  refine we rfl (fun st => x_call0 own_34 (ee st rfl) (am1 (ee st rfl)) (a34 K_ r21 A21_r0 c21_r0 ZA _ hS21_r0.all r23 hr23)) ?_
  rintro _ w24 ⟨hx23, _, _, rfl, rfl, rfl⟩
  have hp12 : Hp w [some b11, some b1] w24 := hp11.ext hx23
  refine wm rfl (v := .tuple #[I r23.1, I r23.2]) rfl <| wd rfl (fun st => x_extract (v := I r23.1) (ee st rfl) rfl) <| wd rfl (fun st => x_extract (v := I r23.2) (ee st rfl) rfl) <| wa rfl (v := I r23.1) rfl <| wa rfl (v := I r23.2) rfl <| wl_end <| lv_next <| cc_seq <| cc_seq <| cc_region <| wm rfl (v := I r15.2) rfl <| wd rfl (fun st => x_neq (ee st rfl) (ee st rfl)) <| wm rfl (v := .bool (r15.2 != 0)) rfl ?_
  rcases bool_cases (r15.2 != 0) with hc25 | hc25
  ·replace hG := cond_t hG hc25
   exact absurd (Option.some.inj hG) (by decide)
  ·replace hG := cond_f hG hc25
   refine wl_detg rfl rfl (guard_eq rfl hc25) rfl (by decide) (fun st => x_move (v := .slice A15_ra r15.1.length c15_ra) (ee st rfl)) <| wl_detg rfl rfl (guard_eq rfl hc25) rfl (by decide) (fun st => x_len Try.underlying29 (ee st rfl)) <| wl_detg rfl rfl (guard_eq rfl hc25) rfl (by decide) (fun st => x_fieldAddr (ee st rfl) (fz_26_1 _ _)) ?_
   have bk11_12 : Bk w24 b11 26 #[I r9.1.rows, I r9.1.wd, I r9.1.lo, I r9.1.hi, .slice A9_ra0 r9.1.ts.length c9_ra0] := ((bk11_10.ext hx21).ext hx23)
   refine wl_detg rfl rfl (guard_eq rfl hc25) rfl (by decide) (fun st => x_load1 (v := I r9.1.wd) one_3 (ee st rfl) bk11_12 rfl) <| wl_detg rfl rfl (guard_eq rfl hc25) rfl (by decide) (fun st => x_neq (ee st rfl) (ee st rfl)) <| wd rfl (fun st => x_pick_f (v := .bool ((r15.1.length : Int) != r9.1.wd)) (ee st rfl) hc25 (ee st rfl)) <| wm rfl (v := .bool ((r15.1.length : Int) != r9.1.wd)) rfl ?_
   rcases bool_cases ((r15.1.length : Int) != r9.1.wd) with hc26 | hc26
   ·replace hG := cond_t hG hc26
    exact absurd (Option.some.inj hG) (by decide)
   ·replace hG := cond_f hG hc26
    refine wl_detg rfl rfl (guard_eq rfl hc26) rfl (by decide) (fun st => x_move (v := I r19.2) (ee st rfl)) <| wl_detg rfl rfl (guard_eq rfl hc26) rfl (by decide) (fun st => x_neq (ee st rfl) (ee st rfl)) <| wd rfl (fun st => x_pick_f (v := .bool (r19.2 != 0)) (ee st rfl) hc26 (ee st rfl)) <| wm rfl (v := .bool (r19.2 != 0)) rfl ?_
    rcases bool_cases (r19.2 != 0) with hc27 | hc27
    ·replace hG := cond_t hG hc27
     exact absurd (Option.some.inj hG) (by decide)
    ·replace hG := cond_f hG hc27
     refine wl_detg rfl rfl (guard_eq rfl hc27) rfl (by decide) (fun st => x_move (v := .slice A19_ra r19.1.length c19_ra) (ee st rfl)) <| wl_detg rfl rfl (guard_eq rfl hc27) rfl (by decide) (fun st => x_len Try.underlying43 (ee st rfl)) <| wl_detg rfl rfl (guard_eq rfl hc27) rfl (by decide) (fun st => x_neq (ee st rfl) (ee st rfl)) <| wd rfl (fun st => x_pick_f (v := .bool ((r19.1.length : Int) != 0)) (ee st rfl) hc27 (ee st rfl)) <| wm rfl (v := .bool ((r19.1.length : Int) != 0)) rfl ?_
     rcases bool_cases ((r19.1.length : Int) != 0) with hc28 | hc28
     ·replace hG := cond_t hG hc28
      exact absurd (Option.some.inj hG) (by decide)
     ·replace hG := cond_f hG hc28
      refine wl_detg rfl rfl (guard_eq rfl hc28) rfl (by decide) (fun st => x_move (v := I r23.2) (ee st rfl)) <| wl_detg rfl rfl (guard_eq rfl hc28) rfl (by decide) (fun st => x_neq (ee st rfl) (ee st rfl)) <| wd rfl (fun st => x_pick_f (v := .bool (r23.2 != 7)) (ee st rfl) hc28 (ee st rfl)) <| wm rfl (v := .bool (r23.2 != 7)) rfl ?_
      rcases bool_cases (r23.2 != 7) with hc29 | hc29
      ·replace hG := cond_t hG hc29
       exact absurd (Option.some.inj hG) (by decide)
      ·replace hG := cond_f hG hc29
       refine wl_detg rfl rfl (guard_eq rfl hc29) rfl (by decide) (fun st => x_loadn (l := [I r9.1.rows, I r9.1.wd, I r9.1.lo, I r9.1.hi, .slice A9_ra0 r9.1.ts.length c9_ra0]) agg_26 (ee st rfl) bk11_12 rfl rfl) ?_
       have hS9_ra0_12 : Sl eTly w24 (ZZ Z w.heap.size [some b11, some b1]) A9_ra0 c9_ra0 r9.1.ts := ((hS9_ra0_10.mv (mv_ext hx21)).mv (mv_ext hx23))
       replace hG := bind_some hG; obtain ⟨r30, hr30, hG⟩ := hG
       refine wl_exg rfl rfl (guard_eq rfl hc29) rfl (by decide) (fun st => x_call0 own_23 (ee st rfl) (am1 (ee st rfl)) (a23 K_ r9.1 A9_ra0 c9_ra0 (ZZ Z w.heap.size [some b11, some b1]) _ hS9_ra0_12 r30 hr30)) ?_
       rintro _ w31 ⟨hx30, ⟨_, rfl, ⟨A30_r0, c30_r0, rfl, hS30_r0⟩⟩⟩
       have hp13 : Hp w [some b11, some b1] w31 := hp12.ext hx30
       have hS30_r0 := hS30_r0.mv (hp12.call (Nat.le_refl _))
       refine wl_detg rfl rfl (guard_eq rfl hc29) rfl (by decide) (fun st => x_move (v := .slice A9_rb r9.2.length c9_rb) (ee st rfl)) ?_
       have hS9_rb_13 : Sl (eInt .i64) w31 (ZZ Z w.heap.size [some b11, some b1]) A9_rb c9_rb r9.2 := (((((((((hS9_rb.mv (mv_new nb11.gr (Nat.le_of_eq nb11.b_eq.symm))).mv (hp5.mv0 sb12.gr 0 rfl)).mv (mv_ext hx13)).mv (mv_ext hx15)).mv (mv_ext hx17)).mv (mv_ext hx19)).mv (mv_ext hx21)).mv (mv_ext hx23)).mv (mv_ext hx30))
       replace hG := bind_some hG; obtain ⟨r32, hr32, hG⟩ := hG
       refine wl_exg rfl rfl (guard_eq rfl hc29) rfl (by decide) (fun st => x_call0 own_53 (ee st rfl) (am1 (ee st rfl)) (a53 K_ r9.2 A9_rb c9_rb (ZZ Z w.heap.size [some b11, some b1]) _ hS9_rb_13 r32 hr32)) ?_
       rintro _ w33 ⟨hx32, ⟨A32_r, c32_r, rfl, hS32_r⟩⟩
       have hp14 : Hp w [some b11, some b1] w33 := hp13.ext hx32
       have hS32_r := hS32_r.mv (hp13.call (Nat.le_refl _))
       have hS30_r0_14 : Sl eTly w33 (ZZ Z w.heap.size [some b11, some b1]) A30_r0 c30_r0 r30.ts := (hS30_r0.mv (mv_ext hx32))
       replace hG := bind_some hG; obtain ⟨r34, hr34, hG⟩ := hG
       refine wl_exg rfl rfl (guard_eq rfl hc29) rfl (by decide) (fun st => x_call0 own_52 (ee st rfl) (am2 (ee st rfl) (ee st rfl)) (a52 K_ r30 r32 A30_r0 c30_r0 A32_r c32_r ZA _ hS30_r0_14.all hS32_r.all r34 hr34)) ?_
       rintro _ w35 ⟨hx34, rfl⟩
       have hp15 : Hp w [some b11, some b1] w35 := hp14.ext hx34
       refine wl_detg rfl rfl (guard_eq rfl hc29) rfl (by decide) (fun st => x_not (ee st rfl)) <| wd rfl (fun st => x_pick_f (v := .bool !r34) (ee st rfl) hc29 (ee st rfl)) <| wl_end <| lv_next ?_
       rcases bool_cases (!r34) with hc36 | hc36
       ·replace hG := cond_t hG hc36
        exact absurd (Option.some.inj hG) (by decide)
       ·replace hG := cond_f hG hc36
        have hc36_38 : r34 = true := by simpa using hc36
        refine cc_cond_f rfl hc36 <| cc_skip <| lv_next <| cc_seq <| cc_region <| wm rfl (v := .slice A9_rb r9.2.length c9_rb) rfl <| wd rfl (fun st => x_fieldAddr (ee st rfl) (fz_26_0 _ _)) ?_
        have bk11_15 : Bk w35 b11 26 #[I r9.1.rows, I r9.1.wd, I r9.1.lo, I r9.1.hi, .slice A9_ra0 r9.1.ts.length c9_ra0] := (((bk11_12.ext hx30).ext hx32).ext hx34)
        refine wd rfl (fun st => x_load1 (v := I r9.1.rows) one_3 (ee st rfl) bk11_15 rfl) ?_
        replace hG := i64_bind hG; obtain ⟨hf39, hG⟩ := hG
        refine wd rfl (fun st => x_sub (ee st rfl) (ee st rfl) hf39) ?_
        have hS9_rb_15 : Sl (eInt .i64) w35 (ZZ Z w.heap.size [some b11, some b1]) A9_rb c9_rb r9.2 := ((hS9_rb_13.mv (mv_ext hx32)).mv (mv_ext hx34))
        replace hG := bind_some hG; obtain ⟨r40, hr40, hG⟩ := hG
        refine we rfl (fun st => x_call0 own_41 (ee st rfl) (am4 (ee st rfl) (ee st rfl) (ee st rfl) (ee st rfl)) (a41 K_ r9.2 (-1) 0 (r9.1.rows - 1) A9_rb c9_rb ZA _ hS9_rb_15.all r40 hr40)) ?_
        rintro _ w41 ⟨hx40, rfl⟩
        have hp16 : Hp w [some b11, some b1] w41 := hp15.ext hx40
        refine wa rfl (v := I r40) rfl <| wl_end <| lv_next <| cc_seq <| cc_seq <| cc_region <| wa rfl (v := I 0) rfl <| wl_end <| lv_next <| cc_block ?_
        replace hG := bind_some hG; obtain ⟨z42, hL42, hG⟩ := hG
        refine cc_join (fun e_ fr_ w_ => (e_ = .ret ∧ ∃ q42, z42 = .inl q42 ∧ fr_.tmps.size = 138 ∧ fr_.defers = [] ∧ sl fr_ 6 = .bool q42 ∧ Hp w [some b11, some b1] w_) ∨ (e_ = .exit 0 ∧ ∃ q42, z42 = .inr q42 ∧ fr_.tmps.size = 138 ∧ fr_.defers = [] ∧ sl fr_ 7 = pt b11 0 ∧ sl fr_ 8 = .slice A9_rb r9.2.length c9_rb ∧ sl fr_ 15 = I q42 ∧ Hp w [some b11, some b1] w_ ∧ Bk w_ b11 26 #[I r9.1.rows, I r9.1.wd, I r9.1.lo, I r9.1.hi, .slice A9_ra0 r9.1.ts.length c9_ra0] ∧ Sl eTly w_ (ZZ Z w.heap.size [some b11, some b1]) A9_ra0 c9_ra0 r9.1.ts ∧ Sl (eInt .i64) w_ (ZZ Z w.heap.size [some b11, some b1]) A9_rb c9_rb r9.2)) ?lp42 ?af42
        case lp42 =>
         clear hG
         refine cc_loop (fun (m_ : Nat) (fr_ : Act) (w_ : World) => ∃ s42_15, ∃ s42_16, G_WeedTruth_L42 K_ r9 r15 m_ s42_15 s42_16 = some z42 ∧ fr_.tmps.size = 138 ∧ fr_.defers = [] ∧ sl fr_ 7 = pt b11 0 ∧ sl fr_ 8 = .slice A9_rb r9.2.length c9_rb ∧ sl fr_ 9 = .slice A15_ra r15.1.length c15_ra ∧ sl fr_ 15 = I s42_15 ∧ sl fr_ 16 = I s42_16 ∧ Hp w [some b11, some b1] w_ ∧ Bk w_ b11 26 #[I r9.1.rows, I r9.1.wd, I r9.1.lo, I r9.1.hi, .slice A9_ra0 r9.1.ts.length c9_ra0] ∧ Sl eR w_ (ZZ Z w.heap.size [some b11, some b1]) A15_ra c15_ra r15.1 ∧ Sl eTly w_ (ZZ Z w.heap.size [some b11, some b1]) A9_ra0 c9_ra0 r9.1.ts ∧ Sl (eInt .i64) w_ (ZZ Z w.heap.size [some b11, some b1]) A9_rb c9_rb r9.2) K_ ?in42 ?rd42
         case in42 =>
          intro st
          have bk11_16 : Bk w41 b11 26 #[I r9.1.rows, I r9.1.wd, I r9.1.lo, I r9.1.hi, .slice A9_ra0 r9.1.ts.length c9_ra0] := (bk11_15.ext hx40)
          have hS15_ra_16 : Sl eR w41 (ZZ Z w.heap.size [some b11, some b1]) A15_ra c15_ra r15.1 := ((((((((hS15_ra.mv (mv_ext hx17)).mv (mv_ext hx19)).mv (mv_ext hx21)).mv (mv_ext hx23)).mv (mv_ext hx30)).mv (mv_ext hx32)).mv (mv_ext hx34)).mv (mv_ext hx40))
          have hS9_ra0_16 : Sl eTly w41 (ZZ Z w.heap.size [some b11, some b1]) A9_ra0 c9_ra0 r9.1.ts := ((((hS9_ra0_12.mv (mv_ext hx30)).mv (mv_ext hx32)).mv (mv_ext hx34)).mv (mv_ext hx40))
          have hS9_rb_16 : Sl (eInt .i64) w41 (ZZ Z w.heap.size [some b11, some b1]) A9_rb c9_rb r9.2 := (hS9_rb_15.mv (mv_ext hx40))
          exact ⟨r40, (0 : Int), hL42, (puts_size _ _).trans st.sz, (puts_defers _ _).trans st.df, (sl_puts st 7).trans rfl, (sl_puts st 8).trans rfl, (sl_puts st 9).trans rfl, (sl_puts st 15).trans rfl, (sl_puts st 16).trans rfl, hp16, bk11_16, hS15_ra_16, hS9_ra0_16, hS9_rb_16⟩
         case rd42 =>
          rintro (_ | m_) fr42 w42r ⟨s42_15, s42_16, hL42, hsz42, hdf42, hs42_7, hs42_8, hs42_9, hs42_15, hs42_16, hp17, f42_bk11, f42_hS15_ra, f42_hS9_ra0, f42_hS9_rb⟩
          ·exact absurd (show none = some _ from hL42) (by simp)
          rw [G_WeedTruth_L42.eq_2] at hL42
          have hG := hL42; clear hL42
          refine round_cc (N := 138) hsz42 hdf42 <| cc_seq <| cc_seq <| cc_region <| wm rfl (v := I s42_16) hs42_16 <| wm rfl (v := .slice A15_ra r15.1.length c15_ra) hs42_9 <| wd rfl (fun st => x_len Try.underlying29 (ee st rfl)) <| wd rfl (fun st => x_lss (ee st rfl) (ee st rfl)) <| wl_end <| lv_next ?_
          rcases bool_cases (decide (s42_16 < (r15.1.length : Int))) with hc43 | hc43
          ·replace hG := cond_t hG hc43
           refine cc_cond_t rfl hc43 <| cc_skip <| lv_next <| cc_seq <| cc_block <| cc_seq <| cc_region <| wm rfl (v := .slice A9_rb r9.2.length c9_rb) hs42_8 <| wm rfl (v := I s42_16) hs42_16 <| wd rfl (fun st => x_fieldAddr (ee st hs42_7) (fz_26_0 _ _)) <| wd rfl (fun st => x_load1 (v := I r9.1.rows) one_3 (ee st rfl) f42_bk11 rfl) ?_
           replace hG := i64_bind hG; obtain ⟨hf44, hG⟩ := hG
           refine wd rfl (fun st => x_sub (ee st rfl) (ee st rfl) hf44) ?_
           replace hG := bind_some hG; obtain ⟨r45, hr45, hG⟩ := hG
           refine we rfl (fun st => x_call0 own_41 (ee st rfl) (am4 (ee st rfl) (ee st rfl) (ee st rfl) (ee st rfl)) (a41 K_ r9.2 s42_16 0 (r9.1.rows - 1) A9_rb c9_rb ZA _ f42_hS9_rb.all r45 hr45)) ?_
           rintro _ w46 ⟨hx45, rfl⟩
           have hp18 : Hp w [some b11, some b1] w46 := hp17.ext hx45
           refine wa rfl (v := I r45) rfl <| wl_end <| lv_next <| cc_seq <| cc_seq <| cc_region <| wm rfl (v := I r45) rfl <| wm rfl (v := .slice A15_ra r15.1.length c15_ra) hs42_9 <| wm rfl (v := I s42_16) hs42_16 ?_
           replace hG := idx_bind hG; obtain ⟨i47, x47, hi47, hx47, hl47, hG⟩ := hG
           have hS15_ra_18 : Sl eR w46 (ZZ Z w.heap.size [some b11, some b1]) A15_ra c15_ra r15.1 := (f42_hS15_ra.mv (mv_ext hx45))
           obtain ⟨b47, o47, _, hA47, rfl, hz47⟩ := Sl.elem hS15_ra_18 (by decide) hx47
           refine wd rfl (fun st => x_indexAddrN (k := i47) Try.underlying29 sz_33 (ee st rfl) hA47 (ee st rfl) hi47 hl47) <| wd rfl (fun st => x_load_zn0 (l := [I x47.1, I x47.2]) agg_33 (ee st rfl) hz47 rfl rfl) ?_
           replace hG := bind_some hG; obtain ⟨r48, hr48, hG⟩ := hG
           refine we rfl (fun st => x_call0 own_56 (ee st rfl) (am2 (ee st rfl) (ee st rfl)) (a56 K_ r45 x47 ZA _ r48 hr48)) ?_
           rintro _ w49 ⟨hx48, rfl⟩
           have hp19 : Hp w [some b11, some b1] w49 := hp18.ext hx48
           refine wd rfl (fun st => x_not (ee st rfl)) <| wl_end <| lv_next ?_
           rcases bool_cases (!r48) with hc50 | hc50
           ·replace hG := cond_t hG hc50
            have hc50_51 : r48 = false := by simpa using hc50
            refine cc_cond_t rfl hc50 <| cc_seq <| cc_region <| wa rfl (v := .bool false) rfl <| wl_end <| lv_next <| cc_ret <| lv_then_ret <| lv_block_ret <| lv_then_ret <| lv_then_ret ?_
            obtain rfl := Option.some.inj hG
            refine lv_to (fun st => ?_)
            exact .inl ⟨rfl, false, rfl, (puts_size _ _).trans st.sz, (puts_defers _ _).trans st.df, (sl_puts st 6).trans rfl, hp19⟩
           ·replace hG := cond_f hG hc50
            have hc50_52 : r48 = true := by simpa using hc50
            refine cc_cond_f rfl hc50 <| cc_skip <| lv_next <| cc_region <| wm rfl (v := I s42_15) hs42_15 <| wm rfl (v := I r45) rfl ?_
            replace hG := i64_bind hG; obtain ⟨hf53, hG⟩ := hG
            refine wd rfl (fun st => x_add (ee st rfl) (ee st rfl) hf53) <| wa rfl (v := I (s42_15 + r45)) rfl <| wl_end <| lv_block <| lv_next <| cc_region <| wm rfl (v := I s42_16) hs42_16 ?_
            replace hG := i64_bind hG; obtain ⟨hf54, hG⟩ := hG
            refine wd rfl (fun st => x_add (ee st rfl) (ee st rfl) hf54) <| wa rfl (v := I (s42_16 + 1)) rfl <| wl_end ?_
            have bk11_19 : Bk w49 b11 26 #[I r9.1.rows, I r9.1.wd, I r9.1.lo, I r9.1.hi, .slice A9_ra0 r9.1.ts.length c9_ra0] := ((f42_bk11.ext hx45).ext hx48)
            have hS15_ra_19 : Sl eR w49 (ZZ Z w.heap.size [some b11, some b1]) A15_ra c15_ra r15.1 := (hS15_ra_18.mv (mv_ext hx48))
            have hS9_ra0_19 : Sl eTly w49 (ZZ Z w.heap.size [some b11, some b1]) A9_ra0 c9_ra0 r9.1.ts := ((f42_hS9_ra0.mv (mv_ext hx45)).mv (mv_ext hx48))
            have hS9_rb_19 : Sl (eInt .i64) w49 (ZZ Z w.heap.size [some b11, some b1]) A9_rb c9_rb r9.2 := ((f42_hS9_rb.mv (mv_ext hx45)).mv (mv_ext hx48))
            refine lv_round m_ (Nat.lt_succ_self _) (fun st => ?_)
            exact ⟨(s42_15 + r45), (s42_16 + 1), hG, (puts_size _ _).trans st.sz, (puts_defers _ _).trans st.df, (sl_puts st 7).trans hs42_7, (sl_puts st 8).trans hs42_8, (sl_puts st 9).trans hs42_9, (sl_puts st 15).trans rfl, (sl_puts st 16).trans rfl, hp19, bk11_19, hS15_ra_19, hS9_ra0_19, hS9_rb_19⟩
          ·replace hG := cond_f hG hc43
           refine cc_cond_f rfl hc43 <| cc_exit <| lv_then_exit <| lv_then_exit ?_
           obtain rfl := Option.some.inj hG
           refine lv_to (fun st => ?_)
           exact .inr ⟨rfl, s42_15, rfl, (puts_size _ _).trans st.sz, (puts_defers _ _).trans st.df, (sl_puts st 7).trans hs42_7, (sl_puts st 8).trans hs42_8, (sl_puts st 15).trans hs42_15, hp17, f42_bk11, f42_hS9_ra0, f42_hS9_rb⟩
        case af42 =>
         rintro e_ fr42a w42a (⟨rfl, q42, rfl, hsz42a, hdf42a, hs42a_6, hp42a⟩ | ⟨rfl, q42, rfl, hsz42a, hdf42a, hs42a_7, hs42a_8, hs42a_15, hp42a, g42_bk11, g42_hS9_ra0, g42_hS9_rb⟩)
         ·skip
          replace hG := inl_some hG
          refine lv_fr (X := X0) (N := 138) hsz42a hdf42a <| lv_block_ret <| lv_then_ret ?_
          have hr_ := Option.some.inj hG
          refine lv_ret1 rfl hs42a_6 ?_
          exact ⟨hp42a.fin, congrArg Value.bool hr_⟩
         ·skip
          replace hG := inr_some hG
          refine lv_fr (X := X0) (N := 138) hsz42a hdf42a <| lv_block_hit <| lv_next <| cc_seq <| cc_seq <| cc_region <| wa rfl (v := I 0) rfl <| wl_end <| lv_next <| cc_block ?_
          replace hG := bind_some hG; obtain ⟨z55, hL55, hG⟩ := hG
          refine cc_join (fun e_ fr_ w_ => (e_ = .ret ∧ ∃ q55, z55 = .inl q55 ∧ fr_.tmps.size = 138 ∧ fr_.defers = [] ∧ sl fr_ 6 = .bool q55 ∧ Hp w [some b11, some b1] w_) ∨ (e_ = .exit 2 ∧ ∃ q55, z55 = .inr q55 ∧ fr_.tmps.size = 138 ∧ fr_.defers = [] ∧ sl fr_ 7 = pt b11 0 ∧ sl fr_ 15 = I q42 ∧ Hp w [some b11, some b1] w_ ∧ Bk w_ b11 26 #[I r9.1.rows, I r9.1.wd, I r9.1.lo, I r9.1.hi, .slice A9_ra0 r9.1.ts.length c9_ra0] ∧ Sl eTly w_ (ZZ Z w.heap.size [some b11, some b1]) A9_ra0 c9_ra0 r9.1.ts)) ?lp55 ?af55
          case lp55 =>
           clear hG
           refine cc_loop (fun (m_ : Nat) (fr_ : Act) (w_ : World) => ∃ s55_18, G_WeedTruth_L55 K_ r9 m_ s55_18 = some z55 ∧ fr_.tmps.size = 138 ∧ fr_.defers = [] ∧ sl fr_ 7 = pt b11 0 ∧ sl fr_ 8 = .slice A9_rb r9.2.length c9_rb ∧ sl fr_ 15 = I q42 ∧ sl fr_ 18 = I s55_18 ∧ Hp w [some b11, some b1] w_ ∧ Bk w_ b11 26 #[I r9.1.rows, I r9.1.wd, I r9.1.lo, I r9.1.hi, .slice A9_ra0 r9.1.ts.length c9_ra0] ∧ Sl eTly w_ (ZZ Z w.heap.size [some b11, some b1]) A9_ra0 c9_ra0 r9.1.ts ∧ Sl (eInt .i64) w_ (ZZ Z w.heap.size [some b11, some b1]) A9_rb c9_rb r9.2) K_ ?in55 ?rd55
           case in55 =>
            intro st
            exact ⟨(0 : Int), hL55, (puts_size _ _).trans st.sz, (puts_defers _ _).trans st.df, (sl_puts st 7).trans hs42a_7, (sl_puts st 8).trans hs42a_8, (sl_puts st 15).trans hs42a_15, (sl_puts st 18).trans rfl, hp42a, g42_bk11, g42_hS9_ra0, g42_hS9_rb⟩
           case rd55 =>
            rintro (_ | m_) fr55 w55r ⟨s55_18, hL55, hsz55, hdf55, hs55_7, hs55_8, hs55_15, hs55_18, hp22, f55_bk11, f55_hS9_ra0, f55_hS9_rb⟩
            ·exact absurd (show none = some _ from hL55) (by simp)
            rw [G_WeedTruth_L55.eq_2] at hL55
            have hG := hL55; clear hL55
            refine round_cc (N := 138) hsz55 hdf55 <| cc_seq <| cc_seq <| cc_region <| wm rfl (v := I s55_18) hs55_18 <| wd rfl (fun st => x_fieldAddr (ee st hs55_7) (fz_26_0 _ _)) <| wd rfl (fun st => x_load1 (v := I r9.1.rows) one_3 (ee st rfl) f55_bk11 rfl) <| wd rfl (fun st => x_lss (ee st rfl) (ee st rfl)) <| wl_end <| lv_next ?_
            rcases bool_cases (decide (s55_18 < r9.1.rows)) with hc56 | hc56
            ·replace hG := cond_t hG hc56
             refine cc_cond_t rfl hc56 <| cc_skip <| lv_next <| cc_seq <| cc_block <| cc_seq <| cc_region <| wd rfl (fun st => x_loadn (l := [I r9.1.rows, I r9.1.wd, I r9.1.lo, I r9.1.hi, .slice A9_ra0 r9.1.ts.length c9_ra0]) agg_26 (ee st hs55_7) f55_bk11 rfl rfl) ?_
             replace hG := bind_some hG; obtain ⟨r57, hr57, hG⟩ := hG
             refine we rfl (fun st => x_call0 own_23 (ee st rfl) (am1 (ee st rfl)) (a23 K_ r9.1 A9_ra0 c9_ra0 (ZZ Z w.heap.size [some b11, some b1]) _ f55_hS9_ra0 r57 hr57)) ?_
             rintro _ w58 ⟨hx57, ⟨_, rfl, ⟨A57_r0, c57_r0, rfl, hS57_r0⟩⟩⟩
             have hp23 : Hp w [some b11, some b1] w58 := hp22.ext hx57
             have hS57_r0 := hS57_r0.mv (hp22.call (Nat.le_refl _))
             refine wm rfl (v := I s55_18) hs55_18 ?_
             replace hG := bind_some hG; obtain ⟨r59, hr59, hG⟩ := hG
             refine we rfl (fun st => x_call0 own_27 (ee st rfl) (am2 (ee st rfl) (ee st rfl)) (a27 K_ r57 s55_18 A57_r0 c57_r0 (ZZ Z w.heap.size [some b11, some b1]) _ hS57_r0 r59 hr59)) ?_
             rintro _ w60 ⟨hx59, _, _, rfl, ⟨A59_ra, c59_ra, rfl, hS59_ra⟩, rfl⟩
             have hp24 : Hp w [some b11, some b1] w60 := hp23.ext hx59
             have hS59_ra := hS59_ra.mv (hp23.call (Nat.le_refl _))
             refine wm rfl (v := .tuple #[.slice A59_ra r59.1.length c59_ra, I r59.2]) rfl <| wd rfl (fun st => x_extract (v := .slice A59_ra r59.1.length c59_ra) (ee st rfl) rfl) <| wd rfl (fun st => x_extract (v := I r59.2) (ee st rfl) rfl) <| wa rfl (v := .slice A59_ra r59.1.length c59_ra) rfl <| wa rfl (v := I r59.2) rfl <| wl_end <| lv_next <| cc_seq <| cc_region <| wm rfl (v := I r59.2) rfl <| wd rfl (fun st => x_neq (ee st rfl) (ee st rfl)) <| wm rfl (v := .bool (r59.2 != 0)) rfl ?_
             rcases bool_cases (r59.2 != 0) with hc61 | hc61
             ·replace hG := cond_t hG hc61
              refine wl_skip (c := true) rfl rfl (guard_eq rfl hc61) (by decide) rfl (by decide) <| wl_skip (c := true) rfl rfl (guard_eq rfl hc61) (by decide) rfl (by decide) <| wl_skip (c := true) rfl rfl (guard_eq rfl hc61) (by decide) rfl (by decide) <| wl_skip (c := true) rfl rfl (guard_eq rfl hc61) (by decide) rfl (by decide) <| wl_skip (c := true) rfl rfl (guard_eq rfl hc61) (by decide) rfl (by decide) <| wl_skip (c := true) rfl rfl (guard_eq rfl hc61) (by decide) rfl (by decide) <| wl_skip (c := true) rfl rfl (guard_eq rfl hc61) (by decide) rfl (by decide) <| wd rfl (fun st => x_pick_t (v := .bool true) (ee st rfl) hc61 (ee st rfl)) <| wl_end <| lv_next <| cc_cond_t rfl rfl <| cc_seq <| cc_region <| wa rfl (v := .bool false) rfl <| wl_end <| lv_next <| cc_ret <| lv_block_ret <| lv_then_ret <| lv_then_ret ?_
              obtain rfl := Option.some.inj hG
              refine lv_to (fun st => ?_)
              exact .inl ⟨rfl, false, rfl, (puts_size _ _).trans st.sz, (puts_defers _ _).trans st.df, (sl_puts st 6).trans rfl, hp24⟩
             ·replace hG := cond_f hG hc61
              refine wl_detg rfl rfl (guard_eq rfl hc61) rfl (by decide) (fun st => x_move (v := .slice A59_ra r59.1.length c59_ra) (ee st rfl)) <| wl_detg rfl rfl (guard_eq rfl hc61) rfl (by decide) (fun st => x_move (v := .slice A9_rb r9.2.length c9_rb) (ee st hs55_8)) <| wl_detg rfl rfl (guard_eq rfl hc61) rfl (by decide) (fun st => x_move (v := I s55_18) (ee st hs55_18)) ?_
              replace hG := idx_bind hG; obtain ⟨i62, x62, hi62, hx62, hl62, hG⟩ := hG
              have hS9_rb_24 : Sl (eInt .i64) w60 (ZZ Z w.heap.size [some b11, some b1]) A9_rb c9_rb r9.2 := ((f55_hS9_rb.mv (mv_ext hx57)).mv (mv_ext hx59))
              obtain ⟨b62, o62, _, hA62, rfl, hz62⟩ := Sl.elem1 hS9_rb_24 rfl hx62
              refine wl_detg rfl rfl (guard_eq rfl hc61) rfl (by decide) (fun st => x_indexAddr1 (k := i62) Try.underlying43 sz_3 (ee st rfl) hA62 (ee st rfl) hi62 hl62) <| wl_detg rfl rfl (guard_eq rfl hc61) rfl (by decide) (fun st => x_load_z0 (v := I x62) one_3 (ee st rfl) hz62 rfl) ?_
              replace hG := bind_some hG; obtain ⟨r63, hr63, hG⟩ := hG
              refine wl_exg rfl rfl (guard_eq rfl hc61) rfl (by decide) (fun st => x_call0 own_45 (ee st rfl) (am2 (ee st rfl) (ee st rfl)) (a45 K_ r59.1 x62 A59_ra c59_ra ZA _ hS59_ra.all r63 hr63)) ?_
              rintro _ w64 ⟨hx63, rfl⟩
              have hp25 : Hp w [some b11, some b1] w64 := hp24.ext hx63
              refine wl_detg rfl rfl (guard_eq rfl hc61) rfl (by decide) (fun st => x_not (ee st rfl)) <| wd rfl (fun st => x_pick_f (v := .bool !r63) (ee st rfl) hc61 (ee st rfl)) <| wl_end <| lv_next ?_
              rcases bool_cases (!r63) with hc65 | hc65
              ·replace hG := cond_t hG hc65
               have hc65_66 : r63 = false := by simpa using hc65
               refine cc_cond_t rfl hc65 <| cc_seq <| cc_region <| wa rfl (v := .bool false) rfl <| wl_end <| lv_next <| cc_ret <| lv_block_ret <| lv_then_ret <| lv_then_ret ?_
               obtain rfl := Option.some.inj hG
               refine lv_to (fun st => ?_)
               exact .inl ⟨rfl, false, rfl, (puts_size _ _).trans st.sz, (puts_defers _ _).trans st.df, (sl_puts st 6).trans rfl, hp25⟩
              ·replace hG := cond_f hG hc65
               have hc65_67 : r63 = true := by simpa using hc65
               refine cc_cond_f rfl hc65 <| cc_skip <| lv_block <| lv_next <| cc_region <| wm rfl (v := I s55_18) hs55_18 ?_
               replace hG := i64_bind hG; obtain ⟨hf68, hG⟩ := hG
               refine wd rfl (fun st => x_add (ee st rfl) (ee st rfl) hf68) <| wa rfl (v := I (s55_18 + 1)) rfl <| wl_end ?_
               have bk11_25 : Bk w64 b11 26 #[I r9.1.rows, I r9.1.wd, I r9.1.lo, I r9.1.hi, .slice A9_ra0 r9.1.ts.length c9_ra0] := (((f55_bk11.ext hx57).ext hx59).ext hx63)
               have hS9_ra0_25 : Sl eTly w64 (ZZ Z w.heap.size [some b11, some b1]) A9_ra0 c9_ra0 r9.1.ts := (((f55_hS9_ra0.mv (mv_ext hx57)).mv (mv_ext hx59)).mv (mv_ext hx63))
               have hS9_rb_25 : Sl (eInt .i64) w64 (ZZ Z w.heap.size [some b11, some b1]) A9_rb c9_rb r9.2 := (hS9_rb_24.mv (mv_ext hx63))
               refine lv_round m_ (Nat.lt_succ_self _) (fun st => ?_)
               exact ⟨(s55_18 + 1), hG, (puts_size _ _).trans st.sz, (puts_defers _ _).trans st.df, (sl_puts st 7).trans hs55_7, (sl_puts st 8).trans hs55_8, (sl_puts st 15).trans hs55_15, (sl_puts st 18).trans rfl, hp25, bk11_25, hS9_ra0_25, hS9_rb_25⟩
            ·replace hG := cond_f hG hc56
             refine cc_cond_f rfl hc56 <| cc_exit <| lv_then_exit <| lv_then_exit ?_
             obtain rfl := Option.some.inj hG
             refine lv_to (fun st => ?_)
             exact .inr ⟨rfl, (), rfl, (puts_size _ _).trans st.sz, (puts_defers _ _).trans st.df, (sl_puts st 7).trans hs55_7, (sl_puts st 15).trans hs55_15, hp22, f55_bk11, f55_hS9_ra0⟩
          case af55 =>
           rintro e_ fr55a w55a (⟨rfl, q55, rfl, hsz55a, hdf55a, hs55a_6, hp55a⟩ | ⟨rfl, q55, rfl, hsz55a, hdf55a, hs55a_7, hs55a_15, hp55a, g55_bk11, g55_hS9_ra0⟩)
           ·skip
            replace hG := inl_some hG
            refine lv_fr (X := X0) (N := 138) hsz55a hdf55a <| lv_block_ret <| lv_then_ret ?_
            have hr_ := Option.some.inj hG
            refine lv_ret1 rfl hs55a_6 ?_
            exact ⟨hp55a.fin, congrArg Value.bool hr_⟩
           ·skip
            replace hG := inr_some hG
            refine lv_fr (X := X0) (N := 138) hsz55a hdf55a <| lv_block_hit <| lv_next <| cc_seq <| cc_region <| wm rfl (v := I q42) hs55a_15 <| wd rfl (fun st => x_fieldAddr (ee st hs55a_7) (fz_26_0 _ _)) <| wd rfl (fun st => x_load1 (v := I r9.1.rows) one_3 (ee st rfl) g55_bk11 rfl) <| wd rfl (fun st => x_eql (ee st rfl) (ee st rfl)) <| wm rfl (v := .bool (q42 == r9.1.rows)) rfl ?_
            rcases bool_cases (q42 == r9.1.rows) with hc69 | hc69
            ·replace hG := cond_t hG hc69
             replace hG := ifo_bind hG; obtain ⟨hw70, hG⟩ := hG
             refine wl_exg rfl rfl (guard_eq rfl hc69) rfl (by decide) (fun st => x_call0 own_21 (ee st rfl) am0 (a21 K_ ZA _ hw70)) ?_
             rintro _ w71 ⟨hx70, rfl⟩
             have hp28 : Hp w [some b11, some b1] w71 := hp55a.ext hx70
             refine wd rfl (fun st => x_pick_t (v := .bool true) (ee st rfl) hc69 (ee st rfl)) <| wa rfl (v := .bool true) rfl <| wl_end <| lv_next <| cc_ret ?_
             have hr_ := Option.some.inj hG
             refine lv_ret1 rfl rfl ?_
             exact ⟨hp28.fin, congrArg Value.bool hr_⟩
            ·replace hG := cond_f hG hc69
             exact absurd (Option.some.inj hG) (by decide)
end Go.Proofs.Ythogdgkafaclaaa
end
section
namespace Go.Proofs.Ythogdgkafaclaaa
open Go.RowKit Go.ChangeShapes Go.WideShapes
theorem mapM_get {α β : Type} {g : α → Option β} : ∀ {l : List α} {r : List β}, l.mapM g = some r → ∀ (i : Nat) (x : α), l[i]? = some x → ∃ y, r[i]? = some y ∧ g x = some y
  | [], _, _, i, x, hx => by simp at hx
  | a :: l, r, h, i, x, hx => by
    rw [List.mapM_cons] at h
    obtain ⟨y, hy, h2⟩ := Option.bind_eq_some_iff.1 h
    obtain ⟨ys, hys, h3⟩ := Option.bind_eq_some_iff.1 h2
    obtain rfl : y :: ys = r := by simpa using h3
    cases i with
    | zero =>
      obtain rfl : a = x := by simpa using hx
      exact ⟨y, rfl, hy⟩
    | succ i => exact mapM_get hys i x (by simpa using hx)
theorem weightsAll_mem {H : Type} {P : Program} {e : TypeId} {d : DataW H} {n : Nat} (hn : n ∈ d.weights P e) : ∀ {l : List (DataW H)}, d ∈ l → n ∈ DataW.weightsAll P e l
  | [], h => by cases h
  | a :: l, h => by
    rw [DataW.weightsAll, List.mem_append]
    rcases List.mem_cons.1 h with rfl | h
    · exact .inl hn
    · exact .inr (weightsAll_mem hn h)
/-- No slice in it takes more bytes than the form lets in. -/
def Slim {H : Type} (P : Program) (t : TypeId) (d : DataW H) : Prop := ∀ n ∈ d.weights P t, n ≤ reachBytes
theorem slim_at {H : Type} {P : Program} {ts : List TypeId} {ds : List (DataW H)} (h : (DataW.weightsEach P ts ds).all (· ≤ reachBytes) = true) {j : Nat} {t : TypeId} {d : DataW H} (ht : ts[j]? = some t) (hd : ds[j]? = some d) : Slim P t d := fun n hn => by
  have := List.all_eq_true.1 h _ (DataW.weights_mem_each ht hd n hn)
  simpa using this
/-- A reading of this type is data of this kind. -/
def Opn {α : Type} (P : Program) (t : TypeId) (e : Enc α) (wf : α → Prop) : Prop :=
  ∀ (H : Type) (enc : TypeId × Value → H) (w : World) (sp : Nat → Bool) (fuel : Nat) (cs : List Value) (x : DataW H × List MemPlace), DataW.trod enc P w 0 sp true fuel t cs = some x → Slim P t x.1 → ∃ a, e.R w ZA cs a ∧ wf a
def wfI (k : IntKind) (n : Int) : Prop := (Lit.int k n).wf = true
section
variable {P : Program} {t : TypeId}
theorem opn_int {k : IntKind} (ht : P.underlying t = some (.int k)) : Opn P t (eInt k) (wfI k) := by
  intro H enc w sp fuel cs x h _
  obtain ⟨n, h1, _, h3⟩ := DataW.trod_int ht h
  exact ⟨n, h1, h3⟩
/-- A struct's fields. -/
theorem trod_fields {fs : Array Field} (ht : P.underlying t = some (.struct fs)) {H : Type} {enc : TypeId × Value → H} {w : World} {sp : Nat → Bool} {fuel : Nat} {cs : List Value} {x : DataW H × List MemPlace} (h : DataW.trod enc P w 0 sp true fuel t cs = some x) :
    cs.length = P.cellsOf t ∧ ∃ fuel', ∀ (i ft off : Nat), (fs[i]?).map (fun f => (f.type, f.offset)) = some (ft, off) → ∃ y, DataW.trod enc P w 0 sp true fuel' ft ((cs.drop off).take (P.cellsOf ft)) = some y ∧ (Slim P t x.1 → Slim P ft y.1) := by
  cases fuel with
  | zero => simp [DataW.trod] at h
  | succ fuel =>
    unfold DataW.trod at h
    simp only [ht] at h
    split at h
    · rename_i hl
      obtain ⟨xs, hx, rfl⟩ := Option.map_eq_some_iff.1 h
      refine ⟨hl, fuel, fun i ft off hf => ?_⟩
      obtain ⟨f, hf', he⟩ := Option.map_eq_some_iff.1 hf
      obtain ⟨e1, e2⟩ : f.type = ft ∧ f.offset = off := by simpa using he
      rw [← Array.getElem?_toList] at hf'
      obtain ⟨y, hy, hg⟩ := mapM_get hx i f hf'
      rw [e1, e2] at hg
      refine ⟨y, hg, fun hs n hn => hs n ?_⟩
      simp only [DataW.weights, ht]
      exact DataW.weights_mem_each (j := i) (t := ft) (d := y.1) (by rw [List.getElem?_map, hf']; simp [e1]) (by rw [List.getElem?_map, hy]; rfl) n hn
    · cases h
theorem cells_cell {w : World} {a : Addr} {n : Nat} {cs : List Value} (h : w.cells? 0 a n = some cs) : cs.length = n ∧ ∀ j u, cs[j]? = some u → w.cell? (a.add j) = some u := by
  unfold World.cells? at h
  rw [if_pos (Nat.zero_le _)] at h
  have hl := mapM_some_length h
  refine ⟨by simpa using hl, ?_⟩
  have key : ∀ (l : List Nat) (r : List Value), l.mapM (fun i => w.cell? (a.add i)) = some r → ∀ (j i : Nat) (u : Value), l[j]? = some i → r[j]? = some u → w.cell? (a.add i) = some u := by
    intro l
    induction l with
    | nil => intro r _ j i u hj; simp at hj
    | cons b l ih =>
      intro r h j i u hj hr
      rw [List.mapM_cons] at h
      obtain ⟨y, hy, h2⟩ := Option.bind_eq_some_iff.1 h
      obtain ⟨ys, hys, h3⟩ := Option.bind_eq_some_iff.1 h2
      obtain rfl : y :: ys = r := by simpa using h3
      cases j with
      | zero =>
        obtain rfl : b = i := by simpa using hj
        obtain rfl : y = u := by simpa using hr
        exact hy
      | succ j => exact ih ys hys j i u (by simpa using hj) (by simpa using hr)
  intro j u hj
  have hlt : j < n := by
    have := (List.getElem?_eq_some_iff.1 hj).1
    have h2 : cs.length = n := by simpa using hl
    omega
  exact key _ _ h j j u (by simp [hlt]) hj
theorem cell_none {w : World} {a : Addr} {u : Value} (h : w.cell? a = some u) : ∃ b o, a = ⟨b, o, none⟩ ∧ b < w.heap.size := by
  obtain ⟨b, o, pt⟩ := a
  cases pt with
  | none =>
    refine ⟨b, o, rfl, ?_⟩
    unfold World.cell? at h
    cases hq : w.heap[b]? with
    | none => simp [hq] at h
    | some o => exact (Array.getElem?_eq_some_iff.1 hq).1
  | some q =>
    unfold World.cell? at h
    cases hq : w.heap[b]? with
    | none => simp [hq] at h
    | some ob => cases ob <;> simp [hq] at h
theorem add_add {a : Addr} {k j : Nat} (h : k ≤ j) : (a.add k).add (j - k) = a.add j := by
  obtain ⟨b, o, pt⟩ := a
  cases pt with
  | none => rw [addr_add, addr_add, addr_add]; congr 1; omega
  | some q =>
    unfold Addr.add
    by_cases hj : j = 0
    · have : k = 0 := by omega
      subst this; subst hj; simp
    · by_cases hk : k = 0
      · subst hk; simp [hj]
      · by_cases hjk : j - k = 0
        · have : j = k := by omega
          subst this; simp [hk]
        · simp [hj, hk, hjk]; omega
/-- Slices of what can be read. -/
theorem opn_slice {α : Type} {e : TypeId} {ee : Enc α} {wf : α → Prop} (ht : P.underlying t = some (.slice e)) (hc : P.cellsOf e = ee.sz) (h0 : 0 < ee.sz) (ho : Opn P e ee wf) {b : Nat} (hby : P.bytesOf e = b) : Opn P t (eSl ee) (fun xs => xs.length * b ≤ 140737488351232 ∧ ∀ x ∈ xs, wf x) := by
  intro H enc w sp fuel cs x h hsl
  rcases Go.Deep.open_slice ht h with ⟨rfl, _⟩ | ⟨a, len, cap, m, n0, D, Pl, rfl, _, hlc, hcm, hm, hxe, hall⟩
  · exact ⟨[], ⟨none, 0, rfl, Sl.nil _ _ _⟩, by simp, by simp⟩
  · have hlm : len ≤ m := by rw [hm]; split <;> omega
    subst hxe
    have hroom : len * b ≤ 140737488351232 := by
      have := hsl ((((List.range len).map D).length + ((List.range (m - len)).map fun j => D (len + j)).length) * P.bytesOf e) (by simp [DataW.weights, ht])
      rw [hby] at this
      have h2 : len * b ≤ (((List.range len).map D).length + ((List.range (m - len)).map fun j => D (len + j)).length) * b := Nat.mul_le_mul_right _ (by simp)
      exact Nat.le_trans h2 this
    have hslim : ∀ i, i < len → Slim P e (D i) := fun i hi n hn => hsl n (by
      simp only [DataW.weights, ht]
      rw [List.mem_cons, List.mem_append]
      exact .inr (.inl (weightsAll_mem hn (List.mem_map.2 ⟨i, by simpa using hi, rfl⟩))))
    have key : ∀ n, n ≤ len → ∃ css xs, R2 ee w ZA css xs ∧ xs.length = n ∧ (∀ x ∈ xs, wf x) ∧ ∀ j u, css.flatten[j]? = some u → w.cell? (a.add j) = some u := by
      intro n
      induction n with
      | zero => exact fun _ => ⟨[], [], trivial, rfl, by simp, by simp⟩
      | succ n ih =>
        intro hn
        obtain ⟨css, xs, h1, h2, h3, h4⟩ := ih (by omega)
        obtain ⟨ds, hd, hy2⟩ := hall n (by omega)
        obtain ⟨z, hz, hwz⟩ := ho _ _ _ _ _ _ _ hy2 (hslim n (by omega))
        obtain ⟨hl, hcell⟩ := cells_cell hd
        refine ⟨css ++ [ds], xs ++ [z], h1.append ⟨hz, trivial⟩, by simp [h2], ?_, ?_⟩
        · intro x hx
          rcases List.mem_append.1 hx with hx | hx
          · exact h3 x hx
          · rw [List.mem_singleton.1 hx]; exact hwz
        · intro j u hj
          rw [List.flatten_append] at hj
          rcases Nat.lt_or_ge j css.flatten.length with hlt | hge
          · rw [List.getElem?_append_left hlt] at hj
            exact h4 j u hj
          · rw [List.getElem?_append_right hge] at hj
            have h5 := hcell (j - css.flatten.length) u (by simpa using hj)
            have hfl : css.flatten.length = n * ee.sz := by rw [h1.flen, h2]
            rw [hfl] at h5 hge
            rw [hc] at h5
            rw [add_add hge] at h5
            exact h5
    obtain ⟨css, xs, h1, h2, h3, h4⟩ := key len (Nat.le_refl _)
    refine ⟨xs, ⟨some a, cap, by rw [h2], by rw [h2]; exact hlc, (fun e => by cases e), css, h1, ?_⟩, by rw [h2]; exact hroom, h3⟩
    cases hf : css.flatten with
    | nil => exact .inl rfl
    | cons u us =>
      have hu := h4 0 u (by rw [hf]; rfl)
      obtain ⟨b, o, hab, hlt⟩ := cell_none hu
      have ha : a = ⟨b, o, none⟩ := by
        obtain ⟨b', o', pt⟩ := a
        cases pt <;> simp [Addr.add] at hab ⊢
        exact hab
      subst ha
      refine .inr ⟨b, o, rfl, trivial, hlt, fun j u hj => ?_⟩
      have := h4 j u (by rw [hf]; exact hj)
      rw [addr_add] at this
      exact this
end
section
variable {H : Type} {enc : TypeId × Value → H} {P : Program} {W W' : World}
theorem trodAll_carry {sp : Nat → Bool} : ∀ {ts : List TypeId} {vs : List Value} {ds : List (DataW H)} {ps : List MemPlace}, DataW.TrodAll enc P W 0 sp true ts vs ds ps → (∀ p ∈ ps, W.sameAt W' p) → DataW.TrodAll enc P W' 0 sp true ts vs ds ps
  | [], _, _, _, h, _ => by
    obtain ⟨rfl, rfl, rfl⟩ := trodAll_nil h
    exact rfl
  | _ :: _, _, _, _, h, hs => by
    obtain ⟨v, vs1, d, ds1, a, b, rfl, rfl, rfl, ⟨n, hn⟩, h2⟩ := trodAll_cons h
    exact ⟨a, b, ⟨n, DataW.trod_carry n _ _ _ hn fun p hp => hs p (List.mem_append_left _ hp)⟩, trodAll_carry h2 fun p hp => hs p (List.mem_append_right _ hp), rfl⟩
theorem args_read (K : Kids P (· < P.types.size)) (hz : ∀ t e, t < P.types.size → P.underlying t = some (.slice e) → 0 < P.cellsOf e) {ts : List TypeId} {vs : List Value} {ds : List (DataW H)} {ps : List MemPlace} (hT : ∀ t ∈ ts, t < P.types.size)
    (hA : DataW.TrodAll enc P W 0 (fun _ => true) true ts vs ds ps) (hb : Ext W W') (hlt : ∀ p ∈ ps, p.block < W.heap.size) (sp : Nat → Bool) (hs : ∀ p ∈ ps, sp p.block = true) : DataW.TrodAll enc P W' 0 sp true ts vs ds ps :=
  trodAll_carry (DataW.TrodAll.respare K hz hT hA hs) fun p hp => (below_of_ext hb).same (hlt p hp)
variable {α : Type} {e : Enc α} {wf : α → Prop} {t : TypeId} {b0 : Nat} {v : Value} {d : DataW H} {p : List MemPlace} {sp : Nat → Bool}
theorem val_agg {fs : Array Field} (ht : P.underlying t = some (.struct fs)) (ho : Opn P t e wf) (hv : Value.okWide P W .any b0 t v) (h : DataW.Trod enc P W 0 sp true t v d p) (hs : Slim P t d) : ∃ a cs, v = .agg cs.toArray ∧ e.R W ZA cs a ∧ wf a := by
  unfold Value.okWide at hv
  rw [ht] at hv
  obtain ⟨cs, rfl, _⟩ := hv
  obtain ⟨n, hn⟩ := h
  obtain ⟨a, h1, h2⟩ := ho _ _ _ _ _ _ _ hn hs
  exact ⟨a, cs.toList, by simp, h1, h2⟩
theorem val_sl {ee : TypeId} (ht : P.underlying t = some (.slice ee)) {wf : List α → Prop} (ho : Opn P t (eSl e) wf) (hv : Value.okWide P W .any b0 t v) (h : DataW.Trod enc P W 0 sp true t v d p) (hs : Slim P t d) : ∃ xs A c, v = .slice A xs.length c ∧ Sl e W ZA A c xs ∧ wf xs := by
  obtain ⟨A, n, c, rfl⟩ := okWide_slice ht hv
  obtain ⟨m, hm⟩ := h
  obtain ⟨xs, ⟨A2, c2, h1, h2⟩, h3⟩ := ho _ _ _ _ _ _ _ hm hs
  have : Value.slice A n c = Value.slice A2 xs.length c2 := by simpa [Value.cells] using h1
  exact ⟨xs, A2, c2, this, h2, h3⟩
theorem val_int {k : IntKind} (ht : P.underlying t = some (.int k)) (hv : Value.okWide P W .any b0 t v) (h : DataW.Trod enc P W 0 sp true t v d p) : ∃ n, v = .int k n ∧ wfI k n := by
  obtain ⟨n, h1, _, _, h4⟩ := open_int ht hv h
  exact ⟨n, h1, h4⟩
/-- The row's end: the call has laid new blocks alone. -/
theorem post_of_ext {f : Func} {s : ChangeSpec} {apart fresh handsOn again : Bool} {args : Array Value} {v : Value} {ds gs : List (DataW H)} {before pa pv : List MemPlace}
    (hW : DataW.Whole enc P f.params.toList s.vars apart W args.toList ds gs before)
    (hres : ∀ (b : Nat) (sp : Nat → Bool) (hd : Bool), DataW.TrodAll enc P W' b sp hd f.resultTypes.toList (v.resultList f.resultTypes.size) (s.fn H (ds ++ gs)).results [])
    (hargs : ∀ sp : Nat → Bool, (∀ p ∈ before, sp p.block = true) → DataW.TrodAll enc P W' 0 sp true f.params.toList args.toList (s.fn H (ds ++ gs)).args pa)
    (hvars : ∀ sp : Nat → Bool, (∀ p ∈ before, sp p.block = true) → DataW.TrodVars enc P W' sp s.vars (s.fn H (ds ++ gs)).vars pv)
    (hps : before = pa ++ pv) (hx : Ext W W')
    (hok : ∀ (j : Nat) (t : TypeId) (r : Value), f.resultTypes[j]? = some t → (v.resultList f.resultTypes.size)[j]? = some r → Value.okWide P W' .any 0 t r) :
    s.post enc P f apart fresh handsOn again W args v W' := by
  have hb := below_of_ext hx
  have hlt : ∀ p ∈ before, p.block < W.heap.size := fun p hp => hW.lt p hp
  have hold : ∀ p ∈ before, (fun b => decide (b < W.heap.size)) p.block = true := fun p hp => by simpa using hlt p hp
  refine ⟨ds, gs, before, [], pa, pv, hW, hres _ _ _, hargs _ hold, hvars _ hold, World.keptBut_mono (fun p hp => ⟨hp, ?_⟩) (hb.frame (· ∈ before)), fun _ => ?_⟩
  · rw [hps, List.mem_append] at hp
    exact Or.inr hp
  · obtain ⟨_, _, _, _, _, hz, hn⟩ := hW
    refine ⟨hok, _, _, ([] ++ pa) ++ pv, ⟨[] ++ pa, pv, trodAll_append (hargs _ (fun _ _ => rfl)) (hres _ _ _), hvars _ (fun _ _ => rfl), rfl, ?_, ?_⟩, ?_⟩
    · intro b off hp
      have hin : MemPlace.cell b off ∈ before := by rw [hps]; simpa using hp
      rw [hb.frozen (hlt _ hin)]
      exact hz b off hin
    · intro ha
      have := hn ha
      rw [hps] at this
      simpa using this
    · intro p hp _
      rw [hps]
      simpa using hp
theorem ret_calls {f : FuncId} {args : Array Value} {w : World} {R : Value → World → Prop} (h : Ret P f args w R) : Calls P f args w (fun e w' => ∃ v, e = .returned v ∧ R v w') := h
end
end Go.Proofs.Ythogdgkafaclaaa
end
section
set_option linter.unusedVariables false
set_option linter.unusedSimpArgs false
namespace Go.Proofs.Ythogdgkafaclaaa
open Go.RowKit
open Go.RowKit Go.ChangeShapes Go.WideShapes
theorem len_2 : ∀ {cs : List Value}, cs.length = 2 → ∃ a0 a1, cs = [a0, a1]
  | [a0, a1], _ => ⟨a0, a1, rfl⟩
theorem len_5 : ∀ {cs : List Value}, cs.length = 5 → ∃ a0 a1 a2 a3 a4, cs = [a0, a1, a2, a3, a4]
  | [a0, a1, a2, a3, a4], _ => ⟨a0, a1, a2, a3, a4, rfl⟩
theorem opn_23 : Opn Try.prog 23 eR (fun x => (wfI .i64 x.1 ∧ wfI .i64 x.2)) := by
  intro H enc w sp fuel cs x h hz
  obtain ⟨hl, fuel', hf⟩ := trod_fields Try.underlying23 h
  have hc : Try.prog.cellsOf 23 = 2 := by kernel_rfl
  rw [hc] at hl
  have k3 : Try.prog.cellsOf 3 = 1 := by kernel_rfl
  obtain ⟨a0, a1, rfl⟩ := len_2 hl
  obtain ⟨y0, hy0, hz0⟩ := hf 0 3 0 rfl
  simp only [k3, List.drop_zero, List.drop_succ_cons, List.take_succ_cons, List.take_zero] at hy0
  obtain ⟨n0, h0, w0⟩ := (opn_int Try.underlying3) _ _ _ _ _ _ _ hy0 (hz0 hz)
  cases h0
  obtain ⟨y1, hy1, hz1⟩ := hf 1 3 1 rfl
  simp only [k3, List.drop_zero, List.drop_succ_cons, List.take_succ_cons, List.take_zero] at hy1
  obtain ⟨n1, h1, w1⟩ := (opn_int Try.underlying3) _ _ _ _ _ _ _ hy1 (hz1 hz)
  cases h1
  exact ⟨⟨n0, n1⟩, rfl, w0, w1⟩
theorem opn_68 : Opn Try.prog 68 eTly (fun x => (wfI .i64 x.who ∧ wfI .i64 x.fr ∧ wfI .i64 x.to ∧ (wfI .i64 ((⟨x.lo, x.hi⟩ : (Int × Int)).1) ∧ wfI .i64 ((⟨x.lo, x.hi⟩ : (Int × Int)).2)))) := by
  intro H enc w sp fuel cs x h hz
  obtain ⟨hl, fuel', hf⟩ := trod_fields Try.underlying68 h
  have hc : Try.prog.cellsOf 68 = 5 := by kernel_rfl
  rw [hc] at hl
  have k3 : Try.prog.cellsOf 3 = 1 := by kernel_rfl
  have k23 : Try.prog.cellsOf 23 = 2 := by kernel_rfl
  obtain ⟨a0, a1, a2, a3, a4, rfl⟩ := len_5 hl
  obtain ⟨y0, hy0, hz0⟩ := hf 0 3 0 rfl
  simp only [k3, List.drop_zero, List.drop_succ_cons, List.take_succ_cons, List.take_zero] at hy0
  obtain ⟨n0, h0, w0⟩ := (opn_int Try.underlying3) _ _ _ _ _ _ _ hy0 (hz0 hz)
  cases h0
  obtain ⟨y1, hy1, hz1⟩ := hf 1 3 1 rfl
  simp only [k3, List.drop_zero, List.drop_succ_cons, List.take_succ_cons, List.take_zero] at hy1
  obtain ⟨n1, h1, w1⟩ := (opn_int Try.underlying3) _ _ _ _ _ _ _ hy1 (hz1 hz)
  cases h1
  obtain ⟨y2, hy2, hz2⟩ := hf 2 3 2 rfl
  simp only [k3, List.drop_zero, List.drop_succ_cons, List.take_succ_cons, List.take_zero] at hy2
  obtain ⟨n2, h2, w2⟩ := (opn_int Try.underlying3) _ _ _ _ _ _ _ hy2 (hz2 hz)
  cases h2
  obtain ⟨y3, hy3, hz3⟩ := hf 3 23 3 rfl
  simp only [k23, List.drop_zero, List.drop_succ_cons, List.take_succ_cons, List.take_zero] at hy3
  obtain ⟨n3, h3, w3⟩ := opn_23 _ _ _ _ _ _ _ hy3 (hz3 hz)
  cases h3
  exact ⟨⟨n0, n1, n2, n3.1, n3.2⟩, rfl, w0, w1, w2, w3⟩
theorem opn_26 : Opn Try.prog 26 eFld (fun x => (wfI .i64 x.rows ∧ wfI .i64 x.wd ∧ (wfI .i64 ((⟨x.lo, x.hi⟩ : (Int × Int)).1) ∧ wfI .i64 ((⟨x.lo, x.hi⟩ : (Int × Int)).2)) ∧ (x.ts.length * 40 ≤ 140737488351232 ∧ ∀ y ∈ x.ts, (wfI .i64 y.who ∧ wfI .i64 y.fr ∧ wfI .i64 y.to ∧ (wfI .i64 ((⟨y.lo, y.hi⟩ : (Int × Int)).1) ∧ wfI .i64 ((⟨y.lo, y.hi⟩ : (Int × Int)).2)))))) := by
  intro H enc w sp fuel cs x h hz
  obtain ⟨hl, fuel', hf⟩ := trod_fields Try.underlying26 h
  have hc : Try.prog.cellsOf 26 = 5 := by kernel_rfl
  rw [hc] at hl
  have k3 : Try.prog.cellsOf 3 = 1 := by kernel_rfl
  have k23 : Try.prog.cellsOf 23 = 2 := by kernel_rfl
  have k24 : Try.prog.cellsOf 24 = 1 := by kernel_rfl
  obtain ⟨a0, a1, a2, a3, a4, rfl⟩ := len_5 hl
  obtain ⟨y0, hy0, hz0⟩ := hf 0 3 0 rfl
  simp only [k3, List.drop_zero, List.drop_succ_cons, List.take_succ_cons, List.take_zero] at hy0
  obtain ⟨n0, h0, w0⟩ := (opn_int Try.underlying3) _ _ _ _ _ _ _ hy0 (hz0 hz)
  cases h0
  obtain ⟨y1, hy1, hz1⟩ := hf 1 3 1 rfl
  simp only [k3, List.drop_zero, List.drop_succ_cons, List.take_succ_cons, List.take_zero] at hy1
  obtain ⟨n1, h1, w1⟩ := (opn_int Try.underlying3) _ _ _ _ _ _ _ hy1 (hz1 hz)
  cases h1
  obtain ⟨y2, hy2, hz2⟩ := hf 2 23 2 rfl
  simp only [k23, List.drop_zero, List.drop_succ_cons, List.take_succ_cons, List.take_zero] at hy2
  obtain ⟨n2, h2, w2⟩ := opn_23 _ _ _ _ _ _ _ hy2 (hz2 hz)
  cases h2
  obtain ⟨y3, hy3, hz3⟩ := hf 3 24 4 rfl
  simp only [k24, List.drop_zero, List.drop_succ_cons, List.take_succ_cons, List.take_zero] at hy3
  obtain ⟨n3, ⟨A3, c3, h3, s3⟩, w3⟩ := (opn_slice (b := 40) Try.underlying24 (by kernel_rfl) (by decide) opn_68 (by kernel_rfl)) _ _ _ _ _ _ _ hy3 (hz3 hz)
  cases h3
  exact ⟨⟨n0, n1, n2.1, n2.2, n3⟩, ⟨A3, c3, rfl, s3⟩, w0, w1, w2, w3⟩
theorem ownT : ownKnob Try.prog.godebug = none := by kernel_rfl
theorem kidsT : Kids Try.prog (· < Try.prog.types.size) := kids_rows (by kernel_rfl) (by kernel_rfl)
theorem fullT : ∀ t e, t < Try.prog.types.size → Try.prog.underlying t = some (.slice e) → 0 < Try.prog.cellsOf e := slices_full_of Try.prog (by kernel_rfl)
end Go.Proofs.Ythogdgkafaclaaa
end
section
namespace Go.Proofs.Ythogdgkafaclaaa
theorem wf16 {x : Int} (h : wfI .u16 x) : 0 ≤ x ∧ x < 65536 := by
  have h2 : (decide (IntKind.u16.min ≤ x) && decide (x ≤ IntKind.u16.max)) = true := h
  rw [Bool.and_eq_true, decide_eq_true_eq, decide_eq_true_eq] at h2
  have e1 : IntKind.u16.min = 0 := by decide
  have e2 : IntKind.u16.max = 65535 := by decide
  omega
end Go.Proofs.Ythogdgkafaclaaa
end
section
set_option linter.unusedVariables false
set_option linter.unusedSimpArgs false
namespace Go.Proofs.Ythogdgkafaclaaa
open Go.RowKit
open Go.RowKit Go.ChangeShapes Go.WideShapes Go.ChangeAt
theorem weedTruth_row (f : Fld) (which : Int) (ws : List Int) (h1 : wfI .u16 which) (h2 : (ws.length * 2 ≤ 140737488351232 ∧ ∀ y ∈ ws, wfI .u16 y)) : ∃ K, G_WeedTruth K f which ws = some true := weedTruth_true f which ws (wf16 h1) (fun x hx => wf16 (h2.2 x hx))
set_option maxRecDepth 100000 in
theorem weedTruth_lifted (os : Os) (started : os.Started) (H : Type) (enc : TypeId × Value → H) :
    ReturnsInHanded {} Try.checked os 16 .any (Rows.weedTruthSpec.pre6 enc Try.prog Try.f16 Rows.weedTruthRow.domain false) (Rows.weedTruthSpec.post enc Try.prog Try.f16 false true false false) := by
  refine returnsInHanded_of_change_sized (C := Try.checked) ownT started (by kernel_rfl) Try.func16
    (ChangeSpec.witness6 (enc := enc) (C := Try.checked) false ⟨#[], #[.agg #[.int .i64 0, .int .i64 0, .int .i64 0, .int .i64 0, .slice none 0 0], .int .u16 0, .slice none 0 0], []⟩ 8 (by kernel_rfl) (by kernel_rfl) (by kernel_rfl) (by kernel_rfl)) ?_
  intro W base args ds gs before hval0 hW hcnd hsz _
  have hval : ∀ (j : Nat) t v, Try.f16.params[j]? = some t → args[j]? = some v → Value.okWide Try.prog W .any base t v := hval0
  have hW' := hW
  obtain ⟨p, q, hA0, hV, rfl, hfz, hnd⟩ := hW
  have hA : DataW.TrodAll enc Try.prog W 0 (fun _ => true) true Try.f16.params.toList args.toList ds p := hA0
  obtain ⟨rfl, rfl⟩ := trodVars_none hV
  simp only [List.append_nil] at hW'
  have hlt : ∀ x ∈ p, x.block < W.heap.size := fun x hx => by simpa using hW'.lt x hx
  have hAk := hA
  have hsz2 : (DataW.weightsEach Try.prog (Try.f16.params.toList ++ []) (ds ++ [])).all (· ≤ reachBytes) = true := hsz
  rw [Try.params16] at hA hval hsz2
  obtain ⟨v0, v1, v2, d0, d1, d2, p0, p1, p2, rfl, rfl, rfl, h0, h1, h2⟩ := trodAll_three hA
  obtain ⟨x0, cs0, hv0, ⟨A0_0, c0_0, rfl, s0_0⟩, w0⟩ := val_agg Try.underlying26 opn_26 (hval 0 26 v0 rfl rfl) h0 (slim_at (j := 0) hsz2 rfl rfl)
  obtain ⟨x1, hv1, w1⟩ := val_int Try.underlying82 (hval 1 82 v1 rfl rfl) h1
  obtain ⟨x2, A2, c2, hv2, s2, w2⟩ := val_sl Try.underlying83 (opn_slice (b := 2) Try.underlying83 (by kernel_rfl) (by decide) (opn_int Try.underlying82) (by kernel_rfl)) (hval 2 83 v2 rfl rfl) h2 (slim_at (j := 2) hsz2 rfl rfl)
  subst hv0
  subst hv1
  subst hv2
  obtain ⟨K, hG⟩ := weedTruth_row x0 x1 x2 w1 w2
  refine (ret_calls (a16 K x0 x1 x2 A0_0 c0_0 A2 c2 ZA W s0_0 s2 hG)).mono fun e W' ⟨v, he, hx, hv⟩ => ?_
  subst he
  subst hv
  exact ⟨_, rfl, post_of_ext (pa := (p0 ++ p1 ++ p2)) (pv := []) hW' (fun _ _ _ => trodAll_mk1 (shut_bool Try.underlying4 _)) (fun sp hs => args_read kidsT fullT (by rw [Try.params16]; decide) hAk hx hlt sp (fun x hx' => hs x (by simpa using hx'))) (fun _ _ => rfl) (by simp) hx (ok_one (by kernel_rfl) rfl (okWide_bool_mk Try.underlying4 _))⟩
theorem weedTruth_holds : Rows.WeedTruthSaid :=
  OpenClaim.holds_of_wide 16 Try.f16 rfl rfl rfl rfl rfl rfl rfl ⟨rfl, rfl, rfl, rfl, rfl⟩ rfl rfl rfl rfl rfl (by kernel_rfl) Try.func16 (by kernel_rfl)
    (of_decide_eq_true (by kernel_rfl)) (by unfold Func.isWrapper; first | (rw [if_pos (by decide +kernel)]; kernel_rfl) | (rw [if_neg (by decide +kernel)]; exact ⟨rfl, rfl⟩))
    (fun os started H enc _ => weedTruth_lifted os started H enc)
end Go.Proofs.Ythogdgkafaclaaa
end
