import PyProof.Rows.All
import Wide.All
import OpenK.AllK
import Wide.FinOn
import HandS.ForMost
import HandS.Wide
import HandS.Style
import HandS.Gcd
import HandS.Zip
import HandS.Walk
import HandS.TupAny
import HandS.Star
import HandS.SortInts
import HandS.RaiseMore
import HandS.Conv
import KE.GoesEnum
import PySem.Challenge.RW_lotsoflots_k15_whole_fractions_below_sha
namespace Ca
/-! how many lots of k points there are out of n -/
def ch : Nat → Nat → Nat
  | _, 0 => 1
  | 0, _ + 1 => 0
  | n + 1, k + 1 => ch n k + ch n (k + 1)
theorem ch_zero (n : Nat) : ch n 0 = 1 := by cases n <;> rfl
theorem ch_succ (n k : Nat) : ch (n + 1) (k + 1) = ch n k + ch n (k + 1) := rfl
theorem ch_lt : ∀ (n k : Nat), n < k → ch n k = 0
  | 0, 0, h => absurd h (Nat.lt_irrefl _)
  | 0, k + 1, _ => rfl
  | n + 1, 0, h => by omega
  | n + 1, k + 1, h => by rw [ch_succ, ch_lt n k (by omega), ch_lt n (k + 1) (by omega)]
theorem ch_pos : ∀ (n k : Nat), k ≤ n → 0 < ch n k
  | 0, 0, _ => by decide
  | n + 1, 0, _ => by rw [ch_zero]; omega
  | n + 1, k + 1, h => by
    have := ch_pos n k (by omega)
    rw [ch_succ]; omega
theorem ch_self (n : Nat) : ch n n = 1 := by
  induction n with
  | zero => rfl
  | succ n ih => rw [ch_succ, ih, ch_lt n (n + 1) (by omega)]
theorem ch_one (n : Nat) : ch n 1 = n := by
  induction n with
  | zero => rfl
  | succ n ih => rw [ch_succ, ih, ch_zero]; omega
theorem ch_mono1 (n k : Nat) : ch n k ≤ ch (n + 1) k := by
  cases k with
  | zero => rw [ch_zero, ch_zero]; omega
  | succ k => rw [ch_succ]; omega
theorem ch_mono {n m : Nat} (k : Nat) (h : n ≤ m) : ch n k ≤ ch m k := by
  induction h with
  | refl => exact Nat.le_refl _
  | step _ ih => exact Nat.le_trans ih (ch_mono1 _ k)
theorem ch_strict {n k : Nat} (hk : 1 ≤ k) (h : k ≤ n + 1) : ch n k < ch (n + 1) k := by
  obtain ⟨j, rfl⟩ : ∃ j, k = j + 1 := ⟨k - 1, by omega⟩
  have := ch_pos n j (by omega)
  rw [ch_succ]; omega
theorem ch_mul : ∀ (n k : Nat), ch n (k + 1) * (k + 1) = ch n k * (n - k)
  | 0, 0 => rfl
  | 0, k + 1 => by rw [ch_lt 0 _ (by omega), ch_lt 0 (k + 1) (by omega)]; simp
  | n + 1, 0 => by rw [ch_one, ch_zero]; simp
  | n + 1, k + 1 => by
    have h1 := ch_mul n k
    have h2 := ch_mul n (k + 1)
    by_cases hk : n < k + 1
    · rw [ch_lt (n + 1) (k + 1 + 1) (by omega), show n + 1 - (k + 1) = 0 by omega]; simp
    · rw [ch_succ n (k + 1), ch_succ n k]
      rw [show n + 1 - (k + 1) = n - k by omega]
      obtain ⟨d, hd⟩ : ∃ d, n = k + 1 + d := ⟨n - (k + 1), by omega⟩
      subst hd
      rw [show k + 1 + d - k = d + 1 by omega] at *
      rw [show k + 1 + d - (k + 1) = d by omega] at h2
      grind
theorem ch_grow (n k : Nat) : n + 1 ≤ ch (n + (k + 1)) (k + 1) := by
  induction n with
  | zero => rw [show (0 : Nat) + (k + 1) = k + 1 by omega, ch_self]; omega
  | succ n ih =>
    rw [show n + 1 + (k + 1) = (n + (k + 1)) + 1 by omega, ch_succ]
    have := ch_pos (n + (k + 1)) k (by omega)
    omega

/-! the greatest number with at most m lots out of it -/
def go (m k : Nat) : Nat → Nat → Nat
  | 0, a => a
  | f + 1, a => if ch (a + 1) k ≤ m then go m k f (a + 1) else a
def top (m k : Nat) : Nat := go m k (m + 1) (k - 1)
structure IsTop (a m k : Nat) : Prop where
  ge : k ≤ a + 1
  le : ch a k ≤ m
  lt : m < ch (a + 1) k
theorem go_spec {m k : Nat} : ∀ (f a : Nat), k ≤ a + 1 → ch a k ≤ m → m < ch (a + f) k → IsTop (go m k f a) m k
  | 0, a, h1, h2, h3 => absurd h3 (by simp; omega)
  | f + 1, a, h1, h2, h3 => by
    unfold go
    by_cases h : ch (a + 1) k ≤ m
    · rw [if_pos h]
      exact go_spec f (a + 1) (by omega) h (by rw [show a + 1 + f = a + (f + 1) by omega]; exact h3)
    · rw [if_neg h]
      exact ⟨h1, h2, by omega⟩
theorem top_spec (m : Nat) {k : Nat} (hk : 1 ≤ k) : IsTop (top m k) m k := by
  obtain ⟨j, rfl⟩ : ∃ j, k = j + 1 := ⟨k - 1, by omega⟩
  refine go_spec _ _ (by omega) (by rw [ch_lt _ _ (by omega)]; omega) ?_
  rw [show j + 1 - 1 + (m + 1) = m + (j + 1) by omega]
  exact Nat.lt_of_lt_of_le (Nat.lt_succ_self m) (ch_grow m j)
theorem IsTop.uniq {a b m k : Nat} (h : IsTop a m k) (h' : IsTop b m k) : a = b := by
  rcases Nat.lt_trichotomy a b with q | q | q
  · have := ch_mono k (show a + 1 ≤ b from q)
    have := h.lt; have := h'.le; omega
  · exact q
  · have := ch_mono k (show b + 1 ≤ a from q)
    have := h.le; have := h'.lt; omega
theorem top_eq {a m k : Nat} (hk : 1 ≤ k) (h : IsTop a m k) : top m k = a := (top_spec m hk).uniq h
theorem top_ge {m k : Nat} (hk : 1 ≤ k) (hm : 1 ≤ m) : k ≤ top m k := by
  have t := top_spec m hk
  refine Nat.le_of_not_lt fun q => ?_
  have e : top m k + 1 = k := by have := t.ge; omega
  have := t.lt
  rw [e, ch_self] at this
  omega
theorem top_rest {m k : Nat} : m - ch (top m (k + 1)) (k + 1) < ch (top m (k + 1)) k := by
  have t := top_spec m (show 1 ≤ k + 1 by omega)
  have l := t.lt
  have := t.le
  rw [ch_succ] at l
  omega

/-! cascades and shadow numbers -/
def casc : Nat → Nat → List Nat
  | 0, _ => []
  | k + 1, m => if m = 0 then [] else top m (k + 1) :: casc k (m - ch (top m (k + 1)) (k + 1))
def sh : Nat → Nat → Nat
  | 0, _ => 0
  | k + 1, m => if m = 0 then 0 else ch (top m (k + 1)) k + sh k (m - ch (top m (k + 1)) (k + 1))
theorem sh_zero (k : Nat) : sh k 0 = 0 := by cases k <;> rfl
theorem sh_succ {k m : Nat} (hm : m ≠ 0) : sh (k + 1) m = ch (top m (k + 1)) k + sh k (m - ch (top m (k + 1)) (k + 1)) := by
  conv => lhs; unfold sh
  rw [if_neg hm]
/-- told by a cascade's head, the rest up to the whole row -/
theorem sh_at {b k s : Nat} (hb : k + 1 ≤ b) (hs : s ≤ ch b k) : sh (k + 1) (ch b (k + 1) + s) = ch b k + sh k s := by
  have p := ch_pos b (k + 1) hb
  by_cases h : s < ch b k
  · have t : top (ch b (k + 1) + s) (k + 1) = b := top_eq (by omega) ⟨by omega, by omega, by rw [ch_succ]; omega⟩
    rw [sh_succ (by omega), t, Nat.add_sub_cancel_left]
  · have e : s = ch b k := by omega
    subst e
    have e2 : ch b (k + 1) + ch b k = ch (b + 1) (k + 1) := by rw [ch_succ]; omega
    have t : top (ch (b + 1) (k + 1)) (k + 1) = b + 1 := top_eq (by omega) ⟨by omega, Nat.le_refl _, ch_strict (by omega) (by omega)⟩
    rw [e2, sh_succ (by have := ch_pos (b + 1) (k + 1) (by omega); omega), t, Nat.sub_self, sh_zero]
    cases k with
    | zero => rw [ch_zero, ch_zero]; rfl
    | succ j =>
      have t2 : top (ch b (j + 1)) (j + 1) = b := top_eq (by omega) ⟨by omega, Nat.le_refl _, ch_strict (by omega) (by omega)⟩
      rw [sh_succ (by have := ch_pos b (j + 1) (by omega); omega), t2, Nat.sub_self, sh_zero, ch_succ]
      omega
theorem sh_ch {a k : Nat} (h : k + 1 ≤ a) : sh (k + 1) (ch a (k + 1)) = ch a k := by
  have := sh_at (s := 0) h (Nat.zero_le _)
  rw [Nat.add_zero, sh_zero, Nat.add_zero] at this
  exact this
theorem sh_le : ∀ (k m : Nat), sh k m ≤ k * m
  | 0, m => by unfold sh; omega
  | k + 1, m => by
    by_cases hm : m = 0
    · subst hm; rw [sh_zero]; omega
    · rw [sh_succ hm]
      have t := top_spec m (show 1 ≤ k + 1 by omega)
      have ih := sh_le k (m - ch (top m (k + 1)) (k + 1))
      have g := top_ge (show 1 ≤ k + 1 by omega) (show 1 ≤ m by omega)
      have e := ch_mul (top m (k + 1)) k
      generalize top m (k + 1) = a at *
      have h1 : ch a k ≤ ch a (k + 1) * (k + 1) := by
        rw [e]
        have : 1 ≤ a - k := by omega
        exact Nat.le_mul_of_pos_right _ this
      have le := t.le
      obtain ⟨r, hr⟩ : ∃ r, m = ch a (k + 1) + r := ⟨m - ch a (k + 1), by omega⟩
      rw [hr] at ih ⊢
      rw [Nat.add_sub_cancel_left] at *
      have : (k + 1) * (ch a (k + 1) + r) = ch a (k + 1) * (k + 1) + k * r + r := by grind
      omega

/-! those of the first m lots that have the least point, and the others -/
def al : Nat → Nat → Nat
  | 0, _ => 0
  | k + 1, m => if m = 0 then 0 else ch (top m (k + 1) - 1) k + al k (m - ch (top m (k + 1)) (k + 1))
def be : Nat → Nat → Nat
  | 0, _ => 0
  | k + 1, m => if m = 0 then 0 else ch (top m (k + 1) - 1) (k + 1) + be k (m - ch (top m (k + 1)) (k + 1))
theorem al_zero (k : Nat) : al k 0 = 0 := by cases k <;> rfl
theorem be_zero (k : Nat) : be k 0 = 0 := by cases k <;> rfl
theorem al_succ {k m : Nat} (hm : m ≠ 0) : al (k + 1) m = ch (top m (k + 1) - 1) k + al k (m - ch (top m (k + 1)) (k + 1)) := by
  conv => lhs; unfold al
  rw [if_neg hm]
theorem be_succ {k m : Nat} (hm : m ≠ 0) : be (k + 1) m = ch (top m (k + 1) - 1) (k + 1) + be k (m - ch (top m (k + 1)) (k + 1)) := by
  conv => lhs; unfold be
  rw [if_neg hm]
theorem ch_pred {a k : Nat} (h : 1 ≤ a) : ch a (k + 1) = ch (a - 1) k + ch (a - 1) (k + 1) := by
  obtain ⟨b, rfl⟩ : ∃ b, a = b + 1 := ⟨a - 1, by omega⟩
  rfl
theorem rest_zero {m : Nat} : m - ch (top m (0 + 1)) (0 + 1) = 0 := by
  have := @top_rest m 0
  rw [ch_zero] at this
  omega
theorem al_be : ∀ (k m : Nat), al (k + 1) m + be (k + 1) m = m
  | k, m => by
    by_cases hm : m = 0
    · subst hm; rw [al_zero, be_zero]
    · rw [al_succ hm, be_succ hm]
      have t := top_spec m (show 1 ≤ k + 1 by omega)
      have g := top_ge (show 1 ≤ k + 1 by omega) (show 1 ≤ m by omega)
      have p := ch_pred (k := k) (show 1 ≤ top m (k + 1) by omega)
      have le := t.le
      cases k with
      | zero =>
        have z := @rest_zero m
        rw [z, al_zero, be_zero]
        omega
      | succ k =>
        have ih := al_be k (m - ch (top m (k + 1 + 1)) (k + 1 + 1))
        omega
theorem al_pos {k m : Nat} (hm : m ≠ 0) : 1 ≤ al (k + 1) m := by
  rw [al_succ hm]
  have g := top_ge (show 1 ≤ k + 1 by omega) (show 1 ≤ m by omega)
  have := ch_pos (top m (k + 1) - 1) k (by omega)
  omega
/-- at most all lots -/
theorem al_le : ∀ (k a m : Nat), k ≤ a → m ≤ ch (a + 1) (k + 1) → al (k + 1) m ≤ ch a k
  | k, a, m, hka, h => by
    by_cases hm : m = 0
    · subst hm; rw [al_zero]; omega
    · by_cases he : m = ch (a + 1) (k + 1)
      · have t : top m (k + 1) = a + 1 := top_eq (by omega) ⟨by omega, by omega, by rw [he]; exact ch_strict (by omega) (by omega)⟩
        rw [al_succ hm, t, he, Nat.sub_self, al_zero]
        simp
      · have t := top_spec m (show 1 ≤ k + 1 by omega)
        have g := top_ge (show 1 ≤ k + 1 by omega) (show 1 ≤ m by omega)
        have ta : top m (k + 1) ≤ a := by
          refine Nat.le_of_not_lt fun q => ?_
          have := ch_mono (k + 1) (show a + 1 ≤ top m (k + 1) from q)
          have := t.le; omega
        rw [al_succ hm]
        have lr := @top_rest m k
        cases k with
        | zero =>
          rw [rest_zero, al_zero, ch_zero, ch_zero]
          omega
        | succ j =>
          generalize top m (j + 1 + 1) = b at *
          have ih := al_le j (b - 1) (m - ch b (j + 1 + 1)) (by omega) (by rw [show b - 1 + 1 = b by omega]; omega)
          have e := ch_pred (k := j) (show 1 ≤ b by omega)
          have := ch_mono (j + 1) ta
          omega
theorem be_le : ∀ (k a m : Nat), m ≤ ch (a + 1) (k + 1) → k ≤ a → be (k + 1) m ≤ ch a (k + 1)
  | k, a, m, h, hka => by
    by_cases hm : m = 0
    · subst hm; rw [be_zero]; omega
    · by_cases he : m = ch (a + 1) (k + 1)
      · have t : top m (k + 1) = a + 1 := top_eq (by omega) ⟨by omega, by omega, by rw [he]; exact ch_strict (by omega) (by omega)⟩
        rw [be_succ hm, t, he, Nat.sub_self, be_zero]
        simp
      · have t := top_spec m (show 1 ≤ k + 1 by omega)
        have g := top_ge (show 1 ≤ k + 1 by omega) (show 1 ≤ m by omega)
        have ta : top m (k + 1) ≤ a := by
          refine Nat.le_of_not_lt fun q => ?_
          have := ch_mono (k + 1) (show a + 1 ≤ top m (k + 1) from q)
          have := t.le; omega
        rw [be_succ hm]
        have lr := @top_rest m k
        cases k with
        | zero =>
          rw [rest_zero, be_zero, ch_one, ch_one]
          omega
        | succ j =>
          generalize top m (j + 1 + 1) = b at *
          have ih := be_le j (b - 1) (m - ch b (j + 1 + 1)) (by rw [show b - 1 + 1 = b by omega]; omega) (by omega)
          have e := ch_pred (k := j + 1) (show 1 ≤ b by omega)
          have := ch_mono (j + 1 + 1) ta
          omega
theorem be_few : ∀ (k m : Nat), m ≤ k → be k m = 0
  | 0, _, _ => rfl
  | k + 1, m, h => by
    by_cases hm : m = 0
    · subst hm; exact be_zero _
    · have t : top m (k + 1) = k + 1 := top_eq (by omega) ⟨by omega, by rw [ch_self]; omega, by
        have e := ch_mul (k + 1 + 1) (k + 1)
        rw [ch_self, show k + 1 + 1 - (k + 1) = 1 by omega] at e
        omega⟩
      rw [be_succ hm, t, ch_self, be_few k (m - 1) (by omega), ch_lt _ _ (by omega)]
theorem sh_al : ∀ (k m : Nat), m ≠ 0 → sh (k + 1) m = al (k + 1) m + sh k (al (k + 1) m)
  | k, m, hm => by
    have g := top_ge (show 1 ≤ k + 1 by omega) (show 1 ≤ m by omega)
    have lr := @top_rest m k
    rw [sh_succ hm, al_succ hm]
    cases k with
    | zero =>
      rw [rest_zero, al_zero, sh_zero, ch_zero, ch_zero]
      rfl
    | succ j =>
      generalize top m (j + 1 + 1) = a at *
      generalize m - ch a (j + 1 + 1) = r at *
      have e := ch_pred (k := j) (show 1 ≤ a by omega)
      have q := al_le j (a - 1) r (by omega) (by rw [show a - 1 + 1 = a by omega]; omega)
      rw [sh_at (by omega) q]
      by_cases hr : r = 0
      · subst hr
        rw [sh_zero, al_zero, sh_zero]; omega
      · rw [sh_al j r hr]
        omega
theorem sh_be : ∀ (k m : Nat), sh (k + 1) (be (k + 1) m) ≤ al (k + 1) m
  | k, m => by
    by_cases hm : m = 0
    · subst hm; rw [be_zero, sh_zero]; omega
    · have g := top_ge (show 1 ≤ k + 1 by omega) (show 1 ≤ m by omega)
      have lr := @top_rest m k
      have t := top_spec m (show 1 ≤ k + 1 by omega)
      rw [be_succ hm, al_succ hm]
      by_cases ha : top m (k + 1) = k + 1
      · have hmk : m ≤ k + 1 := by
          have := t.lt
          rw [ha] at this
          have e := ch_mul (k + 1 + 1) (k + 1)
          rw [ch_self, show k + 1 + 1 - (k + 1) = 1 by omega] at e
          omega
        rw [ha, ch_self, be_few k (m - 1) (by omega), ch_lt _ _ (by omega), Nat.zero_add, sh_zero]
        omega
      · generalize top m (k + 1) = a at *
        generalize m - ch a (k + 1) = r at *
        cases k with
        | zero =>
          have : r = 0 := by rw [ch_zero] at lr; omega
          subst this
          rw [be_zero, al_zero, ch_zero]
          have := sh_at (s := 0) (show 0 + 1 ≤ a - 1 by omega) (Nat.zero_le _)
          rw [this, ch_zero, sh_zero]
          omega
        | succ j =>
          have q := be_le j (a - 1) r (by rw [show a - 1 + 1 = a by omega]; omega) (by omega)
          have ih := sh_be j r
          rw [sh_at (by omega) q]
          omega
end Ca
namespace Ca
/-! falling products p (p - q) .. and q 2q .. kq -/
def fl (p q : Int) : Nat → Int
  | 0 => 1
  | k + 1 => fl p q k * (p - k * q)
def dn (q : Int) : Nat → Int
  | 0 => 1
  | k + 1 => dn q k * q * (k + 1)
theorem fl_front (p q : Int) : ∀ k, fl p q (k + 1) = p * fl (p - q) q k
  | 0 => by simp [fl]
  | k + 1 => by
    have ih := fl_front p q k
    show fl p q (k + 1) * (p - ((k + 1 : Nat) : Int) * q) = p * (fl (p - q) q k * (p - q - k * q))
    rw [ih]
    have : ((k + 1 : Nat) : Int) = (k : Int) + 1 := by omega
    rw [this]
    grind
theorem fl_pascal (p q : Int) (k : Nat) : fl p q (k + 1) = fl (p - q) q (k + 1) + (k + 1) * q * fl (p - q) q k := by
  rw [fl_front]
  show _ = fl (p - q) q k * (p - q - k * q) + _
  grind
theorem dn_pos {q : Int} (hq : 1 ≤ q) : ∀ k, 0 < dn q k
  | 0 => by show (0 : Int) < 1; decide
  | k + 1 => by
    have := dn_pos hq k
    show 0 < dn q k * q * (k + 1)
    exact Int.mul_pos (Int.mul_pos this (by omega)) (by omega)
theorem fl_nonneg {p q : Int} (hq : 1 ≤ q) : ∀ (k : Nat), ((k : Int) - 1) * q ≤ p → 0 ≤ fl p q k
  | 0, _ => by show (0 : Int) ≤ 1; decide
  | k + 1, h => by
    have h : (k : Int) * q ≤ p := by
      have e : (((k + 1 : Nat) : Int) - 1) = k := by omega
      rw [e] at h
      exact h
    have h2 : ((k : Int) - 1) * q ≤ p := by
      have : ((k : Int) - 1) * q = k * q - q := by grind
      omega
    exact Int.mul_nonneg (fl_nonneg hq k h2) (by omega)
theorem fl_mono {p p' q : Int} (hq : 1 ≤ q) (hp : p ≤ p') : ∀ (k : Nat), ((k : Int) - 1) * q ≤ p → fl p q k ≤ fl p' q k
  | 0, _ => Int.le_refl _
  | k + 1, h => by
    have h : (k : Int) * q ≤ p := by
      have e : (((k + 1 : Nat) : Int) - 1) = k := by omega
      rw [e] at h
      exact h
    have h2 : ((k : Int) - 1) * q ≤ p := by
      have : ((k : Int) - 1) * q = k * q - q := by grind
      omega
    have ih := fl_mono hq hp k h2
    have n := fl_nonneg (p := p') hq k (by omega)
    show fl p q k * (p - k * q) ≤ fl p' q k * (p' - k * q)
    exact Int.mul_le_mul ih (by omega) (by omega) n
theorem fl_self (q : Int) : ∀ k : Nat, fl (k * q) q k = dn q k
  | 0 => rfl
  | k + 1 => by
    rw [fl_front]
    have e : (((k + 1 : Nat) : Int) * q - q) = k * q := by
      have : ((k + 1 : Nat) : Int) = (k : Int) + 1 := by omega
      rw [this]; grind
    rw [e, fl_self q k]
    show ((k + 1 : Nat) : Int) * q * dn q k = dn q k * q * (k + 1)
    have : ((k + 1 : Nat) : Int) = (k : Int) + 1 := by omega
    rw [this]; grind
theorem sh_one {m : Nat} (hm : m ≠ 0) : sh 1 m = 1 := by
  rw [show (1 : Nat) = 0 + 1 from rfl, sh_succ hm, ch_zero]
  rfl
theorem mul_cancel {a b c : Int} (hc : 0 < c) (h : a * c < b * c) : a < b := Int.lt_of_mul_lt_mul_right h (by omega)
theorem lovasz {q : Int} (hq : 1 ≤ q) : ∀ (k m : Nat) (p : Int), (k : Int) * q ≤ p → m ≠ 0 → fl p q (k + 1) ≤ m * dn q (k + 1) → fl p q k ≤ sh (k + 1) m * dn q k
  | 0, m, p, _, hm, _ => by
    rw [show (0 + 1 : Nat) = 1 from rfl, sh_one hm]
    show (1 : Int) ≤ 1 * 1
    decide
  | k + 1, m, p, hp, hm, h => by
    have ep : ((k + 1 : Nat) : Int) = (k : Int) + 1 := by omega
    rw [ep] at hp
    have hp' : (k : Int) * q ≤ p - q := by
      have : ((k : Int) + 1) * q = k * q + q := by grind
      omega
    have e1 := sh_al (k + 1) m hm
    have e2 := sh_be (k + 1) m
    have e3 := al_be (k + 1) m
    have e4 := @al_pos (k + 1) m hm
    have P1 := fl_pascal p q k
    have P2 := fl_pascal p q (k + 1)
    rw [ep] at P2
    have d0 := dn_pos hq k
    have d1 := dn_pos hq (k + 1)
    have d2 := dn_pos hq (k + 1 + 1)
    have D1 : dn q (k + 1) = dn q k * q * (k + 1) := rfl
    have D2 : dn q (k + 1 + 1) = dn q (k + 1) * q * (k + 1 + 1) := by
      show dn q (k + 1) * q * (((k + 1 : Nat) : Int) + 1) = _
      rw [ep]
    by_cases c : fl (p - q) q (k + 1) ≤ al (k + 1 + 1) m * dn q (k + 1)
    · have ih := lovasz hq k (al (k + 1 + 1) m) (p - q) hp' (by omega) c
      rw [e1, P1]
      have : ((al (k + 1 + 1) m + sh (k + 1) (al (k + 1 + 1) m) : Nat) : Int) * dn q (k + 1) = al (k + 1 + 1) m * dn q (k + 1) + (k + 1) * q * (sh (k + 1) (al (k + 1 + 1) m) * dn q k) := by
        rw [Int.natCast_add, D1]; grind
      rw [this]
      exact Int.add_le_add c (Int.mul_le_mul_of_nonneg_left ih (Int.mul_nonneg (by omega) (by omega)))
    · exfalso
      have c' : (al (k + 1 + 1) m : Int) * dn q (k + 1) < fl (p - q) q (k + 1) := by omega
      have big : dn q (k + 1) < fl (p - q) q (k + 1) := by
        refine Int.lt_of_le_of_lt ?_ c'
        have : (1 : Int) * dn q (k + 1) ≤ al (k + 1 + 1) m * dn q (k + 1) := Int.mul_le_mul_of_nonneg_right (by omega) (by omega)
        omega
      have far : ((k : Int) + 1) * q ≤ p - q := by
        refine Int.not_lt.mp fun w => ?_
        have := fl_mono hq (show p - q ≤ ((k + 1 : Nat) : Int) * q by rw [ep]; omega) (k + 1) (by rw [ep, show ((k : Int) + 1 - 1) = k by omega]; exact hp')
        rw [fl_self] at this
        omega
      have low : fl (p - q) q (k + 1 + 1) < be (k + 1 + 1) m * dn q (k + 1 + 1) := by
        have hm' : (m : Int) = al (k + 1 + 1) m + be (k + 1 + 1) m := by omega
        rw [P2, hm'] at h
        have s : ((k : Int) + 1 + 1) * q * (al (k + 1 + 1) m * dn q (k + 1)) < ((k : Int) + 1 + 1) * q * fl (p - q) q (k + 1) := Int.mul_lt_mul_of_pos_left c' (Int.mul_pos (by omega) (by omega))
        have s2 : ((k : Int) + 1 + 1) * q * (al (k + 1 + 1) m * dn q (k + 1)) = al (k + 1 + 1) m * dn q (k + 1 + 1) := by rw [D2]; grind
        rw [s2] at s
        have s3 : ((al (k + 1 + 1) m : Int) + be (k + 1 + 1) m) * dn q (k + 1 + 1) = al (k + 1 + 1) m * dn q (k + 1 + 1) + be (k + 1 + 1) m * dn q (k + 1 + 1) := by grind
        rw [s3] at h
        omega
      have nn := fl_nonneg hq (k + 1 + 1) (p := p - q) (by rw [show (((k + 1 + 1 : Nat) : Int) - 1) = (k : Int) + 1 by omega]; exact far)
      have bp : be (k + 1 + 1) m ≠ 0 := by
        intro z
        rw [z] at low
        simp at low
        omega
      have ih := lovasz hq (k + 1) (be (k + 1 + 1) m) (p - q) (by rw [ep]; exact far) bp (Int.le_of_lt low)
      have : (sh (k + 1 + 1) (be (k + 1 + 1) m) : Int) * dn q (k + 1) ≤ al (k + 1 + 1) m * dn q (k + 1) := Int.mul_le_mul_of_nonneg_right (by omega) (by omega)
      omega
termination_by k m => (k, m)
decreasing_by
  all_goals first
    | (apply Prod.Lex.left; omega)
    | (apply Prod.Lex.right; omega)
end Ca
namespace Ca
/-! fractions in lowest terms -/
def rd (p q : Int) : Int × Int := (p / (Int.gcd p q : Int), q / (Int.gcd p q : Int))
section
variable {p q p' q' : Int}
theorem gcd_pos (hq : 0 < q) : 0 < (Int.gcd p q : Int) := by
  have : Int.gcd p q ≠ 0 := fun z => by
    have := (Int.gcd_eq_zero_iff.mp z).2
    omega
  omega
theorem rd_left : (rd p q).1 * (Int.gcd p q : Int) = p := Int.ediv_mul_cancel (Int.gcd_dvd_left ..)
theorem rd_right : (rd p q).2 * (Int.gcd p q : Int) = q := Int.ediv_mul_cancel (Int.gcd_dvd_right ..)
theorem rd_pos (hq : 0 < q) : 0 < (rd p q).2 := by
  have g := gcd_pos (p := p) hq
  refine Int.pos_of_mul_pos_left ?_ g
  rw [rd_right]; exact hq
theorem rd_cross (hq : 0 < q) : (rd p q).1 * q = p * (rd p q).2 := by
  have h1 := @rd_left p q
  have h2 := @rd_right p q
  generalize (rd p q).1 = u at *
  generalize (rd p q).2 = v at *
  generalize (Int.gcd p q : Int) = g at *
  rw [← h1, ← h2]
  grind
theorem rd_le (hq : 0 < q) : (rd p q).2 ≤ q := by
  have g := gcd_pos (p := p) hq
  have h2 := @rd_right p q
  have v := rd_pos (p := p) hq
  generalize (rd p q).2 = w at *
  generalize (Int.gcd p q : Int) = z at *
  have : w * 1 ≤ w * z := Int.mul_le_mul_of_nonneg_left (by omega) (by omega)
  omega
theorem rd_abs (hq : 0 < q) : (rd p q).1.natAbs ≤ p.natAbs := by
  have g := gcd_pos (p := p) hq
  have h1 := @rd_left p q
  have : p.natAbs = (rd p q).1.natAbs * (Int.gcd p q) := by
    conv => lhs; rw [← h1]
    rw [Int.natAbs_mul]; simp
  rw [this]
  exact Nat.le_mul_of_pos_right _ (by omega)
theorem rd_cop (hq : 0 < q) : Nat.Coprime (rd p q).1.natAbs (rd p q).2.natAbs := by
  have g := gcd_pos (p := p) hq
  have h1 := @rd_left p q
  have h2 := @rd_right p q
  have e1 : p.natAbs = (rd p q).1.natAbs * (Int.gcd p q) := by
    conv => lhs; rw [← h1]
    rw [Int.natAbs_mul]; simp
  have e2 : q.natAbs = (rd p q).2.natAbs * (Int.gcd p q) := by
    conv => lhs; rw [← h2]
    rw [Int.natAbs_mul]; simp
  have e3 : Int.gcd p q = Nat.gcd p.natAbs q.natAbs := rfl
  rw [e1, e2, Nat.gcd_mul_right] at e3
  unfold Nat.Coprime
  have gp : 0 < Int.gcd p q := by omega
  have : 1 * Int.gcd p q = Nat.gcd (rd p q).1.natAbs (rd p q).2.natAbs * Int.gcd p q := by omega
  exact (Nat.eq_of_mul_eq_mul_right gp this).symm
theorem rd_eq (hq : 0 < q) (hq' : 0 < q') (h : p * q' = p' * q) : rd p q = rd p' q' := by
  have c1 := rd_cop (p := p) hq
  have c2 := rd_cop (p := p') hq'
  have v1 := rd_pos (p := p) hq
  have v2 := rd_pos (p := p') hq'
  have x1 := rd_cross (p := p) hq
  have x2 := rd_cross (p := p') hq'
  have e : (rd p q).1 * (rd p' q').2 = (rd p' q').1 * (rd p q).2 := by
    generalize (rd p q).1 = u at *
    generalize (rd p q).2 = v at *
    generalize (rd p' q').1 = u' at *
    generalize (rd p' q').2 = v' at *
    -- u q = p v, u' q' = p' v', p q' = p' q
    have : (u * v') * (q * q') = (u' * v) * (q * q') := by
      have : u * v' * (q * q') = (u * q) * (v' * q') := by grind
      rw [this, x1]
      have : u' * v * (q * q') = (u' * q') * (v * q) := by grind
      rw [this, x2]
      have : p * v * (v' * q') = (p * q') * (v * v') := by grind
      rw [this, h]
      grind
    exact Int.eq_of_mul_eq_mul_right (by have := Int.mul_pos hq hq'; omega) this
  have n : (rd p q).1.natAbs * (rd p' q').2.natAbs = (rd p' q').1.natAbs * (rd p q).2.natAbs := by
    rw [← Int.natAbs_mul, ← Int.natAbs_mul, e]
  have d1 : (rd p q).2.natAbs ∣ (rd p' q').2.natAbs := c1.symm.dvd_of_dvd_mul_left ⟨(rd p' q').1.natAbs, by rw [n, Nat.mul_comm]⟩
  have d2 : (rd p' q').2.natAbs ∣ (rd p q).2.natAbs := c2.symm.dvd_of_dvd_mul_left ⟨(rd p q).1.natAbs, by rw [← n, Nat.mul_comm]⟩
  have ev : (rd p q).2 = (rd p' q').2 := by
    have := Nat.dvd_antisymm d1 d2
    omega
  have eu : (rd p q).1 = (rd p' q').1 := by
    rw [ev] at e
    exact Int.eq_of_mul_eq_mul_right (by omega) e
  exact Prod.ext eu ev
end
theorem rd_one : rd 1 1 = (1, 1) := by decide
/-- as choose_at goes on -/
def cat (x0 x1 : Int) : Nat → Int × Int
  | 0 => (1, 1)
  | i + 1 => rd ((cat x0 x1 i).1 * (x0 - i * x1)) ((cat x0 x1 i).2 * x1 * (i + 1))
theorem cat_eq {x0 x1 : Int} (h : 1 ≤ x1) : ∀ b : Nat, cat x0 x1 b = rd (fl x0 x1 b) (dn x1 b)
  | 0 => by show (1, 1) = rd 1 1; rw [rd_one]
  | i + 1 => by
    have ih := cat_eq (x0 := x0) h i
    have d := dn_pos h i
    have v := rd_pos (p := fl x0 x1 i) d
    have x := rd_cross (p := fl x0 x1 i) d
    show rd ((cat x0 x1 i).1 * (x0 - i * x1)) ((cat x0 x1 i).2 * x1 * (i + 1)) = rd (fl x0 x1 i * (x0 - i * x1)) (dn x1 i * x1 * (i + 1))
    rw [ih]
    refine rd_eq (Int.mul_pos (Int.mul_pos v (by omega)) (by omega)) (Int.mul_pos (Int.mul_pos d (by omega)) (by omega)) ?_
    generalize (rd (fl x0 x1 i) (dn x1 i)).1 = u at *
    generalize (rd (fl x0 x1 i) (dn x1 i)).2 = w at *
    have : u * (x0 - i * x1) * (dn x1 i * x1 * (i + 1)) = (u * dn x1 i) * ((x0 - i * x1) * x1 * (i + 1)) := by grind
    rw [this, x]
    grind
theorem cat_pos {x0 x1 : Int} (h : 1 ≤ x1) (b : Nat) : 0 < (cat x0 x1 b).2 := by
  rw [cat_eq h]
  exact rd_pos (dn_pos h b)
theorem dn_le {x1 : Int} (h : 1 ≤ x1) (h2 : x1 ≤ 1000) : ∀ b : Nat, b ≤ 1000 → dn x1 b ≤ 2 ^ (20 * b)
  | 0, _ => by show (1 : Int) ≤ 2 ^ 0; decide
  | b + 1, hb => by
    have ih := dn_le h h2 b (by omega)
    have d := dn_pos h b
    show dn x1 b * x1 * (b + 1) ≤ 2 ^ (20 * (b + 1))
    rw [show 20 * (b + 1) = 20 * b + 20 by omega, Int.pow_add]
    have e1 : dn x1 b * x1 * ((b : Int) + 1) = dn x1 b * (x1 * ((b : Int) + 1)) := by grind
    rw [e1]
    have e2 : x1 * ((b : Int) + 1) ≤ 2 ^ 20 := by
      have : x1 * ((b : Int) + 1) ≤ 1000 * ((b : Int) + 1) := Int.mul_le_mul_of_nonneg_right h2 (by omega)
      have : (2 : Int) ^ 20 = 1048576 := by decide
      omega
    exact Int.mul_le_mul ih e2 (Int.mul_nonneg (by omega) (by omega)) (by omega)
theorem cat_le {x0 x1 : Int} (h : 1 ≤ x1) (h2 : x1 ≤ 1000) {b : Nat} (hb : b ≤ 1000) : (cat x0 x1 b).2 ≤ 2 ^ (20 * b) := by
  rw [cat_eq h]
  exact Int.le_trans (rd_le (dn_pos h b)) (dn_le h h2 b hb)
theorem fl_abs {x0 x1 : Int} (h : 1 ≤ x1) (h2 : x1 ≤ 1000) (h0 : x0.natAbs ≤ 40000) : ∀ b : Nat, b ≤ 1000 → (fl x0 x1 b).natAbs ≤ 2 ^ (21 * b)
  | 0, _ => by show (1 : Int).natAbs ≤ 2 ^ 0; decide
  | b + 1, hb => by
    have ih := fl_abs h h2 h0 b (by omega)
    show (fl x0 x1 b * (x0 - b * x1)).natAbs ≤ _
    rw [Int.natAbs_mul, show 21 * (b + 1) = 21 * b + 21 by omega, Nat.pow_add]
    refine Nat.mul_le_mul ih ?_
    have : (b : Int) * x1 ≤ b * 1000 := Int.mul_le_mul_of_nonneg_left h2 (by omega)
    have : 0 ≤ (b : Int) * x1 := Int.mul_nonneg (by omega) (by omega)
    have : 2 ^ 21 = 2097152 := by decide
    omega
theorem cat_abs {x0 x1 : Int} (h : 1 ≤ x1) (h2 : x1 ≤ 1000) (h0 : x0.natAbs ≤ 40000) {b : Nat} (hb : b ≤ 1000) : (cat x0 x1 b).1.natAbs ≤ 2 ^ (21 * b) := by
  rw [cat_eq h]
  exact Nat.le_trans (rd_abs (dn_pos h b)) (fl_abs h h2 h0 b hb)
end Ca
namespace Ca
theorem abs_pow {z : Int} {m n : Nat} (h0 : 0 ≤ z) (h : z ≤ 2 ^ m) (hm : m < n) : z.natAbs < 2 ^ n := by
  have e : ((2 ^ m : Nat) : Int) = 2 ^ m := by rw [Int.natCast_pow]; rfl
  have p : 2 ^ m < 2 ^ n := Nat.pow_lt_pow_right (by decide) hm
  rw [← e] at h
  generalize 2 ^ m = a at *
  generalize 2 ^ n = b at *
  omega
theorem cat_den {x0 x1 : Int} (h : 1 ≤ x1) (h2 : x1 ≤ 1000) {i n : Nat} (hi : i < 1000) (hn : 20 * (i + 1) < n) : ((cat x0 x1 i).2 * x1 * (i + 1)).natAbs < 2 ^ n := by
  have v := cat_pos (x0 := x0) h i
  have d := dn_le h h2 (i + 1) (by omega)
  have l := rd_le (p := fl x0 x1 i) (dn_pos h i)
  rw [← cat_eq h] at l
  have e : dn x1 (i + 1) = dn x1 i * x1 * (i + 1) := rfl
  rw [e] at d
  have m : (cat x0 x1 i).2 * x1 * ((i : Int) + 1) ≤ dn x1 i * x1 * (i + 1) := Int.mul_le_mul_of_nonneg_right (Int.mul_le_mul_of_nonneg_right l (by omega)) (by omega)
  exact abs_pow (Int.le_of_lt (Int.mul_pos (Int.mul_pos v (by omega)) (by omega))) (Int.le_trans m d) hn
theorem dn_abs {x1 : Int} (h : 1 ≤ x1) (h2 : x1 ≤ 1000) {b n : Nat} (hb : b ≤ 1000) (hn : 20 * b < n) : (dn x1 b).natAbs < 2 ^ n :=
  abs_pow (Int.le_of_lt (dn_pos h b)) (dn_le h h2 b hb) hn
end Ca
namespace Ca
/-! the laws of fractions below shadows, plainly -/
section
variable {x0 x1 : Int}
theorem cat_cross (h : 1 ≤ x1) (b : Nat) : (cat x0 x1 b).1 * dn x1 b = fl x0 x1 b * (cat x0 x1 b).2 := by
  rw [cat_eq h]
  exact rd_cross (dn_pos h b)
/-- least whole number that is no less -/
theorem ceil_le {p q : Int} (hq : 0 < q) : p ≤ (p + q - 1) / q * q := by
  have := Int.emod_nonneg (p + q - 1) (show q ≠ 0 by omega)
  have := Int.emod_lt_of_pos (p + q - 1) hq
  have := Int.mul_ediv_add_emod (p + q - 1) q
  have : (p + q - 1) / q * q = q * ((p + q - 1) / q) := Int.mul_comm ..
  omega
theorem ceil_min {p q n : Int} (hq : 0 < q) (h : p ≤ n * q) : (p + q - 1) / q ≤ n := by
  have : (p + q - 1) / q < n + 1 := by
    refine Int.ediv_lt_of_lt_mul hq ?_
    have : (n + 1) * q = n * q + q := by grind
    omega
  omega
theorem fl_pos (h : 1 ≤ x1) {k : Nat} (hx : (k : Int) * x1 ≤ x0) : 0 < fl x0 x1 k := by
  have m := fl_mono (p := k * x1) (p' := x0) h hx k (by
    have : ((k : Int) - 1) * x1 = k * x1 - x1 := by grind
    omega)
  rw [fl_self] at m
  have := dn_pos h k
  omega
/-- the least whole number of lots -/
def lst (x0 x1 : Int) (k : Nat) : Int := ((cat x0 x1 k).1 + (cat x0 x1 k).2 - 1) / (cat x0 x1 k).2
theorem lst_fl (h : 1 ≤ x1) (k : Nat) {m : Int} (hm : lst x0 x1 k ≤ m) : fl x0 x1 k ≤ m * dn x1 k := by
  have v := cat_pos (x0 := x0) h k
  have c := ceil_le (p := (cat x0 x1 k).1) v
  have x := cat_cross (x0 := x0) h k
  have d := dn_pos h k
  have c2 : (cat x0 x1 k).1 ≤ m * (cat x0 x1 k).2 := by
    have := Int.mul_le_mul_of_nonneg_right hm (Int.le_of_lt v)
    have e : lst x0 x1 k = ((cat x0 x1 k).1 + (cat x0 x1 k).2 - 1) / (cat x0 x1 k).2 := rfl
    rw [e] at this
    omega
  generalize (cat x0 x1 k).1 = P at *
  generalize (cat x0 x1 k).2 = Q at *
  have : fl x0 x1 k * Q ≤ m * dn x1 k * Q := by
    rw [← x]
    have := Int.mul_le_mul_of_nonneg_right c2 (Int.le_of_lt d)
    have e : m * Q * dn x1 k = m * dn x1 k * Q := by grind
    omega
  exact Int.le_of_mul_le_mul_right this v
theorem fl_lst (h : 1 ≤ x1) (k : Nat) {m : Int} (hm : fl x0 x1 k ≤ m * dn x1 k) : lst x0 x1 k ≤ m := by
  have v := cat_pos (x0 := x0) h k
  have x := cat_cross (x0 := x0) h k
  have d := dn_pos h k
  refine ceil_min v ?_
  generalize (cat x0 x1 k).1 = P at *
  generalize (cat x0 x1 k).2 = Q at *
  have : P * dn x1 k ≤ m * Q * dn x1 k := by
    rw [x]
    have := Int.mul_le_mul_of_nonneg_right hm (Int.le_of_lt v)
    have e : m * dn x1 k * Q = m * Q * dn x1 k := by grind
    omega
  exact Int.le_of_mul_le_mul_right this d
theorem lst_pos (h : 1 ≤ x1) {k : Nat} (hx : (k : Int) * x1 ≤ x0) : 1 ≤ lst x0 x1 k := by
  have f := fl_pos h hx
  have l := lst_fl (x0 := x0) h k (Int.le_refl (lst x0 x1 k))
  have d := dn_pos h k
  refine Int.not_lt.mp fun z => ?_
  have : lst x0 x1 k * dn x1 k ≤ 0 := Int.mul_nonpos_of_nonpos_of_nonneg (by omega) (by omega)
  omega
/-- L1 -/
theorem shadow_ok (h : 1 ≤ x1) {k m : Nat} (hx : ((k + 1 : Nat) : Int) * x1 ≤ x0) (hm : lst x0 x1 (k + 1) ≤ m) : (cat x0 x1 k).1 ≤ sh (k + 1) m * (cat x0 x1 k).2 := by
  have v := cat_pos (x0 := x0) h k
  have x := cat_cross (x0 := x0) h k
  have d := dn_pos h k
  have l1 := lst_pos h hx
  have e1 : ((k + 1 : Nat) : Int) * x1 = k * x1 + x1 := by
    rw [show ((k + 1 : Nat) : Int) = (k : Int) + 1 by omega]; grind
  have lv := lovasz h k m x0 (by omega) (by omega) (lst_fl h (k + 1) hm)
  generalize (cat x0 x1 k).1 = P at *
  generalize (cat x0 x1 k).2 = Q at *
  have : P * dn x1 k ≤ sh (k + 1) m * Q * dn x1 k := by
    rw [x]
    have := Int.mul_le_mul_of_nonneg_right lv (Int.le_of_lt v)
    have e : (sh (k + 1) m : Int) * dn x1 k * Q = sh (k + 1) m * Q * dn x1 k := by grind
    omega
  exact Int.le_of_mul_le_mul_right this d
theorem fl_nat (q : Int) (f : Nat) : ∀ k : Nat, fl (f * q) q k = ch f k * dn q k
  | 0 => by rw [ch_zero]; rfl
  | k + 1 => by
    have ih := fl_nat q f k
    have e := ch_mul f k
    show fl (f * q) q k * (f * q - k * q) = ch f (k + 1) * (dn q k * q * (k + 1))
    rw [ih]
    by_cases hk : k ≤ f
    · have e2 : (ch f (k + 1) : Int) * ((k : Int) + 1) = ch f k * ((f : Int) - k) := by
        have e3 : ((f - k : Nat) : Int) = (f : Int) - k := by omega
        have : ((ch f (k + 1) * (k + 1) : Nat) : Int) = ((ch f k * (f - k) : Nat) : Int) := by rw [e]
        rw [Int.natCast_mul, Int.natCast_mul, e3] at this
        exact this
      have e4 : (ch f (k + 1) : Int) * (dn q k * q * (k + 1)) = ((ch f (k + 1) : Int) * ((k : Int) + 1)) * (dn q k * q) := by grind
      rw [e4, e2]
      grind
    · rw [ch_lt f k (by omega), ch_lt f (k + 1) (by omega)]
      simp
/-- L4 -/
theorem top_ok (h : 1 ≤ x1) {k l : Nat} (hk : 1 ≤ k) (hx : (k : Int) * x1 ≤ x0) (hl : lst x0 x1 k = l) : (top l k : Int) = x0 / x1 ∨ ch (top l k) k = l := by
  have h0 : 0 ≤ x0 / x1 := Int.ediv_nonneg (Int.le_trans (Int.mul_nonneg (by omega) (by omega)) hx) (by omega)
  obtain ⟨f, hf⟩ := Int.eq_ofNat_of_zero_le h0
  have d := dn_pos h k
  have a1 : (f : Int) * x1 ≤ x0 := by
    have := Int.ediv_mul_le x0 (show x1 ≠ 0 by omega)
    rw [hf] at this
    exact this
  have a2 : x0 < ((f : Int) + 1) * x1 := by
    have := Int.lt_ediv_add_one_mul_self x0 (show 0 < x1 by omega)
    rw [hf] at this
    exact this
  have kf : k ≤ f := by
    refine Nat.le_of_not_lt fun z => ?_
    have : ((f : Int) + 1) * x1 ≤ k * x1 := Int.mul_le_mul_of_nonneg_right (by omega) (by omega)
    omega
  have b1 : (ch f k : Int) ≤ l := by
    have m := fl_mono (p := f * x1) (p' := x0) h a1 k (Int.mul_le_mul_of_nonneg_right (by omega) (by omega))
    rw [fl_nat] at m
    have := lst_fl (x0 := x0) h k (Int.le_refl (lst x0 x1 k))
    rw [hl] at this
    exact Int.le_of_mul_le_mul_right (Int.le_trans m this) d
  have b2 : (l : Int) ≤ ch (f + 1) k := by
    have m := fl_mono (p := x0) (p' := ((f + 1 : Nat) : Int) * x1) h (by rw [show ((f + 1 : Nat) : Int) = (f : Int) + 1 by omega]; omega) k (by
      have : ((k : Int) - 1) * x1 = k * x1 - x1 := by grind
      omega)
    rw [fl_nat] at m
    rw [← hl]
    exact fl_lst h k m
  rw [hf]
  by_cases he : l = ch (f + 1) k
  · right
    have : top l k = f + 1 := top_eq hk ⟨by omega, by omega, by rw [he]; exact ch_strict hk (by omega)⟩
    rw [this, he]
  · left
    have : top l k = f := top_eq hk ⟨by omega, by omega, by omega⟩
    rw [this]
end
theorem rd_whole {c d : Int} (hd : 0 < d) : rd (c * d) d = (c, 1) := by
  have e : rd (c * d) d = rd c 1 := rd_eq hd (by decide) (by grind)
  rw [e]
  unfold rd
  rw [Int.gcd_one_right]
  simp
theorem cat_whole (a b : Nat) : cat a 1 b = ((ch a b : Int), 1) := by
  rw [cat_eq (by decide)]
  have := fl_nat 1 a b
  rw [Int.mul_one] at this
  rw [this]
  exact rd_whole (dn_pos (by decide) b)
theorem fl_scale (u w g : Int) : ∀ b : Nat, fl (u * g) (w * g) b = g ^ b * fl u w b
  | 0 => by simp [fl]
  | b + 1 => by
    show fl (u * g) (w * g) b * (u * g - b * (w * g)) = g ^ (b + 1) * (fl u w b * (u - b * w))
    rw [fl_scale u w g b, Int.pow_succ]
    grind
theorem dn_scale (w g : Int) : ∀ b : Nat, dn (w * g) b = g ^ b * dn w b
  | 0 => by simp [dn]
  | b + 1 => by
    show dn (w * g) b * (w * g) * (b + 1) = g ^ (b + 1) * (dn w b * w * (b + 1))
    rw [dn_scale w g b, Int.pow_succ]
    grind
theorem cat_rd {p q : Int} (hq : 0 < q) (b : Nat) : cat (rd p q).1 (rd p q).2 b = rd (fl p q b) (dn q b) := by
  have v := rd_pos (p := p) hq
  rw [cat_eq (by omega)]
  have e1 := @rd_left p q
  have e2 := @rd_right p q
  have g := gcd_pos (p := p) hq
  have f := fl_scale (rd p q).1 (rd p q).2 (Int.gcd p q) b
  have d := dn_scale (rd p q).2 (Int.gcd p q) b
  rw [e1, e2] at f
  rw [e2] at d
  rw [f, d]
  have gb : 0 < (Int.gcd p q : Int) ^ b := Int.pow_pos g
  have dp := dn_pos (show 1 ≤ (rd p q).2 by omega) b
  refine rd_eq dp (Int.mul_pos gb dp) ?_
  grind
theorem near_ok {p p' q : Int} (hq : 1 ≤ q) {b : Nat} (hp : p ≤ p') (hb : ((b : Int) - 1) * q ≤ p) :
    (rd (fl p q b) (dn q b)).1 * (rd (fl p' q b) (dn q b)).2 ≤ (rd (fl p' q b) (dn q b)).1 * (rd (fl p q b) (dn q b)).2 := by
  have d := dn_pos hq b
  have x1 := rd_cross (p := fl p q b) d
  have x2 := rd_cross (p := fl p' q b) d
  have v1 := rd_pos (p := fl p q b) d
  have v2 := rd_pos (p := fl p' q b) d
  have m := fl_mono hq hp b hb
  generalize (rd (fl p q b) (dn q b)).1 = u1 at *
  generalize (rd (fl p q b) (dn q b)).2 = w1 at *
  generalize (rd (fl p' q b) (dn q b)).1 = u2 at *
  generalize (rd (fl p' q b) (dn q b)).2 = w2 at *
  have : u1 * w2 * dn q b ≤ u2 * w1 * dn q b := by
    have a1 : u1 * w2 * dn q b = fl p q b * (w1 * w2) := by
      have : u1 * w2 * dn q b = (u1 * dn q b) * w2 := by grind
      rw [this, x1]; grind
    have a2 : u2 * w1 * dn q b = fl p' q b * (w1 * w2) := by
      have : u2 * w1 * dn q b = (u2 * dn q b) * w1 := by grind
      rw [this, x2]; grind
    rw [a1, a2]
    exact Int.mul_le_mul_of_nonneg_right m (Int.le_of_lt (Int.mul_pos v1 v2))
  exact Int.le_of_mul_le_mul_right this d
end Ca
namespace Ca
theorem rd_ge {z q n : Int} (hq : 0 < q) (h : n * q ≤ z) : n * (rd z q).2 ≤ (rd z q).1 := by
  have x := rd_cross (p := z) hq
  have v := rd_pos (p := z) hq
  generalize (rd z q).1 = u at *
  generalize (rd z q).2 = w at *
  have : n * w * q ≤ u * q := by
    rw [x]
    have := Int.mul_le_mul_of_nonneg_right h (Int.le_of_lt v)
    have e : n * q * w = n * w * q := by grind
    omega
  exact Int.le_of_mul_le_mul_right this hq
end Ca
set_option Elab.async false
set_option linter.all false
set_option maxRecDepth 100000
set_option maxHeartbeats 4000000
namespace Gk
open PySem L2

/-! a def as the top left it: its body's place, its name, how its arguments bind -/
structure Df (K : PySem.W.Frag) (mg : Str → Option Value) (x : Str) (st : Stmt) (ps : List Str) (a : Addr) (fd : FuncData) : Prop where
  F : Fun K x x st a fd
  g : mg x = some (.ref a)
  b : Binds K fd ps []

section
variable {X : Cx} {k : Nat} {f : Addr} {fd : FuncData} {ps : List Str} {sp : Sp} {x : Str} {st : Stmt} {p pos : Pos} {e : Expr} {es : List Expr} {t : TA}
theorem pe_cl (D : Df X.K X.mg x st ps f fd) (G : FnOk X.prog X.w X.K X.mg X.base CX0 k f fd ps sp) (hr : Room k X.A) (hg : Gl X x) (ha : PA X (e :: es) t)
    (hdb : (x == ("__debug__" : Str)) = false := by decide) (he : starEach (e :: es) X.env = (false, eval e X.env) :: starEach es X.env := by rfl)
    (hpl : (backTo pos (starEach es X.env)).any (·.1) = false := by rfl) :
    PE X (.Call (.Name x p) (e :: es) [] pos) (tCall sp [] E0 t) :=
  pe_call G hr hg D.g D.F.kp D.b .nil pass0 ha hdb he hpl
end

/-! products and rests -/
def CMulG (i j : Int) : Prop := i.natAbs < 2 ^ 64 ∨ j.natAbs < 2 ^ 64 ∨ CMulW i j
theorem op_mulG {X : Cx} : OpR X (binaryOp .Mult) (rI CMulG fun i j => .int (i * j)) := by
  intro pins s σ H x y v u Q I rx ry h
  obtain ⟨i, j, ex, ey, hc, q⟩ := h
  have e64 : (2 : Int) ^ 64 = ((2 ^ 64 : Nat) : Int) := by decide
  rcases hc with hc | hc | hc
  · exact op_mul pins s σ H x y v u Q I rx ry ⟨i, j, ex, ey, .inl ⟨by rw [e64]; omega, by rw [e64]; omega⟩, q⟩
  · exact op_mul pins s σ H x y v u Q I rx ry ⟨i, j, ex, ey, .inr ⟨by rw [e64]; omega, by rw [e64]; omega⟩, q⟩
  · exact op_mulW pins s σ H x y v u Q I rx ry ⟨i, j, ex, ey, hc, q⟩
theorem op_modG {X : Cx} : OpR X (binaryOp .Mod) (rI (fun _ j => 0 < j) fun i j => .int (i % j)) := by
  intro pins s σ H x y v u Q I rx ry h
  obtain ⟨i, j, ex, ey, hc, q⟩ := h
  refine op_modN pins s σ H x y v u Q I rx ry ⟨i, j, ex, ey, by omega, ?_⟩
  show Q (.int (i.fmod j)) H
  rw [Int.fmod_eq_emod_of_nonneg i (by omega)]
  exact q

/-! rules within a comprehension's block, the written part said outright -/
section
variable {X : Cx}
theorem ix_listK (K : PySem.W.Frag) (h : X.K = K) : IxR X (rIxL K) := h ▸ ix_list
theorem ix_tupK (K : PySem.W.Frag) (h : X.K = K) : IxR X (rIxT K) := h ▸ ix_tup
theorem sl_listK (K : PySem.W.Frag) (h : X.K = K) : SlR X (rSlL K) := h ▸ sl_list
theorem sl_tupAK (K : PySem.W.Frag) (h : X.K = K) : SlR X (rSlA K) := h ▸ sl_tupA
theorem op_catAK (K : PySem.W.Frag) (h : X.K = K) : OpR X (binaryOp .Add) (rCatA K) := h ▸ op_catA
theorem op_in_seqK (K : PySem.W.Frag) (h : X.K = K) : OpR X (compareOp .In) (rIn K false) := h ▸ op_in_seq
theorem op_notIn_seqK (K : PySem.W.Frag) (h : X.K = K) : OpR X (compareOp .NotIn) (rIn K true) := h ▸ op_notIn_seq
theorem op_eqDK (K : PySem.W.Frag) (h : X.K = K) (hu : X.A.units + 64 < cLine) : OpR X (compareOp .Eq) (rEqD K) := h ▸ op_eqD hu
theorem op_neDK (K : PySem.W.Frag) (h : X.K = K) (hu : X.A.units + 64 < cLine) : OpR X (compareOp .NotEq) (rNeD K) := h ▸ op_neD hu
def rLenK (K : PySem.W.Frag) : List V → Hp → VK → Prop := fun xs H Q => ∃ p ys, xs = [.ref p] ∧ (SqL K H p ys ∨ SqT K H p ys) ∧ Q (.int ys.length) H
theorem call_len_seqK (K : PySem.W.Frag) (h : X.K = K) : CallR X (.builtin "len") (rLenK K) := h ▸ call_len_seq
def rTupK (K : PySem.W.Frag) : List V → Hp → VK → Prop := fun xs H Q =>
  ∃ p ys, xs = [.ref p] ∧ ((SqL K H p ys ∧ ∀ l, H l = none → Q (.ref l) (upd H l (.tup ys))) ∨ (SqT K H p ys ∧ Q (.ref p) H))
theorem call_tuple_ofK (K : PySem.W.Frag) (h : X.K = K) : CallR X (.type "tuple") (rTupK K) := h ▸ call_tuple_of
def rLstK (K : PySem.W.Frag) : List V → Hp → VK → Prop := fun xs H Q => ∃ p ys, xs = [.ref p] ∧ (SqL K H p ys ∨ SqT K H p ys) ∧ ∀ l, H l = none → Q (.ref l) (upd H l (.lst ys))
theorem call_list_ofK (K : PySem.W.Frag) (h : X.K = K) : CallR X (.type "list") (rLstK K) := h ▸ call_list_of
theorem cr_sumK (K : PySem.W.Frag) (h : X.K = K) (hc : X.calm = true) : CallR X (.builtin "sum") (rSum K) := h ▸ cr_sum hc
theorem cr_anyK (K : PySem.W.Frag) (h : X.K = K) (hc : X.calm = true) : CallR X (.builtin "any") (rAny K) := h ▸ cr_any hc
theorem cr_allK (K : PySem.W.Frag) (h : X.K = K) (hc : X.calm = true) : CallR X (.builtin "all") (rAll K) := h ▸ cr_all hc
end
end Gk
namespace Gk
open PySem L2 PyProof.Rows

/-! no dict stands within data of the layer -/
mutual
theorem dp_flat {K : PySem.W.Frag} {H : Hp} : ∀ (d : PyData) (v : V), Dp K H v d → d.hasDict = false
  | .none, _, _ => by simp only [PyData.hasDict]
  | .bool _, _, _ => by simp only [PyData.hasDict]
  | .int _, _, _ => by simp only [PyData.hasDict]
  | .str _, _, _ => by simp only [PyData.hasDict]
  | .list ds, _, h => by
    cases h with
    | lst _ h2 => simp only [PyData.hasDict, dpAll_flat ds _ h2]
  | .tuple ds, _, h => by
    cases h with
    | tup _ h2 => simp only [PyData.hasDict, dpAll_flat ds _ h2]
  | .dict _, _, h => by cases h
theorem dpAll_flat {K : PySem.W.Frag} {H : Hp} : ∀ (ds : List PyData) (vs : List V), DpAll K H vs ds → PyData.hasDictAll ds = false
  | [], _, _ => by simp only [PyData.hasDictAll]
  | d :: ds, _, h => by
    cases h with
    | cons h1 h2 => simp only [PyData.hasDictAll, dp_flat d _ h1, dpAll_flat ds _ h2, Bool.or_self]
end

/-! repr of data; nothing is being shown already: the around's guards are none -/
def rRepr (K : PySem.W.Frag) : List V → Hp → VK → Prop := fun vs H Q =>
  ∃ x d, vs = [x] ∧ Dp K H x d ∧ d.showable = true ∧ d.depth ≤ 60 ∧ d.shown.length ≤ sizeLine ∧ Q (.str d.shown) H
theorem cr_repr {X : Cx} (hg : X.A.guards = some []) (hu : X.A.units + 64 < cLine) : CallR X (.builtin "repr") (rRepr X.K) := by
  intro pins s σ H vs us Q I r h
  obtain ⟨x, d, rfl, hd, hs, hde, hl, q⟩ := h
  cases r with
  | cons rx rr =>
    cases rr
    rename_i u
    have whole : ∀ a : Addr, u = Value.ref a → wpAny (model X.prog X.w) X.A (call (.builtin "repr") [u]) (EP X pins σ Q) X.xe s := fun a e => by
      obtain ⟨as, rd⟩ := Dp.reads I d x u hd rx
      subst e
      exact repr_of_reads' rd hs (PyData.noDict_hsm (dp_flat d x hd)) hg (by omega) (fun _ _ e => e) (fun h' u tk hk => ⟨.str _, H, I.kept (t' := tk) hk, ⟨_, rfl⟩, q⟩) hl
    cases hd with
    | non =>
      cases (show u = Value.none from rx)
      exact PySem.P.repr_of_none ⟨.str _, H, I.tok _, ⟨_, rfl⟩, q⟩
    | bl b =>
      cases (show u = Value.bool b from rx)
      exact PySem.P.repr_of_bool ⟨.str _, H, I.tok _, ⟨_, rfl⟩, by cases b <;> exact q⟩
    | int i =>
      obtain ⟨t, rfl⟩ := rx
      have hz : i.natAbs.log2 < 1920 := by simpa [PyData.showable] using hs
      exact PySem.P.repr_of_int hz ⟨.str _, H, I.tok _, ⟨_, rfl⟩, q⟩
    | str z =>
      obtain ⟨t, rfl⟩ := rx
      exact PySem.P.repr_of_str ⟨.str _, H, I.tok _, ⟨_, rfl⟩, q⟩ hl
    | lst h1 h2 => exact whole _ rx
    | tup h1 h2 => exact whole _ rx

/-! enumerate(t), t a tuple -/
theorem tup_enum_new {prog : Program} {w : World} {A : Around} {E : Value → Shared → Prop} {s : Shared} {v : Value} {o : Obj} {G : Heap → Prop} {Q : Value → Shared → Prop} (B : Begins v o G) (h1 : G s.heap)
    (h : ∀ h', IsEnum h' (s.heap.objs.size + 1) s.heap.objs.size 0 .none → h'.get? s.heap.objs.size = some o →
      (∀ b o, s.heap.get? b = some o → h'.get? b = some o) → Q (.ref (s.heap.objs.size + 1)) { s with heap := h' }) :
    wpAny (model prog w) A (call (.type "enumerate") [v]) Q E s := by
  have meets : Meets (Builtin.«enumerate.__new__» ⟨[.type "enumerate", v], []⟩) (fun _ R s => G s.heap ∧
      R (.ok (.ret (.ref (s.heap.push o).objs.size))) { s with heap := (s.heap.push o).push { cls := .type "enumerate", data := .fields #[.none, .bool false, .ref s.heap.objs.size, rawInt 0, .none, .none] } }) :=
    .of_wp fun prog w A R s hh => by
      obtain ⟨hp, g, d, tk, os⟩ := s
      obtain ⟨g1, hh⟩ := hh
      have hsub := sub_enumerate
      have q1 : ∀ {A' : Around} {E : Value → Shared → Prop} {Q : Value → Shared → Prop}, Q (.ref hp.objs.size) ⟨hp.push o, g, d, tk, os⟩ → wpAny (model prog w) A' (pyIter v) Q E ⟨hp, g, d, tk, os⟩ :=
        fun q => B.iter prog w _ _ ⟨hp, g, d, tk, os⟩ _ g1 q
      wp_walk using q1
      refine wpAny_stack_any fun st => wpAny_pure ?_
      split
      · rename_i c _ _ _ _ _
        cases (c == Value.type "enumerate") <;> (wp_walk using q1; exact ⟨_, rfl, hh⟩)
      · wp_walk using q1
        exact ⟨_, rfl, hh⟩
  refine callType_new F.called_enumerate (by decide) (F.typeCall_enumerate_1 _) (F.newCall_enumerate_1 _) (fun obj => F.args_object_init_2 obj _) F.entry_enumerate_new meets ⟨h1, ?_⟩
  have hz : (s.heap.push o).objs.size = s.heap.objs.size + 1 := Heap.size_push ..
  show _ ∧ _
  rw [hz]
  have he := Heap.get?_push_size (s.heap.push o) (o := { cls := .type "enumerate", data := .fields #[.none, .bool false, .ref s.heap.objs.size, rawInt 0, .none, .none] }) rfl
  rw [hz] at he
  exact ⟨⟨_, he, rfl⟩, h _ he (Heap.get?_push_of_some _ (Heap.get?_push_size _ B.free)) fun b o x => Heap.get?_push_of_some _ (Heap.get?_push_of_some _ x)⟩

def IteT (K : PySem.W.Frag) (a : Addr) : It where
  go := fun i H => ∃ (xs : List V) (x : V), SqT K H a xs ∧ xs[i]? = some x
  yld := fun i H v H' => ∃ T x, v = .ref T ∧ H T = none ∧ H' = upd H T (.tup [.int (i : Nat), x]) ∧ ∀ xs, SqT K H a xs → xs[i]? = some x
  stop := fun i H => ∃ xs : List V, SqT K H a xs ∧ xs.length = i
theorem turn_enumT {P : Program} {w : World} {K : PySem.W.Frag} {elts : List Expr} {kk : Nat} {tpos : Pos} (a e it : Addr) (hae : a ≠ e) (hai : a ≠ it) :
    Turn P w K (.Tuple elts kk tpos) (IteT K a) [e, it] e (fun i h => (∃ old, IsEnum h e it ((i : Nat) : Int) old) ∧ h.IsTupleIter it a i ∧ e ≠ it) where
  mem := List.mem_cons_self ..
  obj := fun i h ⟨⟨old, he⟩, ⟨o, ho, hc, hd⟩, _⟩ b hb => by
    rcases List.mem_cons.mp hb with z | z
    · subst z; exact ⟨_, he, fun v q => nomatch q⟩
    · rw [List.mem_singleton.mp z]; exact ⟨o, ho, fun v q => by rw [hd] at q; cases q⟩
  keep := fun i h h' ⟨⟨old, he⟩, hi, hne⟩ k => ⟨⟨old, k e (by simp) _ he⟩, hi.at fun o q => k it (by simp) o q, hne⟩
  item := by
    intro X hP hw hK hc i pins s σ H E I hf ⟨⟨old, he⟩, hit, hne⟩ ⟨xs, x, hq, hx⟩
    subst hP hw hK
    obtain ⟨its, rv, p, hz⟩ := I.tuple hq
    obtain ⟨u, hu, ru⟩ := rv.get hx
    have hi : i < its.toArray.size := by
      have := (List.getElem?_eq_some_iff.mp hu).1
      simpa using this
    have D := Draws.tuple (prog := X.prog) (w := X.w) (A := X.A.in1) (I.ok.hd hc) it a hai its.toArray
    have hel : e < s.heap.objs.size := Heap.lt_size he
    have hil : it < s.heap.objs.size := by obtain ⟨_, q, _⟩ := hit; exact Heap.lt_size q
    refine wpAny_pyNext_enum_itemC D he ⟨hit, p⟩ hi hne (by simp; exact ⟨hne, fun z => hae z.symm⟩) fun y h' tk hy ho hst hT hsz hk => ?_
    have ey : y = u := by
      have : its.toArray[i]? = some u := by simpa using hu
      rw [this] at hy
      exact (Option.some.inj hy).symm
    subst ey
    refine ⟨_, rfl, wpAny_letOwnedTupleGo_enum (s := { s with heap := h', toks := tk + 1 }) ho fun h'' he' sb => ?_⟩
    have hT2 : h''.get? s.heap.objs.size = some { cls := .type "tuple", data := .seq #[.int i tk, y] } := (sb.2 _ (Nat.ne_of_gt hel)).trans hT
    have new : ObjOk X.prog X.w (upd H s.heap.objs.size (.tup [.int (i : Nat), x])) h'' s.heap.objs.size (.tup [.int (i : Nat), x]) :=
      ⟨by show 2 ≤ sizeLine; decide, [.int i tk, y], .cons ⟨_, rfl⟩ (.cons ru .nil), ⟨_, hT2, rfl, _, rfl⟩⟩
    have I1 : L2.Inv X pins σ (upd H s.heap.objs.size (.tup [.int (i : Nat), x])) { s with heap := h'', toks := tk + 1 } :=
      I.turnedNew (ch := [e, it]) (fun b ob hb q => by
        have n1 : b ≠ e := fun z => hb (by simp [z])
        have n2 : b ≠ it := fun z => hb (by simp [z])
        exact (sb.2 b n1).trans (hk b ob n1 n2 q)) hf (Nat.le_refl _) new
    refine ⟨.ref s.heap.objs.size, _, I1, rfl, ⟨_, x, rfl, I.hok.fresh (Nat.le_refl _), rfl, fun ys hy => by rw [I.tuple_inj hy hq]; exact hx⟩, ⟨⟨y, ?_⟩, hst.1.at fun o q => (sb.2 it (Ne.symm hne)).trans q, hne⟩, fun b hb => ?_⟩
    · have e1 : ((i + 1 : Nat) : Int) = (i : Int) + 1 := by omega
      rw [e1]
      exact he'
    · have hb' : b < s.heap.objs.size := by
        rcases List.mem_cons.mp hb with z | z
        · rw [z]; exact hel
        · rw [List.mem_singleton.mp z]; exact hil
      rw [upd_ne (Nat.ne_of_lt hb')]
      exact (hf b hb).1
  done := by
    intro X hP hw hK hc i pins s σ H E I hf ⟨⟨old, he⟩, hit, hne⟩ ⟨xs, hq, hx⟩
    subst hP hw hK
    obtain ⟨its, rv, p, hz⟩ := I.tuple hq
    obtain ⟨f0, f1, f2, f3, f4, f5⟩ := hf it (by simp)
    have hl := rv.length
    have D := Draws.tuple (prog := X.prog) (w := X.w) (A := X.A.in1) (I.ok.hd hc) it a hai its.toArray
    have en : its.toArray.size = i := by rw [List.size_toArray]; omega
    rw [en] at D
    exact wpAny_pyNext_enum_endD D he ⟨hit, p⟩ fun h' eb => ⟨rfl, I.turned (t' := s.toks) (fun b o hb q => eb b o hb q) f0 f1 f3 f4 f5⟩
  self := fun A i s Q E ⟨⟨_, he⟩, _⟩ h => wpAny_pyIter_enum he h
def iEnumT (K : PySem.W.Frag) (ta : TA) : TI := fun σ H R => ta σ H fun vs H1 => ∃ a xs, vs = [.ref a] ∧ SqT K H1 a xs ∧ R (IteT K a) H1
theorem pi_enumT {X : Cx} {e : Expr} {ta : TA} {p pos tpos : Pos} {elts : List Expr} {kk : Nat} (hg : Gl X "enumerate") (hm : X.mg "enumerate" = none) (ha : PA X [e] ta)
    (hs : starEach [e] X.env = [(false, eval e X.env)] := by rfl) : PI X (.Tuple elts kk tpos) (.Call (.Name "enumerate" p) [e] [] pos) (iEnumT X.K ta) := by
  constructor
  intro pins s σ H R I h
  refine Call_ (ld_blt I hg hm boot_enumerate (callWith_type1 (thn (ha.run pos pins s σ H _ I h) fun us s1 ⟨vs, H1, I1, r1, a, xs, ex, hq, q⟩ => ?_) hs rfl))
  subst ex
  cases r1 with
  | cons r rr =>
    cases rr
    cases r
    obtain ⟨its, rv, p', hz⟩ := I1.tuple hq
    have la : a < s1.heap.objs.size := by
      obtain ⟨o, ho, _⟩ := id p'
      exact Heap.lt_size ho
    refine tup_enum_new (begins_tuple a its.toArray) p' fun h' he hit hk => wpAny_pyIter_enum he ?_
    have I2 : L2.Inv X pins σ H1 { s1 with heap := h' } := I1.kept (t' := s1.toks) hk
    refine ⟨s1.heap.objs.size + 1, [s1.heap.objs.size + 1, s1.heap.objs.size], _, _, H1, rfl, I2,
      turn_enumT a (s1.heap.objs.size + 1) s1.heap.objs.size (Nat.ne_of_lt (Nat.lt_succ_of_lt la)) (Nat.ne_of_lt la), ⟨⟨.none, he⟩, ⟨_, hit, rfl, rfl⟩, Nat.succ_ne_self _⟩, fun b hb => ?_, q⟩
    have hle : s1.heap.objs.size ≤ b := by
      rcases List.mem_cons.mp hb with z | z
      · rw [z]; exact Nat.le_succ _
      · rw [List.mem_singleton.mp z]; exact Nat.le_refl _
    exact I1.fpOk hle (I1.hok.fresh hle)
theorem walk_enumT {K : PySem.W.Frag} {a : Addr} {xs : List V} : Walk (IteT K a) xs.length (fun H => SqT K H a xs) (YPair (fun i => some (.int (i : Nat))) (fun i => xs[i]?)) where
  goes := fun i _ hi q => ⟨xs, xs[i], q, by simp [hi]⟩
  stops := fun _ q => ⟨xs, q, rfl⟩
  yields := fun i H v H' _ q ⟨T, x, h1, h2, h3, h4⟩ => ⟨T, .int (i : Nat), x, h1, h2, h3, rfl, h4 xs q⟩
end Gk
namespace Gk
open PySem L2 PyProof.Rows

/-! promises of defs that show values: kept where nothing is being shown -/
structure FnG (P : Program) (w : World) (K : PySem.W.Frag) (mg : Str → Option Value) (base : Heap) (k : Nat) (f : Addr) (fd : FuncData) (ps : List Str) (sp : Sp) : Prop where
  len : ∀ vs H Q E, sp vs H Q E → vs.length = ps.length
  run : ∀ (A : Around) (outer : List Env) (s : Shared) (H : Hp) (args : Args) (us : List Value) (vs : List V) (Q : VK) (E : XK), A.guards = some [] → Room k A →
    Env0 P w K mg base A outer s H → BindsTo s fd args (ps.zip us) → Vals vs us → sp vs H Q E → codeAny (model P w) A (.call (.ref f) args) (CR CX0 outer P w H s Q E) s
section
variable {P : Program} {w : World} {K : PySem.W.Frag} {mg : Str → Option Value} {base : Heap}
theorem fnG_of {x qual : Str} {st : Stmt} {f : Addr} {fd : FuncData} {N ps : List Str} {k : Nat} {sp : Sp} (F : Fun K x qual st f fd) (S : FnScope N ps (defScope st))
    (len : ∀ vs H Q E, sp vs H Q E → vs.length = ps.length)
    (hbody : ∀ (cdv : Value) (A : Around) (outer : List Env) (s : Shared) (H : Hp) (vs : List V) (Q : VK) (E : XK),
      (A.deeper (envOfC qual (defScope st) s.heap.objs.size f cdv)).guards = some [] → Room k (A.deeper (envOfC qual (defScope st) s.heap.objs.size f cdv)) → sp vs H Q E →
      ∃ t, PSs (cxOf CX0 P w K mg base N qual (defScope st) f cdv A outer s H E).nox (defBody st) t ∧ t { nx := fun _ H' => Q .non H', rt := Q } (start N vs) H) :
    FnG P w K mg base (k + 1) f fd ps sp := by
  obtain ⟨oc, od, kV, doc, pm, an, cdv, ct, osl, rfl, lk, hcd⟩ := F.ex
  refine ⟨len, fun A outer s H args us vs Q E hg hr e0 hb r hsp => ?_⟩
  have KX : K.In s.heap := e0.mod.kin.keeps fun b o e => (e0.bs b o e).1
  have lim : s.heap.NoLimit := e0.mod.nolimit.keeps fun b o e => (e0.bs b o e).1
  refine codeAny_call_function hr.depth (KX _ _ lk) rfl S.co S.gen rfl (PySem.W.codeRec_of KX hcd) (hb _ _ _ _ ?_)
  refine wpAny_newFunctionEnv_cells S.kind (fun y hy => ?_) fun env he s1 x => ?_
  · rcases S.par y.1 (List.of_mem_zip hy).1 with q | q
    · exact .inl q
    · exact .inr ⟨q, PySem.W.cellsFrom_some _ _ _ (.inl q)⟩
  · subst he
    refine ⟨lim.keeps x.toInCall.keep, codeAny_func ?_⟩
    obtain ⟨t, ht, hq⟩ := hbody cdv A outer s H vs Q E hg (hr.deeper _) hsp
    have I := inv_start (CX := CX0) (E := E) S hr.hd e0 (len _ _ _ _ hsp) r x
    refine wpAny_mono (ht.nox.run [] s1 (start N vs) H _ I hq) (fun fl s' hs => ?_) fun e s' hs => hs
    cases fl with
    | ret u =>
      obtain ⟨v, σ', H', J, rv, q⟩ := hs
      exact ⟨v, H', J.os, J.bare, J.base, J.hok, rv, q⟩
    | next =>
      obtain ⟨σ', H', J, q⟩ := hs
      exact ⟨V.non, H', J.os, J.bare, J.base, J.hok, rfl, q⟩
    | brk =>
      obtain ⟨_, _, _, q⟩ := hs
      cases q
    | cont =>
      obtain ⟨_, _, _, q⟩ := hs
      cases q
theorem fnG_up {j k : Nat} {f : Addr} {fd : FuncData} {ps : List Str} {sp : Sp} (F : FnOk P w K mg base CX0 j f fd ps sp) (h : j ≤ k) : FnG P w K mg base k f fd ps sp :=
  ⟨F.len, fun A outer s H args us vs Q E _ hr => F.run A outer s H args us vs Q E (hr.mono h)⟩
end
section
variable {X : Cx} {k : Nat} {f : Addr} {fd : FuncData} {ps : List Str} {sp : Sp} {x : Str} {st : Stmt} {p pos : Pos} {e : Expr} {es : List Expr} {t : TA}
theorem pe_clG (hgd : X.A.guards = some []) (D : Df X.K X.mg x st ps f fd) (G : FnG X.prog X.w X.K X.mg X.base k f fd ps sp) (hr : Room k X.A) (hg : Gl X x) (ha : PA X (e :: es) t)
    (hdb : (x == ("__debug__" : Str)) = false := by decide) (he : starEach (e :: es) X.env = (false, eval e X.env) :: starEach es X.env := by rfl)
    (hpl : (backTo pos (starEach es X.env)).any (·.1) = false := by rfl) :
    PE X (.Call (.Name x p) (e :: es) [] pos) (tCall sp [] E0 t) := by
  constructor
  intro pins s σ H Q I h
  refine wpAny_Call_Name_kw (ld_glob I hg D.g ?_ hdb)
  refine PySem.W.callWith_K (h₀ := X.base) I.ok.mod.kin D.F.kp (thn (ha.run pos pins s σ H _ I h) fun us s1 ⟨vs, H1, I1, r, q⟩ => ⟨I1.kIn, ?_⟩) he hpl
  have q : sp (vs ++ []) H1 Q E0 := q
  rw [List.append_nil] at q
  have hl : us.length = ps.length := by rw [← r.length]; exact G.len _ _ _ _ q
  have hb := D.b s1 us I1.kIn (by rw [List.append_nil]; exact hl)
  rw [List.append_nil] at hb
  refine wpAny_call (codeAny_mono (G.run X.A X.stack s1 H1 ⟨us, []⟩ us vs Q E0 hgd hr I1.env0 hb r q) fun rr s' hq => ?_)
  cases rr with
  | error e => cases hq
  | ok fl =>
    cases fl with
    | ret u => exact I1.after hq
    | next => cases hq
    | brk => cases hq
    | cont => cases hq
end

/-! the end: the law's own call -/
theorem law_callG {P : Program} {w : World} {K : PySem.W.Frag} {mg mb : Str → Option Value} {k : Nat} {fa a : Addr} {fd : FuncData} {x : Str} {sp : Sp} {s1 : Shared} {vs : List Value} {ns : List Int}
    (KX : K.In s1.heap) (hns : s1.heap.Ns mainGlobals mg) (hb : s1.heap.Ns builtinsNs mb) (hbb : ∀ x : Str, x ≠ "__name__" → mb x = bootBuiltins x) (hlim : s1.heap.NoLimit) (hgen : s1.gens = #[])
    (ha : s1.heap.get? a = some { cls := .type "list", data := .seq vs.toArray }) (hi : IntsAre vs ns) (hl : ns.length ≤ sizeLine) (hr : Room k callerA)
    (F : ∀ base : Heap, K.In base → base.Ns mainGlobals mg → FnG P w K mg base k fa fd [x] sp) (hbind : ∀ (s : Shared) (u : Value), BindsTo s fd ⟨[u], []⟩ [(x, u)])
    (hsp : ∀ H : Hp, Only H → SqL K H a (ns.map V.int) → sp [.ref a] H (fun v _ => v = .bl true) E0) :
    codeAny (model P w) callerA (.call (.ref fa) ⟨[.ref a], []⟩) (fun r s' => r = .ok (.ret (.bool true)) ∧ OldK s1.heap s'.heap ∧ s'.os = s1.os ∧ AllBare s'.gens) s1 := by
  have rv := vals_ints hi
  have lv := hi.length
  have core : ∀ H : Hp, Only H → SqL K H a (ns.map V.int) → HOk P w H s1.heap → (∀ b, H b ≠ none → b = a ∧ K.lookup a = none) →
      codeAny (model P w) callerA (.call (.ref fa) ⟨[.ref a], []⟩) (fun r s' => r = .ok (.ret (.bool true)) ∧ OldK s1.heap s'.heap ∧ s'.os = s1.os ∧ AllBare s'.gens) s1 := by
    intro H hO hS hok hA
    have free : ∀ {b : Addr} {o : Obj}, s1.heap.get? b = some o → ((∃ es ep, o.data = .dict es ep) ∨ K.lookup b = some o) → H b = none := fun {b o} e z => by
      cases q : H b with
      | none => rfl
      | some u =>
        obtain ⟨eb, lk⟩ := hA b (by rw [q]; simp)
        subst eb
        rcases z with ⟨es, ep, d⟩ | z
        · rw [ha] at e
          cases e
          cases (show Data.seq vs.toArray _ = Data.dict es ep from d)
        · rw [lk] at z; cases z
    have nsK : ∀ {b : Addr} {m : Str → Option Value}, s1.heap.Ns b m → (hidT s1.heap H).Ns b m := fun {b m} ⟨o, es, ep, e, d, r⟩ => ⟨o, es, ep, hidT_get e (free e (.inl ⟨es, ep, d⟩)), d, r⟩
    have hKb : K.In (hidT s1.heap H) := fun b o e => hidT_get (KX b o e) (free (KX b o e) (.inr e))
    have e0 : Env0 P w K mg (hidT s1.heap H) callerA [] s1 H :=
      ⟨rfl, ⟨hKb, nsK hns, ⟨mb, nsK hb, hbb⟩, let ⟨mc, h1, h2⟩ := hlim; ⟨mc, nsK h1, h2⟩⟩, fun b o e => of_hidT e, Nat.le_of_eq (hidT_size _ _), trivial, fun b hb => (nomatch hb), hok, .of_eq hgen⟩
    refine codeAny_mono ((F _ hKb (nsK hns)).run callerA [] s1 H ⟨[.ref a], []⟩ [.ref a] [.ref a] _ _ rfl hr e0 (hbind s1 (.ref a)) (.cons rfl .nil) (hsp H hO hS)) fun r s' h => ?_
    cases r with
    | error e => cases h
    | ok fl =>
      cases fl with
      | next => cases h
      | brk => cases h
      | cont => cases h
      | ret u =>
        obtain ⟨v, H', os, bare, un, hok', r', q⟩ := h
        have qv : v = .bl true := q
        subst qv
        obtain rfl : u = Value.bool true := r'
        refine ⟨rfl, OldK.of_keep fun b o e => ?_, os, bare⟩
        rcases hO b with z | ⟨ob, xs, z⟩
        · exact un.keep b o e z (fun y => nomatch y) (fun y => nomatch y)
        · obtain ⟨e1, _⟩ := hok b _ z
          obtain ⟨e2, _⟩ := hok' b _ (un.frzs b ob _ z)
          rw [e] at e1
          cases e1
          exact e2
  by_cases hk : (K.lookup a).isSome = true
  · obtain ⟨o, hk⟩ := Option.isSome_iff_exists.mp hk
    have e := KX a o hk
    rw [ha] at e
    cases e
    exact core (fun _ => none) (fun _ => .inl rfl) (.inr ⟨_, vs.toArray, _, hk, rfl, rfl, rfl, by rw [List.size_toArray, lv]; exact hl, by simpa using rv⟩)
      (fun b u z => by cases (show (none : Option HO) = some u from z)) (fun b z => absurd rfl z)
  · have hk : K.lookup a = none := by
      cases q : K.lookup a with
      | none => rfl
      | some o => rw [q] at hk; simp at hk
    refine core (fun b => if b = a then some (.frz { cls := .type "list", data := .seq vs.toArray } (.lst (ns.map V.int))) else none) (fun b => ?_) (.inl (.inr ⟨_, if_pos rfl⟩)) (fun b u z => ?_) (fun b z => ?_)
    · by_cases hb : b = a
      · exact .inr ⟨_, _, if_pos hb⟩
      · exact .inl (if_neg hb)
    · by_cases hb : b = a
      · subst hb
        cases (if_pos rfl).symm.trans z
        exact ⟨ha, by rw [List.length_map]; exact hl, vs, _, rv, ha⟩
      · cases (if_neg hb).symm.trans z
    · by_cases hb : b = a
      · exact ⟨hb, hk⟩
      · exact absurd (if_neg hb) z
theorem walk_ofG {l : PySem.W.OpenLaw} {n k : Nat} {q : Program} {loose : List Str} {XP : (Str → Option Value) → Heap → Prop} {YP : World → Heap → Prop} {d : DefRec} {K : Params → PySem.W.Frag} {sp : PySem.W.Frag → Sp} {x : Str}
    (hn : l.most = some n) (hn2 : n ≤ sizeLine) (hdf : d.params.defaults = []) (hr : Room k callerA) (hY : ∀ (w : World) (h : Heap), YP w h → (K w.params).In h)
    (F : ∀ (w : World) (mg : Str → Option Value) (fa : Addr) (h : Heap), (K w.params).In h → h.Ns mainGlobals mg → mg d.name = some (.ref fa) →
      ∃ fd : FuncData, (∀ (s : Shared) (u : Value), BindsTo s fd ⟨[u], []⟩ [(x, u)]) ∧
        ∀ base : Heap, (K w.params).In base → base.Ns mainGlobals mg → FnG l.prog w (K w.params) mg base k fa fd [x] (sp (K w.params)))
    (hsp : ∀ (K : PySem.W.Frag) (H : Hp) (a : Addr) (ns : List Int), ns.length ≤ n → Only H → SqL K H a (ns.map V.int) → sp K [.ref a] H (fun v _ => v = .bl true) E0) :
    PySem.W.WalkO q loose XP YP l.row.toRowW d [] (fun f vs => PySem.call f vs) := by
  refine Att.attach_call hn hdf fun w s0 s1 mg mb fa o pm cd doc a vs ns G Y ho hd hcd hmg hobj hints hlen hgen => ?_
  obtain ⟨fd, hb, hF⟩ := F w mg fa _ (hY w _ Y) G.T.g hmg
  exact law_callG (hY w _ Y) G.T.g G.T.b G.T.builtins G.T.nolimit hgen hobj hints (Nat.le_trans hlen hn2) hr hF hb fun H hO hS => hsp _ H a ns hlen hO hS
end Gk
namespace Gk
open PySem L2 PyProof.Rows
/-! a bound of what repr shows -/
mutual
def wt : PyData → Nat
  | .none => 4
  | .bool _ => 5
  | .int i => i.natAbs.log2 + 2
  | .str x => (reprText x).length
  | .list xs => 2 + wtAll xs
  | .tuple xs => 3 + wtAll xs
  | .dict kvs => (dictText (PyData.shownKv kvs)).length
def wtAll : List PyData → Nat
  | [] => 0
  | x :: xs => wt x + 2 + wtAll xs
end
theorem textFrom_le : ∀ (ts : List Str) (k : Nat) (acc : Str), (textFrom k acc ts).length ≤ acc.length + piled ts
  | [], k, acc => by show acc.length ≤ _; omega
  | t :: ts, k, acc => by
    have ih := textFrom_le ts (k + 1) (acc ++ (if k > 0 then ", " else "" : String) ++ t)
    have e : (acc ++ (if k > 0 then ", " else "" : String) ++ t).length ≤ acc.length + 2 + t.length := by
      rw [strLen_append, strLen_append]
      have : (Str.ofString (if k > 0 then ", " else "" : String)).length ≤ 2 := by split <;> decide
      omega
    have p : piled (t :: ts) = t.length + 2 + piled ts := by unfold piled; simp
    show (textFrom (k + 1) _ ts).length ≤ _
    omega
theorem join_le (ts : List Str) : (Str.join ", " ts).length ≤ piled ts := by
  by_cases h : ts = []
  · subst h; decide
  · have := join_length_add ts h
    omega
mutual
theorem shown_le : ∀ d : PyData, d.shown.length ≤ wt d
  | .none => by simp only [PyData.shown, wt]; decide
  | .bool b => by cases b <;> (simp only [PyData.shown, wt]; decide)
  | .int i => by
    simp only [PyData.shown, wt]
    have e := int_text_length_le (a := i) (k := i.natAbs.log2 + 1) (Nat.succ_pos _) (Nat.lt_succ_self _)
    rw [PySem.ofString_length]
    omega
  | .str x => by simp only [PyData.shown, wt]; exact Nat.le_refl _
  | .list xs => by
    have ih := shownAll_le xs
    have t := textFrom_le (PyData.shownAll xs) 0 "["
    simp only [PyData.shown, wt]
    unfold listText
    rw [strLen_append]
    have e1 : (Str.ofString "[").length = 1 := by decide
    have e2 : (Str.ofString "]").length = 1 := by decide
    omega
  | .tuple xs => by
    have ih := shownAll_le xs
    have t := join_le (PyData.shownAll xs)
    simp only [PyData.shown, wt]
    unfold tupleText
    rw [strLen_append, strLen_append]
    have e1 : (Str.ofString "(").length = 1 := by decide
    have e2 : (Str.ofString (if (PyData.shownAll xs).length == 1 then ",)" else ")" : String)).length ≤ 2 := by split <;> decide
    omega
  | .dict kvs => by simp only [PyData.shown, wt]; exact Nat.le_refl _
theorem shownAll_le : ∀ xs : List PyData, piled (PyData.shownAll xs) ≤ wtAll xs
  | [] => by simp only [PyData.shownAll, wtAll]; exact Nat.le_refl _
  | x :: xs => by
    have h1 := shown_le x
    have h2 := shownAll_le xs
    have p : piled (x.shown :: PyData.shownAll xs) = x.shown.length + 2 + piled (PyData.shownAll xs) := by unfold piled; simp
    simp only [PyData.shownAll, wtAll]
    omega
end
/-- what repr asks, at once -/
theorem shows {d : PyData} {n : Nat} (h : wt d ≤ n) (hn : n ≤ 16000000 := by decide) : d.shown.length ≤ sizeLine :=
  Nat.le_trans (shown_le d) (Nat.le_trans h (Nat.le_trans hn (by decide)))
theorem log_of {i : Int} {n : Nat} (h : i.natAbs < 2 ^ n) (h0 : 0 < n) : i.natAbs.log2 < n := PySem.Flt.log2_lt_of h0 h
end Gk
namespace K15
open PySem L2 Gk Ca
def topS (i : Nat) : Stmt := PySem.Challenge.pw_lotsoflots_k15_whole_fractions_below_sha.main.body.getD i (.Pass ⟨0, 0, 0, 0⟩)
abbrev s_choose_points : Stmt := topS 2
abbrev N_choose_points : List Str := ["a", "b", "found", "i"]
theorem sc_choose_points : FnScope N_choose_points ["a", "b"] (defScope s_choose_points) := ⟨rfl, rfl, rfl, by decide +kernel, rfl, by decide +kernel, by decide +kernel⟩
abbrev Df_choose_points (K : PySem.W.Frag) (mg : Str → Option Value) (a : Addr) (fd : FuncData) : Prop := Df K mg "choose_points" s_choose_points ["a", "b"] a fd
abbrev s_greatest_at_most : Stmt := topS 3
abbrev N_greatest_at_most : List Str := ["m", "k", "a"]
theorem sc_greatest_at_most : FnScope N_greatest_at_most ["m", "k"] (defScope s_greatest_at_most) := ⟨rfl, rfl, rfl, by decide +kernel, rfl, by decide +kernel, by decide +kernel⟩
abbrev Df_greatest_at_most (K : PySem.W.Frag) (mg : Str → Option Value) (a : Addr) (fd : FuncData) : Prop := Df K mg "greatest_at_most" s_greatest_at_most ["m", "k"] a fd
abbrev s_fraction_of : Stmt := topS 5
abbrev N_fraction_of : List Str := ["p", "q", "common"]
theorem sc_fraction_of : FnScope N_fraction_of ["p", "q"] (defScope s_fraction_of) := ⟨rfl, rfl, rfl, by decide +kernel, rfl, by decide +kernel, by decide +kernel⟩
abbrev Df_fraction_of (K : PySem.W.Frag) (mg : Str → Option Value) (a : Addr) (fd : FuncData) : Prop := Df K mg "fraction_of" s_fraction_of ["p", "q"] a fd
abbrev s_choose_at : Stmt := topS 6
abbrev N_choose_at : List Str := ["x", "b", "p", "q", "i"]
theorem sc_choose_at : FnScope N_choose_at ["x", "b"] (defScope s_choose_at) := ⟨rfl, rfl, rfl, by decide +kernel, rfl, by decide +kernel, by decide +kernel⟩
abbrev Df_choose_at (K : PySem.W.Frag) (mg : Str → Option Value) (a : Addr) (fd : FuncData) : Prop := Df K mg "choose_at" s_choose_at ["x", "b"] a fd
abbrev s_lovasz_bound : Stmt := topS 7
abbrev N_lovasz_bound : List Str := ["x", "k"]
theorem sc_lovasz_bound : FnScope N_lovasz_bound ["x", "k"] (defScope s_lovasz_bound) := ⟨rfl, rfl, rfl, by decide +kernel, rfl, by decide +kernel, by decide +kernel⟩
abbrev Df_lovasz_bound (K : PySem.W.Frag) (mg : Str → Option Value) (a : Addr) (fd : FuncData) : Prop := Df K mg "lovasz_bound" s_lovasz_bound ["x", "k"] a fd
abbrev s_greatest_under : Stmt := topS 8
abbrev N_greatest_under : List Str := ["m", "k"]
theorem sc_greatest_under : FnScope N_greatest_under ["m", "k"] (defScope s_greatest_under) := ⟨rfl, rfl, rfl, by decide +kernel, rfl, by decide +kernel, by decide +kernel⟩
abbrev Df_greatest_under (K : PySem.W.Frag) (mg : Str → Option Value) (a : Addr) (fd : FuncData) : Prop := Df K mg "greatest_under" s_greatest_under ["m", "k"] a fd
abbrev s_cascade_of : Stmt := topS 10
abbrev N_cascade_of : List Str := ["m", "k", "found", "left", "i", "a"]
theorem sc_cascade_of : FnScope N_cascade_of ["m", "k"] (defScope s_cascade_of) := ⟨rfl, rfl, rfl, by decide +kernel, rfl, by decide +kernel, by decide +kernel⟩
abbrev Df_cascade_of (K : PySem.W.Frag) (mg : Str → Option Value) (a : Addr) (fd : FuncData) : Prop := Df K mg "cascade_of" s_cascade_of ["m", "k"] a fd
abbrev s_shadow_number : Stmt := topS 11
abbrev N_shadow_number : List Str := ["m", "k", "step", "a"]
theorem sc_shadow_number : FnScope N_shadow_number ["m", "k"] (defScope s_shadow_number) := ⟨rfl, rfl, rfl, by decide +kernel, rfl, by decide +kernel, by decide +kernel⟩
abbrev Df_shadow_number (K : PySem.W.Frag) (mg : Str → Option Value) (a : Addr) (fd : FuncData) : Prop := Df K mg "shadow_number" s_shadow_number ["m", "k"] a fd
abbrev s__law_open_cells : Stmt := topS 13
abbrev N__law_open_cells : List Str := ["script", "stirred", "cell", "cells"]
theorem sc__law_open_cells : FnScope N__law_open_cells ["script"] (defScope s__law_open_cells) := ⟨rfl, rfl, rfl, by decide +kernel, rfl, by decide +kernel, by decide +kernel⟩
abbrev Df__law_open_cells (K : PySem.W.Frag) (mg : Str → Option Value) (a : Addr) (fd : FuncData) : Prop := Df K mg "_law_open_cells" s__law_open_cells ["script"] a fd
abbrev s__law_pick : Stmt := topS 14
abbrev N__law_pick : List Str := ["source", "most", "cells", "others", "lap", "stirred"]
theorem sc__law_pick : FnScope N__law_pick ["source", "most"] (defScope s__law_pick) := ⟨rfl, rfl, rfl, by decide +kernel, rfl, by decide +kernel, by decide +kernel⟩
abbrev Df__law_pick (K : PySem.W.Frag) (mg : Str → Option Value) (a : Addr) (fd : FuncData) : Prop := Df K mg "_law_pick" s__law_pick ["source", "most"] a fd
abbrev s__law_choose : Stmt := topS 15
abbrev N__law_choose : List Str := ["a", "b", "found", "i"]
theorem sc__law_choose : FnScope N__law_choose ["a", "b"] (defScope s__law_choose) := ⟨rfl, rfl, rfl, by decide +kernel, rfl, by decide +kernel, by decide +kernel⟩
abbrev Df__law_choose (K : PySem.W.Frag) (mg : Str → Option Value) (a : Addr) (fd : FuncData) : Prop := Df K mg "_law_choose" s__law_choose ["a", "b"] a fd
abbrev s__law_lowest : Stmt := topS 16
abbrev N__law_lowest : List Str := ["p", "q", "a", "b"]
theorem sc__law_lowest : FnScope N__law_lowest ["p", "q"] (defScope s__law_lowest) := ⟨rfl, rfl, rfl, by decide +kernel, rfl, by decide +kernel, by decide +kernel⟩
abbrev Df__law_lowest (K : PySem.W.Frag) (mg : Str → Option Value) (a : Addr) (fd : FuncData) : Prop := Df K mg "_law_lowest" s__law_lowest ["p", "q"] a fd
abbrev s__law_at : Stmt := topS 17
abbrev N__law_at : List Str := ["x", "b", "p", "q", "i"]
theorem sc__law_at : FnScope N__law_at ["x", "b"] (defScope s__law_at) := ⟨rfl, rfl, rfl, by decide +kernel, rfl, by decide +kernel, by decide +kernel⟩
abbrev Df__law_at (K : PySem.W.Frag) (mg : Str → Option Value) (a : Addr) (fd : FuncData) : Prop := Df K mg "_law_at" s__law_at ["x", "b"] a fd
abbrev s_law : Stmt := topS 18
abbrev N_law : List Str := ["script", "source", "lap", "k", "q", "x", "b", "lots", "shadow", "least", "more", "m", "top", "a", "near", "told", "i", "y", "one", "other"]
theorem sc_law : FnScope N_law ["script"] (defScope s_law) := ⟨rfl, rfl, rfl, by decide +kernel, rfl, by decide +kernel, by decide +kernel⟩
abbrev Df_law (K : PySem.W.Frag) (mg : Str → Option Value) (a : Addr) (fd : FuncData) : Prop := Df K mg "law" s_law ["script"] a fd
structure Bl (mg : Str → Option Value) : Prop where
  abs : mg "abs" = none
  enumerate : mg "enumerate" = none
  int : mg "int" = none
  len : mg "len" = none
  range : mg "range" = none
  repr : mg "repr" = none
  sum : mg "sum" = none
  tuple : mg "tuple" = none
  zip : mg "zip" = none
  gcd : mg "gcd" = some (.builtin "math.gcd")
/-! small helps -/
theorem if_dec {p A B : Prop} [Decidable p] (h1 : p → A) (h2 : ¬ p → B) : if decide p = true then A else B := by
  by_cases h : p
  · rw [if_pos (decide_eq_true h)]; exact h1 h
  · rw [if_neg (by simpa using h)]; exact h2 h
theorem lc_yes {σ : L2.St} {H : Hp} {A B : Hp → Prop} (h : A H) : tYes σ H (fun b H3 => if b = true then A H3 else B H3) := by
  show (if true = true then A H else B H)
  rw [if_pos rfl]
  exact h
/-- while by an invariant, a measure, and what holds behind it -/
theorem while_go {c : TT} {tb : TS} {D : Ends} {σ : L2.St} {H : Hp} (Pv : L2.St → Hp → Prop) (μ : L2.St → Hp → Nat) (Dn : L2.St → Hp → Prop) (h0 : Pv σ H)
    (hs : ∀ σ H, Pv σ H → c σ H fun b H1 => if b = true then tb { D with nx := fun σ' H' => Pv σ' H' ∧ μ σ' H' < μ σ H, ct := fun σ' H' => Pv σ' H' ∧ μ σ' H' < μ σ H, bk := D.nx } σ H1 else Dn σ H1)
    (hd : ∀ σ H, Dn σ H → D.nx σ H) (mono : ∀ σ H Q Q', (∀ b H1, Q b H1 → Q' b H1) → c σ H Q → c σ H Q') : tWhile c tb D σ H :=
  while_by Pv μ h0 (fun σ H p => mono σ H _ _ (fun b H1 q => by
    cases b with
    | true => exact q
    | false => exact hd σ H1 q) (hs σ H p)) mono
theorem same_refl (H : Hp) : Same H H := fun _ _ e => e
theorem same_tup {K : PySem.W.Frag} {H H' : Hp} {a : Addr} {xs : List V} (e : Same H H') (h : SqT K H a xs) : SqT K H' a xs := by
  rcases h with h | h
  · rcases h with h | ⟨o, h⟩
    · exact .inl (.inl (e _ _ h))
    · exact .inl (.inr ⟨o, e _ _ h⟩)
  · exact .inr h
theorem same_new {H : Hp} {p : Addr} {o : HO} (h : H p = none) : Same H (upd H p o) := fun b x e => by
  rw [upd_ne (ne_of_none e h)]
  exact e
/-- an object that H does not know may change -/
theorem same_mut {H H' : Hp} {p : Addr} {o : HO} (e : Same H H') (h : H p = none) : Same H (upd H' p o) := fun b x q => by
  rw [upd_ne (ne_of_none q h)]
  exact e b x q
theorem same_back {H H' : Hp} {p : Addr} (e : Same H H') (h : H' p = none) : H p = none := by
  cases q : H p with
  | none => rfl
  | some o => rw [e p o q] at h; cases h
theorem mulG_r {i j : Int} {n : Nat} (h : j.natAbs < n) (hn : n ≤ 2 ^ 64 := by decide) : CMulG i j := .inr (.inl (Nat.lt_of_lt_of_le h hn))
theorem mulG_l {i j : Int} {n : Nat} (h : i.natAbs < n) (hn : n ≤ 2 ^ 64 := by decide) : CMulG i j := .inl (Nat.lt_of_lt_of_le h hn)
theorem divG {i j : Int} (h : 0 < j) (hb : j.natAbs < 2 ^ 64) : CDivW i j := wide_div (b := 64) h hb (by decide) (by decide)
/-! products and quotients as the program forms them -/
def chs (a : Int) : Nat → Int
  | 0 => 1
  | n + 1 => chs a n * (a - n) / (n + 1)
theorem chs_nat (a : Nat) : ∀ n : Nat, chs a n = (ch a n : Int)
  | 0 => by rw [ch_zero]; rfl
  | n + 1 => by
    show chs a n * ((a : Int) - n) / (n + 1) = _
    rw [chs_nat a n]
    have e := ch_mul a n
    by_cases h : n ≤ a
    · have e2 : (ch a n : Int) * ((a : Int) - n) = (ch a (n + 1) : Int) * ((n : Int) + 1) := by
        have : ((a - n : Nat) : Int) = (a : Int) - n := by omega
        rw [← this, ← Int.natCast_mul, ← e]
        rw [Int.natCast_mul]
        rfl
      rw [e2]
      exact Int.mul_ediv_cancel _ (by omega)
    · rw [ch_lt a n (by omega), ch_lt a (n + 1) (by omega)]
      simp
/-- how many lots, as choose_points tells -/
def cb (a b : Int) : Int := if b < 0 ∨ a < b then 0 else (ch a.toNat b.toNat : Int)
theorem cb_nat (a b : Nat) : cb a b = (ch a b : Int) := by
  unfold cb
  by_cases h : a < b
  · rw [if_pos (.inr (by omega)), ch_lt a b h]; rfl
  · rw [if_neg (by omega)]; rfl
section
variable {P : Program} {w : World} {K : PySem.W.Frag} {mg : Str → Option Value} {base : Heap}
def sp_choose_points (K : PySem.W.Frag) : Sp := fun vs H Q _ => ∃ a b : Int, vs = [.int a, .int b] ∧ a.natAbs < 2 ^ 40 ∧ b < 2 ^ 20 ∧ Q (.int (cb a b)) H
abbrev Ok_choose_points (P : Program) (w : World) (K : PySem.W.Frag) (mg : Str → Option Value) (base : Heap) (a : Addr) (fd : FuncData) : Prop := FnOk P w K mg base CX0 1 a fd ["a", "b"] (sp_choose_points K)
theorem mono_choose_points {K : PySem.W.Frag} {vs : List V} {H : Hp} {Q Q' : VK} {E : XK} (h : sp_choose_points K vs H Q E) (k : ∀ v H1, Q v H1 → Q' v H1) : sp_choose_points K vs H Q' E := by
  obtain ⟨a, b, e, ha, hb, q⟩ := h
  exact ⟨a, b, e, ha, hb, k _ _ q⟩
theorem ok_choose_points {a_choose_points : Addr} {d_choose_points : FuncData} (D_choose_points : Df_choose_points K mg a_choose_points d_choose_points) (B : Bl mg) : Ok_choose_points P w K mg base a_choose_points d_choose_points := by
  refine D_choose_points.F.ok sc_choose_points (fun vs H Q E h => by (repeat obtain ⟨_, h⟩ := h); subst_vars; rfl) (fun cdv A outer s H vs Q E hr h => ?_)
  · obtain ⟨a, b, rfl, ha, hb, q⟩ := h
    refine ⟨_, (pss_cons (ps_if (PW.pt (pw_or (pt_cmpR op_lt (pv 1) pe_int (nomark _)) (pw_or1 (pt_cmpR op_gt (pv 1) (pv 0) (nomark _))))) (pss_one (ps_ret pe_int)) pss_nil)
    (pss_cons (ps_set (i := 2) sc_choose_points.nd rfl (.inl rfl) pe_int)
    (pss_cons (ps_for PassesOwn.never rfl (pi_range1 (by rfl) B.range (pa_cons (pv 1) pa_nil)) (pg_name (i := 3) sc_choose_points.nd rfl (.inl rfl))
      (pss_one (ps_set (i := 2) sc_choose_points.nd rfl (.inl rfl) (pe_op op_fdivW (pe_op op_mulG (pv 2) (pe_op op_sub (pv 0) (pv 3))) (pe_op op_add (pv 3) pe_int)))))
    (pss_one (ps_ret (pv 2)))))), ?_⟩
    refine ⟨_, rfl, _, _, rfl, rfl, _, rfl, if_dec (fun h1 => ?_) (fun h1 => ?_)⟩
    · refine iteT ?_
      unfold cb at q
      rw [if_pos (.inl h1)] at q
      exact q
    · refine ⟨_, rfl, _, rfl, _, _, rfl, rfl, _, rfl, if_dec (fun h2 => ?_) (fun h2 => ?_)⟩
      · unfold cb at q
        rw [if_pos (.inr h2)] at q
        exact q
      · refine ⟨_, rfl, _, rfl, by omega, by omega, ?_⟩
        refine for_range (lo := 0) (n := b.toNat) (fun i σ H' => ∃ v, σ = [some (.int a), some (.int b), some (.int (ch a.toNat i)), v] ∧ H' = H) ⟨none, by rw [ch_zero]; rfl, rfl⟩ (fun i σ H' hi ⟨v, e1, e2⟩ => ?_) (fun σ H' ⟨v, e1, e2⟩ => ?_)
        · subst e1 e2
          refine ⟨_, rfl, _, rfl, _, rfl, _, _, rfl, rfl, _, _, rfl, rfl, mulG_r (n := 2 ^ 41) (by omega), _, rfl, _, _, rfl, rfl, ?_⟩
          refine ⟨_, _, rfl, rfl, divG (by omega) (by omega), some (.int (0 + (i : Int))), ?_, rfl⟩
          have e := chs_nat a.toNat (i + 1)
          have e' : chs (a.toNat : Int) (i + 1) = chs (a.toNat : Int) i * ((a.toNat : Int) - i) / (i + 1) := rfl
          rw [e', chs_nat, show (a.toNat : Int) = a by omega] at e
          show [some (V.int a), some (V.int b), some (V.int ((ch a.toNat i : Int) * (a - (0 + (i : Int))) / (0 + (i : Int) + 1))), some (V.int (0 + (i : Int)))] = _
          rw [Int.zero_add, e]
        · subst e1 e2
          unfold cb at q
          rw [if_neg (by omega)] at q
          exact ⟨_, rfl, q⟩
def sp_greatest_at_most (K : PySem.W.Frag) : Sp := fun vs H Q _ => ∃ m k : Nat, vs = [.int m, .int k] ∧ 1 ≤ k ∧ k < 2 ^ 20 ∧ m < 2 ^ 38 ∧ Q (.int (top m k)) H
abbrev Ok_greatest_at_most (P : Program) (w : World) (K : PySem.W.Frag) (mg : Str → Option Value) (base : Heap) (a : Addr) (fd : FuncData) : Prop := FnOk P w K mg base CX0 2 a fd ["m", "k"] (sp_greatest_at_most K)
theorem ok_greatest_at_most {a_greatest_at_most : Addr} {d_greatest_at_most : FuncData} {a_choose_points : Addr} {d_choose_points : FuncData} (D_greatest_at_most : Df_greatest_at_most K mg a_greatest_at_most d_greatest_at_most) (D_choose_points : Df_choose_points K mg a_choose_points d_choose_points) (G_choose_points : Ok_choose_points P w K mg base a_choose_points d_choose_points) (B : Bl mg) : Ok_greatest_at_most P w K mg base a_greatest_at_most d_greatest_at_most := by
  refine D_greatest_at_most.F.ok sc_greatest_at_most (fun vs H Q E h => by (repeat obtain ⟨_, h⟩ := h); subst_vars; rfl) (fun cdv A outer s H vs Q E hr h => ?_)
  have hrchoose_points : Room 1 _ := hr.mono (by decide)
  · obtain ⟨m, k, rfl, hk, hk2, hm, q⟩ := h
    refine ⟨_, (pss_cons (ps_set (i := 2) sc_greatest_at_most.nd rfl (.inl rfl) (pe_op op_sub (pv 1) pe_int))
    (pss_cons (ps_while PassesOwn.never (pt_cmpR op_le (pe_cl D_choose_points G_choose_points hrchoose_points (by rfl) (pa_cons (pe_op op_add (pv 2) pe_int) (pa_cons (pv 1) pa_nil))) (pv 0) (nomark _))
      (pss_one (ps_set (i := 2) sc_greatest_at_most.nd rfl (.inl rfl) (pe_op op_add (pv 2) pe_int))))
    (pss_one (ps_ret (pv 2))))), ?_⟩
    refine ⟨_, rfl, _, _, rfl, rfl, ?_⟩
    have bound : ∀ A : Nat, ch A k ≤ m → A < m + k := fun A h => by
      refine Nat.lt_of_not_le fun z => ?_
      obtain ⟨j, rfl⟩ : ∃ j, k = j + 1 := ⟨k - 1, by omega⟩
      have := ch_mono (j + 1) z
      have := ch_grow m j
      omega
    refine while_by (fun σ H' => ∃ A : Nat, σ = [some (.int m), some (.int k), some (.int A)] ∧ H' = H ∧ k ≤ A + 1 ∧ ch A k ≤ m)
      (fun σ _ => match σ with | [_, _, some (.int A)] => m + k - A.toNat | _ => 0) ⟨k - 1, by rw [show ((k - 1 : Nat) : Int) = (k : Int) - 1 by omega]; rfl, rfl, by omega, by rw [ch_lt _ _ (by omega)]; omega⟩ (fun σ H' h => ?_) (fun σ H' Q1 Q2 k1 h => ?_)
    · obtain ⟨A, rfl, rfl, h1, h2⟩ := h
      have hb := bound A h2
      refine ⟨_, rfl, _, _, rfl, rfl, _, rfl, _, _, rfl, by omega, by omega, ?_⟩
      refine ⟨_, rfl, _, _, rfl, rfl, _, rfl, ?_⟩
      rw [show ((A : Int) + 1) = ((A + 1 : Nat) : Int) by omega, cb_nat]
      refine if_dec (fun h3 => ?_) (fun h3 => ?_)
      · have h3 : ch (A + 1) k ≤ m := by omega
        have hb2 := bound (A + 1) h3
        refine ⟨_, rfl, _, _, rfl, rfl, ⟨A + 1, rfl, rfl, by omega, h3⟩, ?_⟩
        show m + k - ((A : Int) + 1).toNat < m + k - (A : Int).toNat
        omega
      · refine ⟨_, rfl, ?_⟩
        have t : top m k = A := top_eq hk ⟨h1, h2, by omega⟩
        rw [t] at q
        exact q
    · obtain ⟨v, e, i, j, f1, f2, v2, e2, a, b, e3, ha, hb, v3, e4, i2, j2, e5, e6, k3, e7, h⟩ := h
      exact ⟨v, e, i, j, f1, f2, v2, e2, a, b, e3, ha, hb, v3, e4, i2, j2, e5, e6, k3, e7, k1 _ _ h⟩
end
end K15
namespace K15
open PySem L2 Gk Ca
def iv (xs : List Nat) : List V := xs.map fun (a : Nat) => V.int (a : Int)
theorem iv_len (xs : List Nat) : (iv xs).length = xs.length := by unfold iv; rw [List.length_map]
theorem casc_succ {k m : Nat} (hm : m ≠ 0) : casc (k + 1) m = top m (k + 1) :: casc k (m - ch (top m (k + 1)) (k + 1)) := by
  conv => lhs; unfold casc
  rw [if_neg hm]
theorem casc_none (k : Nat) : casc k 0 = [] := by cases k <;> rfl
theorem casc_len : ∀ (k m : Nat), (casc k m).length ≤ k
  | 0, _ => Nat.le_refl _
  | k + 1, m => by
    by_cases hm : m = 0
    · subst hm; rw [casc_none]; exact Nat.zero_le _
    · rw [casc_succ hm]
      have := casc_len k (m - ch (top m (k + 1)) (k + 1))
      simp; omega
theorem top_lt {m k : Nat} (hk : 1 ≤ k) : top m k < m + k := by
  refine Nat.lt_of_not_le fun z => ?_
  obtain ⟨j, rfl⟩ : ∃ j, k = j + 1 := ⟨k - 1, by omega⟩
  have := ch_mono (j + 1) z
  have := ch_grow m j
  have := (top_spec m hk).le
  omega
theorem casc_mem : ∀ (k m a : Nat), a ∈ casc k m → a < m + k
  | 0, _, _, h => (nomatch h)
  | k + 1, m, a, h => by
    by_cases hm : m = 0
    · subst hm; rw [casc_none] at h; cases h
    · rw [casc_succ hm] at h
      rcases List.mem_cons.mp h with e | e
      · subst e; exact top_lt (by omega)
      · have := casc_mem k _ a e
        omega
/-- the numbers that shadow_number adds -/
def trm : Nat → Nat → List Int
  | 0, _ => []
  | k + 1, m => if m = 0 then [] else (ch (top m (k + 1)) k : Int) :: trm k (m - ch (top m (k + 1)) (k + 1))
theorem trm_succ {k m : Nat} (hm : m ≠ 0) : trm (k + 1) m = (ch (top m (k + 1)) k : Int) :: trm k (m - ch (top m (k + 1)) (k + 1)) := by
  conv => lhs; unfold trm
  rw [if_neg hm]
theorem trm_none (k : Nat) : trm k 0 = [] := by cases k <;> rfl
theorem trm_sum : ∀ (k m : Nat), (trm k m).sum = (sh k m : Int)
  | 0, _ => rfl
  | k + 1, m => by
    by_cases hm : m = 0
    · subst hm; rw [trm_none, sh_zero]; rfl
    · rw [trm_succ hm, sh_succ hm, List.sum_cons, trm_sum k]
      omega
theorem trm_len : ∀ (k m : Nat), (trm k m).length = (casc k m).length
  | 0, _ => rfl
  | k + 1, m => by
    by_cases hm : m = 0
    · subst hm; rw [trm_none, casc_none]; rfl
    · rw [trm_succ hm, casc_succ hm, List.length_cons, List.length_cons, trm_len k]
theorem trm_get : ∀ (k m i a : Nat), (casc k m)[i]? = some a → (trm k m)[i]? = some (cb a ((k : Int) - i - 1))
  | 0, _, _, _, h => by cases h
  | k + 1, m, i, a, h => by
    by_cases hm : m = 0
    · subst hm; rw [casc_none] at h; cases h
    · rw [casc_succ hm] at h
      rw [trm_succ hm]
      cases i with
      | zero =>
        cases h
        show some _ = some _
        rw [show (((k + 1 : Nat) : Int) - ((0 : Nat) : Int) - 1) = (k : Int) by omega, cb_nat]
      | succ i =>
        have := trm_get k _ i a (by simpa using h)
        rw [show (((k + 1 : Nat) : Int) - ((i + 1 : Nat) : Int) - 1) = (k : Int) - i - 1 by omega]
        simpa using this
section
variable {P : Program} {w : World} {K : PySem.W.Frag} {mg : Str → Option Value} {base : Heap}
def sp_cascade_of (K : PySem.W.Frag) : Sp := fun vs H Q _ => ∃ m k : Nat, vs = [.int m, .int k] ∧ 1 ≤ k ∧ k < 2 ^ 20 ∧ m < 2 ^ 38 ∧ ∀ t H', Same H H' → H t = none → H' t = some (.tup (iv (casc k m))) → Q (.ref t) H'
abbrev Ok_cascade_of (P : Program) (w : World) (K : PySem.W.Frag) (mg : Str → Option Value) (base : Heap) (a : Addr) (fd : FuncData) : Prop := FnOk P w K mg base CX0 3 a fd ["m", "k"] (sp_cascade_of K)
theorem ok_cascade_of {a_cascade_of : Addr} {d_cascade_of : FuncData} {a_choose_points : Addr} {d_choose_points : FuncData} {a_greatest_at_most : Addr} {d_greatest_at_most : FuncData} (D_cascade_of : Df_cascade_of K mg a_cascade_of d_cascade_of) (D_choose_points : Df_choose_points K mg a_choose_points d_choose_points) (G_choose_points : Ok_choose_points P w K mg base a_choose_points d_choose_points) (D_greatest_at_most : Df_greatest_at_most K mg a_greatest_at_most d_greatest_at_most) (G_greatest_at_most : Ok_greatest_at_most P w K mg base a_greatest_at_most d_greatest_at_most) (B : Bl mg) : Ok_cascade_of P w K mg base a_cascade_of d_cascade_of := by
  refine D_cascade_of.F.ok sc_cascade_of (fun vs H Q E h => by (repeat obtain ⟨_, h⟩ := h); subst_vars; rfl) (fun cdv A outer s H vs Q E hr h => ?_)
  have hrchoose_points : Room 1 _ := hr.mono (by decide)
  have hrgreatest_at_most : Room 2 _ := hr.mono (by decide)
  · obtain ⟨m, k, rfl, hk, hk2, hm, q⟩ := h
    refine ⟨_, (pss_cons (ps_par3 (i := 2) (j := 3) (l := 4) (by rfl) sc_cascade_of.nd rfl rfl rfl (by decide) (by decide) (by decide) rfl rfl rfl (pa_cons (pe_lst pa_nil) (pa_cons (pv 0) (pa_cons (pv 1) pa_nil))) (by rfl))
    (pss_cons (ps_while PassesOwn.never (pt_cmpR op_gt (pv 3) pe_int (nomark _))
      (pss_cons (ps_set (i := 5) sc_cascade_of.nd rfl (.inl rfl) (pe_cl D_greatest_at_most G_greatest_at_most hrgreatest_at_most (by rfl) (pa_cons (pv 3) (pa_cons (pv 4) pa_nil))))
      (pss_cons (ps_expr (pe_bm PySem.F.plainAttrs_list PySem.F.slot_list_append PySem.F.type_list_append mt_append (pv 2) (pa_cons (pv 5) pa_nil)))
      (pss_one (ps_par (i := 3) (j := 4) (by rfl) sc_cascade_of.nd rfl rfl (by decide) rfl rfl (pa_cons (pe_op op_sub (pv 3) (pe_cl D_choose_points G_choose_points hrchoose_points (by rfl) (pa_cons (pv 5) (pa_cons (pv 4) pa_nil)))) (pa_cons (pe_op op_sub (pv 4) pe_int) pa_nil)) (by rfl))))))
    (pss_one (ps_ret (pe_callTy call_tuple_of (by rfl) B.tuple (by decide +kernel) (pa_cons (pv 2) pa_nil)))))), ?_⟩
    refine ⟨Nat.zero_le _, fun l nl => ?_⟩
    refine ⟨_, rfl, _, rfl, _, _, _, rfl, ?_⟩
    refine while_by (fun σ H' => ∃ (done : List Nat) (m' j : Nat) (v : Option V), σ = [some (.int m), some (.int k), some (.ref l), some (.int m'), some (.int j), v] ∧ Same H H' ∧ H' l = some (.lst (iv done)) ∧
        casc k m = done ++ casc j m' ∧ done.length + j = k ∧ m' ≤ m ∧ (j = 0 → m' = 0))
      (fun σ _ => match σ with | [_, _, _, _, some (.int j), _] => j.toNat | _ => 0)
      ⟨[], m, k, none, rfl, same_new nl, upd_same, rfl, by simp, Nat.le_refl _, by omega⟩ (fun σ H' h => ?_) (fun σ H' Q1 Q2 k1 h => ?_)
    · obtain ⟨done, m', j, v, rfl, s1, hl, ec, el, hm', hj⟩ := h
      refine ⟨_, rfl, _, _, rfl, rfl, _, rfl, if_dec (fun h3 => ?_) (fun h3 => ?_)⟩
      · have m0 : m' ≠ 0 := by omega
        have j0 : j ≠ 0 := fun z => m0 (hj z)
        obtain ⟨i, rfl⟩ : ∃ i, j = i + 1 := ⟨j - 1, by omega⟩
        have t := top_spec m' (show 1 ≤ i + 1 by omega)
        have tl := @top_lt m' (i + 1) (by omega)
        refine ⟨_, rfl, _, rfl, m', i + 1, rfl, by omega, by omega, by omega, ?_⟩
        refine ⟨_, rfl, .inl ⟨rfl, _, SqL.of hl⟩, _, rfl, l, _, _, rfl, rfl, hl, by rw [iv_len]; exact Nat.lt_of_le_of_lt (show done.length ≤ 2 ^ 20 by omega) (by decide), ?_⟩
        refine ⟨_, rfl, _, rfl, _, rfl, _, _, rfl, by omega, by omega, _, _, rfl, rfl, _, rfl, _, _, rfl, rfl, _, _, rfl, ?_⟩
        rw [cb_nat]
        refine ⟨⟨done ++ [top m' (i + 1)], m' - ch (top m' (i + 1)) (i + 1), i, some (.int (top m' (i + 1))), ?_, ?_, ?_, ?_, ?_, by omega, ?_⟩, ?_⟩
        · have e1 : ((m' - ch (top m' (i + 1)) (i + 1) : Nat) : Int) = (m' : Int) - (ch (top m' (i + 1)) (i + 1) : Int) := by have := t.le; omega
          have e2 : ((i + 1 : Nat) : Int) - 1 = (i : Int) := by omega
          rw [e1]
          show [_, _, _, _, some (V.int (((i + 1 : Nat) : Int) - 1)), _] = _
          rw [e2]
        · exact same_mut s1 nl
        · rw [upd_same]; unfold iv; rw [List.map_append]; rfl
        · rw [ec, casc_succ m0, List.append_assoc]; rfl
        · simp; omega
        · intro z
          subst z
          exact rest_zero
        · show (((i + 1 : Nat) : Int) - 1).toNat < ((i + 1 : Nat) : Int).toNat
          omega
      · have m0 : m' = 0 := by omega
        subst m0
        rw [casc_none, List.append_nil] at ec
        refine ⟨_, rfl, l, _, rfl, .inl ⟨SqL.of hl, fun t nt => ?_⟩⟩
        rw [← ec]
        refine q t _ ?_ ?_ ?_
        · exact fun b o e => same_new nt b o (s1 b o e)
        · exact same_back s1 nt
        · rw [upd_same, ec]
    · obtain ⟨v, e, i, j, f1, f2, k3, e7, h⟩ := h
      exact ⟨v, e, i, j, f1, f2, k3, e7, k1 _ _ h⟩
def sp_shadow_number (K : PySem.W.Frag) : Sp := fun vs H Q _ => ∃ m k : Nat, vs = [.int m, .int k] ∧ 1 ≤ k ∧ k < 2 ^ 20 ∧ m < 2 ^ 38 ∧ ∀ H', Same H H' → Q (.int (sh k m)) H'
abbrev Ok_shadow_number (P : Program) (w : World) (K : PySem.W.Frag) (mg : Str → Option Value) (base : Heap) (a : Addr) (fd : FuncData) : Prop := FnOk P w K mg base CX0 4 a fd ["m", "k"] (sp_shadow_number K)
theorem ok_shadow_number {a_shadow_number : Addr} {d_shadow_number : FuncData} {a_choose_points : Addr} {d_choose_points : FuncData} {a_cascade_of : Addr} {d_cascade_of : FuncData} (D_shadow_number : Df_shadow_number K mg a_shadow_number d_shadow_number) (D_choose_points : Df_choose_points K mg a_choose_points d_choose_points) (G_choose_points : Ok_choose_points P w K mg base a_choose_points d_choose_points) (D_cascade_of : Df_cascade_of K mg a_cascade_of d_cascade_of) (G_cascade_of : Ok_cascade_of P w K mg base a_cascade_of d_cascade_of) (B : Bl mg) : Ok_shadow_number P w K mg base a_shadow_number d_shadow_number := by
  refine D_shadow_number.F.ok sc_shadow_number (fun vs H Q E h => by (repeat obtain ⟨_, h⟩ := h); subst_vars; rfl) (fun cdv A outer s H vs Q E hr h => ?_)
  have hrchoose_points : Room 1 _ := hr.mono (by decide)
  have hrcascade_of : Room 3 _ := hr.mono (by decide)
  · obtain ⟨m, k, rfl, hk, hk2, hm, q⟩ := h
    refine ⟨_, (pss_cons (ps_if (pt_cmpR op_eq (pv 0) pe_int (nomark _)) (pss_one (ps_ret pe_int)) pss_nil)
    (pss_one (ps_ret (pe_callB (cr_sum rfl) (by rfl) B.sum (by decide +kernel) (pa_cons (pe_lc (own := [("step", 2), ("a", 3)]) (g := (gTup K 2 (gCons (gName 2) (gCons (gName 3) gNil)))) (tt := tYes) rfl sc_shadow_number.nd (pi_enumT (by rfl) B.enumerate (pa_cons (pe_cl D_cascade_of G_cascade_of hrcascade_of (by rfl) (pa_cons (pv 0) (pa_cons (pv 1) pa_nil))) pa_nil)) (blkOk_by (N := N_shadow_number) (sc := defScope s_shadow_number) (by decide +kernel)) (fun _ _ _ _ _ => (pg_tup rfl (pgs_cons (pg_name (i := 2) sc_shadow_number.nd rfl (.inl rfl)) (pgs_cons (pg_name (i := 3) sc_shadow_number.nd rfl (.inl rfl)) pgs_nil)))) (fun _ _ _ _ _ => pts_nil) (fun _ _ _ _ _ => (pe_cl D_choose_points G_choose_points hrchoose_points (by rfl) (pa_cons (pv 3) (pa_cons (pe_op op_sub (pe_op op_sub (pv 1) (pv 2)) pe_int) pa_nil))))) pa_nil))))), ?_⟩
    refine ⟨_, rfl, rfl, _, rfl, if_dec (fun h1 => ?_) (fun h1 => ?_)⟩
    · have m0 : m = 0 := by have := V.int.inj h1; omega
      subst m0
      rw [sh_zero] at q
      exact q H (same_refl H)
    · refine ⟨_, rfl, _, rfl, m, k, rfl, hk, hk2, hm, fun t H1 s1 nt ht => ?_⟩
      refine ⟨t, _, rfl, SqT.of ht, fun D nD => ?_⟩
      refine lc_it (walk_enumT (K := K) (a := t) (xs := iv (casc k m))) (fun i H' => Same H1 H' ∧ H' D = some (.lst (((trm k m).take i).map V.int))) ⟨same_new nD, upd_same⟩
        (fun i H' _ ⟨s2, _⟩ => SqT.of (s2 _ _ ht)) (fun i x H' H2 hi ⟨s2, hD⟩ hy => ?_) (fun H' ⟨s2, hD⟩ => ?_)
      · obtain ⟨T, x1, x2, rfl, nT, rfl, g1, g2⟩ := hy
        cases g1
        rw [iv_len] at hi
        obtain ⟨a, ha⟩ : ∃ a, (casc k m)[i]? = some a := ⟨(casc k m)[i], by simp [hi]⟩
        have e2 : x2 = .int a := by
          have g2 : (iv (casc k m))[i]? = some x2 := g2
          unfold iv at g2
          rw [List.getElem?_map, ha] at g2
          exact (Option.some.inj g2).symm
        subst e2
        have hle := casc_len k m
        have hmem := casc_mem k m a (List.mem_of_getElem? ha)
        have nTD : D ≠ T := ne_of_none hD nT
        refine ⟨T, [.int i, .int a], rfl, .inl (.inl upd_same), rfl, _, _, rfl, _, _, rfl, rfl, rfl, ?_⟩
        refine lc_yes ?_
        refine ⟨_, rfl, _, rfl, _, rfl, _, _, rfl, rfl, _, _, rfl, rfl, _, _, rfl, by omega, by omega, _, by rw [upd_ne nTD]; exact hD, ?_, ?_, ?_⟩
        · rw [List.length_map, List.length_take]
          have : min i (trm k m).length ≤ 2 ^ 20 := by omega
          exact Nat.lt_of_le_of_lt this (by decide)
        · exact same_mut (fun b o e => same_new nT b o (s2 b o e)) nD
        · rw [upd_same, List.take_add_one, trm_get k m i a ha, List.map_append]
          rfl
      · rw [iv_len, ← trm_len, List.take_length] at hD
        refine ⟨D, trm k m, rfl, SqL.of hD, ?_⟩
        rw [trm_sum]
        exact q H' fun b o e => s2 b o (s1 b o e)
end
end K15
namespace K15
open PySem L2 Gk Ca
/-! the source of draws -/
def sd (c : Addr) (l m t : Int) : List (Key × V) := [(.inr "cells", .ref c), (.inr "left", .int l), (.inr "mixed", .int m), (.inr "turn", .int t)]
theorem s_lc : ¬ (("cells" : Str) = ("left" : Str)) := by decide +kernel
theorem n_lc : ¬ ((Sum.inr ("cells" : Str) : Key) = Sum.inr ("left" : Str)) := fun e => s_lc (Sum.inr.inj e)
theorem s_mc : ¬ (("cells" : Str) = ("mixed" : Str)) := by decide +kernel
theorem n_mc : ¬ ((Sum.inr ("cells" : Str) : Key) = Sum.inr ("mixed" : Str)) := fun e => s_mc (Sum.inr.inj e)
theorem s_tc : ¬ (("cells" : Str) = ("turn" : Str)) := by decide +kernel
theorem n_tc : ¬ ((Sum.inr ("cells" : Str) : Key) = Sum.inr ("turn" : Str)) := fun e => s_tc (Sum.inr.inj e)
theorem s_ml : ¬ (("left" : Str) = ("mixed" : Str)) := by decide +kernel
theorem n_ml : ¬ ((Sum.inr ("left" : Str) : Key) = Sum.inr ("mixed" : Str)) := fun e => s_ml (Sum.inr.inj e)
theorem s_tl : ¬ (("left" : Str) = ("turn" : Str)) := by decide +kernel
theorem n_tl : ¬ ((Sum.inr ("left" : Str) : Key) = Sum.inr ("turn" : Str)) := fun e => s_tl (Sum.inr.inj e)
theorem s_tm : ¬ (("mixed" : Str) = ("turn" : Str)) := by decide +kernel
theorem n_tm : ¬ ((Sum.inr ("mixed" : Str) : Key) = Sum.inr ("turn" : Str)) := fun e => s_tm (Sum.inr.inj e)
theorem s_mt : ¬ (("turn" : Str) = ("mixed" : Str)) := by decide +kernel
theorem n_mt : ¬ ((Sum.inr ("turn" : Str) : Key) = Sum.inr ("mixed" : Str)) := fun e => s_mt (Sum.inr.inj e)
theorem s_lm : ¬ (("mixed" : Str) = ("left" : Str)) := by decide +kernel
theorem n_lm : ¬ ((Sum.inr ("mixed" : Str) : Key) = Sum.inr ("left" : Str)) := fun e => s_lm (Sum.inr.inj e)
theorem s_lt : ¬ (("turn" : Str) = ("left" : Str)) := by decide +kernel
theorem n_lt : ¬ ((Sum.inr ("turn" : Str) : Key) = Sum.inr ("left" : Str)) := fun e => s_lt (Sum.inr.inj e)
theorem sd_cells (c : Addr) (l m t : Int) : valV (sd c l m t) (.inr "cells") = some (.ref c) := valV_pos rfl
theorem sd_left (c : Addr) (l m t : Int) : valV (sd c l m t) (.inr "left") = some (.int l) := (valV_neg n_lc).trans (valV_pos rfl)
theorem sd_mixed (c : Addr) (l m t : Int) : valV (sd c l m t) (.inr "mixed") = some (.int m) := (valV_neg n_mc).trans ((valV_neg n_ml).trans (valV_pos rfl))
theorem sd_turn (c : Addr) (l m t : Int) : valV (sd c l m t) (.inr "turn") = some (.int t) := (valV_neg n_tc).trans ((valV_neg n_tl).trans ((valV_neg n_tm).trans (valV_pos rfl)))
theorem sd_put_left (c : Addr) (l m t x : Int) : putK (sd c l m t) (.inr "left") (.int x) = sd c x m t := by
  unfold putK sd
  simp [s_lc, s_lm, s_lt]
theorem sd_put_mixed (c : Addr) (l m t x : Int) : putK (sd c l m t) (.inr "mixed") (.int x) = sd c l x t := by
  unfold putK sd
  simp [s_mc, s_ml, s_mt]
theorem sd_put_turn (c : Addr) (l m t x : Int) : putK (sd c l m t) (.inr "turn") (.int x) = sd c l m x := by
  unfold putK sd
  simp [s_tc, s_tl, s_tm]
theorem sd_make (c : Addr) (l m t : Int) : mergeK [] (sd c l m t) = sd c l m t := by
  unfold mergeK sd
  simp [putK, s_lc, s_mc, s_tc, s_ml, s_tl, s_tm]
theorem dget {H : Hp} {a : Addr} {kvs : List (Key × V)} {v : V} (k : Key) (e : H a = some (.dK kvs)) (h : valV kvs k = some v) : DGet H a (kV k) (some v) := h ▸ DGet.k e
section
variable {H : Hp} {p c : Addr} {l m t : Int}
theorem g_cells (h : H p = some (.dK (sd c l m t))) : DGet H p (.str "cells") (some (.ref c)) := dget (.inr "cells") h (sd_cells c l m t)
theorem g_left (h : H p = some (.dK (sd c l m t))) : DGet H p (.str "left") (some (.int l)) := dget (.inr "left") h (sd_left c l m t)
theorem g_mixed (h : H p = some (.dK (sd c l m t))) : DGet H p (.str "mixed") (some (.int m)) := dget (.inr "mixed") h (sd_mixed c l m t)
theorem g_turn (h : H p = some (.dK (sd c l m t))) : DGet H p (.str "turn") (some (.int t)) := dget (.inr "turn") h (sd_turn c l m t)
theorem p_left (h : H p = some (.dK (sd c l m t))) (x : Int) : DPut H p (.str "left") (.int x) (upd H p (.dK (sd c x m t))) := sd_put_left c l m t x ▸ DPut.k (k := .inr "left") h (by show (4 : Nat) < sizeLine; decide)
theorem p_mixed (h : H p = some (.dK (sd c l m t))) (x : Int) : DPut H p (.str "mixed") (.int x) (upd H p (.dK (sd c l x t))) := sd_put_mixed c l m t x ▸ DPut.k (k := .inr "mixed") h (by show (4 : Nat) < sizeLine; decide)
theorem p_turn (h : H p = some (.dK (sd c l m t))) (x : Int) : DPut H p (.str "turn") (.int x) (upd H p (.dK (sd c l m x))) := sd_put_turn c l m t x ▸ DPut.k (k := .inr "turn") h (by show (4 : Nat) < sizeLine; decide)
end
/-- a source at p, its cells at c -/
def Src (H : Hp) (p c : Addr) : Prop := ∃ (ns : List Int) (l m t : Int), H p = some (.dK (sd c l m t)) ∧ H c = some (.lst (ns.map V.int))
/-- all but the source stands -/
def But (p c : Addr) (H H' : Hp) : Prop := ∀ b o, b ≠ p → b ≠ c → H b = some o → H' b = some o
theorem Src.ne {H : Hp} {p c : Addr} (s : Src H p c) : p ≠ c := by
  obtain ⟨ns, l, m, t, h1, h2⟩ := s
  exact ne_of h1 h2 (by intro z; cases z)
section
variable {P : Program} {w : World} {K : PySem.W.Frag} {mg : Str → Option Value} {base : Heap}
def sp__law_open_cells (K : PySem.W.Frag) : Sp := fun vs H Q _ => ∃ (a : Addr) (ns : List Int), vs = [.ref a] ∧ SqL K H a (ns.map V.int) ∧ ns.length ≤ 1000 ∧ ∀ H' p c, Same H H' → H p = none → H c = none → Src H' p c → Q (.ref p) H'
abbrev Ok__law_open_cells (P : Program) (w : World) (K : PySem.W.Frag) (mg : Str → Option Value) (base : Heap) (a : Addr) (fd : FuncData) : Prop := FnOk P w K mg base CX0 1 a fd ["script"] (sp__law_open_cells K)
theorem ok__law_open_cells {a__law_open_cells : Addr} {d__law_open_cells : FuncData} (D__law_open_cells : Df__law_open_cells K mg a__law_open_cells d__law_open_cells) (B : Bl mg) : Ok__law_open_cells P w K mg base a__law_open_cells d__law_open_cells := by
  refine D__law_open_cells.F.ok sc__law_open_cells (fun vs H Q E h => by (repeat obtain ⟨_, h⟩ := h); subst_vars; rfl) (fun cdv A outer s H vs Q E hr h => ?_)
  · obtain ⟨a, ns, rfl, hS, hlen, q⟩ := h
    refine ⟨_, (pss_cons (ps_set (i := 1) sc__law_open_cells.nd rfl (.inl rfl) pe_int)
    (pss_cons (ps_for PassesOwn.never rfl (pi_list (pv 0)) (pg_name (i := 2) sc__law_open_cells.nd rfl (.inl rfl))
      (pss_one (ps_set (i := 1) sc__law_open_cells.nd rfl (.inl rfl) (pe_op op_modG (pe_callTy call_int1 (by rfl) B.int (by decide +kernel) (pa_cons (pe_op op_add (pe_op op_add (pe_op op_mulG (pv 1) pe_int) (pe_op op_mulG (pv 2) pe_int)) pe_int) pa_nil)) pe_int))))
    (pss_cons (ps_setLc (i := 3) rfl sc__law_open_cells.nd rfl rfl (sw_true rfl rfl rfl (by decide +kernel)) (own := [("cell", 2)]) (g := (gName 2)) (tt := tYes) (pi_list (pv 0)) (blkOk_by (N := N__law_open_cells) (sc := defScope s__law_open_cells) (by decide +kernel)) (fun _ _ _ _ _ => (pg_name (i := 2) sc__law_open_cells.nd rfl (.inl rfl))) (fun _ _ _ _ _ => pts_nil) (fun _ _ _ _ _ => (pe_callB call_abs (by rfl) B.abs (by decide +kernel) (pa_cons (pv 2) pa_nil))))
    (pss_one (ps_ret (pe_disp (pps_cons pe_str (pe_revL (pv 3)) (pps_cons pe_str pe_int (pps_cons pe_str (pv 1) (pps_cons pe_str pe_int pps_nil)))) (by rfl) (by rfl) (fun z => by cases z) (by decide))))))), ?_⟩
    refine ⟨_, rfl, a, rfl, ⟨_, hS⟩, for_list (K := K) (a := a) (xs := ns.map V.int) (fun i σ H' => ∃ (z : Int) (v v3 : Option V), σ = [some (.ref a), some (.int z), v, v3] ∧ H' = H)
      ⟨11, none, none, rfl, rfl⟩ (fun i σ H' _ ⟨z, v, v3, e1, e2⟩ => by subst e2; exact hS) (fun i x σ H' hi ⟨z, v, v3, e1, e2⟩ => ?_) (fun σ H' ⟨z, v, v3, e1, e2⟩ => ?_)⟩
    · subst e1 e2
      obtain ⟨y, hy⟩ : ∃ y, x = V.int y := by
        rw [List.getElem?_map] at hi
        cases e : ns[i]? with
        | none => rw [e] at hi; cases hi
        | some y => rw [e] at hi; exact ⟨y, (Option.some.inj hi).symm⟩
      subst hy
      refine ⟨_, rfl, _, _, rfl, rfl, mulG_r (n := 2 ^ 64) (by decide), _, rfl, _, _, rfl, rfl, mulG_r (n := 2 ^ 64) (by decide), _, _, rfl, rfl, _, _, rfl, rfl, .inl ⟨_, rfl, _, _, rfl, rfl, (by show (0 : Int) < 2147483629; decide), ?_⟩⟩
      exact ⟨_, _, _, rfl, rfl⟩
    · subst e1 e2
      refine ⟨_, rfl, a, rfl, ⟨_, hS⟩, fun D nD => ?_⟩
      refine lc_it (walk_list (K := K) (a := a) (xs := ns.map V.int)) (fun i H2 => Same H' H2 ∧ H2 D = some (.lst (((ns.map fun n => if n < 0 then -n else n).take i).map V.int))) ⟨same_new nD, upd_same⟩
        (fun i H2 _ ⟨s2, _⟩ => s2.seq hS) (fun i x H2 H3 hi ⟨s2, hD⟩ ⟨e3, hx⟩ => ?_) (fun H2 ⟨s2, hD⟩ => ?_)
      · subst e3
        rw [List.length_map] at hi
        rw [List.getElem?_map, List.getElem?_eq_getElem hi] at hx
        cases hx
        refine ⟨rfl, ?_⟩
        refine lc_yes ?_
        refine ⟨_, rfl, _, rfl, _, hD, ?_, same_mut s2 nD, ?_⟩
        · rw [List.length_map, List.length_take]
          exact Nat.lt_of_le_of_lt (Nat.le_trans (Nat.min_le_left _ _) (show i ≤ 1000 by omega)) (by decide)
        · rw [upd_same, List.take_add_one, List.getElem?_map, List.getElem?_eq_getElem hi, List.map_append]
          rfl
      · rw [List.length_map, List.take_of_length_le (by rw [List.length_map]; exact Nat.le_refl _)] at hD
        refine fun p np => ?_
        have nDp : D ≠ p := ne_of_none hD np
        have s3 : Same H' (upd H2 p (.dK [])) := fun b o e => same_new np b o (s2 b o e)
        refine ⟨_, rfl, D, _, rfl, SqL.of (by rw [upd_ne nDp]; exact hD), fun c nc => ?_⟩
        have ncp : c ≠ p := fun e => by rw [e, upd_same] at nc; cases nc
        have hcp : (upd (upd H2 p (.dK [])) c (.lst ((List.map V.int (ns.map fun n => if n < 0 then -n else n)).reverse))) p = some (.dK []) := by
          rw [upd_ne ncp.symm, upd_same]
        refine ⟨_, rfl, hcp, sd c 1 z 0, rfl, by show (4 : Nat) ≤ 15; decide, ?_⟩
        rw [sd_make]
        have np' : H' p = none := same_back s2 np
        have nc' : H' c = none := same_back s3 nc
        refine q _ p c ?_ np' nc' ⟨(ns.map fun n => if n < 0 then -n else n).reverse, 1, z, 0, upd_same, ?_⟩
        · exact same_mut (same_mut s3 nc') np'
        · rw [upd_ne ncp, upd_same, List.map_reverse]
def sp__law_pick (K : PySem.W.Frag) : Sp := fun vs H Q _ => ∃ (p c : Addr) (n : Int), vs = [.ref p, .int n] ∧ n.natAbs < 2 ^ 60 ∧ Src H p c ∧
  ∀ H' (r : Int), But p c H H' → Src H' p c → 0 ≤ r → (r < n ∨ r = 0) → Q (.int r) H'
abbrev Ok__law_pick (P : Program) (w : World) (K : PySem.W.Frag) (mg : Str → Option Value) (base : Heap) (a : Addr) (fd : FuncData) : Prop := FnOk P w K mg base CX0 1 a fd ["source", "most"] (sp__law_pick K)
theorem ok__law_pick {a__law_pick : Addr} {d__law_pick : FuncData} (D__law_pick : Df__law_pick K mg a__law_pick d__law_pick) (B : Bl mg) : Ok__law_pick P w K mg base a__law_pick d__law_pick := by
  refine D__law_pick.F.ok sc__law_pick (fun vs H Q E h => by (repeat obtain ⟨_, h⟩ := h); subst_vars; rfl) (fun cdv A outer s H vs Q E hr h => ?_)
  · obtain ⟨p, c, n, rfl, hn, hs, q⟩ := h
    refine ⟨_, (pss_cons (ps_if (pt_cmpR op_lt (pv 1) pe_int (nomark _)) (pss_one (ps_ret pe_int)) pss_nil)
    (pss_cons (ps_set (i := 2) sc__law_pick.nd rfl (.inl rfl) (pe_dget (hu_of hr) (pv 0) pe_str (fun _ _ => rfl)))
    (pss_cons (ps_while PassesOwn.never (PW.pt (pw_and (pt_cmpR op_lt (pe_dget (hu_of hr) (pv 0) pe_str (fun _ _ => rfl)) pe_int (nomark _)) (pw_and1 (pt_cmpR op_gt (pe_callB call_len_seq (by rfl) B.len (by decide +kernel) (pa_cons (pv 2) pa_nil)) pe_int (nomark _)))))
      (pss_one (ps_dput (hu_of hr) (pv 0) pe_str (pe_bm0 PySem.F.plainAttrs_list PySem.F.slot_list_pop PySem.F.type_list_pop mt_pop (pv 2)) rfl)))
    (pss_cons (ps_set (i := 3) sc__law_pick.nd rfl (.inl rfl) (pe_dget (hu_of hr) (pv 0) pe_str (fun _ _ => rfl)))
    (pss_cons (ps_if (pt_cmpR op_gt (pv 3) pe_int (nomark _)) (pss_cons (ps_dput (hu_of hr) (pv 0) pe_str (pe_op op_fdivW (pv 3) (pv 1)) rfl)
      (pss_one (ps_ret (pe_op op_modG (pe_callTy call_int1 (by rfl) B.int (by decide +kernel) (pa_cons (pv 3) pa_nil)) (pv 1))))) pss_nil)
    (pss_cons (ps_dput (hu_of hr) (pv 0) pe_str (pe_op op_add (pe_dget (hu_of hr) (pv 0) pe_str (fun _ _ => rfl)) pe_int) rfl)
    (pss_cons (ps_set (i := 4) sc__law_pick.nd rfl (.inl rfl) (pe_dget (hu_of hr) (pv 0) pe_str (fun _ _ => rfl)))
    (pss_cons (ps_set (i := 5) sc__law_pick.nd rfl (.inl rfl) (pe_op op_modG (pe_callTy call_int1 (by rfl) B.int (by decide +kernel) (pa_cons (pe_op op_add (pe_dget (hu_of hr) (pv 0) pe_str (fun _ _ => rfl)) (pe_op op_mulG (pv 4) pe_int)) pa_nil)) pe_int))
    (pss_cons (ps_set (i := 5) sc__law_pick.nd rfl (.inl rfl) (pe_op op_modG (pe_callTy call_int1 (by rfl) B.int (by decide +kernel) (pa_cons (pe_op op_add (pe_op op_mulG (pv 5) (pv 5)) (pe_op op_mulG (pv 4) pe_int)) pa_nil)) pe_int))
    (pss_one (ps_ret (pe_op op_modG (pe_callTy call_int1 (by rfl) B.int (by decide +kernel) (pa_cons (pe_op op_fdivW (pv 5) pe_int) pa_nil)) (pv 1))))))))))))), ?_⟩
    have npc := hs.ne
    refine ⟨_, rfl, _, _, rfl, rfl, _, rfl, if_dec (fun h1 => ?_) (fun h1 => ?_)⟩
    · exact q H 0 (fun _ _ _ _ e => e) hs (Int.le_refl _) (.inr rfl)
    · obtain ⟨ns, l, m, t, h2, h3⟩ := hs
      refine ⟨_, rfl, p, _, rfl, g_cells h2, ?_⟩
      refine while_go (fun σ H' => ∃ (ns : List Int) (l : Int), σ = [some (.ref p), some (.int n), some (.ref c), none, none, none] ∧ But p c H H' ∧ H' p = some (.dK (sd c l m t)) ∧ H' c = some (.lst (ns.map V.int)))
        (fun _ H' => match H' c with | some (.lst xs) => xs.length | _ => 0) (fun σ H' => ∃ (ns : List Int) (l : Int), σ = [some (.ref p), some (.int n), some (.ref c), none, none, none] ∧ But p c H H' ∧ H' p = some (.dK (sd c l m t)) ∧ H' c = some (.lst (ns.map V.int)))
        ⟨ns, l, rfl, fun _ _ _ _ e => e, h2, h3⟩ (fun σ H' h => ?_) (fun σ H' h => ?_) (fun σ H' Q1 Q2 k1 h => ?_)
      · obtain ⟨ns, l, rfl, b1, h2, h3⟩ := h
        refine ⟨_, rfl, p, _, rfl, g_left h2, _, _, rfl, rfl, _, rfl, if_dec (fun h4 => ?_) (fun h4 => ?_)⟩
        · refine ⟨_, rfl, c, _, rfl, .inl (SqL.of h3), _, _, rfl, rfl, _, rfl, if_dec (fun h5 => ?_) (fun h5 => ?_)⟩
          · rw [List.length_map] at h5
            obtain ⟨ns', z, rfl⟩ : ∃ ns' z, ns = ns' ++ [z] := ⟨ns.dropLast, ns.getLast (by intro e; subst e; simp at h5), (List.dropLast_concat_getLast _).symm⟩
            refine ⟨_, rfl, .inl ⟨rfl, _, SqL.of h3⟩, c, _, .int z, rfl, rfl, h3, by simp, ?_⟩
            have e1 : ((ns' ++ [z]).map V.int).dropLast = ns'.map V.int := by simp
            rw [e1]
            refine ⟨_, rfl, p, _, rfl, p_left (by rw [upd_ne npc]; exact h2) z, ⟨ns', z, rfl, fun b o n1 n2 e => ?_, upd_same, by rw [upd_ne npc.symm, upd_same]⟩, ?_⟩
            · rw [upd_ne n1, upd_ne n2]
              exact b1 b o n1 n2 e
            · rw [upd_ne npc.symm, upd_same, h3]
              simp
          · exact ⟨ns, l, rfl, b1, h2, h3⟩
        · exact ⟨ns, l, rfl, b1, h2, h3⟩
      · obtain ⟨ns, l, rfl, b1, h2, h3⟩ := h
        refine ⟨_, rfl, p, _, rfl, g_left h2, ?_⟩
        refine ⟨_, rfl, _, _, rfl, rfl, _, rfl, if_dec (fun h4 => ?_) (fun h4 => ?_)⟩
        · refine ⟨_, rfl, _, rfl, _, _, rfl, rfl, divG (by omega) (by omega), _, rfl, p, _, rfl, p_left h2 _, ?_⟩
          refine ⟨_, rfl, .inl ⟨_, rfl, _, rfl, _, _, rfl, rfl, by omega, ?_⟩⟩
          refine q _ _ (fun b o n1 n2 e => ?_) ⟨ns, _, _, _, upd_same, by rw [upd_ne npc.symm]; exact h3⟩ (Int.emod_nonneg _ (by omega)) (.inl (Int.emod_lt_of_pos _ (by omega)))
          rw [upd_ne n1]
          exact b1 b o n1 n2 e
        · refine ⟨_, rfl, p, _, rfl, g_turn h2, _, _, rfl, rfl, _, rfl, p, _, rfl, p_turn h2 _, ?_⟩
          have h2' : (upd H' p (.dK (sd c l m (t + 1)))) p = some (.dK (sd c l m (t + 1))) := upd_same
          refine ⟨_, rfl, p, _, rfl, g_turn h2', ?_⟩
          refine ⟨_, rfl, p, _, rfl, g_mixed h2', _, rfl, _, _, rfl, rfl, mulG_r (n := 2 ^ 64) (by decide), _, _, rfl, rfl, .inl ⟨_, rfl, _, _, rfl, rfl, (by show (0 : Int) < 998244353; decide), ?_⟩⟩
          generalize em : (m + (t + 1) * 104729) % 998244353 = z1
          have b1' : 0 ≤ z1 ∧ z1 < 998244353 := by rw [← em]; exact ⟨Int.emod_nonneg _ (by decide), Int.emod_lt_of_pos _ (by decide)⟩
          refine ⟨_, rfl, _, rfl, _, _, rfl, rfl, mulG_r (n := 2 ^ 64) (by omega), _, rfl, _, _, rfl, rfl, mulG_r (n := 2 ^ 64) (by decide), _, _, rfl, rfl, .inl ⟨_, rfl, _, _, rfl, rfl, (by show (0 : Int) < 2147483647; decide), ?_⟩⟩
          refine ⟨_, rfl, _, _, rfl, rfl, divG (by decide) (by decide), .inl ⟨_, rfl, _, rfl, _, _, rfl, rfl, by omega, ?_⟩⟩
          refine q _ _ (fun b o n1 n2 e => ?_) ⟨ns, _, _, _, upd_same, by rw [upd_ne npc.symm]; exact h3⟩ (Int.emod_nonneg _ (by omega)) (.inl (Int.emod_lt_of_pos _ (by omega)))
          rw [upd_ne n1]
          exact b1 b o n1 n2 e
      · obtain ⟨v, e, a, v2, f1, f2, i, j, f3, f4, k3, f5, h⟩ := h
        refine ⟨v, e, a, v2, f1, f2, i, j, f3, f4, k3, f5, ?_⟩
        cases k3 with
        | true =>
          obtain ⟨v3, e3, a3, ys, f6, f7, i3, j3, f8, f9, k4, f10, h⟩ := h
          exact ⟨v3, e3, a3, ys, f6, f7, i3, j3, f8, f9, k4, f10, k1 _ _ h⟩
        | false => exact k1 _ _ h
end
end K15
namespace K15
open PySem L2 Gk Ca
section
variable {P : Program} {w : World} {K : PySem.W.Frag} {mg : Str → Option Value} {base : Heap}
def sp__law_choose (K : PySem.W.Frag) : Sp := fun vs H Q _ => ∃ a b : Nat, vs = [.int a, .int b] ∧ a < 2 ^ 40 ∧ b < 2 ^ 20 ∧ Q (.int (ch a b)) H
abbrev Ok__law_choose (P : Program) (w : World) (K : PySem.W.Frag) (mg : Str → Option Value) (base : Heap) (a : Addr) (fd : FuncData) : Prop := FnOk P w K mg base CX0 1 a fd ["a", "b"] (sp__law_choose K)
theorem ok__law_choose {a__law_choose : Addr} {d__law_choose : FuncData} (D__law_choose : Df__law_choose K mg a__law_choose d__law_choose) (B : Bl mg) : Ok__law_choose P w K mg base a__law_choose d__law_choose := by
  refine D__law_choose.F.ok sc__law_choose (fun vs H Q E h => by (repeat obtain ⟨_, h⟩ := h); subst_vars; rfl) (fun cdv A outer s H vs Q E hr h => ?_)
  · obtain ⟨a, b, rfl, ha, hb, q⟩ := h
    refine ⟨_, (pss_cons (ps_set (i := 2) sc__law_choose.nd rfl (.inl rfl) pe_int)
    (pss_cons (ps_for PassesOwn.never rfl (pi_range1 (by rfl) B.range (pa_cons (pv 1) pa_nil)) (pg_name (i := 3) sc__law_choose.nd rfl (.inl rfl))
      (pss_one (ps_set (i := 2) sc__law_choose.nd rfl (.inl rfl) (pe_op op_fdivW (pe_op op_mulG (pv 2) (pe_op op_sub (pv 0) (pv 3))) (pe_op op_add (pv 3) pe_int)))))
    (pss_one (ps_ret (pe_ifExp (pt_cmpR op_le (pv 1) (pv 0) (nomark _)) (pv 2) pe_int))))), ?_⟩
    refine ⟨_, rfl, _, rfl, by omega, by omega, ?_⟩
    refine for_range (lo := 0) (n := (b : Int).toNat) (fun i σ H' => ∃ v, σ = [some (.int a), some (.int b), some (.int (ch a i)), v] ∧ H' = H) ⟨none, by rw [ch_zero]; rfl, rfl⟩ (fun i σ H' hi ⟨v, e1, e2⟩ => ?_) (fun σ H' ⟨v, e1, e2⟩ => ?_)
    · subst e1 e2
      refine ⟨_, rfl, _, rfl, _, rfl, _, _, rfl, rfl, _, _, rfl, rfl, mulG_r (n := 2 ^ 41) (by omega), _, rfl, _, _, rfl, rfl, ?_⟩
      refine ⟨_, _, rfl, rfl, divG (by omega) (by omega), some (.int (0 + (i : Int))), ?_, rfl⟩
      have e := chs_nat a (i + 1)
      have e' : chs (a : Int) (i + 1) = chs (a : Int) i * ((a : Int) - i) / (i + 1) := rfl
      rw [e', chs_nat] at e
      show [some (V.int a), some (V.int b), some (V.int ((ch a i : Int) * (a - (0 + (i : Int))) / (0 + (i : Int) + 1))), some (V.int (0 + (i : Int)))] = _
      rw [Int.zero_add, e]
    · subst e1 e2
      refine ⟨_, rfl, _, rfl, _, _, rfl, rfl, _, rfl, if_dec (fun h1 => ?_) (fun h1 => ?_)⟩
      · exact ⟨_, rfl, q⟩
      · rw [ch_lt a b (by omega)] at q
        exact q
def sp_fraction_of (K : PySem.W.Frag) : Sp := fun vs H Q _ => ∃ p q : Int, vs = [.int p, .int q] ∧ 0 < q ∧ q.natAbs < 2 ^ 8000 ∧
  ∀ t H', Same H H' → H t = none → H' t = some (.tup [.int (rd p q).1, .int (rd p q).2]) → Q (.ref t) H'
abbrev Ok_fraction_of (P : Program) (w : World) (K : PySem.W.Frag) (mg : Str → Option Value) (base : Heap) (a : Addr) (fd : FuncData) : Prop := FnOk P w K mg base CX0 1 a fd ["p", "q"] (sp_fraction_of K)
theorem gcd_small {p q : Int} (hq : 0 < q) (hb : q.natAbs < 2 ^ 8000) : CDivW (Int.gcd p q : Int) (Int.gcd p q : Int) := by
  have g := gcd_pos (p := p) hq
  refine wide_div (b := 8000) g ?_ (by decide) (by decide)
  refine Nat.lt_of_le_of_lt ?_ hb
  exact Nat.gcd_le_right _ (by omega)
theorem ok_fraction_of {a_fraction_of : Addr} {d_fraction_of : FuncData} (D_fraction_of : Df_fraction_of K mg a_fraction_of d_fraction_of) (B : Bl mg) : Ok_fraction_of P w K mg base a_fraction_of d_fraction_of := by
  refine D_fraction_of.F.ok sc_fraction_of (fun vs H Q E h => by (repeat obtain ⟨_, h⟩ := h); subst_vars; rfl) (fun cdv A outer s H vs Q E hr h => ?_)
  · obtain ⟨p, q, rfl, hq, hb, k⟩ := h
    refine ⟨_, (pss_cons (ps_set (i := 2) sc_fraction_of.nd rfl (.inl rfl) (pe_callBfun cr_gcd (by rfl) B.gcd (pa_cons (pv 0) (pa_cons (pv 1) pa_nil))))
    (pss_one (ps_ret (pe_tup (pa_cons (pe_op op_fdivW (pv 0) (pv 2)) (pa_cons (pe_op op_fdivW (pv 1) (pv 2)) pa_nil)))))), ?_⟩
    have g := gcd_small (p := p) hq hb
    refine ⟨_, rfl, _, rfl, p, q, rfl, ?_⟩
    refine ⟨_, rfl, _, rfl, _, _, rfl, rfl, g, _, rfl, _, rfl, _, _, rfl, rfl, g, by show 2 ≤ sizeLine; decide, fun t nt => ?_⟩
    exact k t _ (same_new nt) nt upd_same
def sp_choose_at (K : PySem.W.Frag) : Sp := fun vs H Q _ => ∃ (a : Addr) (x0 x1 : Int) (b : Nat), vs = [.ref a, .int b] ∧ SqT K H a [.int x0, .int x1] ∧ 1 ≤ x1 ∧ x1 ≤ 1000 ∧ x0.natAbs ≤ 40000 ∧ b ≤ 300 ∧
  ∀ t H', Same H H' → H t = none → H' t = some (.tup [.int (cat x0 x1 b).1, .int (cat x0 x1 b).2]) → Q (.ref t) H'
abbrev Ok_choose_at (P : Program) (w : World) (K : PySem.W.Frag) (mg : Str → Option Value) (base : Heap) (a : Addr) (fd : FuncData) : Prop := FnOk P w K mg base CX0 2 a fd ["x", "b"] (sp_choose_at K)
theorem ok_choose_at {a_choose_at : Addr} {d_choose_at : FuncData} {a_fraction_of : Addr} {d_fraction_of : FuncData} (D_choose_at : Df_choose_at K mg a_choose_at d_choose_at) (D_fraction_of : Df_fraction_of K mg a_fraction_of d_fraction_of) (G_fraction_of : Ok_fraction_of P w K mg base a_fraction_of d_fraction_of) (B : Bl mg) : Ok_choose_at P w K mg base a_choose_at d_choose_at := by
  refine D_choose_at.F.ok sc_choose_at (fun vs H Q E h => by (repeat obtain ⟨_, h⟩ := h); subst_vars; rfl) (fun cdv A outer s H vs Q E hr h => ?_)
  have hrfraction_of : Room 1 _ := hr.mono (by decide)
  · obtain ⟨a, x0, x1, b, rfl, hS, h1, h2, h0, hb, k⟩ := h
    refine ⟨_, (pss_cons (ps_asg (pe_tup (pa_cons pe_int (pa_cons pe_int pa_nil))) (pg_tup rfl (pgs_cons (pg_name (i := 2) sc_choose_at.nd rfl (.inl rfl)) (pgs_cons (pg_name (i := 3) sc_choose_at.nd rfl (.inl rfl)) pgs_nil))))
    (pss_cons (ps_for PassesOwn.never rfl (pi_range1 (by rfl) B.range (pa_cons (pv 1) pa_nil)) (pg_name (i := 4) sc_choose_at.nd rfl (.inl rfl))
      (pss_one (ps_asg (pe_cl D_fraction_of G_fraction_of hrfraction_of (by rfl) (pa_cons (pe_op op_mulG (pv 2) (pe_op op_sub (pe_ix ix_tup (pv 0) pe_int (fun _ _ => rfl)) (pe_op op_mulG (pv 4) (pe_ix ix_tup (pv 0) pe_int (fun _ _ => rfl))))) (pa_cons (pe_op op_mulG (pe_op op_mulG (pv 3) (pe_ix ix_tup (pv 0) pe_int (fun _ _ => rfl))) (pe_op op_add (pv 4) pe_int)) pa_nil))) (pg_tup rfl (pgs_cons (pg_name (i := 2) sc_choose_at.nd rfl (.inl rfl)) (pgs_cons (pg_name (i := 3) sc_choose_at.nd rfl (.inl rfl)) pgs_nil))))))
    (pss_one (ps_ret (pe_tup (pa_cons (pv 2) (pa_cons (pv 3) pa_nil))))))), ?_⟩
    refine ⟨by show 2 ≤ sizeLine; decide, fun t0 nt0 => ⟨t0, _, rfl, SqT.of upd_same, rfl, _, _, rfl, _, _, rfl, rfl, ?_⟩⟩
    have s0 : Same H _ := same_new (o := .tup [.int 1, .int 1]) nt0
    refine ⟨_, rfl, _, rfl, by omega, by omega, ?_⟩
    refine for_range (lo := 0) (n := (b : Int).toNat) (fun i σ H' => ∃ v, σ = [some (.ref a), some (.int b), some (.int (cat x0 x1 i).1), some (.int (cat x0 x1 i).2), v] ∧ Same H H') ⟨none, rfl, s0⟩ (fun i σ H' hi ⟨v, e1, s1⟩ => ?_) (fun σ H' ⟨v, e1, s1⟩ => ?_)
    · subst e1
      have hS' := same_tup s1 hS
      have m1 : ((0 + (i : Int)) * x1).natAbs ≤ 300 * 1000 := by
        rw [Int.natAbs_mul]
        exact Nat.mul_le_mul (by omega) (by omega)
      refine ⟨_, rfl, _, rfl, a, _, 0, _, rfl, rfl, hS', atI_nat (j := 0) rfl, _, rfl, _, rfl, a, _, 1, _, rfl, rfl, hS', atI_nat (j := 1) rfl, _, _, rfl, rfl, mulG_r (n := 2 ^ 64) (by omega), _, _, rfl, rfl, ?_⟩
      refine ⟨_, _, rfl, rfl, mulG_r (n := 2 ^ 64) (by omega), _, rfl, _, rfl, a, _, 1, _, rfl, rfl, hS', atI_nat (j := 1) rfl, _, _, rfl, rfl, mulG_r (n := 2 ^ 64) (by omega), _, rfl, _, _, rfl, rfl, _, _, rfl, rfl, mulG_r (n := 2 ^ 64) (by omega), ?_⟩
      rw [Int.zero_add]
      refine ⟨_, _, rfl, Int.mul_pos (Int.mul_pos (cat_pos h1 i) (by omega)) (by omega), cat_den h1 h2 (by omega) (by omega), fun t H2 s2 nt ht => ?_⟩
      exact ⟨t, _, rfl, SqT.of ht, rfl, _, _, rfl, _, _, rfl, rfl, _, rfl, s1.trans s2⟩
    · subst e1
      refine ⟨_, rfl, _, rfl, by show 2 ≤ sizeLine; decide, fun t nt => ?_⟩
      exact k t _ (s1.trans (same_new nt)) (same_back s1 nt) upd_same
def sp_lovasz_bound (K : PySem.W.Frag) : Sp := fun vs H Q _ => ∃ (a : Addr) (x0 x1 : Int) (b : Nat), vs = [.ref a, .int ((b : Int) + 1)] ∧ SqT K H a [.int x0, .int x1] ∧ 1 ≤ x1 ∧ x1 ≤ 1000 ∧ x0.natAbs ≤ 40000 ∧ b ≤ 300 ∧
  ∀ t H', Same H H' → H t = none → H' t = some (.tup [.int (cat x0 x1 b).1, .int (cat x0 x1 b).2]) → Q (.ref t) H'
abbrev Ok_lovasz_bound (P : Program) (w : World) (K : PySem.W.Frag) (mg : Str → Option Value) (base : Heap) (a : Addr) (fd : FuncData) : Prop := FnOk P w K mg base CX0 3 a fd ["x", "k"] (sp_lovasz_bound K)
theorem ok_lovasz_bound {a_lovasz_bound : Addr} {d_lovasz_bound : FuncData} {a_choose_at : Addr} {d_choose_at : FuncData} (D_lovasz_bound : Df_lovasz_bound K mg a_lovasz_bound d_lovasz_bound) (D_choose_at : Df_choose_at K mg a_choose_at d_choose_at) (G_choose_at : Ok_choose_at P w K mg base a_choose_at d_choose_at) (B : Bl mg) : Ok_lovasz_bound P w K mg base a_lovasz_bound d_lovasz_bound := by
  refine D_lovasz_bound.F.ok sc_lovasz_bound (fun vs H Q E h => by (repeat obtain ⟨_, h⟩ := h); subst_vars; rfl) (fun cdv A outer s H vs Q E hr h => ?_)
  have hrchoose_at : Room 2 _ := hr.mono (by decide)
  · obtain ⟨a, x0, x1, b, rfl, hS, h1, h2, h0, hb, k⟩ := h
    refine ⟨_, (pss_one (ps_ret (pe_cl D_choose_at G_choose_at hrchoose_at (by rfl) (pa_cons (pv 0) (pa_cons (pe_op op_sub (pv 1) pe_int) pa_nil))))), ?_⟩
    refine ⟨_, rfl, _, rfl, _, _, rfl, rfl, a, x0, x1, b, ?_, hS, h1, h2, h0, hb, k⟩
    show [V.ref a, V.int ((b : Int) + 1 - 1)] = _
    rw [Int.add_sub_cancel]
def sp_greatest_under (K : PySem.W.Frag) : Sp := fun vs H Q _ => ∃ m k : Nat, vs = [.int m, .int k] ∧ 1 ≤ k ∧ k < 2 ^ 20 ∧ m < 2 ^ 38 ∧ Q (.int (top m k)) H
abbrev Ok_greatest_under (P : Program) (w : World) (K : PySem.W.Frag) (mg : Str → Option Value) (base : Heap) (a : Addr) (fd : FuncData) : Prop := FnOk P w K mg base CX0 3 a fd ["m", "k"] (sp_greatest_under K)
theorem ok_greatest_under {a_greatest_under : Addr} {d_greatest_under : FuncData} {a_greatest_at_most : Addr} {d_greatest_at_most : FuncData} (D_greatest_under : Df_greatest_under K mg a_greatest_under d_greatest_under) (D_greatest_at_most : Df_greatest_at_most K mg a_greatest_at_most d_greatest_at_most) (G_greatest_at_most : Ok_greatest_at_most P w K mg base a_greatest_at_most d_greatest_at_most) (B : Bl mg) : Ok_greatest_under P w K mg base a_greatest_under d_greatest_under := by
  refine D_greatest_under.F.ok sc_greatest_under (fun vs H Q E h => by (repeat obtain ⟨_, h⟩ := h); subst_vars; rfl) (fun cdv A outer s H vs Q E hr h => ?_)
  have hrgreatest_at_most : Room 2 _ := hr.mono (by decide)
  · obtain ⟨m, k, rfl, hk, hk2, hm, q⟩ := h
    refine ⟨_, (pss_one (ps_ret (pe_cl D_greatest_at_most G_greatest_at_most hrgreatest_at_most (by rfl) (pa_cons (pv 0) (pa_cons (pv 1) pa_nil))))), ?_⟩
    exact ⟨_, rfl, _, rfl, m, k, rfl, hk, hk2, hm, q⟩
def sp__law_lowest (K : PySem.W.Frag) : Sp := fun vs H Q _ => ∃ p q : Int, vs = [.int p, .int q] ∧ 0 < q ∧ q.natAbs < 2 ^ 8000 ∧
  ∀ t H', Same H H' → H t = none → H' t = some (.tup [.int (rd p q).1, .int (rd p q).2]) → Q (.ref t) H'
abbrev Ok__law_lowest (P : Program) (w : World) (K : PySem.W.Frag) (mg : Str → Option Value) (base : Heap) (a : Addr) (fd : FuncData) : Prop := FnOk P w K mg base CX0 1 a fd ["p", "q"] (sp__law_lowest K)
theorem gcd_step {a b : Int} (ha : 0 ≤ a) (hb : 0 ≤ b) : Int.gcd b (a % b) = Int.gcd a b := by
  obtain ⟨A, rfl⟩ := Int.eq_ofNat_of_zero_le ha
  obtain ⟨C, rfl⟩ := Int.eq_ofNat_of_zero_le hb
  rw [← Int.natCast_emod]
  show Nat.gcd C (A % C) = Nat.gcd A C
  rw [Nat.gcd_comm C, ← Nat.gcd_rec, Nat.gcd_comm]
theorem ok__law_lowest {a__law_lowest : Addr} {d__law_lowest : FuncData} (D__law_lowest : Df__law_lowest K mg a__law_lowest d__law_lowest) (B : Bl mg) : Ok__law_lowest P w K mg base a__law_lowest d__law_lowest := by
  refine D__law_lowest.F.ok sc__law_lowest (fun vs H Q E h => by (repeat obtain ⟨_, h⟩ := h); subst_vars; rfl) (fun cdv A outer s H vs Q E hr h => ?_)
  · obtain ⟨p, q, rfl, hq, hb, k⟩ := h
    refine ⟨_, (pss_cons (ps_par (i := 2) (j := 3) (by rfl) sc__law_lowest.nd rfl rfl (by decide) rfl rfl (pa_cons (pe_callB call_abs (by rfl) B.abs (by decide +kernel) (pa_cons (pv 0) pa_nil)) (pa_cons (pv 1) pa_nil)) (by rfl))
    (pss_cons (ps_while PassesOwn.never (pt_cmpR op_gt (pv 3) pe_int (nomark _))
      (pss_one (ps_par (i := 2) (j := 3) (by rfl) sc__law_lowest.nd rfl rfl (by decide) rfl rfl (pa_cons (pv 3) (pa_cons (pe_op op_modG (pe_callTy call_int1 (by rfl) B.int (by decide +kernel) (pa_cons (pv 2) pa_nil)) (pv 3)) pa_nil)) (by rfl))))
    (pss_one (ps_ret (pe_tup (pa_cons (pe_op op_fdivW (pv 0) (pv 2)) (pa_cons (pe_op op_fdivW (pv 1) (pv 2)) pa_nil))))))), ?_⟩
    have g := gcd_small (p := p) hq hb
    refine ⟨_, rfl, _, rfl, _, rfl, _, _, rfl, ?_⟩
    refine while_go (fun σ H' => ∃ a b : Int, σ = [some (.int p), some (.int q), some (.int a), some (.int b)] ∧ H' = H ∧ 0 ≤ a ∧ 0 ≤ b ∧ Int.gcd a b = Int.gcd p q)
      (fun σ _ => match σ with | [_, _, _, some (.int b)] => b.toNat | _ => 0) (fun σ H' => σ = [some (.int p), some (.int q), some (.int (Int.gcd p q : Int)), some (.int 0)] ∧ H' = H)
      ⟨_, q, rfl, rfl, ?_, by omega, ?_⟩ (fun σ H' h => ?_) (fun σ H' h => ?_) (fun σ H' Q1 Q2 k1 h => ?_)
    · split <;> omega
    · split
      · rw [Int.neg_gcd]
      · rfl
    · obtain ⟨a, b, rfl, rfl, ha, hb', hg⟩ := h
      refine ⟨_, rfl, _, _, rfl, rfl, _, rfl, if_dec (fun h3 => ?_) (fun h3 => ?_)⟩
      · refine ⟨_, rfl, _, rfl, .inl ⟨_, rfl, _, rfl, _, _, rfl, rfl, by omega, _, _, rfl, ⟨b, a % b, rfl, rfl, by omega, Int.emod_nonneg _ (by omega), ?_⟩, ?_⟩⟩
        · rw [gcd_step ha hb', hg]
        · show (a % b).toNat < b.toNat
          have := Int.emod_lt_of_pos a h3
          have := Int.emod_nonneg a (show b ≠ 0 by omega)
          omega
      · have b0 : b = 0 := by omega
        subst b0
        rw [Int.gcd_zero_right] at hg
        have : a = (Int.gcd p q : Int) := by omega
        rw [this]
        exact ⟨rfl, rfl⟩
    · obtain ⟨e1, e2⟩ := h
      subst e1 e2
      refine ⟨_, rfl, _, rfl, _, _, rfl, rfl, g, _, rfl, _, rfl, _, _, rfl, rfl, g, by show 2 ≤ sizeLine; decide, fun t nt => ?_⟩
      exact k t _ (same_new nt) nt upd_same
    · obtain ⟨v, e, i, j, f1, f2, k3, f3, h⟩ := h
      exact ⟨v, e, i, j, f1, f2, k3, f3, k1 _ _ h⟩
def sp__law_at (K : PySem.W.Frag) : Sp := fun vs H Q _ => ∃ (a : Addr) (x0 x1 : Int) (b : Nat), vs = [.ref a, .int b] ∧ SqT K H a [.int x0, .int x1] ∧ 1 ≤ x1 ∧ x1 ≤ 1000 ∧ x0.natAbs ≤ 40000 ∧ b ≤ 300 ∧
  ∀ t H', Same H H' → H t = none → H' t = some (.tup [.int (cat x0 x1 b).1, .int (cat x0 x1 b).2]) → Q (.ref t) H'
abbrev Ok__law_at (P : Program) (w : World) (K : PySem.W.Frag) (mg : Str → Option Value) (base : Heap) (a : Addr) (fd : FuncData) : Prop := FnOk P w K mg base CX0 2 a fd ["x", "b"] (sp__law_at K)
theorem ok__law_at {a__law_at : Addr} {d__law_at : FuncData} {a__law_lowest : Addr} {d__law_lowest : FuncData} (D__law_at : Df__law_at K mg a__law_at d__law_at) (D__law_lowest : Df__law_lowest K mg a__law_lowest d__law_lowest) (G__law_lowest : Ok__law_lowest P w K mg base a__law_lowest d__law_lowest) (B : Bl mg) : Ok__law_at P w K mg base a__law_at d__law_at := by
  refine D__law_at.F.ok sc__law_at (fun vs H Q E h => by (repeat obtain ⟨_, h⟩ := h); subst_vars; rfl) (fun cdv A outer s H vs Q E hr h => ?_)
  have hr_law_lowest : Room 1 _ := hr.mono (by decide)
  · obtain ⟨a, x0, x1, b, rfl, hS, h1, h2, h0, hb, k⟩ := h
    refine ⟨_, (pss_cons (ps_asg (pe_tup (pa_cons pe_int (pa_cons pe_int pa_nil))) (pg_tup rfl (pgs_cons (pg_name (i := 2) sc__law_at.nd rfl (.inl rfl)) (pgs_cons (pg_name (i := 3) sc__law_at.nd rfl (.inl rfl)) pgs_nil))))
    (pss_cons (ps_for PassesOwn.never rfl (pi_range1 (by rfl) B.range (pa_cons (pv 1) pa_nil)) (pg_name (i := 4) sc__law_at.nd rfl (.inl rfl))
      (pss_one (ps_par (i := 2) (j := 3) (by rfl) sc__law_at.nd rfl rfl (by decide) rfl rfl (pa_cons (pe_op op_mulG (pv 2) (pe_op op_sub (pe_ix ix_tup (pv 0) pe_int (fun _ _ => rfl)) (pe_op op_mulG (pv 4) (pe_ix ix_tup (pv 0) pe_int (fun _ _ => rfl))))) (pa_cons (pe_op op_mulG (pe_op op_mulG (pv 3) (pe_ix ix_tup (pv 0) pe_int (fun _ _ => rfl))) (pe_op op_add (pv 4) pe_int)) pa_nil)) (by rfl))))
    (pss_one (ps_ret (pe_ifExp (pt_cmpR op_ne (pv 2) pe_int (nomark _)) (pe_cl D__law_lowest G__law_lowest hr_law_lowest (by rfl) (pa_cons (pv 2) (pa_cons (pv 3) pa_nil))) (pe_tup (pa_cons pe_int (pa_cons pe_int pa_nil)))))))), ?_⟩
    refine ⟨by show 2 ≤ sizeLine; decide, fun t0 nt0 => ⟨t0, _, rfl, SqT.of upd_same, rfl, _, _, rfl, _, _, rfl, rfl, ?_⟩⟩
    have s0 : Same H _ := same_new (o := .tup [.int 1, .int 1]) nt0
    refine ⟨_, rfl, _, rfl, by omega, by omega, ?_⟩
    refine for_range (lo := 0) (n := (b : Int).toNat) (fun i σ H' => ∃ v, σ = [some (.ref a), some (.int b), some (.int (fl x0 x1 i)), some (.int (dn x1 i)), v] ∧ Same H H') ⟨none, rfl, s0⟩ (fun i σ H' hi ⟨v, e1, s1⟩ => ?_) (fun σ H' ⟨v, e1, s1⟩ => ?_)
    · subst e1
      have hS' := same_tup s1 hS
      have m1 : ((0 + (i : Int)) * x1).natAbs ≤ 300 * 1000 := by
        rw [Int.natAbs_mul]
        exact Nat.mul_le_mul (by omega) (by omega)
      refine ⟨_, rfl, _, rfl, a, _, 0, _, rfl, rfl, hS', atI_nat (j := 0) rfl, _, rfl, _, rfl, a, _, 1, _, rfl, rfl, hS', atI_nat (j := 1) rfl, _, _, rfl, rfl, mulG_r (n := 2 ^ 64) (by omega), _, _, rfl, rfl, ?_⟩
      refine ⟨_, _, rfl, rfl, mulG_r (n := 2 ^ 64) (by omega), _, rfl, _, rfl, a, _, 1, _, rfl, rfl, hS', atI_nat (j := 1) rfl, _, _, rfl, rfl, mulG_r (n := 2 ^ 64) (by omega), _, rfl, _, _, rfl, rfl, _, _, rfl, rfl, mulG_r (n := 2 ^ 64) (by omega), ?_⟩
      rw [Int.zero_add]
      exact ⟨_, _, rfl, _, rfl, s1⟩
    · subst e1
      have d := dn_pos h1 b
      refine ⟨_, rfl, rfl, _, rfl, ?_⟩
      rw [show (b : Int).toNat = b by omega]
      by_cases hz : V.int (fl x0 x1 b) = V.int 0
      · rw [decide_eq_true hz]
        refine ⟨by show 2 ≤ sizeLine; decide, fun t nt => ?_⟩
        refine k t _ (s1.trans (same_new nt)) (same_back s1 nt) ?_
        rw [upd_same, cat_eq h1, V.int.inj hz]
        have : rd 0 (dn x1 b) = (0, 1) := by
          unfold rd
          rw [Int.gcd_zero_left, show ((dn x1 b).natAbs : Int) = dn x1 b by omega, Int.zero_ediv, Int.ediv_self (by omega)]
        rw [this]
      · rw [decide_eq_false hz]
        refine ⟨_, rfl, _, rfl, _, _, rfl, d, dn_abs h1 h2 (by omega) (by omega), fun t H2 s2 nt ht => ?_⟩
        rw [← cat_eq h1] at ht
        exact k t _ (s1.trans s2) (same_back s1 nt) ht
end
end K15
namespace K15
open PySem L2 Gk Ca
theorem seq_cut {t1 t2 : TS} {D : Ends} {σ : L2.St} {H : Hp} (R : L2.St → Hp → Prop) (rest : ∀ σ' H', R σ' H' → t2 D σ' H') (main : (∀ σ' H', R σ' H' → t2 D σ' H') → tSeq t1 t2 D σ H) : tSeq t1 t2 D σ H := main rest
theorem ifs_two {tc : TT} {t u : TS} {D : Ends} {σ : L2.St} {H : Hp} (E : Prop) (yes : E → t D σ H) (no : u D σ H) (main : (E → t D σ H) → u D σ H → tIfS tc t u D σ H) : tIfS tc t u D σ H := main yes no
theorem gn_go {i : Nat} {v : V} {σ : L2.St} {H : Hp} {Q : L2.St → Hp → Prop} (h : Q (σ.set i (some v)) H) : gName i v σ H Q := h
theorem nx_go {f : L2.St → Hp → Prop} {rt : VK} {bk ct : L2.St → Hp → Prop} {σ : L2.St} {H : Hp} (h : f σ H) : ({ nx := f, rt := rt, bk := bk, ct := ct } : Ends).nx σ H := h
theorem next_go {D : Ends} {σ : L2.St} {H : Hp} (h : D.nx σ H) : tNext D σ H := h
theorem ifs_hp {tc : TT} {t u : TS} {D : Ends} {σ : L2.St} {H : Hp} (E : Prop) (yes : E → t D σ H) (no : ∀ H2, Same H H2 → u D σ H2) (main : (E → t D σ H) → (∀ H2, Same H H2 → u D σ H2) → tIfS tc t u D σ H) : tIfS tc t u D σ H := main yes no
theorem if_not_dec {p A B : Prop} [Decidable p] (h1 : ¬ p → A) (h2 : p → B) : if (!decide p) = true then A else B := by
  by_cases h : p
  · rw [if_neg (by simp [h])]; exact h2 h
  · rw [if_pos (by simp [h])]; exact h1 h
theorem if_ne_same {x y : V} {A B : Prop} (e : x = y) (h : B) : if (!decide (x = y)) = true then A else B := by
  rw [if_neg (by simp [e])]
  exact h
theorem lt8000 {n : Nat} (h : n < 2 ^ 64) : n < 2 ^ 8000 := Nat.lt_of_lt_of_le h (Nat.pow_le_pow_right (by decide) (by decide))
theorem Src.same {H H' : Hp} {p c : Addr} (s : Src H p c) (e : Same H H') : Src H' p c := by
  obtain ⟨ns, l, m, t, h1, h2⟩ := s
  exact ⟨ns, l, m, t, e _ _ h1, e _ _ h2⟩
/-- a tuple stays where the source alone changes -/
theorem but_tup {H H' : Hp} {p c t : Addr} {xs : List V} (s : Src H p c) (b : But p c H H') (h : H t = some (.tup xs)) : H' t = some (.tup xs) := by
  obtain ⟨ns, l, m, u, h1, h2⟩ := s
  exact b t _ (ne_of h h1 (by intro z; cases z)) (ne_of h h2 (by intro z; cases z)) h
theorem cut_one (xs : List V) : cutV xs (some 1) none = xs.drop 1 := by
  unfold cutV
  rw [HT.sIx_none, show HT.sIx xs.length 0 (some 1) = min 1 xs.length from HT.sIx_nat xs.length 0 1]
  cases xs with
  | nil => rfl
  | cons x r => simp
def pd (u v : Int) : PyData := .tuple [.int u, .int v]
section
variable {K : PySem.W.Frag} {H : Hp} {Q : VK}
theorem dp_pair {t : Addr} {u v : Int} (ht : H t = some (.tup [.int u, .int v])) : Dp K H (.ref t) (pd u v) := .tup (SqT.of ht) (.cons (.int _) (.cons (.int _) .nil))
end
theorem pd_sh (u v : Int) : SeqAt.shaped (pd u v) = true := by
  simp [SeqAt.shaped, pd, PyData.canLay0, PyData.canLayAll0, PyData.depth, PyData.depthAll]
theorem pd_eqv (u v : Int) : PyData.eqv (pd u v) (pd u v) = true := SeqAt.eqv_refl _ (SeqAt.canLay_of_shaped (pd_sh u v))
theorem if_eqv {d : PyData} {A B : Prop} (e : PyData.eqv d d = true) (h : B) : if (!PyData.eqv d d) = true then A else B := by
  rw [e]
  exact h
theorem pr_s {u v : Int} (hu : u.natAbs < 2 ^ 1000) (hv : v.natAbs < 2 ^ 1000) : (pd u v).showable = true := by
  have lu := log_of hu (by decide)
  have lv := log_of hv (by decide)
  simp only [pd, PyData.showable, PyData.showableAll, Bool.and_true, Bool.and_eq_true, decide_eq_true_eq]
  omega
theorem pr_d {u v : Int} : (pd u v).depth ≤ 60 := by
  simp only [pd, PyData.depth, PyData.depthAll]
  omega
theorem pr_l {u v : Int} (hu : u.natAbs < 2 ^ 1000) (hv : v.natAbs < 2 ^ 1000) : (pd u v).shown.length ≤ sizeLine := by
  have lu := log_of hu (by decide)
  have lv := log_of hv (by decide)
  refine shows (n := 5000) ?_
  simp only [pd, wt, wtAll]
  omega
def pdl (u v x y : Int) : PyData := .list [pd u v, pd x y]
theorem pl_s {u v x y : Int} (hu : u.natAbs < 2 ^ 1000) (hv : v.natAbs < 2 ^ 1000) (hx : x.natAbs < 2 ^ 1000) (hy : y.natAbs < 2 ^ 1000) : (pdl u v x y).showable = true := by
  simp only [pdl, PyData.showable, PyData.showableAll, pr_s hu hv, pr_s hx hy, Bool.and_self]
theorem pl_d {u v x y : Int} : (pdl u v x y).depth ≤ 60 := by
  simp only [pdl, pd, PyData.depth, PyData.depthAll]
  omega
theorem pl_l {u v x y : Int} (hu : u.natAbs < 2 ^ 1000) (hv : v.natAbs < 2 ^ 1000) (hx : x.natAbs < 2 ^ 1000) (hy : y.natAbs < 2 ^ 1000) : (pdl u v x y).shown.length ≤ sizeLine := by
  have lu := log_of hu (by decide)
  have lv := log_of hv (by decide)
  have lx := log_of hx (by decide)
  have ly := log_of hy (by decide)
  refine shows (n := 9000) ?_
  simp only [pdl, pd, wt, wtAll]
  omega
theorem dp_two {K : PySem.W.Frag} {H : Hp} {l t s : Addr} {u v x y : Int} (hl : H l = some (.lst [.ref t, .ref s])) (ht : H t = some (.tup [.int u, .int v])) (hs : H s = some (.tup [.int x, .int y])) : Dp K H (.ref l) (pdl u v x y) :=
  .lst (SqL.of hl) (.cons (dp_pair ht) (.cons (dp_pair hs) .nil))
theorem pred_int (k : Nat) : V.int (((k + 1 : Nat) : Int) - 1) = V.int k := by
  rw [show ((k + 1 : Nat) : Int) - 1 = (k : Int) by omega]
/-- bounds of the fractions drawn -/
structure Fr (x0 x1 : Int) : Prop where
  p1 : 1 ≤ x1
  p2 : x1 ≤ 1000
  p0 : x0.natAbs ≤ 40000
theorem pow1000 {n m : Nat} (h : n ≤ 2 ^ m) (hm : m < 1000) : n < 2 ^ 1000 := Nat.lt_of_le_of_lt h (Nat.pow_lt_pow_right (by decide) hm)
theorem Fr.u {x0 x1 : Int} (f : Fr x0 x1) {b : Nat} (hb : b ≤ 13) : (cat x0 x1 b).1.natAbs < 2 ^ 1000 := pow1000 (cat_abs f.p1 f.p2 f.p0 (by omega)) (by omega)
theorem Fr.v {x0 x1 : Int} (f : Fr x0 x1) {b : Nat} (hb : b ≤ 13) : (cat x0 x1 b).2.natAbs < 2 ^ 1000 := abs_pow (Int.le_of_lt (cat_pos f.p1 b)) (cat_le f.p1 f.p2 (by omega)) (by omega)
theorem Fr.div {x0 x1 : Int} (f : Fr x0 x1) {b : Nat} (hb : b ≤ 13) : CDivW (cat x0 x1 b).2 (cat x0 x1 b).2 := wide_div (b := 1000) (cat_pos f.p1 b) (f.v hb) (by decide) (by decide)
theorem Fr.mul {x0 x1 y0 y1 : Int} (f : Fr x0 x1) (g : Fr y0 y1) {b : Nat} (hb : b ≤ 13) : CMulG (cat x0 x1 b).1 (cat y0 y1 b).2 := .inr (.inr (wide_mul (f.u hb) (g.v hb) (by decide) (by decide) (by decide)))
theorem fr_rd {z : Int} {q : Nat} (h1 : 1 ≤ q) (h2 : q ≤ 60) (h0 : 0 ≤ z) (hz : z ≤ 2500) : Fr (rd z q).1 (rd z q).2 := by
  have a := rd_pos (p := z) (q := q) (by omega)
  have b := rd_le (p := z) (q := q) (by omega)
  have c := rd_abs (p := z) (q := q) (by omega)
  exact ⟨by omega, by omega, by omega⟩
theorem len18 {α : Type} : ∀ (l : List α), l.length = 18 → ∃ v2 v3 v4 v5 v6 v7 v8 v9 v10 v11 v12 v13 v14 v15 v16 v17 v18 v19, l = [v2, v3, v4, v5, v6, v7, v8, v9, v10, v11, v12, v13, v14, v15, v16, v17, v18, v19]
  | [v2, v3, v4, v5, v6, v7, v8, v9, v10, v11, v12, v13, v14, v15, v16, v17, v18, v19], _ => ⟨v2, v3, v4, v5, v6, v7, v8, v9, v10, v11, v12, v13, v14, v15, v16, v17, v18, v19, rfl⟩
def sp_law (K : PySem.W.Frag) : Sp := fun vs H Q _ => ∃ (a : Addr) (ns : List Int), vs = [.ref a] ∧ SqL K H a (ns.map V.int) ∧ ns.length ≤ 63 ∧ ∀ H', Q (.bl true) H'
theorem sp_start {K : PySem.W.Frag} {H : Hp} {a : Addr} {ns : List Int} (hl : ns.length ≤ 63) (hS : SqL K H a (ns.map V.int)) : sp_law K [.ref a] H (fun v _ => v = .bl true) E0 := ⟨a, ns, rfl, hS, hl, fun _ => rfl⟩
section
variable {P : Program} {w : World} {K : PySem.W.Frag} {mg : Str → Option Value} {base : Heap}
abbrev Ok_law (P : Program) (w : World) (K : PySem.W.Frag) (mg : Str → Option Value) (base : Heap) (a : Addr) (fd : FuncData) : Prop := FnG P w K mg base 5 a fd ["script"] (sp_law K)
theorem ok_law {a_law : Addr} {d_law : FuncData} {a_choose_points : Addr} {d_choose_points : FuncData} {a_choose_at : Addr} {d_choose_at : FuncData} {a_lovasz_bound : Addr} {d_lovasz_bound : FuncData} {a_greatest_under : Addr} {d_greatest_under : FuncData} {a_cascade_of : Addr} {d_cascade_of : FuncData} {a_shadow_number : Addr} {d_shadow_number : FuncData} {a__law_open_cells : Addr} {d__law_open_cells : FuncData} {a__law_pick : Addr} {d__law_pick : FuncData} {a__law_choose : Addr} {d__law_choose : FuncData} {a__law_lowest : Addr} {d__law_lowest : FuncData} {a__law_at : Addr} {d__law_at : FuncData} (D_law : Df_law K mg a_law d_law) (D_choose_points : Df_choose_points K mg a_choose_points d_choose_points) (G_choose_points : Ok_choose_points P w K mg base a_choose_points d_choose_points) (D_choose_at : Df_choose_at K mg a_choose_at d_choose_at) (G_choose_at : Ok_choose_at P w K mg base a_choose_at d_choose_at) (D_lovasz_bound : Df_lovasz_bound K mg a_lovasz_bound d_lovasz_bound) (G_lovasz_bound : Ok_lovasz_bound P w K mg base a_lovasz_bound d_lovasz_bound) (D_greatest_under : Df_greatest_under K mg a_greatest_under d_greatest_under) (G_greatest_under : Ok_greatest_under P w K mg base a_greatest_under d_greatest_under) (D_cascade_of : Df_cascade_of K mg a_cascade_of d_cascade_of) (G_cascade_of : Ok_cascade_of P w K mg base a_cascade_of d_cascade_of) (D_shadow_number : Df_shadow_number K mg a_shadow_number d_shadow_number) (G_shadow_number : Ok_shadow_number P w K mg base a_shadow_number d_shadow_number) (D__law_open_cells : Df__law_open_cells K mg a__law_open_cells d__law_open_cells) (G__law_open_cells : Ok__law_open_cells P w K mg base a__law_open_cells d__law_open_cells) (D__law_pick : Df__law_pick K mg a__law_pick d__law_pick) (G__law_pick : Ok__law_pick P w K mg base a__law_pick d__law_pick) (D__law_choose : Df__law_choose K mg a__law_choose d__law_choose) (G__law_choose : Ok__law_choose P w K mg base a__law_choose d__law_choose) (D__law_lowest : Df__law_lowest K mg a__law_lowest d__law_lowest) (G__law_lowest : Ok__law_lowest P w K mg base a__law_lowest d__law_lowest) (D__law_at : Df__law_at K mg a__law_at d__law_at) (G__law_at : Ok__law_at P w K mg base a__law_at d__law_at) (B : Bl mg) : Ok_law P w K mg base a_law d_law := by
  refine fnG_of D_law.F sc_law (fun vs H Q E h => by (repeat obtain ⟨_, h⟩ := h); subst_vars; rfl) (fun cdv A outer s H vs Q E hg hr h => ?_)
  have hrchoose_points : Room 1 _ := hr.mono (by decide)
  have hrchoose_at : Room 2 _ := hr.mono (by decide)
  have hrlovasz_bound : Room 3 _ := hr.mono (by decide)
  have hrgreatest_under : Room 3 _ := hr.mono (by decide)
  have hrcascade_of : Room 3 _ := hr.mono (by decide)
  have hrshadow_number : Room 4 _ := hr.mono (by decide)
  have hr_law_open_cells : Room 1 _ := hr.mono (by decide)
  have hr_law_pick : Room 1 _ := hr.mono (by decide)
  have hr_law_choose : Room 1 _ := hr.mono (by decide)
  have hr_law_lowest : Room 1 _ := hr.mono (by decide)
  have hr_law_at : Room 2 _ := hr.mono (by decide)
  · obtain ⟨a, ns, rfl, hS, hlen, fin⟩ := h
    refine ⟨_, (pss_cons (ps_set (i := 1) sc_law.nd rfl (.inl rfl) (pe_cl D__law_open_cells G__law_open_cells hr_law_open_cells (by rfl) (pa_cons (pv 0) pa_nil)))
    (pss_cons (ps_for PassesOwn.never rfl (pi_range1 (by rfl) B.range (pa_cons pe_int pa_nil)) (pg_name (i := 2) sc_law.nd rfl (.inl rfl))
      (pss_cons (ps_asg (pe_tup (pa_cons (pe_op op_add pe_int (pe_cl D__law_pick G__law_pick hr_law_pick (by rfl) (pa_cons (pv 1) (pa_cons pe_int pa_nil)))) (pa_cons (pe_op op_add pe_int (pe_cl D__law_pick G__law_pick hr_law_pick (by rfl) (pa_cons (pv 1) (pa_cons pe_int pa_nil)))) pa_nil))) (pg_tup rfl (pgs_cons (pg_name (i := 3) sc_law.nd rfl (.inr rfl)) (pgs_cons (pg_name (i := 4) sc_law.nd rfl (.inr rfl)) pgs_nil))))
      (pss_cons (ps_set (i := 5) sc_law.nd rfl (.inl rfl) (pe_cl D__law_lowest G__law_lowest hr_law_lowest (by rfl) (pa_cons (pe_op op_add (pe_cl D__law_pick G__law_pick hr_law_pick (by rfl) (pa_cons (pv 1) (pa_cons (pe_op op_mulG pe_int (pv 4)) pa_nil))) pe_int) (pa_cons (pv 4) pa_nil))))
      (pss_cons (ps_set (i := 6) sc_law.nd rfl (.inl rfl) (pe_cl D__law_pick G__law_pick hr_law_pick (by rfl) (pa_cons (pv 1) (pa_cons pe_int pa_nil))))
      (pss_cons (ps_if (pt_cmpR op_ne (pe_callB (cr_repr hg hr.units) (by rfl) B.repr (by decide +kernel) (pa_cons (pe_cl D_choose_at G_choose_at hrchoose_at (by rfl) (pa_cons (pv 5) (pa_cons (pv 6) pa_nil))) pa_nil)) (pe_callB (cr_repr hg hr.units) (by rfl) B.repr (by decide +kernel) (pa_cons (pe_cl D__law_at G__law_at hr_law_at (by rfl) (pa_cons (pv 5) (pa_cons (pv 6) pa_nil))) pa_nil)) (nomark _)) (pss_one (ps_ret pe_bl)) pss_nil)
      (pss_cons (ps_set (i := 5) sc_law.nd rfl (.inl rfl) (pe_cl D__law_lowest G__law_lowest hr_law_lowest (by rfl) (pa_cons (pe_op op_add (pe_op op_mulG (pv 3) (pv 4)) (pe_cl D__law_pick G__law_pick hr_law_pick (by rfl) (pa_cons (pv 1) (pa_cons (pe_op op_add (pe_op op_mulG (pe_op op_sub pe_int (pv 3)) (pv 4)) pe_int) pa_nil)))) (pa_cons (pv 4) pa_nil))))
      (pss_cons (ps_par (i := 7) (j := 8) (by rfl) sc_law.nd rfl rfl (by decide) rfl rfl (pa_cons (pe_cl D__law_at G__law_at hr_law_at (by rfl) (pa_cons (pv 5) (pa_cons (pv 3) pa_nil))) (pa_cons (pe_cl D__law_at G__law_at hr_law_at (by rfl) (pa_cons (pv 5) (pa_cons (pe_op op_sub (pv 3) pe_int) pa_nil))) pa_nil)) (by rfl))
      (pss_cons (ps_if (pt_cmpR op_ne (pe_callB (cr_repr hg hr.units) (by rfl) B.repr (by decide +kernel) (pa_cons (pe_lst (pa_cons (pe_cl D_choose_at G_choose_at hrchoose_at (by rfl) (pa_cons (pv 5) (pa_cons (pv 3) pa_nil))) (pa_cons (pe_cl D_lovasz_bound G_lovasz_bound hrlovasz_bound (by rfl) (pa_cons (pv 5) (pa_cons (pv 3) pa_nil))) pa_nil))) pa_nil)) (pe_callB (cr_repr hg hr.units) (by rfl) B.repr (by decide +kernel) (pa_cons (pe_lst (pa_cons (pv 7) (pa_cons (pv 8) pa_nil))) pa_nil)) (nomark _)) (pss_one (ps_ret pe_bl)) pss_nil)
      (pss_cons (ps_set (i := 9) sc_law.nd rfl (.inl rfl) (pe_op op_fdivW (pe_op op_sub (pe_op op_add (pe_ix ix_tup (pv 7) pe_int (fun _ _ => rfl)) (pe_ix ix_tup (pv 7) pe_int (fun _ _ => rfl))) pe_int) (pe_ix ix_tup (pv 7) pe_int (fun _ _ => rfl))))
      (pss_cons (ps_if (PW.pt (pw_and (pt_cmpR op_le (pv 9) pe_int (nomark _)) (pw_and (PW.pt (pw_or (pt_cmpR op_gt (pv 3) pe_int (nomark _)) (pw_or1 (pt_cmpR op_lt (pv 9) pe_int (nomark _))))) (pw_and1 (PW.pt (pw_or (pt_cmpR op_gt (pv 3) pe_int (nomark _)) (pw_or1 (pt_cmpR op_lt (pv 9) pe_int (nomark _))))))))) (pss_cons (ps_for PassesOwn.never rfl (pi_tup (pe_tup (pa_cons pe_int (pa_cons pe_int (pa_cons (pe_cl D__law_pick G__law_pick hr_law_pick (by rfl) (pa_cons (pv 1) (pa_cons pe_int pa_nil))) pa_nil))))) (pg_name (i := 10) sc_law.nd rfl (.inl rfl))
          (pss_cons (ps_set (i := 11) sc_law.nd rfl (.inl rfl) (pe_op op_add (pv 9) (pv 10)))
          (pss_one (ps_if (PW.pt (pw_and (pt_cmpR op_le (pv 11) pe_int (nomark _)) (pw_and (PW.pt (pw_or (pt_cmpR op_gt (pv 3) pe_int (nomark _)) (pw_or1 (pt_cmpR op_lt (pv 11) pe_int (nomark _))))) (pw_and1 (pt_cmpR op_lt (pe_op op_mulG (pe_cl D_shadow_number G_shadow_number hrshadow_number (by rfl) (pa_cons (pv 11) (pa_cons (pv 3) pa_nil))) (pe_ix ix_tup (pv 8) pe_int (fun _ _ => rfl))) (pe_ix ix_tup (pv 8) pe_int (fun _ _ => rfl)) (nomark _)))))) (pss_one (ps_ret pe_bl)) pss_nil))))
        (pss_cons (ps_set (i := 12) sc_law.nd rfl (.inl rfl) (pe_cl D_greatest_under G_greatest_under hrgreatest_under (by rfl) (pa_cons (pv 9) (pa_cons (pv 3) pa_nil))))
        (pss_cons (ps_if (PW.pt (pw_or (pt_not (pt_chain op_le op_lt (pe_cl D__law_choose G__law_choose hr_law_choose (by rfl) (pa_cons (pv 12) (pa_cons (pv 3) pa_nil))) (pv 9) (pe_cl D__law_choose G__law_choose hr_law_choose (by rfl) (pa_cons (pe_op op_add (pv 12) pe_int) (pa_cons (pv 3) pa_nil))))) (pw_or1 (pt_cmpR op_lt (pv 12) (pv 3) (nomark _))))) (pss_one (ps_ret pe_bl)) pss_nil)
        (pss_one (ps_if (PW.pt (pw_or (pt_cmpR op_ne (pv 12) (pe_ix ix_tup (pe_cl D_cascade_of G_cascade_of hrcascade_of (by rfl) (pa_cons (pv 9) (pa_cons (pv 3) pa_nil))) pe_int (fun _ _ => rfl)) (nomark _)) (pw_or1 (PW.pt (pw_and (pt_cmpR op_ne (pv 12) (pe_op op_fdivW (pe_ix ix_tup (pv 5) pe_int (fun _ _ => rfl)) (pe_ix ix_tup (pv 5) pe_int (fun _ _ => rfl))) (nomark _)) (pw_and1 (pt_cmpR op_ne (pe_cl D__law_choose G__law_choose hr_law_choose (by rfl) (pa_cons (pv 12) (pa_cons (pv 3) pa_nil))) (pv 9) (nomark _)))))))) (pss_one (ps_ret pe_bl)) pss_nil))))) pss_nil)
      (pss_cons (ps_set (i := 13) sc_law.nd rfl (.inr rfl) (pe_op op_add (pv 3) (pe_cl D__law_pick G__law_pick hr_law_pick (by rfl) (pa_cons (pv 1) (pa_cons pe_int pa_nil)))))
      (pss_cons (ps_if (PW.pt (pw_or (pt_cmpR (op_neD hr.units) (pe_cl D_choose_at G_choose_at hrchoose_at (by rfl) (pa_cons (pe_tup (pa_cons (pv 13) (pa_cons pe_int pa_nil))) (pa_cons (pv 3) pa_nil))) (pe_tup (pa_cons (pe_cl D_choose_points G_choose_points hrchoose_points (by rfl) (pa_cons (pv 13) (pa_cons (pv 3) pa_nil))) (pa_cons pe_int pa_nil))) (nomark _)) (pw_or1 (pt_cmpR (op_neD hr.units) (pe_cl D_lovasz_bound G_lovasz_bound hrlovasz_bound (by rfl) (pa_cons (pe_tup (pa_cons (pv 13) (pa_cons pe_int pa_nil))) (pa_cons (pv 3) pa_nil))) (pe_tup (pa_cons (pe_cl D_choose_points G_choose_points hrchoose_points (by rfl) (pa_cons (pv 13) (pa_cons (pe_op op_sub (pv 3) pe_int) pa_nil))) (pa_cons pe_int pa_nil))) (nomark _))))) (pss_one (ps_ret pe_bl)) pss_nil)
      (pss_cons (ps_if (PW.pt (pw_and (pt_cmpR op_le (pe_cl D__law_choose G__law_choose hr_law_choose (by rfl) (pa_cons (pv 13) (pa_cons (pv 3) pa_nil))) pe_int (nomark _)) (pw_and1 (pt_cmpR op_ne (pe_cl D_shadow_number G_shadow_number hrshadow_number (by rfl) (pa_cons (pe_cl D__law_choose G__law_choose hr_law_choose (by rfl) (pa_cons (pv 13) (pa_cons (pv 3) pa_nil))) (pa_cons (pv 3) pa_nil))) (pe_cl D_choose_points G_choose_points hrchoose_points (by rfl) (pa_cons (pv 13) (pa_cons (pe_op op_sub (pv 3) pe_int) pa_nil))) (nomark _))))) (pss_one (ps_ret pe_bl)) pss_nil)
      (pss_cons (ps_setLc (i := 14) rfl sc_law.nd rfl rfl (sw_true rfl rfl rfl (by decide +kernel)) (own := [("i", 16)]) (g := (gName 16)) (tt := tYes) (pi_range1 (by rfl) B.range (pa_cons pe_int pa_nil)) (blkOk_by (N := N_law) (sc := defScope s_law) (by decide +kernel)) (fun _ _ _ _ _ => (pg_name (i := 16) sc_law.nd rfl (.inl rfl))) (fun _ _ _ _ _ => pts_nil) (fun _ _ _ _ _ => (pe_cl D__law_lowest G__law_lowest hr_law_lowest (by rfl) (pa_cons (pe_op op_add (pe_op op_mulG (pv 13) (pv 4)) (pv 16)) (pa_cons (pv 4) pa_nil)))))
      (pss_cons (ps_setLc (i := 15) rfl sc_law.nd rfl rfl (sw_true rfl rfl rfl (by decide +kernel)) (own := [("y", 17)]) (g := (gName 17)) (tt := tYes) (pi_list (pv 14)) (blkOk_by (N := N_law) (sc := defScope s_law) (by decide +kernel)) (fun _ _ _ _ _ => (pg_name (i := 17) sc_law.nd rfl (.inl rfl))) (fun _ _ _ _ _ => pts_nil) (fun _ _ _ _ _ => (pe_cl D_lovasz_bound G_lovasz_bound hrlovasz_bound (by rfl) (pa_cons (pv 17) (pa_cons (pv 3) pa_nil)))))
      (pss_one (ps_if (pt_cmpR (op_neD hr.units) (pe_lc (own := [("one", 18), ("other", 19)]) (g := (gTup K 2 (gCons (gName 18) (gCons (gName 19) gNil)))) (tt := _) rfl sc_law.nd (pi_zip (by rfl) B.zip (pa_cons (pv 15) (pa_cons (pe_slice sl_list (pv 15) (po_some pe_int) po_none) pa_nil))) (blkOk_by (N := N_law) (sc := defScope s_law) (by decide +kernel)) (fun _ _ _ _ _ => (pg_tup rfl (pgs_cons (pg_name (i := 18) sc_law.nd rfl (.inl rfl)) (pgs_cons (pg_name (i := 19) sc_law.nd rfl (.inl rfl)) pgs_nil)))) (fun _ _ _ _ _ => (pts_one (pt_cmpR op_gt (pe_op op_mulG (pe_ix (ix_tupK K rfl) (pv 18) pe_int (fun _ _ => rfl)) (pe_ix (ix_tupK K rfl) (pv 19) pe_int (fun _ _ => rfl))) (pe_op op_mulG (pe_ix (ix_tupK K rfl) (pv 19) pe_int (fun _ _ => rfl)) (pe_ix (ix_tupK K rfl) (pv 18) pe_int (fun _ _ => rfl))) (nomark _)))) (fun _ _ _ _ _ => pe_int)) (pe_lst pa_nil) (nomark _)) (pss_one (ps_ret pe_bl)) pss_nil)))))))))))))))))
    (pss_one (ps_ret (pe_and (pe_cmpR (op_eqD hr.units) (pe_cl D_choose_at G_choose_at hrchoose_at (by rfl) (pa_cons (pe_tup (pa_cons pe_int (pa_cons pe_int pa_nil))) (pa_cons pe_int pa_nil))) (pe_tup (pa_cons pe_int (pa_cons pe_int pa_nil))) (nomark _)) (pe_one (pe_cmpR (op_eqD hr.units) (pe_cl D_choose_at G_choose_at hrchoose_at (by rfl) (pa_cons (pe_tup (pa_cons pe_int (pa_cons pe_int pa_nil))) (pa_cons pe_int pa_nil))) (pe_tup (pa_cons pe_int (pa_cons pe_int pa_nil))) (nomark _)))))))), ?_⟩
    refine ⟨_, rfl, a, ns, rfl, hS, by omega, fun H1 p c s1 np nc src => ?_⟩
    refine ⟨_, rfl, by decide, by decide, ?_⟩
    refine for_range (lo := 0) (n := (4 : Int).toNat) (fun _ σ H' => ∃ l : List (Option V), σ = some (.ref a) :: some (.ref p) :: l ∧ l.length = 18 ∧ Src H' p c) ⟨_, rfl, rfl, src⟩ (fun i σ H' hi ⟨l, e1, el, src⟩ => ?_) (fun σ H' ⟨l, e1, el, src⟩ => ?_)
    · obtain ⟨v2, v3, v4, v5, v6, v7, v8, v9, v10, v11, v12, v13, v14, v15, v16, v17, v18, v19, rfl⟩ := len18 l el
      subst e1
      refine seq_cut (fun σ' H' => ∃ (k q : Nat) (v2 v5 v6 v7 v8 v9 v10 v11 v12 v13 v14 v15 v16 v17 v18 v19 : Option V), σ' = [some (.ref a), some (.ref p), v2, some (.int ((k + 1 : Nat) : Int)), some (.int q), v5, v6, v7, v8, v9, v10, v11, v12, v13, v14, v15, v16, v17, v18, v19] ∧ k < 12 ∧ 1 ≤ q ∧ q ≤ 60 ∧ Src H' p c) (fun σ' H' h => ?_) (fun rest => ?_)
      · clear src
        obtain ⟨k, q, v2, v5, v6, v7, v8, v9, v10, v11, v12, v13, v14, v15, v16, v17, v18, v19, rfl, hk, hq1, hq2, src⟩ := h
        have q40 : ((40 : Int) * (q : Int)) = ((40 * q : Nat) : Int) := by omega
        -- x, b
        refine ⟨_, rfl, _, rfl, _, _, rfl, rfl, mulG_l (n := 2 ^ 64) (by decide), p, c, _, rfl, by omega, src, fun H2 r b2 src2 r0 rl => ?_⟩
        refine ⟨_, _, rfl, rfl, _, rfl, _, _, rfl, by omega, lt8000 (by omega), fun tx H3 s3 ntx htx => ?_⟩
        have src3 := src2.same s3
        have fr : Fr (rd (r + 1) q).1 (rd (r + 1) q).2 := fr_rd hq1 hq2 (by omega) (by omega)
        refine ⟨_, rfl, p, c, 13, rfl, by decide, src3, fun H4 b b4 src4 r40 r4l => ?_⟩
        obtain ⟨b, rfl⟩ := Int.eq_ofNat_of_zero_le r40
        have htx4 := but_tup src3 b4 htx
        refine gn_go (nx_go ?_)
        refine seq_cut (t1 := tIfS _ _ _) (fun σ' H' => ∃ (v2 v5 v6 v7 v8 v9 v10 v11 v12 v13 v14 v15 v16 v17 v18 v19 : Option V), σ' = [some (.ref a), some (.ref p), v2, some (.int ((k + 1 : Nat) : Int)), some (.int q), v5, v6, v7, v8, v9, v10, v11, v12, v13, v14, v15, v16, v17, v18, v19] ∧ Src H' p c) (fun σ' H' h => ?_) (fun rest => ?_)
        · clear src src2 src3 src4 b2 b4 s3 ntx htx htx4 fr r0 rl r40 r4l
          obtain ⟨v2, v5, v6, v7, v8, v9, v10, v11, v12, v13, v14, v15, v16, v17, v18, v19, rfl, src⟩ := h
          have e39 : ((40 : Int) - ((k + 1 : Nat) : Int)) * (q : Int) = (((39 - k) * q : Nat) : Int) := by
            rw [show ((40 : Int) - ((k + 1 : Nat) : Int)) = ((39 - k : Nat) : Int) by omega, ← Int.natCast_mul]
          have ekq : ((k + 1 : Nat) : Int) * (q : Int) = (((k + 1) * q : Nat) : Int) := by rw [← Int.natCast_mul]
          have e40 : (k + 1) * q + (39 - k) * q = 40 * q := by rw [← Nat.add_mul, show k + 1 + (39 - k) = 40 by omega]
          -- x, lots, shadow
          refine ⟨_, rfl, _, rfl, _, _, rfl, rfl, mulG_l (n := 2 ^ 64) (by omega), _, rfl, _, rfl, _, _, rfl, rfl, _, rfl, _, _, rfl, rfl, mulG_l (n := 2 ^ 64) (by omega), _, _, rfl, rfl, p, c, _, rfl, by rw [e39]; omega, src, fun H2 r b2 src2 r0 rl => ?_⟩
          rw [e39] at rl
          refine ⟨_, _, rfl, rfl, _, rfl, _, _, rfl, by omega, lt8000 (by omega), fun tx H3 s3 ntx htx => ?_⟩
          rw [ekq] at htx
          have src3 := src2.same s3
          have fr : Fr (rd (((k + 1) * q : Nat) + r) q).1 (rd (((k + 1) * q : Nat) + r) q).2 := fr_rd hq1 hq2 (by omega) (by omega)
          have hx : ((k + 1 : Nat) : Int) * (rd (((k + 1) * q : Nat) + r) q).2 ≤ (rd (((k + 1) * q : Nat) + r) q).1 := rd_ge (by omega) (by rw [ekq]; omega)
          generalize (rd (((k + 1) * q : Nat) + r) q).1 = x0 at htx fr hx
          generalize (rd (((k + 1) * q : Nat) + r) q).2 = x1 at htx fr hx
          have bu := fr.u (b := k + 1) (by omega)
          have bv := fr.v (b := k + 1) (by omega)
          have bu' := fr.u (b := k) (by omega)
          have bv' := fr.v (b := k) (by omega)
          refine ⟨_, rfl, _, rfl, tx, _, _, k + 1, rfl, SqT.of htx, fr.p1, fr.p2, fr.p0, by omega, fun tl H4 s4 ntl htl => ?_⟩
          refine ⟨_, rfl, _, rfl, _, _, rfl, rfl, tx, _, _, k, congrArg (fun z => [V.ref tx, z]) (pred_int k), SqT.of (s4 _ _ htx), fr.p1, fr.p2, fr.p0, by omega, fun ts H5 s5 nts hts => ?_⟩
          refine ⟨_, _, rfl, ?_⟩
          have htx5 := s5 _ _ (s4 _ _ htx)
          have htl5 := s5 _ _ htl
          have src5 := (src3.same s4).same s5
          refine ⟨_, rfl, _, rfl, tx, _, _, k + 1, rfl, SqT.of htx5, fr.p1, fr.p2, fr.p0, by omega, fun t6 H6 s6 nt6 ht6 => ?_⟩
          refine ⟨_, rfl, _, rfl, tx, _, _, k, rfl, SqT.of (s6 _ _ htx5), fr.p1, fr.p2, fr.p0, by omega, fun t7 H7 s7 nt7 ht7 => ?_⟩
          refine ⟨by show 2 ≤ sizeLine; decide, fun l nl => ?_⟩
          have s8 : Same H5 _ := (s6.trans s7).trans (same_new (o := .lst [.ref t6, .ref t7]) nl)
          refine ⟨_, _, rfl, dp_two upd_same (same_new nl _ _ (s7 _ _ ht6)) (same_new nl _ _ ht7), pl_s bu bv bu' bv', pl_d, pl_l bu bv bu' bv', ?_⟩
          refine ⟨_, rfl, _, rfl, by show 2 ≤ sizeLine; decide, fun l2 nl2 => ?_⟩
          have s9 : Same H5 _ := s8.trans (same_new (o := .lst [.ref tl, .ref ts]) nl2)
          refine ⟨_, _, rfl, dp_two upd_same (s9 _ _ htl5) (s9 _ _ hts), pl_s bu bv bu' bv', pl_d, pl_l bu bv bu' bv', ?_⟩
          refine ⟨rfl, _, rfl, if_ne_same rfl (next_go (nx_go ?_))⟩
          have htx9 := s9 _ _ htx5
          have htl9 := s9 _ _ htl5
          have hts9 := s9 _ _ hts
          have src9 := src5.same s9
          -- least
          have lp := lst_pos fr.p1 hx
          obtain ⟨L, hL⟩ := Int.eq_ofNat_of_zero_le (show 0 ≤ lst x0 x1 (k + 1) by omega)
          refine seq_cut (t1 := tAsg _ _) (fun σ' H' => ∃ (v10 v11 v12 v13 v14 v15 v16 v17 v18 v19 : Option V), σ' = [some (.ref a), some (.ref p), v2, some (.int ((k + 1 : Nat) : Int)), some (.int q), some (.ref tx), v6, some (.ref tl), some (.ref ts), some (.int L), v10, v11, v12, v13, v14, v15, v16, v17, v18, v19] ∧ Src H' p c ∧
            H' tx = some (.tup [.int x0, .int x1]) ∧ H' ts = some (.tup [.int (cat x0 x1 k).1, .int (cat x0 x1 k).2])) (fun σ' H' h => ?_) (fun rest => ?_)
          · obtain ⟨v10, v11, v12, v13, v14, v15, v16, v17, v18, v19, rfl, src, htx, hts⟩ := h
            refine seq_cut (t1 := tIfS _ _ _) (fun σ' H' => ∃ (v2 v5 v6 v7 v8 v9 v10 v11 v12 v13 v14 v15 v16 v17 v18 v19 : Option V), σ' = [some (.ref a), some (.ref p), v2, some (.int ((k + 1 : Nat) : Int)), some (.int q), v5, v6, v7, v8, v9, v10, v11, v12, v13, v14, v15, v16, v17, v18, v19] ∧ Src H' p c) (fun σ' H' h => ?_) (fun rest => ?_)
            · clear src htx hts
              obtain ⟨v2, v5, v6, v7, v8, v9, v10, v11, v12, v13, v14, v15, v16, v17, v18, v19, rfl, src⟩ := h
              -- a
              refine ⟨_, rfl, _, rfl, p, c, 12, rfl, by decide, src, fun H6 r b6 src6 r60 r6l => ?_⟩
              obtain ⟨r, rfl⟩ := Int.eq_ofNat_of_zero_le r60
              refine ⟨_, _, rfl, rfl, gn_go (nx_go ?_)⟩
              clear src
              have ecb : cb (((k + 1 : Nat) : Int) + (r : Int)) ((k + 1 : Nat) : Int) = (ch (k + 1 + r) (k + 1) : Int) := cb_nat (k + 1 + r) (k + 1)
              have ecb' : cb (((k + 1 : Nat) : Int) + (r : Int)) (((k + 1 : Nat) : Int) - 1) = (ch (k + 1 + r) k : Int) := by
                rw [show ((k + 1 : Nat) : Int) - 1 = (k : Int) by omega]
                exact cb_nat (k + 1 + r) k
              refine seq_cut (t1 := tIfS _ _ _) (fun σ' H' => σ' = [some (.ref a), some (.ref p), v2, some (.int ((k + 1 : Nat) : Int)), some (.int q), v5, v6, v7, v8, v9, v10, v11, v12, some (.int (((k + 1 : Nat) : Int) + (r : Int))), v14, v15, v16, v17, v18, v19] ∧ Src H' p c) (fun σ' H' h => ?_) (fun rest => ?_)
              · obtain ⟨rfl, src⟩ := h
                refine seq_cut (t1 := tIfS _ _ _) (fun σ' H' => σ' = [some (.ref a), some (.ref p), v2, some (.int ((k + 1 : Nat) : Int)), some (.int q), v5, v6, v7, v8, v9, v10, v11, v12, some (.int (((k + 1 : Nat) : Int) + (r : Int))), v14, v15, v16, v17, v18, v19] ∧ Src H' p c) (fun σ' H' h => ?_) (fun rest => ?_)
                · clear src
                  obtain ⟨rfl, src⟩ := h
                  have gg : ∀ i : Nat, i < 3 → Fr (rd ((((k + 1 : Nat) : Int) + (r : Int)) * (q : Int) + (i : Int)) q).1 (rd ((((k + 1 : Nat) : Int) + (r : Int)) * (q : Int) + (i : Int)) q).2 := fun i hi => by
                    have e : (((k + 1 : Nat) : Int) + (r : Int)) * (q : Int) = (((k + 1 + r) * q : Nat) : Int) := by rw [Int.natCast_mul]; rfl
                    have l : (k + 1 + r) * q ≤ 24 * 60 := Nat.mul_le_mul (by omega) (by omega)
                    rw [e]
                    exact fr_rd hq1 hq2 (by omega) (by omega)
                  have e0 : (((k + 1 : Nat) : Int) + (r : Int)) * (q : Int) = (((k + 1 + r) * q : Nat) : Int) := by rw [Int.natCast_mul]; rfl
                  have e0l : (k + 1 + r) * q ≤ 24 * 60 := Nat.mul_le_mul (by omega) (by omega)
                  -- near
                  refine ⟨_, rfl, by decide, by decide, fun D nD => ?_⟩
                  refine lc_it (walk_range (lo := 0) (n := (3 : Int).toNat)) (fun i H2 => ∃ ts : List Addr, ts.length = i ∧ Same H' H2 ∧ H2 D = some (.lst (ts.map V.ref)) ∧
                    ∀ (j : Nat) (t : Addr), ts[j]? = some t → H2 t = some (.tup [.int (rd ((((k + 1 : Nat) : Int) + (r : Int)) * (q : Int) + (j : Int)) q).1, .int (rd ((((k + 1 : Nat) : Int) + (r : Int)) * (q : Int) + (j : Int)) q).2]))
                    ⟨[], rfl, same_new nD, upd_same, fun j t h => by cases h⟩ (fun _ _ _ _ => trivial) (fun i x H2 H3 hi ⟨tl, el, s2, hD, ht⟩ ⟨e3, hx⟩ => ?_) (fun H2 ⟨tl, el, s2, hD, ht⟩ => ?_)
                  · subst e3 hx
                    have hi : i < 3 := hi
                    refine ⟨rfl, ?_⟩
                    refine lc_yes ?_
                    refine ⟨_, rfl, _, rfl, _, _, rfl, rfl, mulG_l (n := 2 ^ 64) (by omega), _, rfl, _, _, rfl, rfl, _, rfl, _, _, rfl, by omega, lt8000 (by omega), fun t H4 s4 nt ht4 => ?_⟩
                    rw [Int.zero_add] at ht4
                    have nDt : t ≠ D := fun e => by rw [e, hD] at nt; cases nt
                    refine ⟨_, s4 _ _ hD, by rw [List.length_map]; exact Nat.lt_of_le_of_lt (show tl.length ≤ 3 by omega) (by decide), tl ++ [t], by simp [el], same_mut (s2.trans s4) nD, by rw [upd_same]; simp, fun j t' h => ?_⟩
                    by_cases hj : j < tl.length
                    · rw [List.getElem?_append_left hj] at h
                      have q1 := ht j t' h
                      have n1 : t' ≠ D := ne_of q1 hD (by intro z; cases z)
                      rw [upd_ne n1]
                      exact s4 _ _ q1
                    · rw [List.getElem?_append_right (by omega)] at h
                      have ej : j = i := by
                        have : j - tl.length < 1 := (List.getElem?_eq_some_iff.mp h).1
                        omega
                      subst ej
                      rw [el, Nat.sub_self] at h
                      have : t = t' := Option.some.inj h
                      subst this
                      rw [upd_ne nDt]
                      exact ht4
                  · -- told
                    refine gn_go (nx_go ?_)
                    have el3 : tl.length = 3 := el
                    refine ⟨_, rfl, D, rfl, ⟨_, SqL.of hD⟩, fun D2 nD2 => ?_⟩
                    refine lc_it (walk_list (K := K) (a := D) (xs := tl.map V.ref)) (fun i H3 => ∃ us : List Addr, us.length = i ∧ Same H2 H3 ∧ H3 D2 = some (.lst (us.map V.ref)) ∧
                      ∀ (j : Nat) (t : Addr), us[j]? = some t → H3 t = some (.tup [.int (cat (rd ((((k + 1 : Nat) : Int) + (r : Int)) * (q : Int) + (j : Int)) q).1 (rd ((((k + 1 : Nat) : Int) + (r : Int)) * (q : Int) + (j : Int)) q).2 k).1, .int (cat (rd ((((k + 1 : Nat) : Int) + (r : Int)) * (q : Int) + (j : Int)) q).1 (rd ((((k + 1 : Nat) : Int) + (r : Int)) * (q : Int) + (j : Int)) q).2 k).2]))
                      ⟨[], rfl, same_new nD2, upd_same, fun j t h => by cases h⟩ (fun i H3 _ ⟨_, _, s3, _, _⟩ => SqL.of (s3 _ _ hD)) (fun i x H3 H4 hi ⟨us, eu, s3, hD2, hu⟩ ⟨e3, hx⟩ => ?_) (fun H3 ⟨us, eu, s3, hD2, hu⟩ => ?_)
                    · subst e3
                      rw [List.length_map] at hi
                      rw [List.getElem?_map, List.getElem?_eq_getElem hi] at hx
                      cases hx
                      have hty := s3 _ _ (ht i _ (List.getElem?_eq_getElem hi))
                      have fr := gg i (by omega)
                      refine ⟨rfl, ?_⟩
                      refine lc_yes ?_
                      refine ⟨_, rfl, _, rfl, _, _, _, k, rfl, SqT.of hty, fr.p1, fr.p2, fr.p0, by omega, fun t H5 s5 nt ht5 => ?_⟩
                      have nDt : t ≠ D2 := fun e => by rw [e, hD2] at nt; cases nt
                      refine ⟨_, s5 _ _ hD2, by rw [List.length_map]; exact Nat.lt_of_le_of_lt (show us.length ≤ 3 by omega) (by decide), us ++ [t], by simp [eu], same_mut (s3.trans s5) nD2, by rw [upd_same]; simp, fun j t' h => ?_⟩
                      by_cases hj : j < us.length
                      · rw [List.getElem?_append_left hj] at h
                        have q1 := hu j t' h
                        have n1 : t' ≠ D2 := ne_of q1 hD2 (by intro z; cases z)
                        rw [upd_ne n1]
                        exact s5 _ _ q1
                      · rw [List.getElem?_append_right (by omega)] at h
                        have ej : j = i := by
                          have : j - us.length < 1 := (List.getElem?_eq_some_iff.mp h).1
                          omega
                        subst ej
                        rw [eu, Nat.sub_self] at h
                        have : t = t' := Option.some.inj h
                        subst this
                        rw [upd_ne nDt]
                        exact ht5
                    · refine gn_go (nx_go ?_)
                      rw [List.length_map] at eu
                      have eu3 : us.length = 3 := by omega
                      refine ifs_hp False (fun z => z.elim) (fun H4 s4 => next_go ⟨_, rfl, rfl, src.same ((s2.trans s3).trans s4)⟩) (fun yes no => ?_)
                      refine ⟨_, rfl, _, rfl, 1, rfl, D2, _, rfl, SqL.of hD2, fun c2 nc2 => ?_⟩
                      have nc2D : D2 ≠ c2 := ne_of_none hD2 nc2
                      refine ⟨D2, c2, us.map V.ref, (us.drop 1).map V.ref, rfl, SqL.of (by rw [upd_ne nc2D]; exact hD2), SqL.of ?_, fun D3 nD3 => ?_⟩
                      · rw [upd_same, cut_one, List.map_drop]
                      · refine lc_it (walk_zip (K := K) (a := D2) (b := c2) (xs := us.map V.ref) (ys := (us.drop 1).map V.ref) (n := 2) (by simp [eu3])) (fun i H5 => Same (upd H3 c2 (.lst (cutV (us.map V.ref) (some 1) none))) H5 ∧ H5 D3 = some (.lst [])) ⟨same_new nD3, upd_same⟩
                          (fun i H5 _ ⟨s5, _⟩ => ⟨SqL.of (s5 _ _ (by rw [upd_ne nc2D]; exact hD2)), SqL.of (s5 _ _ (by rw [upd_same, cut_one, List.map_drop]))⟩) (fun i x H5 H6 hi ⟨s5, hD3⟩ hy => ?_) (fun H5 ⟨s5, hD3⟩ => ?_)
                        · obtain ⟨T, x1, x2, rfl, nT, rfl, g1, g2⟩ := hy
                          have hi1 : i < us.length := by omega
                          have hi2 : i + 1 < us.length := by omega
                          have g1 : (us.map V.ref)[i]? = some x1 := g1
                          have g2 : ((us.drop 1).map V.ref)[i]? = some x2 := g2
                          rw [List.getElem?_map, List.getElem?_eq_getElem hi1] at g1
                          rw [List.getElem?_map, List.getElem?_drop, Nat.add_comm 1 i, List.getElem?_eq_getElem hi2] at g2
                          cases g1
                          cases g2
                          have nTD : D3 ≠ T := ne_of_none hD3 nT
                          have h1 := same_new (o := .tup [V.ref us[i], V.ref us[i + 1]]) nT _ _ (s5 _ _ (same_new (o := .lst (cutV (us.map V.ref) (some 1) none)) nc2 _ _ (hu i _ (List.getElem?_eq_getElem hi1))))
                          have h2 := same_new (o := .tup [V.ref us[i], V.ref us[i + 1]]) nT _ _ (s5 _ _ (same_new (o := .lst (cutV (us.map V.ref) (some 1) none)) nc2 _ _ (hu (i + 1) _ (List.getElem?_eq_getElem hi2))))
                          have f1 := gg i (by omega)
                          have f2 := gg (i + 1) (by omega)
                          refine ⟨T, _, rfl, SqT.of upd_same, rfl, _, _, rfl, _, _, rfl, rfl, rfl, ?_⟩
                          refine ⟨_, rfl, us[i], _, 0, _, rfl, rfl, SqT.of h1, atI_nat (j := 0) rfl, _, rfl, us[i + 1], _, 1, _, rfl, rfl, SqT.of h2, atI_nat (j := 1) rfl, _, _, rfl, rfl, f1.mul f2 (by omega),
                            _, rfl, us[i + 1], _, 0, _, rfl, rfl, SqT.of h2, atI_nat (j := 0) rfl, _, rfl, us[i], _, 1, _, rfl, rfl, SqT.of h1, atI_nat (j := 1) rfl, _, _, rfl, rfl, f2.mul f1 (by omega), _, _, rfl, rfl, _, rfl, if_dec (fun h3 => ?_) (fun _ => ?_)⟩
                          · exfalso
                            have nk := near_ok (p := (((k + 1 : Nat) : Int) + (r : Int)) * (q : Int) + (i : Int)) (p' := (((k + 1 : Nat) : Int) + (r : Int)) * (q : Int) + ((i + 1 : Nat) : Int)) (q := q) (show 1 ≤ (q : Int) by omega) (b := k) (by omega) (by
                              have : ((k : Int) - 1) * q ≤ (((k + 1 : Nat) : Int) + (r : Int)) * (q : Int) := Int.mul_le_mul_of_nonneg_right (by omega) (by omega)
                              omega)
                            rw [cat_rd (by omega), cat_rd (by omega)] at h3
                            omega
                          · exact ⟨s5.trans (same_new nT), by rw [upd_ne nTD]; exact hD3⟩
                        · refine ⟨Nat.zero_le _, fun l nl => ?_⟩
                          refine ⟨.list [], .list [], .lst (SqL.of (same_new nl _ _ hD3)) .nil, .lst (SqL.of upd_same) .nil, by decide, by decide, _, rfl, ?_⟩
                          refine if_eqv (by decide) ?_
                          refine no _ ?_
                          exact ((same_new nc2).trans s5).trans (same_new nl)
                · refine ifs_hp False (fun z => z.elim) (fun H2 s2 => next_go (rest _ _ ⟨rfl, src.same s2⟩)) (fun yes no => ?_)
                  refine ⟨_, rfl, _, rfl, k + 1 + r, k + 1, rfl, by omega, by omega, _, _, rfl, rfl, _, rfl, if_dec (fun h1 => ?_) (fun _ => iteF (no _ (same_refl _)))⟩
                  refine ⟨_, rfl, _, rfl, k + 1 + r, k + 1, rfl, by omega, by omega, _, rfl, ch (k + 1 + r) (k + 1), k + 1, rfl, by omega, by omega, by omega, fun H7 s7 => ?_⟩
                  refine ⟨_, rfl, _, rfl, _, _, rfl, rfl, _, _, rfl, by omega, by omega, rfl, _, rfl, if_ne_same ?_ (no _ s7)⟩
                  rw [sh_ch (by omega), ecb']
              · refine ifs_hp False (fun z => z.elim) (fun H2 s2 => next_go (rest _ _ ⟨rfl, src6.same s2⟩)) (fun yes no => ?_)
                refine ⟨_, rfl, by show 2 ≤ sizeLine; decide, fun t1 nt1 => ⟨_, rfl, t1, ((k + 1 + r : Nat) : Int), 1, k + 1, rfl, SqT.of upd_same, by decide, by decide, by omega, by omega, fun t2 H7 s7 nt2 ht2 => ?_⟩⟩
                rw [cat_whole] at ht2
                refine ⟨_, rfl, _, rfl, _, _, rfl, by omega, by omega, by show 2 ≤ sizeLine; decide, fun t3 nt3 => ?_⟩
                have s8 := (same_new (o := .tup [.int ((k + 1 + r : Nat) : Int), .int 1]) nt1).trans (s7.trans (same_new (o := .tup [.int (cb (((k + 1 : Nat) : Int) + (r : Int)) ((k + 1 : Nat) : Int)), .int 1]) nt3))
                refine ⟨pd (ch (k + 1 + r) (k + 1)) 1, pd (ch (k + 1 + r) (k + 1)) 1, dp_pair (same_new nt3 _ _ ht2), dp_pair (by rw [← ecb]; exact upd_same), pd_sh _ _, pd_sh _ _, _, rfl, if_eqv (pd_eqv _ _) ?_⟩
                refine ⟨_, rfl, by show 2 ≤ sizeLine; decide, fun t4 nt4 => ⟨_, rfl, t4, ((k + 1 + r : Nat) : Int), 1, k, rfl, SqT.of upd_same, by decide, by decide, by omega, by omega, fun t5 H9 s9 nt5 ht5 => ?_⟩⟩
                rw [cat_whole] at ht5
                refine ⟨_, rfl, _, rfl, _, _, rfl, rfl, _, _, rfl, by omega, by omega, by show 2 ≤ sizeLine; decide, fun t6 nt6 => ?_⟩
                have s10 := s8.trans ((same_new (o := .tup [.int ((k + 1 + r : Nat) : Int), .int 1]) nt4).trans (s9.trans (same_new (o := .tup [.int (cb (((k + 1 : Nat) : Int) + (r : Int)) (((k + 1 : Nat) : Int) - 1)), .int 1]) nt6)))
                refine ⟨pd (ch (k + 1 + r) k) 1, pd (ch (k + 1 + r) k) 1, dp_pair (same_new nt6 _ _ ht5), dp_pair (by rw [← ecb']; exact upd_same), pd_sh _ _, pd_sh _ _, _, rfl, if_eqv (pd_eqv _ _) ?_⟩
                exact no _ s10
            · generalize (120000 : Int) = big
              refine ifs_hp (L ≤ 2000000) (fun hE => ?_) (fun H2 s2 => next_go (rest _ _ ⟨v2, some (.ref tx), v6, some (.ref tl), some (.ref ts), some (.int L), v10, v11, v12, v13, v14, v15, v16, v17, v18, v19, rfl, src.same s2⟩)) (fun yes no => ?_)
              · -- for more in ..
                refine ⟨_, rfl, p, c, 300, rfl, by decide, src, fun H6 r b6 src6 r60 r6l => ?_⟩
                obtain ⟨r, rfl⟩ := Int.eq_ofNat_of_zero_le r60
                refine ⟨by show 3 ≤ sizeLine; decide, fun t nt => ?_⟩
                have htx6 := same_new (o := .tup [.int 0, .int 1, .int (r : Int)]) nt _ _ (but_tup src b6 htx)
                have hts6 := same_new (o := .tup [.int 0, .int 1, .int (r : Int)]) nt _ _ (but_tup src b6 hts)
                refine ⟨t, rfl, ⟨_, SqT.of upd_same⟩, for_tup (K := K) (a := t) (xs := [.int 0, .int 1, .int (r : Int)]) (fun i σ' H' => ∃ (v10 v11 : Option V),
                  σ' = [some (.ref a), some (.ref p), v2, some (.int ((k + 1 : Nat) : Int)), some (.int q), some (.ref tx), v6, some (.ref tl), some (.ref ts), some (.int L), v10, v11, v12, v13, v14, v15, v16, v17, v18, v19] ∧ Src H' p c ∧
                  H' t = some (.tup [.int 0, .int 1, .int (r : Int)]) ∧ H' tx = some (.tup [.int x0, .int x1]) ∧ H' ts = some (.tup [.int (cat x0 x1 k).1, .int (cat x0 x1 k).2]))
                  ⟨v10, v11, rfl, src6.same (same_new nt), upd_same, htx6, hts6⟩ (fun i σ' H' _ ⟨_, _, _, _, ht, _, _⟩ => SqT.of ht) (fun i x σ' H' hi ⟨w10, w11, e1, src, ht, htx, hts⟩ => ?_) (fun σ' H' ⟨w10, w11, e1, src, ht, htx, hts⟩ => ?_)⟩
                · subst e1
                  obtain ⟨e, rfl, he⟩ : ∃ e : Nat, x = V.int e ∧ e ≤ 300 := by
                    match i, hi with
                    | 0, hi => exact ⟨0, (Option.some.inj hi).symm, by omega⟩
                    | 1, hi => exact ⟨1, (Option.some.inj hi).symm, by omega⟩
                    | 2, hi => exact ⟨r, (Option.some.inj hi).symm, by omega⟩
                    | n + 3, hi => simp at hi
                  refine gn_go ?_
                  refine ⟨_, rfl, _, rfl, _, _, rfl, rfl, gn_go (nx_go ?_)⟩
                  refine ifs_hp False (fun z => z.elim) (fun H2 s2 => next_go ⟨some (.int e), some (.int ((L : Int) + e)), rfl, src.same s2, s2 _ _ ht, s2 _ _ htx, s2 _ _ hts⟩) (fun yes no => ?_)
                  refine ⟨_, rfl, _, _, rfl, rfl, _, rfl, if_dec (fun h1 => ?_) (fun _ => iteF (no _ (same_refl _)))⟩
                  refine ⟨_, rfl, _, _, rfl, rfl, _, rfl, if_dec (fun h2 => iteT ?_) (fun h2 => ⟨_, rfl, _, _, rfl, rfl, _, rfl, if_dec (fun h3 => ?_) (fun h3 => iteF (no _ (same_refl _)))⟩)⟩
                  all_goals
                    refine ⟨_, rfl, _, rfl, L + e, k + 1, rfl, by omega, by omega, by omega, fun H7 s7 => ?_⟩
                    have hsl := sh_le (k + 1) (L + e)
                    have hsb : sh (k + 1) (L + e) ≤ 13 * 2000301 := Nat.le_trans hsl (Nat.mul_le_mul (by omega) (by omega))
                    refine ⟨_, rfl, ts, _, 1, _, rfl, rfl, SqT.of (s7 _ _ hts), atI_nat (j := 1) rfl, _, _, rfl, rfl, mulG_l (n := 2 ^ 64) (by omega), _, rfl, ts, _, 0, _, rfl, rfl, SqT.of (s7 _ _ hts), atI_nat (j := 0) rfl, _, _, rfl, rfl, _, rfl, if_dec (fun h4 => ?_) (fun _ => no _ s7)⟩
                    have := shadow_ok (m := L + e) fr.p1 hx (by omega)
                    omega
                · subst e1
                  -- top
                  refine ⟨_, rfl, _, rfl, L, k + 1, rfl, by omega, by omega, by omega, gn_go (nx_go ?_)⟩
                  have tp := top_spec L (show 1 ≤ k + 1 by omega)
                  have tg := top_ge (show 1 ≤ k + 1 by omega) (show 1 ≤ L by omega)
                  have tl' := @top_lt L (k + 1) (by omega)
                  have tk := top_ok fr.p1 (show 1 ≤ k + 1 by omega) hx hL
                  have tle := tp.le
                  have tlt := tp.lt
                  generalize hT : top L (k + 1) = T at *
                  refine seq_cut (t1 := tIfS _ _ _) (fun σ' H' => σ' = [some (.ref a), some (.ref p), v2, some (.int ((k + 1 : Nat) : Int)), some (.int q), some (.ref tx), v6, some (.ref tl), some (.ref ts), some (.int L), w10, w11, some (.int T), v13, v14, v15, v16, v17, v18, v19] ∧
                    Src H' p c ∧ H' tx = some (.tup [.int x0, .int x1])) (fun σ' H' h => ?_) (fun rest2 => ?_)
                  · obtain ⟨rfl, src, htx⟩ := h
                    refine ifs_hp False (fun z => z.elim) (fun H2 s2 => next_go (rest _ _ ⟨v2, some (.ref tx), v6, some (.ref tl), some (.ref ts), some (.int L), w10, w11, some (.int T), v13, v14, v15, v16, v17, v18, v19, rfl, src.same s2⟩)) (fun yes no => ?_)
                    refine ⟨_, rfl, _, rfl, _, rfl, L, k + 1, rfl, by omega, by omega, by omega, fun t8 H8 s8 nt8 ht8 => ?_⟩
                    rw [casc_succ (show L ≠ 0 by omega), hT] at ht8
                    refine ⟨t8, _, 0, .int T, rfl, rfl, SqT.of ht8, atI_nat (j := 0) rfl, rfl, _, rfl, if_ne_same rfl ?_⟩
                    refine ⟨_, rfl, _, rfl, tx, _, 0, _, rfl, rfl, SqT.of (s8 _ _ htx), atI_nat (j := 0) rfl, _, rfl, tx, _, 1, _, rfl, rfl, SqT.of (s8 _ _ htx), atI_nat (j := 1) rfl, _, _, rfl, rfl, divG (by have := fr.p1; omega) (by have := fr.p1; have := fr.p2; omega), rfl, _, rfl, if_not_dec (fun e => ?_) (fun e => ?_)⟩
                    · refine ⟨_, rfl, _, rfl, T, k + 1, rfl, by omega, by omega, _, rfl, rfl, _, rfl, if_ne_same ?_ ?_⟩
                      · rcases tk with z | z
                        · exact absurd (by rw [z]) e
                        · rw [z]
                      · exact no _ s8
                    · refine iteF ?_
                      exact no _ s8
                  · refine ifs_hp False (fun z => z.elim) (fun H2 s2 => next_go (rest2 _ _ ⟨rfl, src.same s2, s2 _ _ htx⟩)) (fun yes no => ?_)
                    refine ⟨_, rfl, _, rfl, T, k + 1, rfl, by omega, by omega, _, rfl, _, _, rfl, rfl, _, rfl, if_dec (fun h1 => ?_) (fun h1 => (h1 (by omega)).elim)⟩
                    refine ⟨_, rfl, _, _, rfl, rfl, _, rfl, T + 1, k + 1, rfl, by omega, by omega, _, _, rfl, rfl, _, rfl, if_not_dec (fun h2 => (h2 (by omega)).elim) (fun h2 => ?_)⟩
                    refine ⟨_, rfl, _, rfl, _, _, rfl, rfl, _, rfl, if_dec (fun h3 => by omega) (fun h3 => ?_)⟩
                    exact no _ (same_refl _)
              · refine ⟨_, rfl, _, _, rfl, rfl, _, rfl, if_dec (fun h1 => ?_) (fun _ => iteF (no _ (same_refl _)))⟩
                have hE : L ≤ 2000000 := by omega
                refine ⟨_, rfl, _, _, rfl, rfl, _, rfl, if_dec (fun h2 => iteT ?_) (fun h2 => ⟨_, rfl, _, _, rfl, rfl, _, rfl, if_dec (fun h3 => ?_) (fun h3 => iteF (no _ (same_refl _)))⟩)⟩
                all_goals
                  refine ⟨_, rfl, _, _, rfl, rfl, _, rfl, ?_⟩
                  refine if_dec (fun h2 => ?_) (fun h2 => ?_)
                  · refine iteT ?_
                    exact yes hE
                  · refine ⟨_, rfl, _, _, rfl, rfl, ?_⟩
                    refine ⟨_, rfl, ?_⟩
                    refine if_dec (fun h3 => ?_) (fun h3 => ?_)
                    · exact yes hE
                    · exact no _ (same_refl _)
          · refine ⟨_, rfl, tl, _, 0, _, rfl, rfl, SqT.of htl9, atI_nat (j := 0) rfl, _, rfl, tl, _, 1, _, rfl, rfl, SqT.of htl9, atI_nat (j := 1) rfl, _, _, rfl, rfl, _, _, rfl, rfl, _, rfl, tl, _, 1, _, rfl, rfl, SqT.of htl9, atI_nat (j := 1) rfl, _, _, rfl, rfl, fr.div (b := k + 1) (by omega), ?_⟩
            refine rest _ _ ⟨v10, v11, v12, v13, v14, v15, v16, v17, v18, v19, ?_, src9, htx9, hts9⟩
            rw [← hL]
            rfl
        · refine ⟨_, rfl, _, rfl, tx, _, _, b, rfl, SqT.of htx4, fr.p1, fr.p2, fr.p0, by omega, fun t5 H5 s5 nt5 ht5 => ?_⟩
          have bu := fr.u (b := b) (by omega)
          have bv := fr.v (b := b) (by omega)
          refine ⟨_, _, rfl, dp_pair ht5, pr_s bu bv, pr_d, pr_l bu bv, ?_⟩
          refine ⟨_, rfl, _, rfl, tx, _, _, b, rfl, SqT.of (s5 _ _ htx4), fr.p1, fr.p2, fr.p0, by omega, fun t6 H6 s6 nt6 ht6 => ?_⟩
          refine ⟨_, _, rfl, dp_pair ht6, pr_s bu bv, pr_d, pr_l bu bv, ?_⟩
          refine ⟨rfl, _, rfl, if_ne_same rfl (next_go ?_)⟩
          exact rest _ _ ⟨v2, some (.ref tx), some (.int b), v7, v8, v9, v10, v11, v12, v13, v14, v15, v16, v17, v18, v19, rfl, (src4.same s5).same s6⟩
      · refine ⟨_, rfl, p, c, 12, rfl, by decide, src, fun H2 r1 b1 src1 r10 r11 => ?_⟩
        obtain ⟨k, rfl⟩ := Int.eq_ofNat_of_zero_le r10
        refine ⟨_, _, rfl, rfl, _, rfl, p, c, 60, rfl, by decide, src1, fun H3 r2 b2 src2 r20 r21 => ?_⟩
        obtain ⟨q, rfl⟩ := Int.eq_ofNat_of_zero_le r20
        refine ⟨_, _, rfl, rfl, by show 2 ≤ sizeLine; decide, fun t nt => ⟨t, _, rfl, SqT.of upd_same, rfl, _, _, rfl, _, _, rfl, rfl, ?_⟩⟩
        refine rest _ _ ⟨k, q + 1, some (.int (0 + (i : Int))), v5, v6, v7, v8, v9, v10, v11, v12, v13, v14, v15, v16, v17, v18, v19, ?_, by omega, by omega, by omega, src2.same (same_new nt)⟩
        rw [show ((k + 1 : Nat) : Int) = 1 + (k : Int) by omega, show ((q + 1 : Nat) : Int) = 1 + (q : Int) by omega]
        rfl
    · obtain ⟨v2, v3, v4, v5, v6, v7, v8, v9, v10, v11, v12, v13, v14, v15, v16, v17, v18, v19, rfl⟩ := len18 l el
      subst e1
      refine ⟨by show 2 ≤ sizeLine; decide, fun t1 nt1 => ⟨t1, 0, 1, 0, rfl, SqT.of upd_same, by decide, by decide, by decide, by decide, fun t2 H2 s2 nt2 ht2 => ?_⟩⟩
      refine ⟨by show 2 ≤ sizeLine; decide, fun t3 nt3 => ?_⟩
      refine ⟨pd 1 1, pd 1 1, dp_pair (same_new nt3 _ _ ht2), dp_pair upd_same, pd_sh _ _, pd_sh _ _, ?_⟩
      rw [pd_eqv]
      refine ⟨true, rfl, iteT ?_⟩
      refine ⟨by show 2 ≤ sizeLine; decide, fun t4 nt4 => ⟨t4, 1, 2, 1, rfl, SqT.of upd_same, by decide, by decide, by decide, by decide, fun t5 H5 s5 nt5 ht5 => ?_⟩⟩
      refine ⟨by show 2 ≤ sizeLine; decide, fun t6 nt6 => ?_⟩
      refine ⟨pd 1 2, pd 1 2, dp_pair (same_new nt6 _ _ ht5), dp_pair upd_same, pd_sh _ _, pd_sh _ _, ?_⟩
      rw [pd_eqv]
      exact fin _
end
end K15
namespace K15
open PySem L2 Gk Ca
theorem all_mk {l : PySem.W.OpenLaw} {w : World} {K : PySem.W.Frag} {h : Heap} {mg : Str → Option Value} {fa : Addr} (X : K.In h) (G : h.Ns mainGlobals mg) (hfa : mg "law" = some (.ref fa))
    {f0 f1 f2 f3 f4 f5 f6 f7 f8 f9 f10 f11 f12 f13 : Addr} {od0 an0 od1 an1 od2 an2 od3 an3 od4 an4 od5 an5 od6 an6 od7 an7 od8 an8 od9 an9 od10 an10 od11 an11 od12 an12 od13 an13 : Option Addr} {sl0 sl1 sl2 sl3 sl4 sl5 sl6 sl7 sl8 sl9 sl10 sl11 sl12 sl13 : Array (Option Value)} {oc0 kV0 dc0 pm0 cd0 ct0 oc1 kV1 dc1 pm1 cd1 ct1 oc2 kV2 dc2 pm2 cd2 ct2 oc3 kV3 dc3 pm3 cd3 ct3 oc4 kV4 dc4 pm4 cd4 ct4 oc5 kV5 dc5 pm5 cd5 ct5 oc6 kV6 dc6 pm6 cd6 ct6 oc7 kV7 dc7 pm7 cd7 ct7 oc8 kV8 dc8 pm8 cd8 ct8 oc9 kV9 dc9 pm9 cd9 ct9 oc10 kV10 dc10 pm10 cd10 ct10 oc11 kV11 dc11 pm11 cd11 ct11 oc12 kV12 dc12 pm12 cd12 ct12 oc13 kV13 dc13 pm13 cd13 ct13 : Value}
    (a0 : PySem.W.nsIn K mainGlobals "choose_points" = some (some (.ref f0))) (l0 : K.lookup f0 = some ⟨oc0, od0, .func (PySem.W.fnOf "choose_points" "choose_points" (defArgs s_choose_points) (defBody s_choose_points) (defScope s_choose_points) .none kV0 dc0 pm0 an0 cd0 ct0), sl0⟩) (c0 : PySem.W.codeIn K cd0 "choose_points" = true) (k0 : PySem.W.keepIn K (.ref f0) = true)
    (a1 : PySem.W.nsIn K mainGlobals "greatest_at_most" = some (some (.ref f1))) (l1 : K.lookup f1 = some ⟨oc1, od1, .func (PySem.W.fnOf "greatest_at_most" "greatest_at_most" (defArgs s_greatest_at_most) (defBody s_greatest_at_most) (defScope s_greatest_at_most) .none kV1 dc1 pm1 an1 cd1 ct1), sl1⟩) (c1 : PySem.W.codeIn K cd1 "greatest_at_most" = true) (k1 : PySem.W.keepIn K (.ref f1) = true)
    (a2 : PySem.W.nsIn K mainGlobals "fraction_of" = some (some (.ref f2))) (l2 : K.lookup f2 = some ⟨oc2, od2, .func (PySem.W.fnOf "fraction_of" "fraction_of" (defArgs s_fraction_of) (defBody s_fraction_of) (defScope s_fraction_of) .none kV2 dc2 pm2 an2 cd2 ct2), sl2⟩) (c2 : PySem.W.codeIn K cd2 "fraction_of" = true) (k2 : PySem.W.keepIn K (.ref f2) = true)
    (a3 : PySem.W.nsIn K mainGlobals "choose_at" = some (some (.ref f3))) (l3 : K.lookup f3 = some ⟨oc3, od3, .func (PySem.W.fnOf "choose_at" "choose_at" (defArgs s_choose_at) (defBody s_choose_at) (defScope s_choose_at) .none kV3 dc3 pm3 an3 cd3 ct3), sl3⟩) (c3 : PySem.W.codeIn K cd3 "choose_at" = true) (k3 : PySem.W.keepIn K (.ref f3) = true)
    (a4 : PySem.W.nsIn K mainGlobals "lovasz_bound" = some (some (.ref f4))) (l4 : K.lookup f4 = some ⟨oc4, od4, .func (PySem.W.fnOf "lovasz_bound" "lovasz_bound" (defArgs s_lovasz_bound) (defBody s_lovasz_bound) (defScope s_lovasz_bound) .none kV4 dc4 pm4 an4 cd4 ct4), sl4⟩) (c4 : PySem.W.codeIn K cd4 "lovasz_bound" = true) (k4 : PySem.W.keepIn K (.ref f4) = true)
    (a5 : PySem.W.nsIn K mainGlobals "greatest_under" = some (some (.ref f5))) (l5 : K.lookup f5 = some ⟨oc5, od5, .func (PySem.W.fnOf "greatest_under" "greatest_under" (defArgs s_greatest_under) (defBody s_greatest_under) (defScope s_greatest_under) .none kV5 dc5 pm5 an5 cd5 ct5), sl5⟩) (c5 : PySem.W.codeIn K cd5 "greatest_under" = true) (k5 : PySem.W.keepIn K (.ref f5) = true)
    (a6 : PySem.W.nsIn K mainGlobals "cascade_of" = some (some (.ref f6))) (l6 : K.lookup f6 = some ⟨oc6, od6, .func (PySem.W.fnOf "cascade_of" "cascade_of" (defArgs s_cascade_of) (defBody s_cascade_of) (defScope s_cascade_of) .none kV6 dc6 pm6 an6 cd6 ct6), sl6⟩) (c6 : PySem.W.codeIn K cd6 "cascade_of" = true) (k6 : PySem.W.keepIn K (.ref f6) = true)
    (a7 : PySem.W.nsIn K mainGlobals "shadow_number" = some (some (.ref f7))) (l7 : K.lookup f7 = some ⟨oc7, od7, .func (PySem.W.fnOf "shadow_number" "shadow_number" (defArgs s_shadow_number) (defBody s_shadow_number) (defScope s_shadow_number) .none kV7 dc7 pm7 an7 cd7 ct7), sl7⟩) (c7 : PySem.W.codeIn K cd7 "shadow_number" = true) (k7 : PySem.W.keepIn K (.ref f7) = true)
    (a8 : PySem.W.nsIn K mainGlobals "_law_open_cells" = some (some (.ref f8))) (l8 : K.lookup f8 = some ⟨oc8, od8, .func (PySem.W.fnOf "_law_open_cells" "_law_open_cells" (defArgs s__law_open_cells) (defBody s__law_open_cells) (defScope s__law_open_cells) .none kV8 dc8 pm8 an8 cd8 ct8), sl8⟩) (c8 : PySem.W.codeIn K cd8 "_law_open_cells" = true) (k8 : PySem.W.keepIn K (.ref f8) = true)
    (a9 : PySem.W.nsIn K mainGlobals "_law_pick" = some (some (.ref f9))) (l9 : K.lookup f9 = some ⟨oc9, od9, .func (PySem.W.fnOf "_law_pick" "_law_pick" (defArgs s__law_pick) (defBody s__law_pick) (defScope s__law_pick) .none kV9 dc9 pm9 an9 cd9 ct9), sl9⟩) (c9 : PySem.W.codeIn K cd9 "_law_pick" = true) (k9 : PySem.W.keepIn K (.ref f9) = true)
    (a10 : PySem.W.nsIn K mainGlobals "_law_choose" = some (some (.ref f10))) (l10 : K.lookup f10 = some ⟨oc10, od10, .func (PySem.W.fnOf "_law_choose" "_law_choose" (defArgs s__law_choose) (defBody s__law_choose) (defScope s__law_choose) .none kV10 dc10 pm10 an10 cd10 ct10), sl10⟩) (c10 : PySem.W.codeIn K cd10 "_law_choose" = true) (k10 : PySem.W.keepIn K (.ref f10) = true)
    (a11 : PySem.W.nsIn K mainGlobals "_law_lowest" = some (some (.ref f11))) (l11 : K.lookup f11 = some ⟨oc11, od11, .func (PySem.W.fnOf "_law_lowest" "_law_lowest" (defArgs s__law_lowest) (defBody s__law_lowest) (defScope s__law_lowest) .none kV11 dc11 pm11 an11 cd11 ct11), sl11⟩) (c11 : PySem.W.codeIn K cd11 "_law_lowest" = true) (k11 : PySem.W.keepIn K (.ref f11) = true)
    (a12 : PySem.W.nsIn K mainGlobals "_law_at" = some (some (.ref f12))) (l12 : K.lookup f12 = some ⟨oc12, od12, .func (PySem.W.fnOf "_law_at" "_law_at" (defArgs s__law_at) (defBody s__law_at) (defScope s__law_at) .none kV12 dc12 pm12 an12 cd12 ct12), sl12⟩) (c12 : PySem.W.codeIn K cd12 "_law_at" = true) (k12 : PySem.W.keepIn K (.ref f12) = true)
    (a13 : PySem.W.nsIn K mainGlobals "law" = some (some (.ref f13))) (l13 : K.lookup f13 = some ⟨oc13, od13, .func (PySem.W.fnOf "law" "law" (defArgs s_law) (defBody s_law) (defScope s_law) .none kV13 dc13 pm13 an13 cd13 ct13), sl13⟩) (c13 : PySem.W.codeIn K cd13 "law" = true) (k13 : PySem.W.keepIn K (.ref f13) = true)
    (z0 : PySem.W.nsIn K mainGlobals "abs" = some none)    (z1 : PySem.W.nsIn K mainGlobals "enumerate" = some none)    (z2 : PySem.W.nsIn K mainGlobals "int" = some none)    (z3 : PySem.W.nsIn K mainGlobals "len" = some none)    (z4 : PySem.W.nsIn K mainGlobals "range" = some none)    (z5 : PySem.W.nsIn K mainGlobals "repr" = some none)    (z6 : PySem.W.nsIn K mainGlobals "sum" = some none)    (z7 : PySem.W.nsIn K mainGlobals "tuple" = some none)    (z8 : PySem.W.nsIn K mainGlobals "zip" = some none)    (m0 : PySem.W.nsIn K mainGlobals "gcd" = some (some (.builtin "math.gcd"))) :
    ∃ fd : FuncData, (∀ (s : Shared) (v : Value), BindsTo s fd ⟨[v], []⟩ [("script", v)]) ∧ ∀ base : Heap, K.In base → base.Ns mainGlobals mg → FnG l.prog w K mg base 5 fa fd ["script"] (sp_law K) := by
  have e := hfa.symm.trans (PySem.W.mg_of X G a13)
  cases e
  have B : Bl mg := ⟨PySem.W.mg_none_of X G z0, PySem.W.mg_none_of X G z1, PySem.W.mg_none_of X G z2, PySem.W.mg_none_of X G z3, PySem.W.mg_none_of X G z4, PySem.W.mg_none_of X G z5, PySem.W.mg_none_of X G z6, PySem.W.mg_none_of X G z7, PySem.W.mg_none_of X G z8, PySem.W.mg_of X G m0⟩
  have F0 := fun_mk (st := s_choose_points) l0 c0 k0
  have D_choose_points : Df_choose_points K mg f0 _ := ⟨F0, PySem.W.mg_of X G a0, F0.binds (ps := ["a", "b"]) fun _ _ _ _ _ _ us hl => match us, hl with | [_, _], _ => rfl⟩
  have F1 := fun_mk (st := s_greatest_at_most) l1 c1 k1
  have D_greatest_at_most : Df_greatest_at_most K mg f1 _ := ⟨F1, PySem.W.mg_of X G a1, F1.binds (ps := ["m", "k"]) fun _ _ _ _ _ _ us hl => match us, hl with | [_, _], _ => rfl⟩
  have F2 := fun_mk (st := s_fraction_of) l2 c2 k2
  have D_fraction_of : Df_fraction_of K mg f2 _ := ⟨F2, PySem.W.mg_of X G a2, F2.binds (ps := ["p", "q"]) fun _ _ _ _ _ _ us hl => match us, hl with | [_, _], _ => rfl⟩
  have F3 := fun_mk (st := s_choose_at) l3 c3 k3
  have D_choose_at : Df_choose_at K mg f3 _ := ⟨F3, PySem.W.mg_of X G a3, F3.binds (ps := ["x", "b"]) fun _ _ _ _ _ _ us hl => match us, hl with | [_, _], _ => rfl⟩
  have F4 := fun_mk (st := s_lovasz_bound) l4 c4 k4
  have D_lovasz_bound : Df_lovasz_bound K mg f4 _ := ⟨F4, PySem.W.mg_of X G a4, F4.binds (ps := ["x", "k"]) fun _ _ _ _ _ _ us hl => match us, hl with | [_, _], _ => rfl⟩
  have F5 := fun_mk (st := s_greatest_under) l5 c5 k5
  have D_greatest_under : Df_greatest_under K mg f5 _ := ⟨F5, PySem.W.mg_of X G a5, F5.binds (ps := ["m", "k"]) fun _ _ _ _ _ _ us hl => match us, hl with | [_, _], _ => rfl⟩
  have F6 := fun_mk (st := s_cascade_of) l6 c6 k6
  have D_cascade_of : Df_cascade_of K mg f6 _ := ⟨F6, PySem.W.mg_of X G a6, F6.binds (ps := ["m", "k"]) fun _ _ _ _ _ _ us hl => match us, hl with | [_, _], _ => rfl⟩
  have F7 := fun_mk (st := s_shadow_number) l7 c7 k7
  have D_shadow_number : Df_shadow_number K mg f7 _ := ⟨F7, PySem.W.mg_of X G a7, F7.binds (ps := ["m", "k"]) fun _ _ _ _ _ _ us hl => match us, hl with | [_, _], _ => rfl⟩
  have F8 := fun_mk (st := s__law_open_cells) l8 c8 k8
  have D__law_open_cells : Df__law_open_cells K mg f8 _ := ⟨F8, PySem.W.mg_of X G a8, F8.binds (ps := ["script"]) fun _ _ _ _ _ _ us hl => match us, hl with | [_], _ => rfl⟩
  have F9 := fun_mk (st := s__law_pick) l9 c9 k9
  have D__law_pick : Df__law_pick K mg f9 _ := ⟨F9, PySem.W.mg_of X G a9, F9.binds (ps := ["source", "most"]) fun _ _ _ _ _ _ us hl => match us, hl with | [_, _], _ => rfl⟩
  have F10 := fun_mk (st := s__law_choose) l10 c10 k10
  have D__law_choose : Df__law_choose K mg f10 _ := ⟨F10, PySem.W.mg_of X G a10, F10.binds (ps := ["a", "b"]) fun _ _ _ _ _ _ us hl => match us, hl with | [_, _], _ => rfl⟩
  have F11 := fun_mk (st := s__law_lowest) l11 c11 k11
  have D__law_lowest : Df__law_lowest K mg f11 _ := ⟨F11, PySem.W.mg_of X G a11, F11.binds (ps := ["p", "q"]) fun _ _ _ _ _ _ us hl => match us, hl with | [_, _], _ => rfl⟩
  have F12 := fun_mk (st := s__law_at) l12 c12 k12
  have D__law_at : Df__law_at K mg f12 _ := ⟨F12, PySem.W.mg_of X G a12, F12.binds (ps := ["x", "b"]) fun _ _ _ _ _ _ us hl => match us, hl with | [_, _], _ => rfl⟩
  have F13 := fun_mk (st := s_law) l13 c13 k13
  have D_law : Df_law K mg fa _ := ⟨F13, PySem.W.mg_of X G a13, F13.binds (ps := ["script"]) fun _ _ _ _ _ _ us hl => match us, hl with | [_], _ => rfl⟩
  refine ⟨PySem.W.fnOf "law" "law" (defArgs s_law) (defBody s_law) (defScope s_law) .none kV13 dc13 pm13 an13 cd13 ct13, fun s v => .of_eq rfl, fun base _ _ => ?_⟩
  have G_choose_points : Ok_choose_points l.prog w K mg base f0 _ := ok_choose_points D_choose_points  B
  have G_greatest_at_most : Ok_greatest_at_most l.prog w K mg base f1 _ := ok_greatest_at_most D_greatest_at_most D_choose_points G_choose_points B
  have G_fraction_of : Ok_fraction_of l.prog w K mg base f2 _ := ok_fraction_of D_fraction_of  B
  have G_choose_at : Ok_choose_at l.prog w K mg base f3 _ := ok_choose_at D_choose_at D_fraction_of G_fraction_of B
  have G_lovasz_bound : Ok_lovasz_bound l.prog w K mg base f4 _ := ok_lovasz_bound D_lovasz_bound D_choose_at G_choose_at B
  have G_greatest_under : Ok_greatest_under l.prog w K mg base f5 _ := ok_greatest_under D_greatest_under D_greatest_at_most G_greatest_at_most B
  have G_cascade_of : Ok_cascade_of l.prog w K mg base f6 _ := ok_cascade_of D_cascade_of D_choose_points G_choose_points D_greatest_at_most G_greatest_at_most B
  have G_shadow_number : Ok_shadow_number l.prog w K mg base f7 _ := ok_shadow_number D_shadow_number D_choose_points G_choose_points D_cascade_of G_cascade_of B
  have G__law_open_cells : Ok__law_open_cells l.prog w K mg base f8 _ := ok__law_open_cells D__law_open_cells  B
  have G__law_pick : Ok__law_pick l.prog w K mg base f9 _ := ok__law_pick D__law_pick  B
  have G__law_choose : Ok__law_choose l.prog w K mg base f10 _ := ok__law_choose D__law_choose  B
  have G__law_lowest : Ok__law_lowest l.prog w K mg base f11 _ := ok__law_lowest D__law_lowest  B
  have G__law_at : Ok__law_at l.prog w K mg base f12 _ := ok__law_at D__law_at D__law_lowest G__law_lowest B
  exact ok_law D_law D_choose_points G_choose_points D_choose_at G_choose_at D_lovasz_bound G_lovasz_bound D_greatest_under G_greatest_under D_cascade_of G_cascade_of D_shadow_number G_shadow_number D__law_open_cells G__law_open_cells D__law_pick G__law_pick D__law_choose G__law_choose D__law_lowest G__law_lowest D__law_at G__law_at B
end K15

open PySem PySem.W PyProof.Rows in
set_option maxRecDepth 100000 in
set_option maxHeartbeats 0 in
theorem PySem.Challenge.cw_lotsoflots_k15_whole_fractions_below_sha_holds : PySem.Challenge.rw_lotsoflots_k15_whole_fractions_below_sha.Holds := by
  w_on; o_law; k_head; (case hw => w_witness2)
  k_fill
  refine Gk.walk_ofG (l := PySem.Challenge.rw_lotsoflots_k15_whole_fractions_below_sha) (n := 63) (k := 5) (x := "script") (sp := K15.sp_law) rfl (by decide) rfl ⟨rfl, by decide, by decide⟩ (fun w h Y => PySem.W.kIn_of Y) ?F (fun K H a ns hl _ hS => K15.sp_start hl hS)
  case F =>
    intro w mg fa h KX G hmg
    refine' K15.all_mk KX G hmg ?a0 ?l0 ?c0 ?k0 ?a1 ?l1 ?c1 ?k1 ?a2 ?l2 ?c2 ?k2 ?a3 ?l3 ?c3 ?k3 ?a4 ?l4 ?c4 ?k4 ?a5 ?l5 ?c5 ?k5 ?a6 ?l6 ?c6 ?k6 ?a7 ?l7 ?c7 ?k7 ?a8 ?l8 ?c8 ?k8 ?a9 ?l9 ?c9 ?k9 ?a10 ?l10 ?c10 ?k10 ?a11 ?l11 ?c11 ?k11 ?a12 ?l12 ?c12 ?k12 ?a13 ?l13 ?c13 ?k13 ?z0 ?z1 ?z2 ?z3 ?z4 ?z5 ?z6 ?z7 ?z8 ?m0
    (case a0 => k_is)
    (case l0 => k_is)
    (case c0 => k_is)
    (case k0 => k_is)
    (case a1 => k_is)
    (case l1 => k_is)
    (case c1 => k_is)
    (case k1 => k_is)
    (case a2 => k_is)
    (case l2 => k_is)
    (case c2 => k_is)
    (case k2 => k_is)
    (case a3 => k_is)
    (case l3 => k_is)
    (case c3 => k_is)
    (case k3 => k_is)
    (case a4 => k_is)
    (case l4 => k_is)
    (case c4 => k_is)
    (case k4 => k_is)
    (case a5 => k_is)
    (case l5 => k_is)
    (case c5 => k_is)
    (case k5 => k_is)
    (case a6 => k_is)
    (case l6 => k_is)
    (case c6 => k_is)
    (case k6 => k_is)
    (case a7 => k_is)
    (case l7 => k_is)
    (case c7 => k_is)
    (case k7 => k_is)
    (case a8 => k_is)
    (case l8 => k_is)
    (case c8 => k_is)
    (case k8 => k_is)
    (case a9 => k_is)
    (case l9 => k_is)
    (case c9 => k_is)
    (case k9 => k_is)
    (case a10 => k_is)
    (case l10 => k_is)
    (case c10 => k_is)
    (case k10 => k_is)
    (case a11 => k_is)
    (case l11 => k_is)
    (case c11 => k_is)
    (case k11 => k_is)
    (case a12 => k_is)
    (case l12 => k_is)
    (case c12 => k_is)
    (case k12 => k_is)
    (case a13 => k_is)
    (case l13 => k_is)
    (case c13 => k_is)
    (case k13 => k_is)
    (case z0 => k_is)
    (case z1 => k_is)
    (case z2 => k_is)
    (case z3 => k_is)
    (case z4 => k_is)
    (case z5 => k_is)
    (case z6 => k_is)
    (case z7 => k_is)
    (case z8 => k_is)
    (case m0 => k_is)
#print axioms PySem.Challenge.cw_lotsoflots_k15_whole_fractions_below_sha_holds
