import PyProof.Rows.All
import Wide.All
import OpenK.AllK
import Wide.FinOn
import HandS.ForMost
import HandS.Wide
import HandS.Style
import HandS.Gcd
import HandS.Zip
import HandS.Walk
import HandS.TupAny
import HandS.Star
import HandS.SortInts
import HandS.RaiseMore
import HandS.Conv
import KE.GoesEnum
import PySem.Challenge.RW_lotsoflots_k48_whole_close_counts_are_sh
namespace Ca
/-! how many lots of k points there are out of n -/
def ch : Nat → Nat → Nat
  | _, 0 => 1
  | 0, _ + 1 => 0
  | n + 1, k + 1 => ch n k + ch n (k + 1)
theorem ch_zero (n : Nat) : ch n 0 = 1 := by cases n <;> rfl
theorem ch_succ (n k : Nat) : ch (n + 1) (k + 1) = ch n k + ch n (k + 1) := rfl
theorem ch_lt : ∀ (n k : Nat), n < k → ch n k = 0
  | 0, 0, h => absurd h (Nat.lt_irrefl _)
  | 0, k + 1, _ => rfl
  | n + 1, 0, h => by omega
  | n + 1, k + 1, h => by rw [ch_succ, ch_lt n k (by omega), ch_lt n (k + 1) (by omega)]
theorem ch_pos : ∀ (n k : Nat), k ≤ n → 0 < ch n k
  | 0, 0, _ => by decide
  | n + 1, 0, _ => by rw [ch_zero]; omega
  | n + 1, k + 1, h => by
    have := ch_pos n k (by omega)
    rw [ch_succ]; omega
theorem ch_self (n : Nat) : ch n n = 1 := by
  induction n with
  | zero => rfl
  | succ n ih => rw [ch_succ, ih, ch_lt n (n + 1) (by omega)]
theorem ch_one (n : Nat) : ch n 1 = n := by
  induction n with
  | zero => rfl
  | succ n ih => rw [ch_succ, ih, ch_zero]; omega
theorem ch_mono1 (n k : Nat) : ch n k ≤ ch (n + 1) k := by
  cases k with
  | zero => rw [ch_zero, ch_zero]; omega
  | succ k => rw [ch_succ]; omega
theorem ch_mono {n m : Nat} (k : Nat) (h : n ≤ m) : ch n k ≤ ch m k := by
  induction h with
  | refl => exact Nat.le_refl _
  | step _ ih => exact Nat.le_trans ih (ch_mono1 _ k)
theorem ch_strict {n k : Nat} (hk : 1 ≤ k) (h : k ≤ n + 1) : ch n k < ch (n + 1) k := by
  obtain ⟨j, rfl⟩ : ∃ j, k = j + 1 := ⟨k - 1, by omega⟩
  have := ch_pos n j (by omega)
  rw [ch_succ]; omega
theorem ch_mul : ∀ (n k : Nat), ch n (k + 1) * (k + 1) = ch n k * (n - k)
  | 0, 0 => rfl
  | 0, k + 1 => by rw [ch_lt 0 _ (by omega), ch_lt 0 (k + 1) (by omega)]; simp
  | n + 1, 0 => by rw [ch_one, ch_zero]; simp
  | n + 1, k + 1 => by
    have h1 := ch_mul n k
    have h2 := ch_mul n (k + 1)
    by_cases hk : n < k + 1
    · rw [ch_lt (n + 1) (k + 1 + 1) (by omega), show n + 1 - (k + 1) = 0 by omega]; simp
    · rw [ch_succ n (k + 1), ch_succ n k]
      rw [show n + 1 - (k + 1) = n - k by omega]
      obtain ⟨d, hd⟩ : ∃ d, n = k + 1 + d := ⟨n - (k + 1), by omega⟩
      subst hd
      rw [show k + 1 + d - k = d + 1 by omega] at *
      rw [show k + 1 + d - (k + 1) = d by omega] at h2
      grind
theorem ch_grow (n k : Nat) : n + 1 ≤ ch (n + (k + 1)) (k + 1) := by
  induction n with
  | zero => rw [show (0 : Nat) + (k + 1) = k + 1 by omega, ch_self]; omega
  | succ n ih =>
    rw [show n + 1 + (k + 1) = (n + (k + 1)) + 1 by omega, ch_succ]
    have := ch_pos (n + (k + 1)) k (by omega)
    omega

/-! the greatest number with at most m lots out of it -/
def go (m k : Nat) : Nat → Nat → Nat
  | 0, a => a
  | f + 1, a => if ch (a + 1) k ≤ m then go m k f (a + 1) else a
def top (m k : Nat) : Nat := go m k (m + 1) (k - 1)
structure IsTop (a m k : Nat) : Prop where
  ge : k ≤ a + 1
  le : ch a k ≤ m
  lt : m < ch (a + 1) k
theorem go_spec {m k : Nat} : ∀ (f a : Nat), k ≤ a + 1 → ch a k ≤ m → m < ch (a + f) k → IsTop (go m k f a) m k
  | 0, a, h1, h2, h3 => absurd h3 (by simp; omega)
  | f + 1, a, h1, h2, h3 => by
    unfold go
    by_cases h : ch (a + 1) k ≤ m
    · rw [if_pos h]
      exact go_spec f (a + 1) (by omega) h (by rw [show a + 1 + f = a + (f + 1) by omega]; exact h3)
    · rw [if_neg h]
      exact ⟨h1, h2, by omega⟩
theorem top_spec (m : Nat) {k : Nat} (hk : 1 ≤ k) : IsTop (top m k) m k := by
  obtain ⟨j, rfl⟩ : ∃ j, k = j + 1 := ⟨k - 1, by omega⟩
  refine go_spec _ _ (by omega) (by rw [ch_lt _ _ (by omega)]; omega) ?_
  rw [show j + 1 - 1 + (m + 1) = m + (j + 1) by omega]
  exact Nat.lt_of_lt_of_le (Nat.lt_succ_self m) (ch_grow m j)
theorem IsTop.uniq {a b m k : Nat} (h : IsTop a m k) (h' : IsTop b m k) : a = b := by
  rcases Nat.lt_trichotomy a b with q | q | q
  · have := ch_mono k (show a + 1 ≤ b from q)
    have := h.lt; have := h'.le; omega
  · exact q
  · have := ch_mono k (show b + 1 ≤ a from q)
    have := h.le; have := h'.lt; omega
theorem top_eq {a m k : Nat} (hk : 1 ≤ k) (h : IsTop a m k) : top m k = a := (top_spec m hk).uniq h
theorem top_ge {m k : Nat} (hk : 1 ≤ k) (hm : 1 ≤ m) : k ≤ top m k := by
  have t := top_spec m hk
  refine Nat.le_of_not_lt fun q => ?_
  have e : top m k + 1 = k := by have := t.ge; omega
  have := t.lt
  rw [e, ch_self] at this
  omega
theorem top_rest {m k : Nat} : m - ch (top m (k + 1)) (k + 1) < ch (top m (k + 1)) k := by
  have t := top_spec m (show 1 ≤ k + 1 by omega)
  have l := t.lt
  have := t.le
  rw [ch_succ] at l
  omega

/-! cascades and shadow numbers -/
def casc : Nat → Nat → List Nat
  | 0, _ => []
  | k + 1, m => if m = 0 then [] else top m (k + 1) :: casc k (m - ch (top m (k + 1)) (k + 1))
def sh : Nat → Nat → Nat
  | 0, _ => 0
  | k + 1, m => if m = 0 then 0 else ch (top m (k + 1)) k + sh k (m - ch (top m (k + 1)) (k + 1))
theorem sh_zero (k : Nat) : sh k 0 = 0 := by cases k <;> rfl
theorem sh_succ {k m : Nat} (hm : m ≠ 0) : sh (k + 1) m = ch (top m (k + 1)) k + sh k (m - ch (top m (k + 1)) (k + 1)) := by
  conv => lhs; unfold sh
  rw [if_neg hm]
/-- told by a cascade's head, the rest up to the whole row -/
theorem sh_at {b k s : Nat} (hb : k + 1 ≤ b) (hs : s ≤ ch b k) : sh (k + 1) (ch b (k + 1) + s) = ch b k + sh k s := by
  have p := ch_pos b (k + 1) hb
  by_cases h : s < ch b k
  · have t : top (ch b (k + 1) + s) (k + 1) = b := top_eq (by omega) ⟨by omega, by omega, by rw [ch_succ]; omega⟩
    rw [sh_succ (by omega), t, Nat.add_sub_cancel_left]
  · have e : s = ch b k := by omega
    subst e
    have e2 : ch b (k + 1) + ch b k = ch (b + 1) (k + 1) := by rw [ch_succ]; omega
    have t : top (ch (b + 1) (k + 1)) (k + 1) = b + 1 := top_eq (by omega) ⟨by omega, Nat.le_refl _, ch_strict (by omega) (by omega)⟩
    rw [e2, sh_succ (by have := ch_pos (b + 1) (k + 1) (by omega); omega), t, Nat.sub_self, sh_zero]
    cases k with
    | zero => rw [ch_zero, ch_zero]; rfl
    | succ j =>
      have t2 : top (ch b (j + 1)) (j + 1) = b := top_eq (by omega) ⟨by omega, Nat.le_refl _, ch_strict (by omega) (by omega)⟩
      rw [sh_succ (by have := ch_pos b (j + 1) (by omega); omega), t2, Nat.sub_self, sh_zero, ch_succ]
      omega
theorem sh_ch {a k : Nat} (h : k + 1 ≤ a) : sh (k + 1) (ch a (k + 1)) = ch a k := by
  have := sh_at (s := 0) h (Nat.zero_le _)
  rw [Nat.add_zero, sh_zero, Nat.add_zero] at this
  exact this
theorem sh_le : ∀ (k m : Nat), sh k m ≤ k * m
  | 0, m => by unfold sh; omega
  | k + 1, m => by
    by_cases hm : m = 0
    · subst hm; rw [sh_zero]; omega
    · rw [sh_succ hm]
      have t := top_spec m (show 1 ≤ k + 1 by omega)
      have ih := sh_le k (m - ch (top m (k + 1)) (k + 1))
      have g := top_ge (show 1 ≤ k + 1 by omega) (show 1 ≤ m by omega)
      have e := ch_mul (top m (k + 1)) k
      generalize top m (k + 1) = a at *
      have h1 : ch a k ≤ ch a (k + 1) * (k + 1) := by
        rw [e]
        have : 1 ≤ a - k := by omega
        exact Nat.le_mul_of_pos_right _ this
      have le := t.le
      obtain ⟨r, hr⟩ : ∃ r, m = ch a (k + 1) + r := ⟨m - ch a (k + 1), by omega⟩
      rw [hr] at ih ⊢
      rw [Nat.add_sub_cancel_left] at *
      have : (k + 1) * (ch a (k + 1) + r) = ch a (k + 1) * (k + 1) + k * r + r := by grind
      omega

/-! those of the first m lots that have the least point, and the others -/
def al : Nat → Nat → Nat
  | 0, _ => 0
  | k + 1, m => if m = 0 then 0 else ch (top m (k + 1) - 1) k + al k (m - ch (top m (k + 1)) (k + 1))
def be : Nat → Nat → Nat
  | 0, _ => 0
  | k + 1, m => if m = 0 then 0 else ch (top m (k + 1) - 1) (k + 1) + be k (m - ch (top m (k + 1)) (k + 1))
theorem al_zero (k : Nat) : al k 0 = 0 := by cases k <;> rfl
theorem be_zero (k : Nat) : be k 0 = 0 := by cases k <;> rfl
theorem al_succ {k m : Nat} (hm : m ≠ 0) : al (k + 1) m = ch (top m (k + 1) - 1) k + al k (m - ch (top m (k + 1)) (k + 1)) := by
  conv => lhs; unfold al
  rw [if_neg hm]
theorem be_succ {k m : Nat} (hm : m ≠ 0) : be (k + 1) m = ch (top m (k + 1) - 1) (k + 1) + be k (m - ch (top m (k + 1)) (k + 1)) := by
  conv => lhs; unfold be
  rw [if_neg hm]
theorem ch_pred {a k : Nat} (h : 1 ≤ a) : ch a (k + 1) = ch (a - 1) k + ch (a - 1) (k + 1) := by
  obtain ⟨b, rfl⟩ : ∃ b, a = b + 1 := ⟨a - 1, by omega⟩
  rfl
theorem rest_zero {m : Nat} : m - ch (top m (0 + 1)) (0 + 1) = 0 := by
  have := @top_rest m 0
  rw [ch_zero] at this
  omega
theorem al_be : ∀ (k m : Nat), al (k + 1) m + be (k + 1) m = m
  | k, m => by
    by_cases hm : m = 0
    · subst hm; rw [al_zero, be_zero]
    · rw [al_succ hm, be_succ hm]
      have t := top_spec m (show 1 ≤ k + 1 by omega)
      have g := top_ge (show 1 ≤ k + 1 by omega) (show 1 ≤ m by omega)
      have p := ch_pred (k := k) (show 1 ≤ top m (k + 1) by omega)
      have le := t.le
      cases k with
      | zero =>
        have z := @rest_zero m
        rw [z, al_zero, be_zero]
        omega
      | succ k =>
        have ih := al_be k (m - ch (top m (k + 1 + 1)) (k + 1 + 1))
        omega
theorem al_pos {k m : Nat} (hm : m ≠ 0) : 1 ≤ al (k + 1) m := by
  rw [al_succ hm]
  have g := top_ge (show 1 ≤ k + 1 by omega) (show 1 ≤ m by omega)
  have := ch_pos (top m (k + 1) - 1) k (by omega)
  omega
/-- at most all lots -/
theorem al_le : ∀ (k a m : Nat), k ≤ a → m ≤ ch (a + 1) (k + 1) → al (k + 1) m ≤ ch a k
  | k, a, m, hka, h => by
    by_cases hm : m = 0
    · subst hm; rw [al_zero]; omega
    · by_cases he : m = ch (a + 1) (k + 1)
      · have t : top m (k + 1) = a + 1 := top_eq (by omega) ⟨by omega, by omega, by rw [he]; exact ch_strict (by omega) (by omega)⟩
        rw [al_succ hm, t, he, Nat.sub_self, al_zero]
        simp
      · have t := top_spec m (show 1 ≤ k + 1 by omega)
        have g := top_ge (show 1 ≤ k + 1 by omega) (show 1 ≤ m by omega)
        have ta : top m (k + 1) ≤ a := by
          refine Nat.le_of_not_lt fun q => ?_
          have := ch_mono (k + 1) (show a + 1 ≤ top m (k + 1) from q)
          have := t.le; omega
        rw [al_succ hm]
        have lr := @top_rest m k
        cases k with
        | zero =>
          rw [rest_zero, al_zero, ch_zero, ch_zero]
          omega
        | succ j =>
          generalize top m (j + 1 + 1) = b at *
          have ih := al_le j (b - 1) (m - ch b (j + 1 + 1)) (by omega) (by rw [show b - 1 + 1 = b by omega]; omega)
          have e := ch_pred (k := j) (show 1 ≤ b by omega)
          have := ch_mono (j + 1) ta
          omega
theorem be_le : ∀ (k a m : Nat), m ≤ ch (a + 1) (k + 1) → k ≤ a → be (k + 1) m ≤ ch a (k + 1)
  | k, a, m, h, hka => by
    by_cases hm : m = 0
    · subst hm; rw [be_zero]; omega
    · by_cases he : m = ch (a + 1) (k + 1)
      · have t : top m (k + 1) = a + 1 := top_eq (by omega) ⟨by omega, by omega, by rw [he]; exact ch_strict (by omega) (by omega)⟩
        rw [be_succ hm, t, he, Nat.sub_self, be_zero]
        simp
      · have t := top_spec m (show 1 ≤ k + 1 by omega)
        have g := top_ge (show 1 ≤ k + 1 by omega) (show 1 ≤ m by omega)
        have ta : top m (k + 1) ≤ a := by
          refine Nat.le_of_not_lt fun q => ?_
          have := ch_mono (k + 1) (show a + 1 ≤ top m (k + 1) from q)
          have := t.le; omega
        rw [be_succ hm]
        have lr := @top_rest m k
        cases k with
        | zero =>
          rw [rest_zero, be_zero, ch_one, ch_one]
          omega
        | succ j =>
          generalize top m (j + 1 + 1) = b at *
          have ih := be_le j (b - 1) (m - ch b (j + 1 + 1)) (by rw [show b - 1 + 1 = b by omega]; omega) (by omega)
          have e := ch_pred (k := j + 1) (show 1 ≤ b by omega)
          have := ch_mono (j + 1 + 1) ta
          omega
theorem be_few : ∀ (k m : Nat), m ≤ k → be k m = 0
  | 0, _, _ => rfl
  | k + 1, m, h => by
    by_cases hm : m = 0
    · subst hm; exact be_zero _
    · have t : top m (k + 1) = k + 1 := top_eq (by omega) ⟨by omega, by rw [ch_self]; omega, by
        have e := ch_mul (k + 1 + 1) (k + 1)
        rw [ch_self, show k + 1 + 1 - (k + 1) = 1 by omega] at e
        omega⟩
      rw [be_succ hm, t, ch_self, be_few k (m - 1) (by omega), ch_lt _ _ (by omega)]
theorem sh_al : ∀ (k m : Nat), m ≠ 0 → sh (k + 1) m = al (k + 1) m + sh k (al (k + 1) m)
  | k, m, hm => by
    have g := top_ge (show 1 ≤ k + 1 by omega) (show 1 ≤ m by omega)
    have lr := @top_rest m k
    rw [sh_succ hm, al_succ hm]
    cases k with
    | zero =>
      rw [rest_zero, al_zero, sh_zero, ch_zero, ch_zero]
      rfl
    | succ j =>
      generalize top m (j + 1 + 1) = a at *
      generalize m - ch a (j + 1 + 1) = r at *
      have e := ch_pred (k := j) (show 1 ≤ a by omega)
      have q := al_le j (a - 1) r (by omega) (by rw [show a - 1 + 1 = a by omega]; omega)
      rw [sh_at (by omega) q]
      by_cases hr : r = 0
      · subst hr
        rw [sh_zero, al_zero, sh_zero]; omega
      · rw [sh_al j r hr]
        omega
theorem sh_be : ∀ (k m : Nat), sh (k + 1) (be (k + 1) m) ≤ al (k + 1) m
  | k, m => by
    by_cases hm : m = 0
    · subst hm; rw [be_zero, sh_zero]; omega
    · have g := top_ge (show 1 ≤ k + 1 by omega) (show 1 ≤ m by omega)
      have lr := @top_rest m k
      have t := top_spec m (show 1 ≤ k + 1 by omega)
      rw [be_succ hm, al_succ hm]
      by_cases ha : top m (k + 1) = k + 1
      · have hmk : m ≤ k + 1 := by
          have := t.lt
          rw [ha] at this
          have e := ch_mul (k + 1 + 1) (k + 1)
          rw [ch_self, show k + 1 + 1 - (k + 1) = 1 by omega] at e
          omega
        rw [ha, ch_self, be_few k (m - 1) (by omega), ch_lt _ _ (by omega), Nat.zero_add, sh_zero]
        omega
      · generalize top m (k + 1) = a at *
        generalize m - ch a (k + 1) = r at *
        cases k with
        | zero =>
          have : r = 0 := by rw [ch_zero] at lr; omega
          subst this
          rw [be_zero, al_zero, ch_zero]
          have := sh_at (s := 0) (show 0 + 1 ≤ a - 1 by omega) (Nat.zero_le _)
          rw [this, ch_zero, sh_zero]
          omega
        | succ j =>
          have q := be_le j (a - 1) r (by rw [show a - 1 + 1 = a by omega]; omega) (by omega)
          have ih := sh_be j r
          rw [sh_at (by omega) q]
          omega
end Ca
namespace Ca
/-! lots by their places -/
def lot : Nat → Nat → List Nat
  | 0, _ => []
  | k + 1, p => lot k (p - ch (top p (k + 1)) (k + 1)) ++ [top p (k + 1)]
theorem lot_succ (k p : Nat) : lot (k + 1) p = lot k (p - ch (top p (k + 1)) (k + 1)) ++ [top p (k + 1)] := rfl
theorem lot_len : ∀ k p : Nat, (lot k p).length = k
  | 0, _ => rfl
  | k + 1, p => by rw [lot_succ, List.length_append, lot_len k]; rfl
/-- how many lots are ahead; the first item counts as the i-th -/
def plc : Nat → List Nat → Nat
  | _, [] => 0
  | i, a :: r => ch a i + plc (i + 1) r
theorem plc_app : ∀ (xs ys : List Nat) (i : Nat), plc i (xs ++ ys) = plc i xs + plc (i + xs.length) ys
  | [], ys, i => by simp [plc]
  | a :: r, ys, i => by
    show ch a i + plc (i + 1) (r ++ ys) = ch a i + plc (i + 1) r + plc (i + (r.length + 1)) ys
    rw [plc_app r ys (i + 1), show i + 1 + r.length = i + (r.length + 1) by omega]
    omega
theorem plc_snoc (xs : List Nat) (a i : Nat) : plc i (xs ++ [a]) = plc i xs + ch a (i + xs.length) := by
  rw [plc_app]; rfl
/-- ascending, all below b -/
def asc (xs : List Nat) (b : Nat) : Prop := xs.Pairwise (· < ·) ∧ ∀ x ∈ xs, x < b
theorem asc_snoc {xs : List Nat} {a b : Nat} : asc (xs ++ [a]) b ↔ asc xs a ∧ a < b := by
  unfold asc
  rw [List.pairwise_append]
  constructor
  · rintro ⟨⟨h1, _, h3⟩, h4⟩
    exact ⟨⟨h1, fun x hx => h3 x hx a (by simp)⟩, h4 a (by simp)⟩
  · rintro ⟨⟨h1, h2⟩, h3⟩
    refine ⟨⟨h1, by simp, fun x hx y hy => ?_⟩, fun x hx => ?_⟩
    · rw [List.mem_singleton.mp hy]; exact h2 x hx
    · rcases List.mem_append.mp hx with e | e
      · exact Nat.lt_trans (h2 x e) h3
      · rw [List.mem_singleton.mp e]; exact h3
theorem snoc_ind {α : Type} {P : List α → Prop} (h0 : P []) (h1 : ∀ xs a, P xs → P (xs ++ [a])) (xs : List α) : P xs := by
  have : ∀ ys : List α, P ys.reverse := fun ys => by
    induction ys with
    | nil => exact h0
    | cons a r ih => rw [List.reverse_cons]; exact h1 _ _ ih
  rw [← List.reverse_reverse xs]
  exact this _
theorem asc_len {xs : List Nat} : ∀ {b : Nat}, asc xs b → xs.length ≤ b := by
  induction xs using snoc_ind with
  | h0 => intro b _; exact Nat.zero_le _
  | h1 xs a ih =>
    intro b h
    obtain ⟨h1, h2⟩ := asc_snoc.mp h
    have := ih h1
    rw [List.length_append]
    show xs.length + 1 ≤ b
    omega
theorem plc_lt {xs : List Nat} : ∀ {b : Nat}, asc xs b → plc 1 xs < ch b xs.length := by
  induction xs using snoc_ind with
  | h0 => intro b _; show 0 < ch b 0; rw [ch_zero]; omega
  | h1 xs a ih =>
    intro b h
    obtain ⟨h1, h2⟩ := asc_snoc.mp h
    have := ih h1
    rw [plc_snoc, List.length_append]
    show _ < ch b (xs.length + 1)
    have m := ch_mono (xs.length + 1) (show a + 1 ≤ b from h2)
    rw [ch_succ] at m
    rw [show 1 + xs.length = xs.length + 1 by omega]
    omega
theorem lot_place {xs : List Nat} : ∀ {b : Nat}, asc xs b → lot xs.length (plc 1 xs) = xs := by
  induction xs using snoc_ind with
  | h0 => intro b _; rfl
  | h1 xs a ih =>
    intro b h
    obtain ⟨h1, h2⟩ := asc_snoc.mp h
    have l := plc_lt h1
    have n := asc_len h1
    rw [plc_snoc, List.length_append, show xs.length + [a].length = xs.length + 1 from rfl, show 1 + xs.length = xs.length + 1 by omega]
    have t : top (plc 1 xs + ch a (xs.length + 1)) (xs.length + 1) = a := top_eq (by omega) ⟨by omega, by omega, by rw [ch_succ]; omega⟩
    rw [lot_succ, t, Nat.add_sub_cancel, ih h1]
theorem lot_asc : ∀ (k p : Nat), asc (lot (k + 1) p) (top p (k + 1) + 1)
  | 0, p => by
    rw [lot_succ]
    exact asc_snoc.mpr ⟨⟨.nil, fun x hx => nomatch hx⟩, by omega⟩
  | k + 1, p => by
    rw [lot_succ]
    refine asc_snoc.mpr ⟨?_, by omega⟩
    have ih := lot_asc k (p - ch (top p (k + 1 + 1)) (k + 1 + 1))
    have r := @top_rest p (k + 1)
    have t := top_spec (p - ch (top p (k + 1 + 1)) (k + 1 + 1)) (show 1 ≤ k + 1 by omega)
    have lt : top (p - ch (top p (k + 1 + 1)) (k + 1 + 1)) (k + 1) < top p (k + 1 + 1) := by
      refine Nat.lt_of_not_le fun q => ?_
      have := ch_mono (k + 1) q
      have := t.le
      omega
    exact ⟨ih.1, fun x hx => Nat.lt_of_lt_of_le (ih.2 x hx) lt⟩
theorem plc_lot : ∀ (k p : Nat), plc 1 (lot (k + 1) p) = p
  | 0, p => by
    rw [lot_succ]
    have t := top_spec p (show 1 ≤ 0 + 1 by omega)
    have z := @rest_zero p
    show ch (top p (0 + 1)) 1 + 0 = p
    have := t.le
    have e : ch (top p (0 + 1)) (0 + 1) = ch (top p (0 + 1)) 1 := rfl
    omega
  | k + 1, p => by
    rw [lot_succ, plc_snoc, plc_lot k, lot_len]
    have t := top_spec p (show 1 ≤ k + 1 + 1 by omega)
    have := t.le
    rw [show 1 + (k + 1) = k + 1 + 1 by omega]
    omega
/-! shadow numbers by lots -/
theorem ch_up (k : Nat) : ch (k + 1) k = k + 1 := by
  have e := ch_mul (k + 1) k
  rw [ch_self, show k + 1 - k = 1 by omega] at e
  omega
theorem sh_one (k : Nat) : sh k 1 = k := by
  cases k with
  | zero => rfl
  | succ k =>
    have := sh_ch (show k + 1 ≤ k + 1 by omega)
    rw [ch_self] at this
    rw [this, ch_up]
theorem sh_step {a k r : Nat} (ha : k ≤ a) (hr : r < ch a k) : sh (k + 1) (ch a (k + 1) + r + 1) = ch a k + sh k (r + 1) := by
  by_cases h : k + 1 ≤ a
  · rw [Nat.add_assoc]; exact sh_at h hr
  · have e : a = k := by omega
    subst e
    rw [ch_self] at hr
    have : r = 0 := by omega
    subst this
    rw [ch_lt a (a + 1) (by omega), ch_self, show 0 + 0 + 1 = 1 from rfl, sh_one, sh_one]
    omega
theorem sh_lot {xs : List Nat} {b : Nat} (h : asc xs b) (h0 : xs ≠ []) : sh xs.length (plc 1 xs + 1) = 1 + plc 1 xs.tail := by
  have main : ∀ ys : List Nat, ∀ c, asc ys c → ∀ x ys', ys = x :: ys' → sh ys.length (plc 1 ys + 1) = 1 + plc 1 ys' := fun ys => by
    induction ys using snoc_ind with
    | h0 => intro c _ x ys' e; cases e
    | h1 zs a ih =>
      intro c hc x ys' e
      obtain ⟨h1, h2⟩ := asc_snoc.mp hc
      have n := asc_len h1
      have l := plc_lt h1
      rw [plc_snoc, List.length_append, show zs.length + [a].length = zs.length + 1 from rfl, show 1 + zs.length = zs.length + 1 by omega, show plc 1 zs + ch a (zs.length + 1) + 1 = ch a (zs.length + 1) + plc 1 zs + 1 by omega, sh_step n l]
      cases zs with
      | nil =>
        cases e
        show ch a 0 + sh 0 _ = 1 + 0
        rw [ch_zero]; rfl
      | cons z zs' =>
        cases e
        rw [ih a h1 x zs' rfl]
        rw [show zs'.append [a] = zs' ++ [a] from rfl, plc_snoc]
        show ch a (zs'.length + 1) + (1 + plc 1 zs') = 1 + (plc 1 zs' + ch a (1 + zs'.length))
        rw [show 1 + zs'.length = zs'.length + 1 by omega]
        omega
  cases xs with
  | nil => exact absurd rfl h0
  | cons x r => exact main (x :: r) b h x r rfl
theorem asc_tail {xs : List Nat} {b : Nat} (h : asc xs b) (j : Nat) : asc (xs.drop j) b :=
  ⟨h.1.sublist (List.drop_sublist j xs), fun x hx => h.2 x (List.mem_of_mem_drop hx)⟩
/-- shadow numbers, taken again -/
def shs (k m : Nat) : Nat → Nat
  | 0 => m
  | j + 1 => sh (k - j) (shs k m j)
theorem shs_lot {xs : List Nat} {b : Nat} (h : asc xs b) : ∀ j, j ≤ xs.length → shs xs.length (plc 1 xs + 1) j = 1 + plc 1 (xs.drop j)
  | 0, _ => by show plc 1 xs + 1 = _; rw [List.drop_zero]; omega
  | j + 1, hj => by
    show sh (xs.length - j) (shs xs.length (plc 1 xs + 1) j) = _
    rw [shs_lot h j (by omega)]
    have := sh_lot (asc_tail h j) (by intro e; have := congrArg List.length e; rw [List.length_drop] at this; simp at this; omega)
    rw [List.length_drop, List.tail_drop] at this
    rw [Nat.add_comm 1 (plc 1 (xs.drop j)), this]
theorem shs_le (k m : Nat) : ∀ j, shs k m j ≤ k ^ j * m
  | 0 => by show m ≤ 1 * m; omega
  | j + 1 => by
    show sh (k - j) (shs k m j) ≤ k ^ (j + 1) * m
    have a := sh_le (k - j) (shs k m j)
    have b := shs_le k m j
    have c : (k - j) * shs k m j ≤ k * (k ^ j * m) := Nat.mul_le_mul (Nat.sub_le _ _) b
    have e : k ^ (j + 1) * m = k * (k ^ j * m) := by rw [Nat.pow_succ]; grind
    omega
/-! growth -/
def run : Nat → List Nat → Nat
  | i, [] => i
  | i, a :: r => if a = i then run (i + 1) r else i
theorem run_ge : ∀ (xs : List Nat) (i : Nat), i ≤ run i xs
  | [], i => Nat.le_refl _
  | a :: r, i => by
    unfold run
    split
    · have := run_ge r (i + 1); omega
    · omega
theorem run_le : ∀ (xs : List Nat) (i : Nat), run i xs ≤ i + xs.length
  | [], i => by simp [run]
  | a :: r, i => by
    unfold run
    split
    · have := run_le r (i + 1); simp; omega
    · simp
theorem run_snoc : ∀ (xs : List Nat) (i a : Nat), i + xs.length < a → run i (xs ++ [a]) = run i xs
  | [], i, a, h => by
    show (if a = i then run (i + 1) [] else i) = i
    rw [if_neg (by simp at h; omega)]
  | b :: r, i, a, h => by
    show (if b = i then run (i + 1) (r ++ [a]) else i) = if b = i then run (i + 1) r else i
    rw [run_snoc r (i + 1) a (by simp at h; omega)]
theorem run_all : ∀ (n i : Nat), run i ((List.range n).map (· + i)) = i + n
  | 0, i => rfl
  | n + 1, i => by
    rw [List.range_succ_eq_map, List.map_cons, List.map_map]
    show (if 0 + i = i then run (i + 1) _ else i) = _
    rw [if_pos (by omega)]
    have e : (fun x => x + i) ∘ Nat.succ = fun x => x + (i + 1) := by funext x; simp; omega
    rw [e, run_all n (i + 1)]
    omega
theorem lot_zero : ∀ k, lot k 0 = (List.range k).map (· + 0)
  | 0 => rfl
  | k + 1 => by
    have t : top 0 (k + 1) = k := top_eq (by omega) ⟨by omega, by rw [ch_lt _ _ (by omega)]; omega, by rw [ch_self]; omega⟩
    rw [lot_succ, t, Nat.zero_sub, lot_zero k, List.range_succ, List.map_append]
    rfl
theorem growth : ∀ (k m : Nat), sh k (m + 1) = sh k m + run 0 (lot k m)
  | 0, m => rfl
  | k + 1, m => by
    by_cases hm : m = 0
    · subst hm
      rw [show 0 + 1 = 1 from rfl, sh_one, sh_zero, lot_zero, run_all]
      omega
    · have t := top_spec m (show 1 ≤ k + 1 by omega)
      have g := top_ge (show 1 ≤ k + 1 by omega) (show 1 ≤ m by omega)
      have r := @top_rest m k
      rw [lot_succ, run_snoc _ _ _ (by rw [lot_len]; omega)]
      generalize top m (k + 1) = a at *
      obtain ⟨s, hs⟩ : ∃ s, m = ch a (k + 1) + s := ⟨m - ch a (k + 1), by have := t.le; omega⟩
      subst hs
      rw [Nat.add_sub_cancel_left] at r ⊢
      rw [sh_step (by omega) r, sh_at g (by omega), growth k s]
      omega
theorem sh_mono (k : Nat) {m n : Nat} (h : m ≤ n) : sh k m ≤ sh k n := by
  induction h with
  | refl => exact Nat.le_refl _
  | step _ ih => rw [growth]; omega
/-! the next lot -/
theorem plc_range : ∀ (n i : Nat), i = 1 → plc i (List.range n) = 0
  | 0, _, _ => rfl
  | n + 1, i, e => by
    subst e
    rw [List.range_succ, plc_snoc, plc_range n 1 rfl, List.length_range, ch_lt _ _ (by omega)]
theorem hockey (x : Nat) : ∀ n : Nat, plc 1 ((List.range (n + 1)).map (x + ·)) + 1 = ch (x + n + 1) (n + 1)
  | 0 => by
    show ch (x + 0) 1 + 0 + 1 = ch (x + 0 + 1) 1
    rw [ch_one, ch_one]
  | n + 1 => by
    have ih := hockey x n
    rw [List.range_succ, List.map_append, List.map_cons, List.map_nil, plc_snoc, List.length_map, List.length_range]
    rw [show x + (n + 1) + 1 = (x + n + 1) + 1 by omega, ch_succ, show 1 + (n + 1) = n + 1 + 1 by omega, show x + (n + 1) = x + n + 1 by omega]
    omega
theorem next_ok {xs : List Nat} {b x0 i : Nat} (h : asc xs b) (hi : i < xs.length) (hr : ∀ j, j ≤ i → xs[j]? = some (x0 + j)) (he : ∀ y, xs[i + 1]? = some y → y ≠ x0 + i + 1) :
    lot xs.length (plc 1 xs + 1) = List.range i ++ [x0 + i + 1] ++ xs.drop (i + 1) := by
  have e1 : xs.take (i + 1) = (List.range (i + 1)).map (x0 + ·) := by
    refine List.ext_getElem? fun j => ?_
    by_cases hj : j ≤ i
    · rw [List.getElem?_take_of_lt (by omega), hr j hj, List.getElem?_map, List.getElem?_range (by omega)]
      rfl
    · rw [List.getElem?_eq_none (by rw [List.length_take]; omega), List.getElem?_eq_none (by rw [List.length_map, List.length_range]; omega)]
  have e2 : xs = (List.range (i + 1)).map (x0 + ·) ++ xs.drop (i + 1) := by rw [← e1]; exact (List.take_append_drop (i + 1) xs).symm
  have lo : ∀ y ∈ xs.drop (i + 1), x0 + i + 1 < y := by
    have p : ∀ y ∈ xs.drop (i + 1), x0 + i < y := by
      have h1 := h.1
      rw [e2, List.pairwise_append] at h1
      exact fun y hy => h1.2.2 (x0 + i) (List.mem_map.mpr ⟨i, List.mem_range.mpr (by omega), rfl⟩) y hy
    have q := (asc_tail h (i + 1)).1
    cases z : xs.drop (i + 1) with
    | nil => intro y hy; cases hy
    | cons y0 r =>
      rw [z] at p q
      have y0n : y0 ≠ x0 + i + 1 := he y0 (by have := congrArg (fun l => l[0]?) z; rw [List.getElem?_drop] at this; exact this)
      have y0p := p y0 (by simp)
      intro y hy
      rcases List.mem_cons.mp hy with e | e
      · subst e; omega
      · have := (List.pairwise_cons.mp q).1 y e; omega
  have len : (List.range i ++ [x0 + i + 1] ++ xs.drop (i + 1)).length = xs.length := by
    simp only [List.length_append, List.length_range, List.length_cons, List.length_nil, List.length_drop]
    omega
  have pl : plc 1 (List.range i ++ [x0 + i + 1] ++ xs.drop (i + 1)) = plc 1 xs + 1 := by
    conv => rhs; rw [e2]
    rw [plc_app, plc_snoc, plc_app, plc_range i 1 rfl]
    have hk := hockey x0 i
    simp only [List.length_append, List.length_range, List.length_cons, List.length_nil, List.length_map]
    rw [show 1 + (i + (0 + 1)) = 1 + (i + 1) by omega, show 1 + i = i + 1 by omega]
    omega
  have as : asc (List.range i ++ [x0 + i + 1] ++ xs.drop (i + 1)) (max b (x0 + i + 2)) := by
    constructor
    · rw [List.pairwise_append, List.pairwise_append]
      refine ⟨⟨List.pairwise_lt_range, by simp, fun x hx y hy => ?_⟩, (asc_tail h (i + 1)).1, fun x hx y hy => ?_⟩
      · rw [List.mem_singleton.mp hy]
        have := List.mem_range.mp hx
        omega
      · have := lo y hy
        rcases List.mem_append.mp hx with e | e
        · have := List.mem_range.mp e; omega
        · rw [List.mem_singleton.mp e]; exact this
    · intro x hx
      rcases List.mem_append.mp hx with e | e
      · rcases List.mem_append.mp e with e | e
        · have := List.mem_range.mp e; omega
        · rw [List.mem_singleton.mp e]; omega
      · have := (asc_tail h (i + 1)).2 x e; omega
  rw [← pl, ← len]
  exact lot_place as
/-! cascades are told by their numbers -/
def isC : Nat → List Nat → Prop
  | _, [] => True
  | k, a :: r => 1 ≤ k ∧ k ≤ a ∧ (∀ x ∈ r, x < a) ∧ isC (k - 1) r
def tot : Nat → List Nat → Nat
  | _, [] => 0
  | k, a :: r => ch a k + tot (k - 1) r
theorem tot_lt : ∀ (xs : List Nat) (k a : Nat), isC k xs → (∀ x ∈ xs, x < a) → k ≤ a → tot k xs < ch a k
  | [], k, a, _, _, h => ch_pos a k h
  | b :: r, k, a, h, hb, hk => by
    obtain ⟨h1, h2, h3, h4⟩ := h
    obtain ⟨j, rfl⟩ : ∃ j, k = j + 1 := ⟨k - 1, by omega⟩
    have ih := tot_lt r j b h4 h3 (by omega)
    have m := ch_mono (j + 1) (show b + 1 ≤ a from hb b (by simp))
    rw [ch_succ] at m
    show ch b (j + 1) + tot j r < _
    omega
theorem casc_cons {k m : Nat} (hm : m ≠ 0) : casc (k + 1) m = top m (k + 1) :: casc k (m - ch (top m (k + 1)) (k + 1)) := by
  conv => lhs; unfold casc
  rw [if_neg hm]
theorem casc_nil (k : Nat) : casc k 0 = [] := by cases k <;> rfl
theorem casc_tot : ∀ (xs : List Nat) (k : Nat), isC k xs → casc k (tot k xs) = xs
  | [], k, _ => casc_nil k
  | a :: r, k, h => by
    obtain ⟨h1, h2, h3, h4⟩ := h
    obtain ⟨j, rfl⟩ : ∃ j, k = j + 1 := ⟨k - 1, by omega⟩
    have l := tot_lt r j a h4 h3 (by omega)
    have p := ch_pos a (j + 1) h2
    show casc (j + 1) (ch a (j + 1) + tot j r) = _
    have t : top (ch a (j + 1) + tot j r) (j + 1) = a := top_eq (by omega) ⟨by omega, by omega, by rw [ch_succ]; omega⟩
    rw [casc_cons (by omega), t, Nat.add_sub_cancel_left, casc_tot r j h4]
theorem casc_lt : ∀ (k m a : Nat), m < ch a k → ∀ x ∈ casc k m, x < a
  | 0, _, _, _, _, h => nomatch h
  | k + 1, m, a, h, x, hx => by
    by_cases hm : m = 0
    · subst hm; rw [casc_nil] at hx; cases hx
    · rw [casc_cons hm] at hx
      have t := top_spec m (show 1 ≤ k + 1 by omega)
      have lt : top m (k + 1) < a := Nat.lt_of_not_le fun q => by
        have := ch_mono (k + 1) q
        have := t.le
        omega
      rcases List.mem_cons.mp hx with e | e
      · subst e; exact lt
      · exact Nat.lt_trans (casc_lt k _ _ top_rest x e) lt
theorem casc_isC : ∀ (k m : Nat), isC k (casc k m)
  | 0, _ => trivial
  | k + 1, m => by
    by_cases hm : m = 0
    · subst hm; rw [casc_nil]; trivial
    · rw [casc_cons hm]
      exact ⟨by omega, top_ge (by omega) (by omega), casc_lt k _ _ top_rest, casc_isC k _⟩
theorem tot_casc : ∀ (k m : Nat), (k = 0 → m = 0) → tot k (casc k m) = m
  | 0, m, h => (h rfl).symm
  | k + 1, m, _ => by
    by_cases hm : m = 0
    · subst hm; rw [casc_nil]; rfl
    · rw [casc_cons hm]
      show ch (top m (k + 1)) (k + 1) + tot k _ = m
      have t := top_spec m (show 1 ≤ k + 1 by omega)
      rw [tot_casc k _ (fun e => by subst e; exact rest_zero)]
      have := t.le
      omega
theorem isC_len : ∀ (xs : List Nat) (k : Nat), isC k xs → xs.length ≤ k
  | [], _, _ => Nat.zero_le _
  | a :: r, k, h => by
    have := isC_len r (k - 1) h.2.2.2
    have := h.1
    simp; omega
/-! the same, of whole numbers of any sign -/
/-- how many lots, as the program tells -/
def cb (a b : Int) : Int := if b < 0 ∨ a < b then 0 else (ch a.toNat b.toNat : Int)
theorem cb_nat (a b : Nat) : cb a b = (ch a b : Int) := by
  unfold cb
  by_cases h : a < b
  · rw [if_pos (.inr (by omega)), ch_lt a b h]; rfl
  · rw [if_neg (by omega)]; rfl
/-- which are no less than their sizes -/
def hiL : Int → List Int → List Bool
  | _, [] => []
  | k, a :: r => decide (k ≤ a) :: hiL (k - 1) r
theorem hiL_len : ∀ (ns : List Int) (k : Int), (hiL k ns).length = ns.length
  | [], _ => rfl
  | a :: r, k => by show (hiL (k - 1) r).length + 1 = r.length + 1; rw [hiL_len r]
theorem hiL_get : ∀ (ns : List Int) (k : Int) (i : Nat) (a : Int), ns[i]? = some a → (hiL k ns)[i]? = some (decide (k - i ≤ a))
  | [], _, _, _, h => by cases h
  | b :: r, k, 0, a, h => by cases h; show some _ = some _; rw [show k - ((0 : Nat) : Int) = k by omega]
  | b :: r, k, i + 1, a, h => by
    have := hiL_get r (k - 1) i a (by simpa using h)
    rw [show k - ((i + 1 : Nat) : Int) = k - 1 - (i : Int) by omega]
    show (hiL (k - 1) r)[i]? = _
    exact this
/-- which are greater than the next -/
def deL : List Int → List Bool
  | [] => []
  | [_] => []
  | a :: b :: r => decide (b < a) :: deL (b :: r)
theorem deL_len : ∀ ns : List Int, (deL ns).length = ns.length - 1
  | [] => rfl
  | [_] => rfl
  | a :: b :: r => by show (deL (b :: r)).length + 1 = _; rw [deL_len (b :: r)]; simp
theorem deL_get : ∀ (ns : List Int) (i : Nat) (a b : Int), ns[i]? = some a → ns[i + 1]? = some b → (deL ns)[i]? = some (decide (b < a))
  | [], _, _, _, h, _ => by cases h
  | [x], i, _, _, _, h => by simp at h
  | x :: y :: r, 0, a, b, h1, h2 => by cases h1; cases h2; rfl
  | x :: y :: r, i + 1, a, b, h1, h2 => by
    have := deL_get (y :: r) i a b (by simpa using h1) (by simpa using h2)
    show (deL (y :: r))[i]? = _
    exact this
def totL : Nat → List Int → List Int
  | 0, _ => []
  | _ + 1, [] => []
  | k + 1, a :: r => cb a ((k + 1 : Nat) : Int) :: totL k r
theorem totL_len : ∀ (k : Nat) (ns : List Int), (totL k ns).length = min ns.length k
  | 0, ns => by simp [totL]
  | k + 1, [] => by simp [totL]
  | k + 1, a :: r => by show (totL k r).length + 1 = _; rw [totL_len k r]; simp
theorem totL_get : ∀ (k : Nat) (ns : List Int) (i : Nat) (a : Int), i < k → ns[i]? = some a → (totL k ns)[i]? = some (cb a ((k : Int) - i))
  | 0, _, _, _, h, _ => by omega
  | k + 1, [], _, _, _, h => by cases h
  | k + 1, b :: r, 0, a, _, h => by cases h; show some _ = some _; rw [show ((k + 1 : Nat) : Int) - ((0 : Nat) : Int) = ((k + 1 : Nat) : Int) by omega]
  | k + 1, b :: r, i + 1, a, hi, h => by
    have := totL_get k r i a (by omega) (by simpa using h)
    rw [show ((k + 1 : Nat) : Int) - ((i + 1 : Nat) : Int) = (k : Int) - (i : Int) by omega]
    show (totL k r)[i]? = _
    exact this
def il (xs : List Nat) : List Int := xs.map fun (a : Nat) => (a : Int)
theorem totL_sum : ∀ (xs : List Nat) (k : Nat), xs.length ≤ k → (totL k (il xs)).sum = (tot k xs : Int)
  | [], 0, _ => rfl
  | [], k + 1, _ => rfl
  | a :: r, 0, h => by simp at h
  | a :: r, k + 1, h => by
    show cb (a : Int) ((k + 1 : Nat) : Int) + (totL k (il r)).sum = ((ch a (k + 1) + tot k r : Nat) : Int)
    rw [totL_sum r k (by simpa using h), cb_nat]
    omega
theorem isC_hi : ∀ (xs : List Nat) (k : Nat), isC k xs → (hiL k (il xs)).all id = true
  | [], _, _ => rfl
  | a :: r, k, h => by
    obtain ⟨h1, h2, h3, h4⟩ := h
    have ih := isC_hi r (k - 1) h4
    rw [show ((k - 1 : Nat) : Int) = (k : Int) - 1 by omega] at ih
    show (decide ((k : Int) ≤ (a : Int)) && (hiL ((k : Int) - 1) (il r)).all id) = true
    rw [ih, decide_eq_true (by omega)]
    rfl
theorem isC_de : ∀ (xs : List Nat) (k : Nat), isC k xs → (deL (il xs)).all id = true
  | [], _, _ => rfl
  | [_], _, _ => rfl
  | a :: b :: r, k, h => by
    obtain ⟨h1, h2, h3, h4⟩ := h
    have ih := isC_de (b :: r) (k - 1) h4
    have := h3 b (by simp)
    show (decide ((b : Int) < (a : Int)) && (deL (il (b :: r))).all id) = true
    rw [ih, decide_eq_true (by omega)]
    rfl
theorem good_isC : ∀ (ns : List Int) (k : Nat), ns.length ≤ k → (hiL k ns).all id = true → (deL ns).all id = true → ∃ xs : List Nat, ns = il xs ∧ isC k xs
  | [], k, _, _, _ => ⟨[], rfl, trivial⟩
  | a :: r, k, hl, hh, hd => by
    have hl : r.length + 1 ≤ k := hl
    have hh : (decide ((k : Int) ≤ a) && (hiL ((k : Int) - 1) r).all id) = true := hh
    rw [Bool.and_eq_true, decide_eq_true_eq] at hh
    have hd2 : (deL r).all id = true ∧ ∀ b r', r = b :: r' → b < a := by
      cases r with
      | nil => exact ⟨rfl, fun b r' e => by cases e⟩
      | cons b r' =>
        have hd : (decide (b < a) && (deL (b :: r')).all id) = true := hd
        rw [Bool.and_eq_true, decide_eq_true_eq] at hd
        exact ⟨hd.2, fun b2 r2 e => by cases e; exact hd.1⟩
    obtain ⟨xs, e, c⟩ := good_isC r (k - 1) (by omega) (by rw [show ((k - 1 : Nat) : Int) = (k : Int) - 1 by omega]; exact hh.2) hd2.1
    refine ⟨a.toNat :: xs, ?_, by omega, by omega, ?_, c⟩
    · show a :: r = ((a.toNat : Nat) : Int) :: il xs
      rw [e, show ((a.toNat : Nat) : Int) = a by omega]
    · cases xs with
      | nil => intro x hx; cases hx
      | cons b xs' =>
        have hb := hd2.2 b (il xs') e
        intro x hx
        rcases List.mem_cons.mp hx with q | q
        · subst q; omega
        · have := c.2.2.1 x q; omega
/-! bounds -/
def fac : Nat → Nat
  | 0 => 1
  | n + 1 => (n + 1) * fac n
theorem fac_pos : ∀ n, 1 ≤ fac n
  | 0 => Nat.le_refl _
  | n + 1 => by
    have := fac_pos n
    show 1 ≤ (n + 1) * fac n
    exact Nat.le_trans this (Nat.le_mul_of_pos_left _ (by omega))
theorem fac_mono {n m : Nat} (h : n ≤ m) : fac n ≤ fac m := by
  induction h with
  | refl => exact Nat.le_refl _
  | step _ ih => exact Nat.le_trans ih (Nat.le_mul_of_pos_left _ (by omega))
theorem shs_fac (k m : Nat) : ∀ j, j ≤ k → shs k m j * fac (k - j) ≤ fac k * m
  | 0, _ => by show m * fac (k - 0) ≤ _; rw [Nat.sub_zero, Nat.mul_comm]; exact Nat.le_refl _
  | j + 1, h => by
    have ih := shs_fac k m j (by omega)
    have a := sh_le (k - j) (shs k m j)
    obtain ⟨d, hd⟩ : ∃ d, k - j = d + 1 := ⟨k - j - 1, by omega⟩
    show sh (k - j) (shs k m j) * fac (k - (j + 1)) ≤ _
    rw [show k - (j + 1) = d by omega]
    rw [hd] at a ih ⊢
    have e : fac (d + 1) = (d + 1) * fac d := rfl
    have b := Nat.mul_le_mul_right (fac d) a
    have c : (d + 1) * shs k m j * fac d = shs k m j * fac (d + 1) := by rw [e]; grind
    omega
theorem shs_b {k m j : Nat} (hk : k ≤ 12) (hm : m ≤ 3000000) (hj : j ≤ k) : shs k m j ≤ 2 ^ 57 := by
  have a := shs_fac k m j hj
  have b : shs k m j ≤ shs k m j * fac (k - j) := Nat.le_mul_of_pos_right _ (fac_pos _)
  have c : fac k * m ≤ fac 12 * 3000000 := Nat.mul_le_mul (fac_mono hk) hm
  have d : fac 12 * 3000000 ≤ 2 ^ 57 := by decide
  omega
theorem ch_pow : ∀ n k : Nat, ch n k ≤ 2 ^ n
  | n, 0 => by rw [ch_zero]; exact Nat.one_le_two_pow
  | 0, k + 1 => by rw [ch_lt _ _ (by omega)]; exact Nat.zero_le _
  | n + 1, k + 1 => by
    have a := ch_pow n k
    have b := ch_pow n (k + 1)
    rw [ch_succ, Nat.pow_succ]
    omega
end Ca
namespace Ca
/-! symmetry, sums -/
theorem ch_sym : ∀ (s k : Nat), ch (s + k) s = ch (s + k) k
  | 0, k => by rw [ch_zero, Nat.zero_add, ch_self]
  | s + 1, 0 => by rw [ch_zero, Nat.add_zero, ch_self]
  | s + 1, k + 1 => by
    rw [show s + 1 + (k + 1) = (s + k + 1) + 1 by omega, ch_succ (s + k + 1) s, ch_succ (s + k + 1) k]
    have a := ch_sym s (k + 1)
    have b := ch_sym (s + 1) k
    rw [show s + (k + 1) = s + k + 1 by omega] at a
    rw [show s + 1 + k = s + k + 1 by omega] at b
    omega
def bs (n : Nat) : Nat → Nat
  | 0 => 0
  | k + 1 => bs n k + ch n k
theorem bs_succ (n k : Nat) : bs n (k + 1) = bs n k + ch n k := rfl
theorem bs_pascal (n : Nat) : ∀ k, bs (n + 1) (k + 1) = bs n (k + 1) + bs n k
  | 0 => by simp only [bs, ch_zero]
  | k + 1 => by
    rw [bs_succ, bs_pascal n k, ch_succ, bs_succ n (k + 1), bs_succ n k]
    omega
theorem bs_over (n : Nat) : ∀ k, bs n (n + 1 + k) = bs n (n + 1)
  | 0 => rfl
  | k + 1 => by rw [show n + 1 + (k + 1) = (n + 1 + k) + 1 by omega, bs_succ, bs_over n k, ch_lt _ _ (by omega)]; rfl
theorem bs_all : ∀ n, bs n (n + 1) = 2 ^ n
  | 0 => rfl
  | n + 1 => by
    rw [bs_pascal n (n + 1), bs_over n 1, bs_all n, Nat.pow_succ]
    omega
theorem bs_big {n k : Nat} (h : n + 1 ≤ k) : bs n k = 2 ^ n := by
  obtain ⟨d, rfl⟩ : ∃ d, k = n + 1 + d := ⟨k - (n + 1), by omega⟩
  rw [bs_over, bs_all]
theorem bs_mono (n : Nat) {k j : Nat} (h : k ≤ j) : bs n k ≤ bs n j := by
  induction h with
  | refl => exact Nat.le_refl _
  | step _ ih => rw [bs_succ]; omega
theorem bs_le (n k : Nat) : bs n k ≤ 2 ^ n := by
  by_cases h : n + 1 ≤ k
  · rw [bs_big h]; exact Nat.le_refl _
  · rw [← bs_all n]; exact bs_mono n (by omega)
theorem bs_co (n : Nat) : ∀ k, k ≤ n + 1 → bs n k + bs n (n + 1 - k) = 2 ^ n
  | 0, _ => by rw [Nat.sub_zero, bs_all]; show 0 + _ = _; omega
  | k + 1, h => by
    have ih := bs_co n k (by omega)
    rw [show n + 1 - k = (n + 1 - (k + 1)) + 1 by omega, bs_succ] at ih
    rw [bs_succ]
    have e := ch_sym k (n - k)
    rw [show k + (n - k) = n by omega] at e
    rw [show n + 1 - (k + 1) = n - k by omega] at ih ⊢
    omega
/-! what has one of the first within -/
theorem sh_cap {a s r : Nat} (h : s + 1 ≤ a) (hr : r ≤ ch a (s + 1)) : sh (s + 1) r ≤ ch a s := by
  have := sh_mono (s + 1) hr
  rw [sh_ch h] at this
  exact this
theorem wi_else {n k r : Nat} (hk : 1 ≤ k) (hr : r ≤ ch (n + 1) k) (h : ch n (k - 1) < r) : k ≤ n ∧ r - ch n (k - 1) ≤ ch n k ∧ sh (n + 1 - k) r = ch n k + sh (n - k) (r - ch n (k - 1)) := by
  obtain ⟨j, rfl⟩ : ∃ j, k = j + 1 := ⟨k - 1, by omega⟩
  rw [ch_succ] at hr
  rw [Nat.add_sub_cancel] at *
  have kn : j + 1 ≤ n := Nat.le_of_not_lt fun q => by rw [ch_lt n (j + 1) (by omega)] at hr; omega
  refine ⟨kn, by omega, ?_⟩
  obtain ⟨s, hs⟩ : ∃ s, n = j + 1 + s := ⟨n - (j + 1), by omega⟩
  have e1 := ch_sym (j + 1) s
  have e2 := ch_sym j (s + 1)
  rw [show j + (s + 1) = j + 1 + s by omega] at e2
  rw [show n + 1 - (j + 1) = s + 1 by omega, show n - (j + 1) = s by omega]
  subst hs
  have a := @sh_at (j + 1 + s) s (r - ch (j + 1 + s) j) (by omega) (by omega)
  rw [← e2, ← e1, show ch (j + 1 + s) j + (r - ch (j + 1 + s) j) = r by omega] at a
  exact a
theorem wi_end {n r : Nat} (hr : r ≤ ch n 0) (h : 0 < r) : sh n r = n := by
  rw [ch_zero] at hr
  rw [show r = 1 by omega, sh_one]
/-- shadows of what is left -/
theorem dual : ∀ (n s k r : Nat), s + k = n → r ≤ ch n s → sh (k + 1) (ch n (k + 1) - sh s r) + r ≤ ch n k
  | n, 0, k, r, e, hr => by
    rw [ch_zero] at hr
    have e2 : k = n := by omega
    subst e2
    rw [ch_lt k (k + 1) (by omega), Nat.zero_sub, sh_zero, ch_self]
    omega
  | n, 1, k, r, e, hr => by
    have e2 : n = k + 1 := by omega
    subst e2
    rw [ch_one] at hr
    rw [ch_self, ch_up]
    by_cases h : r = 0
    · subst h
      rw [sh_zero, Nat.sub_zero, sh_one]
      omega
    · have : sh 1 r = 1 := by
        rw [sh_succ h, ch_zero]
        rfl
      rw [this, Nat.sub_self, sh_zero]
      omega
  | n, s + 2, 0, r, e, hr => by
    have e2 : n = s + 2 := by omega
    subst e2
    rw [ch_self] at hr
    rw [ch_zero, ch_one]
    by_cases h : r = 0
    · subst h
      rw [sh_zero, Nat.sub_zero, sh_succ (by omega), ch_zero]
      show 1 + 0 + 0 ≤ 1
      omega
    · rw [show r = 1 by omega, sh_one, Nat.sub_self, sh_zero]
      omega
  | 0, s + 2, k + 1, r, e, hr => by omega
  | n + 1, s + 2, k + 1, r, e, hr => by
    have en : n = s + k + 2 := by omega
    have y1 : ch n (s + 1) = ch n (k + 1) := by
      have := ch_sym (s + 1) (k + 1)
      rw [show s + 1 + (k + 1) = n by omega] at this
      exact this
    have y2 : ch n (s + 2) = ch n k := by
      have := ch_sym (s + 2) k
      rw [show s + 2 + k = n by omega] at this
      exact this
    have hr : r ≤ ch n (s + 1) + ch n (s + 2) := hr
    rw [ch_succ n (k + 1), ch_succ n k]
    by_cases h : r ≤ ch n (s + 2)
    · have u := @sh_cap n (s + 1) r (by omega) h
      have ih := dual n (s + 2) k r (by omega) h
      have a := @sh_at n (k + 1) (ch n (k + 1) - sh (s + 2) r) (by omega) (by omega)
      have u' : sh (s + 2) r ≤ ch n (k + 1) := by rw [← y1]; exact u
      rw [show ch n (k + 1) + ch n (k + 1 + 1) - sh (s + 2) r = ch n (k + 1 + 1) + (ch n (k + 1) - sh (s + 2) r) by omega, a]
      omega
    · obtain ⟨q, rfl⟩ : ∃ q, r = ch n (s + 2) + q := ⟨r - ch n (s + 2), by omega⟩
      have a : sh (s + 2) (ch n (s + 2) + q) = ch n (s + 1) + sh (s + 1) q := sh_at (by omega) (by omega)
      have ih := dual n (s + 1) (k + 1) q (by omega) (by omega)
      rw [a, y1, show ch n (k + 1) + ch n (k + 1 + 1) - (ch n (k + 1) + sh (s + 1) q) = ch n (k + 1 + 1) - sh (s + 1) q by omega]
      omega
/-! how many are close by -/
def lv (n m : Nat) : Nat → Nat → Nat
  | 0, k => k
  | f + 1, k => if bs n (k + 1) ≤ m then lv n m f (k + 1) else k
def lev (n m : Nat) : Nat := lv n m n 0
theorem lv_spec {n m : Nat} : ∀ (f k : Nat), k + f = n → bs n k ≤ m → bs n (lv n m f k) ≤ m ∧ lv n m f k ≤ n ∧ (lv n m f k = n ∨ m < bs n (lv n m f k + 1))
  | 0, k, e, h => ⟨h, by show k ≤ n; omega, .inl (by show k = n; omega)⟩
  | f + 1, k, e, h => by
    unfold lv
    by_cases q : bs n (k + 1) ≤ m
    · rw [if_pos q]
      exact lv_spec f (k + 1) (by omega) q
    · rw [if_neg q]
      exact ⟨h, by omega, .inr (by omega)⟩
theorem lev_spec (n m : Nat) : bs n (lev n m) ≤ m ∧ lev n m ≤ n ∧ (lev n m = n ∨ m < bs n (lev n m + 1)) := lv_spec n 0 (by omega) (Nat.zero_le _)
def cl (n m : Nat) : Nat := if m = 0 then 0 else if 2 ^ n ≤ m then 2 ^ n else bs n (lev n m + 1) + sh (n - lev n m) (m - bs n (lev n m))
theorem cl_zero (n : Nat) : cl n 0 = 0 := if_pos rfl
theorem cl_full {n m : Nat} (h : 2 ^ n ≤ m) : cl n m = 2 ^ n := by
  have : 1 ≤ 2 ^ n := Nat.one_le_two_pow
  unfold cl
  rw [if_neg (by omega), if_pos h]
theorem cl_in {n m k : Nat} (h1 : 1 ≤ m) (hk : k ≤ n) (h2 : bs n k ≤ m) (h3 : m < bs n (k + 1)) : cl n m = bs n (k + 1) + sh (n - k) (m - bs n k) := by
  have hb := bs_le n (k + 1)
  obtain ⟨a, b, c⟩ := lev_spec n m
  have e : lev n m = k := by
    rcases Nat.lt_trichotomy (lev n m) k with q | q | q
    · have := bs_mono n (show lev n m + 1 ≤ k from q)
      rcases c with c | c <;> omega
    · exact q
    · have := bs_mono n (show k + 1 ≤ lev n m from q)
      omega
  unfold cl
  rw [if_neg (by omega), if_neg (by omega), e]
theorem cl_at {n k r : Nat} (hk : k ≤ n) (hr : r ≤ ch n k) (h1 : 1 ≤ bs n k + r) : cl n (bs n k + r) = bs n (k + 1) + sh (n - k) r := by
  by_cases q : r < ch n k
  · rw [cl_in h1 hk (by omega) (by rw [bs_succ]; omega), Nat.add_sub_cancel_left]
  · have e : r = ch n k := by omega
    subst e
    rw [← bs_succ]
    by_cases hn : k = n
    · subst hn
      rw [bs_all, cl_full (Nat.le_refl _), Nat.sub_self]
      rfl
    · have p := ch_pos n (k + 1) (by omega)
      rw [cl_in (k := k + 1) (by rw [bs_succ]; omega) (by omega) (Nat.le_refl _) (by rw [bs_succ n (k + 1)]; omega), Nat.sub_self, sh_zero, bs_succ n (k + 1)]
      obtain ⟨s, hs⟩ : ∃ s, n = k + (s + 1) := ⟨n - k - 1, by omega⟩
      have e1 := ch_sym k (s + 1)
      have e2 := ch_sym (k + 1) s
      rw [show k + 1 + s = k + (s + 1) by omega] at e2
      subst hs
      rw [show k + (s + 1) - k = s + 1 by omega, e1, sh_ch (by omega), e2]
      rfl
theorem cl_parts {n m : Nat} (h1 : 1 ≤ m) (h2 : m < 2 ^ n) : ∃ k r, k ≤ n ∧ r < ch n k ∧ m = bs n k + r := by
  obtain ⟨a, b, c⟩ := lev_spec n m
  refine ⟨lev n m, m - bs n (lev n m), b, ?_, by omega⟩
  rcases c with c | c
  · rw [c] at a ⊢
    have := bs_all n
    rw [bs_succ] at this
    omega
  · rw [bs_succ] at c; omega
theorem sh_cap2 {n k r : Nat} (hk : k < n) (hr : r ≤ ch n k) : sh (n - k) r ≤ ch n (k + 1) := by
  obtain ⟨s, hs⟩ : ∃ s, n = k + (s + 1) := ⟨n - k - 1, by omega⟩
  have e1 := ch_sym k (s + 1)
  have e2 := ch_sym (k + 1) s
  rw [show k + 1 + s = k + (s + 1) by omega] at e2
  subst hs
  rw [show k + (s + 1) - k = s + 1 by omega, e2]
  exact sh_cap (by omega) (by rw [← e1]; exact hr)
theorem cl_le (n m : Nat) : cl n m ≤ 2 ^ n := by
  by_cases h0 : m = 0
  · subst h0; rw [cl_zero]; exact Nat.zero_le _
  · by_cases h : m < 2 ^ n
    · obtain ⟨k, r, hk, hr, rfl⟩ := cl_parts (by omega) h
      rw [cl_at hk (by omega) (by omega)]
      by_cases hn : k = n
      · subst hn; rw [Nat.sub_self]; exact bs_le k (k + 1)
      · have := sh_cap2 (show k < n by omega) (show r ≤ ch n k by omega)
        have := bs_le n (k + 2)
        rw [bs_succ] at this
        omega
    · rw [cl_full (by omega)]; exact Nat.le_refl _
theorem cl_ge {n m : Nat} (h : m ≤ 2 ^ n) : m ≤ cl n m := by
  by_cases h0 : m = 0
  · subst h0; exact Nat.zero_le _
  · by_cases hm : m < 2 ^ n
    · obtain ⟨k, r, hk, hr, rfl⟩ := cl_parts (by omega) hm
      rw [cl_at hk (by omega) (by omega), bs_succ]
      omega
    · rw [cl_full (by omega)]; exact h
theorem cl_step (n m : Nat) : cl n m ≤ cl n (m + 1) := by
  by_cases h0 : m = 0
  · subst h0; rw [cl_zero]; exact Nat.zero_le _
  · by_cases h : m < 2 ^ n
    · obtain ⟨k, r, hk, hr, rfl⟩ := cl_parts (by omega) h
      rw [cl_at hk (by omega) (by omega), Nat.add_assoc, cl_at hk (by omega) (by omega)]
      have := sh_mono (n - k) (show r ≤ r + 1 by omega)
      omega
    · rw [cl_full (by omega), cl_full (by omega)]; exact Nat.le_refl _
theorem cl_mono (n : Nat) {m m' : Nat} (h : m ≤ m') : cl n m ≤ cl n m' := by
  induction h with
  | refl => exact Nat.le_refl _
  | step _ ih => exact Nat.le_trans ih (cl_step n _)
theorem cl_dual {n m : Nat} (h : m ≤ 2 ^ n) : cl n (2 ^ n - cl n m) + m ≤ 2 ^ n := by
  by_cases h0 : m = 0
  · subst h0; have := cl_le n (2 ^ n - cl n 0); omega
  · by_cases hm : m < 2 ^ n
    · obtain ⟨k, r, hk, hr, rfl⟩ := cl_parts (by omega) hm
      rw [cl_at hk (by omega) (by omega)]
      have co := bs_co n (k + 1) (by omega)
      by_cases hn : k = n
      · subst hn
        have : bs k (k + 1) = 2 ^ k := bs_all k
        rw [this, show 2 ^ k - (2 ^ k + sh (k - k) r) = 0 by omega, cl_zero]
        omega
      · have u := sh_cap2 (show k < n by omega) (show r ≤ ch n k by omega)
        obtain ⟨s, hs⟩ : ∃ s, n = k + (s + 1) := ⟨n - k - 1, by omega⟩
        have e2 := ch_sym (k + 1) s
        rw [show k + 1 + s = n by omega] at e2
        have e1 := ch_sym k (s + 1)
        rw [show k + (s + 1) = n by omega] at e1
        rw [show n + 1 - (k + 1) = s + 1 by omega, bs_succ n s] at co
        have eq : 2 ^ n - (bs n (k + 1) + sh (n - k) r) = bs n s + (ch n (k + 1) - sh (n - k) r) := by omega
        rw [eq]
        by_cases z : bs n s + (ch n (k + 1) - sh (n - k) r) = 0
        · rw [z, cl_zero]; omega
        · rw [cl_at (by omega) (by omega) (by omega)]
          have d := dual n (n - k) k r (by omega) (by rw [show n - k = s + 1 by omega, ← e1]; omega)
          rw [show n - s = k + 1 by omega, bs_succ n s]
          rw [bs_succ n k] at co
          omega
    · rw [cl_full (show 2 ^ n ≤ m by omega), Nat.sub_self, cl_zero]; omega
def st (n m : Nat) : Nat → Nat
  | 0 => m
  | t + 1 => cl n (st n m t)
theorem st_comm (n m : Nat) : ∀ t, st n (cl n m) t = cl n (st n m t)
  | 0 => rfl
  | t + 1 => by show cl n (st n (cl n m) t) = cl n (cl n (st n m t)); rw [st_comm n m t]
theorem st_mono (n : Nat) {m m' : Nat} (h : m ≤ m') : ∀ t, st n m t ≤ st n m' t
  | 0 => h
  | t + 1 => cl_mono n (st_mono n h t)
theorem st_le {n m : Nat} (h : m ≤ 2 ^ n) : ∀ t, st n m t ≤ 2 ^ n
  | 0 => h
  | t + 1 => cl_le n _
theorem st_dual {n m : Nat} (h : m ≤ 2 ^ n) : ∀ t, st n (2 ^ n - st n m t) t + m ≤ 2 ^ n
  | 0 => by show 2 ^ n - m + m ≤ 2 ^ n; omega
  | t + 1 => by
    have ih := st_dual h t
    have d := cl_dual (st_le h t)
    have c : st n (2 ^ n - st n m (t + 1)) (t + 1) = st n (cl n (2 ^ n - cl n (st n m t))) t := (st_comm n _ t).symm
    rw [c]
    have := st_mono n (show cl n (2 ^ n - cl n (st n m t)) ≤ 2 ^ n - st n m t by omega) t
    omega
theorem far_back {n m t : Nat} (h : m ≤ 2 ^ n) : m ≤ 2 ^ n - st n (2 ^ n - st n m t) t := by
  have := st_dual h t
  omega
theorem far_three {n m t : Nat} (h : m ≤ 2 ^ n) : 2 ^ n - st n (2 ^ n - st n (2 ^ n - st n m t) t) t = 2 ^ n - st n m t := by
  have a := far_back (t := t) h
  have b := @far_back n (2 ^ n - st n m t) t (by omega)
  have c := st_mono n a t
  have d := st_le h t
  omega
theorem st_ball {n k : Nat} : ∀ t, st n (bs n (k + 1)) t = bs n (k + t + 1)
  | 0 => rfl
  | t + 1 => by
    show cl n (st n (bs n (k + 1)) t) = _
    rw [st_ball t]
    by_cases h : k + t + 1 ≤ n
    · have p : 1 ≤ bs n (k + t + 1) := by
        have := bs_mono n (show 1 ≤ k + t + 1 by omega)
        have e : bs n 1 = 1 := by show 0 + ch n 0 = 1; rw [ch_zero]
        omega
      have := @cl_at n (k + t + 1) 0 h (Nat.zero_le _) (by omega)
      rw [Nat.add_zero, sh_zero, Nat.add_zero] at this
      exact this
    · rw [bs_big (show n + 1 ≤ k + t + 1 by omega), cl_full (Nat.le_refl _), bs_big (by omega)]
end Ca
namespace Ca
/-! products and quotients as the program forms them -/
def chs (a : Int) : Nat → Int
  | 0 => 1
  | n + 1 => chs a n * (a - n) / (n + 1)
theorem chs_nat (a : Nat) : ∀ n : Nat, chs a n = (ch a n : Int)
  | 0 => by rw [ch_zero]; rfl
  | n + 1 => by
    show chs a n * ((a : Int) - n) / (n + 1) = _
    rw [chs_nat a n]
    have e := ch_mul a n
    by_cases h : n ≤ a
    · have e2 : (ch a n : Int) * ((a : Int) - n) = (ch a (n + 1) : Int) * ((n : Int) + 1) := by
        have : ((a - n : Nat) : Int) = (a : Int) - n := by omega
        rw [← this, ← Int.natCast_mul, ← e]
        rw [Int.natCast_mul]
        rfl
      rw [e2]
      exact Int.mul_ediv_cancel _ (by omega)
    · rw [ch_lt a n (by omega), ch_lt a (n + 1) (by omega)]
      simp
theorem top_lt {m k : Nat} (hk : 1 ≤ k) : top m k < m + k := by
  refine Nat.lt_of_not_le fun z => ?_
  obtain ⟨j, rfl⟩ : ∃ j, k = j + 1 := ⟨k - 1, by omega⟩
  have := ch_mono (j + 1) z
  have := ch_grow m j
  have := (top_spec m hk).le
  omega
/-- what places add -/
def plL : Nat → List Nat → List Int
  | _, [] => []
  | i, a :: r => (ch a i : Int) :: plL (i + 1) r
theorem plL_sum : ∀ (xs : List Nat) (i : Nat), (plL i xs).sum = (plc i xs : Int)
  | [], _ => rfl
  | a :: r, i => by
    show (ch a i : Int) + (plL (i + 1) r).sum = ((ch a i + plc (i + 1) r : Nat) : Int)
    rw [plL_sum r]; rfl
theorem plL_len : ∀ (xs : List Nat) (i : Nat), (plL i xs).length = xs.length
  | [], _ => rfl
  | a :: r, i => by show (plL (i + 1) r).length + 1 = r.length + 1; rw [plL_len r]
theorem plL_get : ∀ (xs : List Nat) (i j a : Nat), xs[j]? = some a → (plL i xs)[j]? = some (ch a (i + j) : Int)
  | [], _, _, _, h => by cases h
  | b :: r, i, 0, a, h => by cases h; rfl
  | b :: r, i, j + 1, a, h => by
    have := plL_get r (i + 1) j a (by simpa using h)
    show (plL (i + 1) r)[j]? = _
    rw [this, show i + 1 + j = i + (j + 1) by omega]
theorem casc_succ {k m : Nat} (hm : m ≠ 0) : casc (k + 1) m = top m (k + 1) :: casc k (m - ch (top m (k + 1)) (k + 1)) := by
  conv => lhs; unfold casc
  rw [if_neg hm]
theorem casc_none (k : Nat) : casc k 0 = [] := by cases k <;> rfl
theorem casc_len : ∀ (k m : Nat), (casc k m).length ≤ k
  | 0, _ => Nat.le_refl _
  | k + 1, m => by
    by_cases hm : m = 0
    · subst hm; rw [casc_none]; exact Nat.zero_le _
    · rw [casc_succ hm]
      have := casc_len k (m - ch (top m (k + 1)) (k + 1))
      simp; omega
theorem casc_mem : ∀ (k m a : Nat), a ∈ casc k m → a < m + k
  | 0, _, _, h => (nomatch h)
  | k + 1, m, a, h => by
    by_cases hm : m = 0
    · subst hm; rw [casc_none] at h; cases h
    · rw [casc_succ hm] at h
      rcases List.mem_cons.mp h with e | e
      · subst e; exact top_lt (by omega)
      · have := casc_mem k _ a e
        omega
/-- the numbers that shadow_number adds -/
def trm : Nat → Nat → List Int
  | 0, _ => []
  | k + 1, m => if m = 0 then [] else (ch (top m (k + 1)) k : Int) :: trm k (m - ch (top m (k + 1)) (k + 1))
theorem trm_succ {k m : Nat} (hm : m ≠ 0) : trm (k + 1) m = (ch (top m (k + 1)) k : Int) :: trm k (m - ch (top m (k + 1)) (k + 1)) := by
  conv => lhs; unfold trm
  rw [if_neg hm]
theorem trm_none (k : Nat) : trm k 0 = [] := by cases k <;> rfl
theorem trm_sum : ∀ (k m : Nat), (trm k m).sum = (sh k m : Int)
  | 0, _ => rfl
  | k + 1, m => by
    by_cases hm : m = 0
    · subst hm; rw [trm_none, sh_zero]; rfl
    · rw [trm_succ hm, sh_succ hm, List.sum_cons, trm_sum k]
      omega
theorem trm_len : ∀ (k m : Nat), (trm k m).length = (casc k m).length
  | 0, _ => rfl
  | k + 1, m => by
    by_cases hm : m = 0
    · subst hm; rw [trm_none, casc_none]; rfl
    · rw [trm_succ hm, casc_succ hm, List.length_cons, List.length_cons, trm_len k]
theorem trm_get : ∀ (k m i a : Nat), (casc k m)[i]? = some a → (trm k m)[i]? = some (cb a ((k : Int) - i - 1))
  | 0, _, _, _, h => by cases h
  | k + 1, m, i, a, h => by
    by_cases hm : m = 0
    · subst hm; rw [casc_none] at h; cases h
    · rw [casc_succ hm] at h
      rw [trm_succ hm]
      cases i with
      | zero =>
        cases h
        show some _ = some _
        rw [show (((k + 1 : Nat) : Int) - ((0 : Nat) : Int) - 1) = (k : Int) by omega, cb_nat]
      | succ i =>
        have := trm_get k _ i a (by simpa using h)
        rw [show (((k + 1 : Nat) : Int) - ((i + 1 : Nat) : Int) - 1) = (k : Int) - i - 1 by omega]
        simpa using this
theorem top_bound {m k A : Nat} (hk : 1 ≤ k) (h : ch A k ≤ m) : A < m + k := by
  refine Nat.lt_of_not_le fun z => ?_
  obtain ⟨j, rfl⟩ : ∃ j, k = j + 1 := ⟨k - 1, by omega⟩
  have := ch_mono (j + 1) z
  have := ch_grow m j
  omega
theorem lot_lt {k p x : Nat} (h : x ∈ lot k p) : x < p + k := by
  cases k with
  | zero => cases h
  | succ k =>
    have a := (lot_asc k p).2 x h
    have b := @top_lt p (k + 1) (by omega)
    omega
theorem num_lot {k m : Nat} (hk : 1 ≤ k) (hm : 1 ≤ m) : sh k m = 1 + plc 1 (lot k (m - 1)).tail := by
  obtain ⟨j, rfl⟩ : ∃ j, k = j + 1 := ⟨k - 1, by omega⟩
  have a := sh_lot (lot_asc j (m - 1)) (by intro e; have := congrArg List.length e; rw [lot_len] at this; cases this)
  rw [lot_len, plc_lot, show m - 1 + 1 = m by omega] at a
  exact a
theorem good_casc {k m : Nat} : (decide ((il (casc k m)).length ≤ k) && (hiL k (il (casc k m))).all id && (deL (il (casc k m))).all id) = true := by
  have c := casc_isC k m
  have e : (il (casc k m)).length = (casc k m).length := List.length_map _
  rw [isC_hi _ _ c, isC_de _ _ c, decide_eq_true (by rw [e]; exact casc_len k m)]
  rfl
theorem casc_ne {k m : Nat} (hk : 1 ≤ k) (hm : 1 ≤ m) : casc k m ≠ [] := by
  obtain ⟨j, rfl⟩ : ∃ j, k = j + 1 := ⟨k - 1, by omega⟩
  rw [casc_cons (by omega)]
  exact List.cons_ne_nil _ _
theorem tot_row (k m : Nat) : (totL (k + 1) (il (casc (k + 1) m))).sum = (m : Int) := by
  rw [totL_sum _ _ (casc_len _ _), tot_casc _ _ (by omega)]
theorem row_abs {k m : Nat} (hk : k ≤ 12) (hm : m ≤ 3000000) : ∀ x ∈ il (casc k m), x.natAbs < 2 ^ 59 := fun i hi => by
  obtain ⟨x, hx, rfl⟩ := List.mem_map.mp hi
  have := casc_mem k m x hx
  omega
theorem il_len (xs : List Nat) : (il xs).length = xs.length := List.length_map _
theorem il_ne {xs : List Nat} (h : xs ≠ []) : il xs ≠ [] := fun e => h (List.eq_nil_of_length_eq_zero (by rw [← il_len, e]; rfl))
theorem sh_b {k m : Nat} (hk : k ≤ 12) (hm : m ≤ 3000000) : sh k m ≤ 36000000 := by
  have := sh_le k m
  have : k * m ≤ 12 * 3000000 := Nat.mul_le_mul hk hm
  omega
end Ca
set_option Elab.async false
set_option linter.all false
set_option maxRecDepth 100000
set_option maxHeartbeats 4000000
namespace Gk
open PySem L2

/-! a def as the top left it: its body's place, its name, how its arguments bind -/
structure Df (K : PySem.W.Frag) (mg : Str → Option Value) (x : Str) (st : Stmt) (ps : List Str) (a : Addr) (fd : FuncData) : Prop where
  F : Fun K x x st a fd
  g : mg x = some (.ref a)
  b : Binds K fd ps []

section
variable {X : Cx} {k : Nat} {f : Addr} {fd : FuncData} {ps : List Str} {sp : Sp} {x : Str} {st : Stmt} {p pos : Pos} {e : Expr} {es : List Expr} {t : TA}
theorem pe_cl (D : Df X.K X.mg x st ps f fd) (G : FnOk X.prog X.w X.K X.mg X.base CX0 k f fd ps sp) (hr : Room k X.A) (hg : Gl X x) (ha : PA X (e :: es) t)
    (hdb : (x == ("__debug__" : Str)) = false := by decide) (he : starEach (e :: es) X.env = (false, eval e X.env) :: starEach es X.env := by rfl)
    (hpl : (backTo pos (starEach es X.env)).any (·.1) = false := by rfl) :
    PE X (.Call (.Name x p) (e :: es) [] pos) (tCall sp [] E0 t) :=
  pe_call G hr hg D.g D.F.kp D.b .nil pass0 ha hdb he hpl
end

/-! products and rests -/
def CMulG (i j : Int) : Prop := i.natAbs < 2 ^ 64 ∨ j.natAbs < 2 ^ 64 ∨ CMulW i j
theorem op_mulG {X : Cx} : OpR X (binaryOp .Mult) (rI CMulG fun i j => .int (i * j)) := by
  intro pins s σ H x y v u Q I rx ry h
  obtain ⟨i, j, ex, ey, hc, q⟩ := h
  have e64 : (2 : Int) ^ 64 = ((2 ^ 64 : Nat) : Int) := by decide
  rcases hc with hc | hc | hc
  · exact op_mul pins s σ H x y v u Q I rx ry ⟨i, j, ex, ey, .inl ⟨by rw [e64]; omega, by rw [e64]; omega⟩, q⟩
  · exact op_mul pins s σ H x y v u Q I rx ry ⟨i, j, ex, ey, .inr ⟨by rw [e64]; omega, by rw [e64]; omega⟩, q⟩
  · exact op_mulW pins s σ H x y v u Q I rx ry ⟨i, j, ex, ey, hc, q⟩
theorem op_modG {X : Cx} : OpR X (binaryOp .Mod) (rI (fun _ j => 0 < j) fun i j => .int (i % j)) := by
  intro pins s σ H x y v u Q I rx ry h
  obtain ⟨i, j, ex, ey, hc, q⟩ := h
  refine op_modN pins s σ H x y v u Q I rx ry ⟨i, j, ex, ey, by omega, ?_⟩
  show Q (.int (i.fmod j)) H
  rw [Int.fmod_eq_emod_of_nonneg i (by omega)]
  exact q

/-! rules within a comprehension's block, the written part said outright -/
section
variable {X : Cx}
theorem ix_listK (K : PySem.W.Frag) (h : X.K = K) : IxR X (rIxL K) := h ▸ ix_list
theorem ix_tupK (K : PySem.W.Frag) (h : X.K = K) : IxR X (rIxT K) := h ▸ ix_tup
theorem sl_listK (K : PySem.W.Frag) (h : X.K = K) : SlR X (rSlL K) := h ▸ sl_list
theorem sl_tupAK (K : PySem.W.Frag) (h : X.K = K) : SlR X (rSlA K) := h ▸ sl_tupA
theorem op_catAK (K : PySem.W.Frag) (h : X.K = K) : OpR X (binaryOp .Add) (rCatA K) := h ▸ op_catA
theorem op_in_seqK (K : PySem.W.Frag) (h : X.K = K) : OpR X (compareOp .In) (rIn K false) := h ▸ op_in_seq
theorem op_notIn_seqK (K : PySem.W.Frag) (h : X.K = K) : OpR X (compareOp .NotIn) (rIn K true) := h ▸ op_notIn_seq
theorem op_eqDK (K : PySem.W.Frag) (h : X.K = K) (hu : X.A.units + 64 < cLine) : OpR X (compareOp .Eq) (rEqD K) := h ▸ op_eqD hu
theorem op_neDK (K : PySem.W.Frag) (h : X.K = K) (hu : X.A.units + 64 < cLine) : OpR X (compareOp .NotEq) (rNeD K) := h ▸ op_neD hu
def rLenK (K : PySem.W.Frag) : List V → Hp → VK → Prop := fun xs H Q => ∃ p ys, xs = [.ref p] ∧ (SqL K H p ys ∨ SqT K H p ys) ∧ Q (.int ys.length) H
theorem call_len_seqK (K : PySem.W.Frag) (h : X.K = K) : CallR X (.builtin "len") (rLenK K) := h ▸ call_len_seq
def rTupK (K : PySem.W.Frag) : List V → Hp → VK → Prop := fun xs H Q =>
  ∃ p ys, xs = [.ref p] ∧ ((SqL K H p ys ∧ ∀ l, H l = none → Q (.ref l) (upd H l (.tup ys))) ∨ (SqT K H p ys ∧ Q (.ref p) H))
theorem call_tuple_ofK (K : PySem.W.Frag) (h : X.K = K) : CallR X (.type "tuple") (rTupK K) := h ▸ call_tuple_of
def rLstK (K : PySem.W.Frag) : List V → Hp → VK → Prop := fun xs H Q => ∃ p ys, xs = [.ref p] ∧ (SqL K H p ys ∨ SqT K H p ys) ∧ ∀ l, H l = none → Q (.ref l) (upd H l (.lst ys))
theorem call_list_ofK (K : PySem.W.Frag) (h : X.K = K) : CallR X (.type "list") (rLstK K) := h ▸ call_list_of
theorem cr_sumK (K : PySem.W.Frag) (h : X.K = K) (hc : X.calm = true) : CallR X (.builtin "sum") (rSum K) := h ▸ cr_sum hc
theorem cr_anyK (K : PySem.W.Frag) (h : X.K = K) (hc : X.calm = true) : CallR X (.builtin "any") (rAny K) := h ▸ cr_any hc
theorem cr_allK (K : PySem.W.Frag) (h : X.K = K) (hc : X.calm = true) : CallR X (.builtin "all") (rAll K) := h ▸ cr_all hc
end
end Gk
namespace Gk
open PySem L2 PyProof.Rows

/-! no dict stands within data of the layer -/
mutual
theorem dp_flat {K : PySem.W.Frag} {H : Hp} : ∀ (d : PyData) (v : V), Dp K H v d → d.hasDict = false
  | .none, _, _ => by simp only [PyData.hasDict]
  | .bool _, _, _ => by simp only [PyData.hasDict]
  | .int _, _, _ => by simp only [PyData.hasDict]
  | .str _, _, _ => by simp only [PyData.hasDict]
  | .list ds, _, h => by
    cases h with
    | lst _ h2 => simp only [PyData.hasDict, dpAll_flat ds _ h2]
  | .tuple ds, _, h => by
    cases h with
    | tup _ h2 => simp only [PyData.hasDict, dpAll_flat ds _ h2]
  | .dict _, _, h => by cases h
theorem dpAll_flat {K : PySem.W.Frag} {H : Hp} : ∀ (ds : List PyData) (vs : List V), DpAll K H vs ds → PyData.hasDictAll ds = false
  | [], _, _ => by simp only [PyData.hasDictAll]
  | d :: ds, _, h => by
    cases h with
    | cons h1 h2 => simp only [PyData.hasDictAll, dp_flat d _ h1, dpAll_flat ds _ h2, Bool.or_self]
end

/-! repr of data; nothing is being shown already: the around's guards are none -/
def rRepr (K : PySem.W.Frag) : List V → Hp → VK → Prop := fun vs H Q =>
  ∃ x d, vs = [x] ∧ Dp K H x d ∧ d.showable = true ∧ d.depth ≤ 60 ∧ d.shown.length ≤ sizeLine ∧ Q (.str d.shown) H
theorem cr_repr {X : Cx} (hg : X.A.guards = some []) (hu : X.A.units + 64 < cLine) : CallR X (.builtin "repr") (rRepr X.K) := by
  intro pins s σ H vs us Q I r h
  obtain ⟨x, d, rfl, hd, hs, hde, hl, q⟩ := h
  cases r with
  | cons rx rr =>
    cases rr
    rename_i u
    have whole : ∀ a : Addr, u = Value.ref a → wpAny (model X.prog X.w) X.A (call (.builtin "repr") [u]) (EP X pins σ Q) X.xe s := fun a e => by
      obtain ⟨as, rd⟩ := Dp.reads I d x u hd rx
      subst e
      exact repr_of_reads' rd hs (PyData.noDict_hsm (dp_flat d x hd)) hg (by omega) (fun _ _ e => e) (fun h' u tk hk => ⟨.str _, H, I.kept (t' := tk) hk, ⟨_, rfl⟩, q⟩) hl
    cases hd with
    | non =>
      cases (show u = Value.none from rx)
      exact PySem.P.repr_of_none ⟨.str _, H, I.tok _, ⟨_, rfl⟩, q⟩
    | bl b =>
      cases (show u = Value.bool b from rx)
      exact PySem.P.repr_of_bool ⟨.str _, H, I.tok _, ⟨_, rfl⟩, by cases b <;> exact q⟩
    | int i =>
      obtain ⟨t, rfl⟩ := rx
      have hz : i.natAbs.log2 < 1920 := by simpa [PyData.showable] using hs
      exact PySem.P.repr_of_int hz ⟨.str _, H, I.tok _, ⟨_, rfl⟩, q⟩
    | str z =>
      obtain ⟨t, rfl⟩ := rx
      exact PySem.P.repr_of_str ⟨.str _, H, I.tok _, ⟨_, rfl⟩, q⟩ hl
    | lst h1 h2 => exact whole _ rx
    | tup h1 h2 => exact whole _ rx

/-! enumerate(t), t a tuple -/
theorem tup_enum_new {prog : Program} {w : World} {A : Around} {E : Value → Shared → Prop} {s : Shared} {v : Value} {o : Obj} {G : Heap → Prop} {Q : Value → Shared → Prop} (B : Begins v o G) (h1 : G s.heap)
    (h : ∀ h', IsEnum h' (s.heap.objs.size + 1) s.heap.objs.size 0 .none → h'.get? s.heap.objs.size = some o →
      (∀ b o, s.heap.get? b = some o → h'.get? b = some o) → Q (.ref (s.heap.objs.size + 1)) { s with heap := h' }) :
    wpAny (model prog w) A (call (.type "enumerate") [v]) Q E s := by
  have meets : Meets (Builtin.«enumerate.__new__» ⟨[.type "enumerate", v], []⟩) (fun _ R s => G s.heap ∧
      R (.ok (.ret (.ref (s.heap.push o).objs.size))) { s with heap := (s.heap.push o).push { cls := .type "enumerate", data := .fields #[.none, .bool false, .ref s.heap.objs.size, rawInt 0, .none, .none] } }) :=
    .of_wp fun prog w A R s hh => by
      obtain ⟨hp, g, d, tk, os⟩ := s
      obtain ⟨g1, hh⟩ := hh
      have hsub := sub_enumerate
      have q1 : ∀ {A' : Around} {E : Value → Shared → Prop} {Q : Value → Shared → Prop}, Q (.ref hp.objs.size) ⟨hp.push o, g, d, tk, os⟩ → wpAny (model prog w) A' (pyIter v) Q E ⟨hp, g, d, tk, os⟩ :=
        fun q => B.iter prog w _ _ ⟨hp, g, d, tk, os⟩ _ g1 q
      wp_walk using q1
      refine wpAny_stack_any fun st => wpAny_pure ?_
      split
      · rename_i c _ _ _ _ _
        cases (c == Value.type "enumerate") <;> (wp_walk using q1; exact ⟨_, rfl, hh⟩)
      · wp_walk using q1
        exact ⟨_, rfl, hh⟩
  refine callType_new F.called_enumerate (by decide) (F.typeCall_enumerate_1 _) (F.newCall_enumerate_1 _) (fun obj => F.args_object_init_2 obj _) F.entry_enumerate_new meets ⟨h1, ?_⟩
  have hz : (s.heap.push o).objs.size = s.heap.objs.size + 1 := Heap.size_push ..
  show _ ∧ _
  rw [hz]
  have he := Heap.get?_push_size (s.heap.push o) (o := { cls := .type "enumerate", data := .fields #[.none, .bool false, .ref s.heap.objs.size, rawInt 0, .none, .none] }) rfl
  rw [hz] at he
  exact ⟨⟨_, he, rfl⟩, h _ he (Heap.get?_push_of_some _ (Heap.get?_push_size _ B.free)) fun b o x => Heap.get?_push_of_some _ (Heap.get?_push_of_some _ x)⟩

def IteT (K : PySem.W.Frag) (a : Addr) : It where
  go := fun i H => ∃ (xs : List V) (x : V), SqT K H a xs ∧ xs[i]? = some x
  yld := fun i H v H' => ∃ T x, v = .ref T ∧ H T = none ∧ H' = upd H T (.tup [.int (i : Nat), x]) ∧ ∀ xs, SqT K H a xs → xs[i]? = some x
  stop := fun i H => ∃ xs : List V, SqT K H a xs ∧ xs.length = i
theorem turn_enumT {P : Program} {w : World} {K : PySem.W.Frag} {elts : List Expr} {kk : Nat} {tpos : Pos} (a e it : Addr) (hae : a ≠ e) (hai : a ≠ it) :
    Turn P w K (.Tuple elts kk tpos) (IteT K a) [e, it] e (fun i h => (∃ old, IsEnum h e it ((i : Nat) : Int) old) ∧ h.IsTupleIter it a i ∧ e ≠ it) where
  mem := List.mem_cons_self ..
  obj := fun i h ⟨⟨old, he⟩, ⟨o, ho, hc, hd⟩, _⟩ b hb => by
    rcases List.mem_cons.mp hb with z | z
    · subst z; exact ⟨_, he, fun v q => nomatch q⟩
    · rw [List.mem_singleton.mp z]; exact ⟨o, ho, fun v q => by rw [hd] at q; cases q⟩
  keep := fun i h h' ⟨⟨old, he⟩, hi, hne⟩ k => ⟨⟨old, k e (by simp) _ he⟩, hi.at fun o q => k it (by simp) o q, hne⟩
  item := by
    intro X hP hw hK hc i pins s σ H E I hf ⟨⟨old, he⟩, hit, hne⟩ ⟨xs, x, hq, hx⟩
    subst hP hw hK
    obtain ⟨its, rv, p, hz⟩ := I.tuple hq
    obtain ⟨u, hu, ru⟩ := rv.get hx
    have hi : i < its.toArray.size := by
      have := (List.getElem?_eq_some_iff.mp hu).1
      simpa using this
    have D := Draws.tuple (prog := X.prog) (w := X.w) (A := X.A.in1) (I.ok.hd hc) it a hai its.toArray
    have hel : e < s.heap.objs.size := Heap.lt_size he
    have hil : it < s.heap.objs.size := by obtain ⟨_, q, _⟩ := hit; exact Heap.lt_size q
    refine wpAny_pyNext_enum_itemC D he ⟨hit, p⟩ hi hne (by simp; exact ⟨hne, fun z => hae z.symm⟩) fun y h' tk hy ho hst hT hsz hk => ?_
    have ey : y = u := by
      have : its.toArray[i]? = some u := by simpa using hu
      rw [this] at hy
      exact (Option.some.inj hy).symm
    subst ey
    refine ⟨_, rfl, wpAny_letOwnedTupleGo_enum (s := { s with heap := h', toks := tk + 1 }) ho fun h'' he' sb => ?_⟩
    have hT2 : h''.get? s.heap.objs.size = some { cls := .type "tuple", data := .seq #[.int i tk, y] } := (sb.2 _ (Nat.ne_of_gt hel)).trans hT
    have new : ObjOk X.prog X.w (upd H s.heap.objs.size (.tup [.int (i : Nat), x])) h'' s.heap.objs.size (.tup [.int (i : Nat), x]) :=
      ⟨by show 2 ≤ sizeLine; decide, [.int i tk, y], .cons ⟨_, rfl⟩ (.cons ru .nil), ⟨_, hT2, rfl, _, rfl⟩⟩
    have I1 : L2.Inv X pins σ (upd H s.heap.objs.size (.tup [.int (i : Nat), x])) { s with heap := h'', toks := tk + 1 } :=
      I.turnedNew (ch := [e, it]) (fun b ob hb q => by
        have n1 : b ≠ e := fun z => hb (by simp [z])
        have n2 : b ≠ it := fun z => hb (by simp [z])
        exact (sb.2 b n1).trans (hk b ob n1 n2 q)) hf (Nat.le_refl _) new
    refine ⟨.ref s.heap.objs.size, _, I1, rfl, ⟨_, x, rfl, I.hok.fresh (Nat.le_refl _), rfl, fun ys hy => by rw [I.tuple_inj hy hq]; exact hx⟩, ⟨⟨y, ?_⟩, hst.1.at fun o q => (sb.2 it (Ne.symm hne)).trans q, hne⟩, fun b hb => ?_⟩
    · have e1 : ((i + 1 : Nat) : Int) = (i : Int) + 1 := by omega
      rw [e1]
      exact he'
    · have hb' : b < s.heap.objs.size := by
        rcases List.mem_cons.mp hb with z | z
        · rw [z]; exact hel
        · rw [List.mem_singleton.mp z]; exact hil
      rw [upd_ne (Nat.ne_of_lt hb')]
      exact (hf b hb).1
  done := by
    intro X hP hw hK hc i pins s σ H E I hf ⟨⟨old, he⟩, hit, hne⟩ ⟨xs, hq, hx⟩
    subst hP hw hK
    obtain ⟨its, rv, p, hz⟩ := I.tuple hq
    obtain ⟨f0, f1, f2, f3, f4, f5⟩ := hf it (by simp)
    have hl := rv.length
    have D := Draws.tuple (prog := X.prog) (w := X.w) (A := X.A.in1) (I.ok.hd hc) it a hai its.toArray
    have en : its.toArray.size = i := by rw [List.size_toArray]; omega
    rw [en] at D
    exact wpAny_pyNext_enum_endD D he ⟨hit, p⟩ fun h' eb => ⟨rfl, I.turned (t' := s.toks) (fun b o hb q => eb b o hb q) f0 f1 f3 f4 f5⟩
  self := fun A i s Q E ⟨⟨_, he⟩, _⟩ h => wpAny_pyIter_enum he h
def iEnumT (K : PySem.W.Frag) (ta : TA) : TI := fun σ H R => ta σ H fun vs H1 => ∃ a xs, vs = [.ref a] ∧ SqT K H1 a xs ∧ R (IteT K a) H1
theorem pi_enumT {X : Cx} {e : Expr} {ta : TA} {p pos tpos : Pos} {elts : List Expr} {kk : Nat} (hg : Gl X "enumerate") (hm : X.mg "enumerate" = none) (ha : PA X [e] ta)
    (hs : starEach [e] X.env = [(false, eval e X.env)] := by rfl) : PI X (.Tuple elts kk tpos) (.Call (.Name "enumerate" p) [e] [] pos) (iEnumT X.K ta) := by
  constructor
  intro pins s σ H R I h
  refine Call_ (ld_blt I hg hm boot_enumerate (callWith_type1 (thn (ha.run pos pins s σ H _ I h) fun us s1 ⟨vs, H1, I1, r1, a, xs, ex, hq, q⟩ => ?_) hs rfl))
  subst ex
  cases r1 with
  | cons r rr =>
    cases rr
    cases r
    obtain ⟨its, rv, p', hz⟩ := I1.tuple hq
    have la : a < s1.heap.objs.size := by
      obtain ⟨o, ho, _⟩ := id p'
      exact Heap.lt_size ho
    refine tup_enum_new (begins_tuple a its.toArray) p' fun h' he hit hk => wpAny_pyIter_enum he ?_
    have I2 : L2.Inv X pins σ H1 { s1 with heap := h' } := I1.kept (t' := s1.toks) hk
    refine ⟨s1.heap.objs.size + 1, [s1.heap.objs.size + 1, s1.heap.objs.size], _, _, H1, rfl, I2,
      turn_enumT a (s1.heap.objs.size + 1) s1.heap.objs.size (Nat.ne_of_lt (Nat.lt_succ_of_lt la)) (Nat.ne_of_lt la), ⟨⟨.none, he⟩, ⟨_, hit, rfl, rfl⟩, Nat.succ_ne_self _⟩, fun b hb => ?_, q⟩
    have hle : s1.heap.objs.size ≤ b := by
      rcases List.mem_cons.mp hb with z | z
      · rw [z]; exact Nat.le_succ _
      · rw [List.mem_singleton.mp z]; exact Nat.le_refl _
    exact I1.fpOk hle (I1.hok.fresh hle)
theorem walk_enumT {K : PySem.W.Frag} {a : Addr} {xs : List V} : Walk (IteT K a) xs.length (fun H => SqT K H a xs) (YPair (fun i => some (.int (i : Nat))) (fun i => xs[i]?)) where
  goes := fun i _ hi q => ⟨xs, xs[i], q, by simp [hi]⟩
  stops := fun _ q => ⟨xs, q, rfl⟩
  yields := fun i H v H' _ q ⟨T, x, h1, h2, h3, h4⟩ => ⟨T, .int (i : Nat), x, h1, h2, h3, rfl, h4 xs q⟩
end Gk
namespace Gk
open PySem L2 PyProof.Rows

/-! promises of defs that show values: kept where nothing is being shown -/
structure FnG (P : Program) (w : World) (K : PySem.W.Frag) (mg : Str → Option Value) (base : Heap) (k : Nat) (f : Addr) (fd : FuncData) (ps : List Str) (sp : Sp) : Prop where
  len : ∀ vs H Q E, sp vs H Q E → vs.length = ps.length
  run : ∀ (A : Around) (outer : List Env) (s : Shared) (H : Hp) (args : Args) (us : List Value) (vs : List V) (Q : VK) (E : XK), A.guards = some [] → Room k A →
    Env0 P w K mg base A outer s H → BindsTo s fd args (ps.zip us) → Vals vs us → sp vs H Q E → codeAny (model P w) A (.call (.ref f) args) (CR CX0 outer P w H s Q E) s
section
variable {P : Program} {w : World} {K : PySem.W.Frag} {mg : Str → Option Value} {base : Heap}
theorem fnG_of {x qual : Str} {st : Stmt} {f : Addr} {fd : FuncData} {N ps : List Str} {k : Nat} {sp : Sp} (F : Fun K x qual st f fd) (S : FnScope N ps (defScope st))
    (len : ∀ vs H Q E, sp vs H Q E → vs.length = ps.length)
    (hbody : ∀ (cdv : Value) (A : Around) (outer : List Env) (s : Shared) (H : Hp) (vs : List V) (Q : VK) (E : XK),
      (A.deeper (envOfC qual (defScope st) s.heap.objs.size f cdv)).guards = some [] → Room k (A.deeper (envOfC qual (defScope st) s.heap.objs.size f cdv)) → sp vs H Q E →
      ∃ t, PSs (cxOf CX0 P w K mg base N qual (defScope st) f cdv A outer s H E).nox (defBody st) t ∧ t { nx := fun _ H' => Q .non H', rt := Q } (start N vs) H) :
    FnG P w K mg base (k + 1) f fd ps sp := by
  obtain ⟨oc, od, kV, doc, pm, an, cdv, ct, osl, rfl, lk, hcd⟩ := F.ex
  refine ⟨len, fun A outer s H args us vs Q E hg hr e0 hb r hsp => ?_⟩
  have KX : K.In s.heap := e0.mod.kin.keeps fun b o e => (e0.bs b o e).1
  have lim : s.heap.NoLimit := e0.mod.nolimit.keeps fun b o e => (e0.bs b o e).1
  refine codeAny_call_function hr.depth (KX _ _ lk) rfl S.co S.gen rfl (PySem.W.codeRec_of KX hcd) (hb _ _ _ _ ?_)
  refine wpAny_newFunctionEnv_cells S.kind (fun y hy => ?_) fun env he s1 x => ?_
  · rcases S.par y.1 (List.of_mem_zip hy).1 with q | q
    · exact .inl q
    · exact .inr ⟨q, PySem.W.cellsFrom_some _ _ _ (.inl q)⟩
  · subst he
    refine ⟨lim.keeps x.toInCall.keep, codeAny_func ?_⟩
    obtain ⟨t, ht, hq⟩ := hbody cdv A outer s H vs Q E hg (hr.deeper _) hsp
    have I := inv_start (CX := CX0) (E := E) S hr.hd e0 (len _ _ _ _ hsp) r x
    refine wpAny_mono (ht.nox.run [] s1 (start N vs) H _ I hq) (fun fl s' hs => ?_) fun e s' hs => hs
    cases fl with
    | ret u =>
      obtain ⟨v, σ', H', J, rv, q⟩ := hs
      exact ⟨v, H', J.os, J.bare, J.base, J.hok, rv, q⟩
    | next =>
      obtain ⟨σ', H', J, q⟩ := hs
      exact ⟨V.non, H', J.os, J.bare, J.base, J.hok, rfl, q⟩
    | brk =>
      obtain ⟨_, _, _, q⟩ := hs
      cases q
    | cont =>
      obtain ⟨_, _, _, q⟩ := hs
      cases q
theorem fnG_up {j k : Nat} {f : Addr} {fd : FuncData} {ps : List Str} {sp : Sp} (F : FnOk P w K mg base CX0 j f fd ps sp) (h : j ≤ k) : FnG P w K mg base k f fd ps sp :=
  ⟨F.len, fun A outer s H args us vs Q E _ hr => F.run A outer s H args us vs Q E (hr.mono h)⟩
end
section
variable {X : Cx} {k : Nat} {f : Addr} {fd : FuncData} {ps : List Str} {sp : Sp} {x : Str} {st : Stmt} {p pos : Pos} {e : Expr} {es : List Expr} {t : TA}
theorem pe_clG (hgd : X.A.guards = some []) (D : Df X.K X.mg x st ps f fd) (G : FnG X.prog X.w X.K X.mg X.base k f fd ps sp) (hr : Room k X.A) (hg : Gl X x) (ha : PA X (e :: es) t)
    (hdb : (x == ("__debug__" : Str)) = false := by decide) (he : starEach (e :: es) X.env = (false, eval e X.env) :: starEach es X.env := by rfl)
    (hpl : (backTo pos (starEach es X.env)).any (·.1) = false := by rfl) :
    PE X (.Call (.Name x p) (e :: es) [] pos) (tCall sp [] E0 t) := by
  constructor
  intro pins s σ H Q I h
  refine wpAny_Call_Name_kw (ld_glob I hg D.g ?_ hdb)
  refine PySem.W.callWith_K (h₀ := X.base) I.ok.mod.kin D.F.kp (thn (ha.run pos pins s σ H _ I h) fun us s1 ⟨vs, H1, I1, r, q⟩ => ⟨I1.kIn, ?_⟩) he hpl
  have q : sp (vs ++ []) H1 Q E0 := q
  rw [List.append_nil] at q
  have hl : us.length = ps.length := by rw [← r.length]; exact G.len _ _ _ _ q
  have hb := D.b s1 us I1.kIn (by rw [List.append_nil]; exact hl)
  rw [List.append_nil] at hb
  refine wpAny_call (codeAny_mono (G.run X.A X.stack s1 H1 ⟨us, []⟩ us vs Q E0 hgd hr I1.env0 hb r q) fun rr s' hq => ?_)
  cases rr with
  | error e => cases hq
  | ok fl =>
    cases fl with
    | ret u => exact I1.after hq
    | next => cases hq
    | brk => cases hq
    | cont => cases hq
end

/-! the end: the law's own call -/
theorem law_callG {P : Program} {w : World} {K : PySem.W.Frag} {mg mb : Str → Option Value} {k : Nat} {fa a : Addr} {fd : FuncData} {x : Str} {sp : Sp} {s1 : Shared} {vs : List Value} {ns : List Int}
    (KX : K.In s1.heap) (hns : s1.heap.Ns mainGlobals mg) (hb : s1.heap.Ns builtinsNs mb) (hbb : ∀ x : Str, x ≠ "__name__" → mb x = bootBuiltins x) (hlim : s1.heap.NoLimit) (hgen : s1.gens = #[])
    (ha : s1.heap.get? a = some { cls := .type "list", data := .seq vs.toArray }) (hi : IntsAre vs ns) (hl : ns.length ≤ sizeLine) (hr : Room k callerA)
    (F : ∀ base : Heap, K.In base → base.Ns mainGlobals mg → FnG P w K mg base k fa fd [x] sp) (hbind : ∀ (s : Shared) (u : Value), BindsTo s fd ⟨[u], []⟩ [(x, u)])
    (hsp : ∀ H : Hp, Only H → SqL K H a (ns.map V.int) → sp [.ref a] H (fun v _ => v = .bl true) E0) :
    codeAny (model P w) callerA (.call (.ref fa) ⟨[.ref a], []⟩) (fun r s' => r = .ok (.ret (.bool true)) ∧ OldK s1.heap s'.heap ∧ s'.os = s1.os ∧ AllBare s'.gens) s1 := by
  have rv := vals_ints hi
  have lv := hi.length
  have core : ∀ H : Hp, Only H → SqL K H a (ns.map V.int) → HOk P w H s1.heap → (∀ b, H b ≠ none → b = a ∧ K.lookup a = none) →
      codeAny (model P w) callerA (.call (.ref fa) ⟨[.ref a], []⟩) (fun r s' => r = .ok (.ret (.bool true)) ∧ OldK s1.heap s'.heap ∧ s'.os = s1.os ∧ AllBare s'.gens) s1 := by
    intro H hO hS hok hA
    have free : ∀ {b : Addr} {o : Obj}, s1.heap.get? b = some o → ((∃ es ep, o.data = .dict es ep) ∨ K.lookup b = some o) → H b = none := fun {b o} e z => by
      cases q : H b with
      | none => rfl
      | some u =>
        obtain ⟨eb, lk⟩ := hA b (by rw [q]; simp)
        subst eb
        rcases z with ⟨es, ep, d⟩ | z
        · rw [ha] at e
          cases e
          cases (show Data.seq vs.toArray _ = Data.dict es ep from d)
        · rw [lk] at z; cases z
    have nsK : ∀ {b : Addr} {m : Str → Option Value}, s1.heap.Ns b m → (hidT s1.heap H).Ns b m := fun {b m} ⟨o, es, ep, e, d, r⟩ => ⟨o, es, ep, hidT_get e (free e (.inl ⟨es, ep, d⟩)), d, r⟩
    have hKb : K.In (hidT s1.heap H) := fun b o e => hidT_get (KX b o e) (free (KX b o e) (.inr e))
    have e0 : Env0 P w K mg (hidT s1.heap H) callerA [] s1 H :=
      ⟨rfl, ⟨hKb, nsK hns, ⟨mb, nsK hb, hbb⟩, let ⟨mc, h1, h2⟩ := hlim; ⟨mc, nsK h1, h2⟩⟩, fun b o e => of_hidT e, Nat.le_of_eq (hidT_size _ _), trivial, fun b hb => (nomatch hb), hok, .of_eq hgen⟩
    refine codeAny_mono ((F _ hKb (nsK hns)).run callerA [] s1 H ⟨[.ref a], []⟩ [.ref a] [.ref a] _ _ rfl hr e0 (hbind s1 (.ref a)) (.cons rfl .nil) (hsp H hO hS)) fun r s' h => ?_
    cases r with
    | error e => cases h
    | ok fl =>
      cases fl with
      | next => cases h
      | brk => cases h
      | cont => cases h
      | ret u =>
        obtain ⟨v, H', os, bare, un, hok', r', q⟩ := h
        have qv : v = .bl true := q
        subst qv
        obtain rfl : u = Value.bool true := r'
        refine ⟨rfl, OldK.of_keep fun b o e => ?_, os, bare⟩
        rcases hO b with z | ⟨ob, xs, z⟩
        · exact un.keep b o e z (fun y => nomatch y) (fun y => nomatch y)
        · obtain ⟨e1, _⟩ := hok b _ z
          obtain ⟨e2, _⟩ := hok' b _ (un.frzs b ob _ z)
          rw [e] at e1
          cases e1
          exact e2
  by_cases hk : (K.lookup a).isSome = true
  · obtain ⟨o, hk⟩ := Option.isSome_iff_exists.mp hk
    have e := KX a o hk
    rw [ha] at e
    cases e
    exact core (fun _ => none) (fun _ => .inl rfl) (.inr ⟨_, vs.toArray, _, hk, rfl, rfl, rfl, by rw [List.size_toArray, lv]; exact hl, by simpa using rv⟩)
      (fun b u z => by cases (show (none : Option HO) = some u from z)) (fun b z => absurd rfl z)
  · have hk : K.lookup a = none := by
      cases q : K.lookup a with
      | none => rfl
      | some o => rw [q] at hk; simp at hk
    refine core (fun b => if b = a then some (.frz { cls := .type "list", data := .seq vs.toArray } (.lst (ns.map V.int))) else none) (fun b => ?_) (.inl (.inr ⟨_, if_pos rfl⟩)) (fun b u z => ?_) (fun b z => ?_)
    · by_cases hb : b = a
      · exact .inr ⟨_, _, if_pos hb⟩
      · exact .inl (if_neg hb)
    · by_cases hb : b = a
      · subst hb
        cases (if_pos rfl).symm.trans z
        exact ⟨ha, by rw [List.length_map]; exact hl, vs, _, rv, ha⟩
      · cases (if_neg hb).symm.trans z
    · by_cases hb : b = a
      · exact ⟨hb, hk⟩
      · exact absurd (if_neg hb) z
theorem walk_ofG {l : PySem.W.OpenLaw} {n k : Nat} {q : Program} {loose : List Str} {XP : (Str → Option Value) → Heap → Prop} {YP : World → Heap → Prop} {d : DefRec} {K : Params → PySem.W.Frag} {sp : PySem.W.Frag → Sp} {x : Str}
    (hn : l.most = some n) (hn2 : n ≤ sizeLine) (hdf : d.params.defaults = []) (hr : Room k callerA) (hY : ∀ (w : World) (h : Heap), YP w h → (K w.params).In h)
    (F : ∀ (w : World) (mg : Str → Option Value) (fa : Addr) (h : Heap), (K w.params).In h → h.Ns mainGlobals mg → mg d.name = some (.ref fa) →
      ∃ fd : FuncData, (∀ (s : Shared) (u : Value), BindsTo s fd ⟨[u], []⟩ [(x, u)]) ∧
        ∀ base : Heap, (K w.params).In base → base.Ns mainGlobals mg → FnG l.prog w (K w.params) mg base k fa fd [x] (sp (K w.params)))
    (hsp : ∀ (K : PySem.W.Frag) (H : Hp) (a : Addr) (ns : List Int), ns.length ≤ n → Only H → SqL K H a (ns.map V.int) → sp K [.ref a] H (fun v _ => v = .bl true) E0) :
    PySem.W.WalkO q loose XP YP l.row.toRowW d [] (fun f vs => PySem.call f vs) := by
  refine Att.attach_call hn hdf fun w s0 s1 mg mb fa o pm cd doc a vs ns G Y ho hd hcd hmg hobj hints hlen hgen => ?_
  obtain ⟨fd, hb, hF⟩ := F w mg fa _ (hY w _ Y) G.T.g hmg
  exact law_callG (hY w _ Y) G.T.g G.T.b G.T.builtins G.T.nolimit hgen hobj hints (Nat.le_trans hlen hn2) hr hF hb fun H hO hS => hsp _ H a ns hlen hO hS
end Gk
namespace Gk
open PySem L2 PyProof.Rows
/-! a bound of what repr shows -/
mutual
def wt : PyData → Nat
  | .none => 4
  | .bool _ => 5
  | .int i => i.natAbs.log2 + 2
  | .str x => (reprText x).length
  | .list xs => 2 + wtAll xs
  | .tuple xs => 3 + wtAll xs
  | .dict kvs => (dictText (PyData.shownKv kvs)).length
def wtAll : List PyData → Nat
  | [] => 0
  | x :: xs => wt x + 2 + wtAll xs
end
theorem textFrom_le : ∀ (ts : List Str) (k : Nat) (acc : Str), (textFrom k acc ts).length ≤ acc.length + piled ts
  | [], k, acc => by show acc.length ≤ _; omega
  | t :: ts, k, acc => by
    have ih := textFrom_le ts (k + 1) (acc ++ (if k > 0 then ", " else "" : String) ++ t)
    have e : (acc ++ (if k > 0 then ", " else "" : String) ++ t).length ≤ acc.length + 2 + t.length := by
      rw [strLen_append, strLen_append]
      have : (Str.ofString (if k > 0 then ", " else "" : String)).length ≤ 2 := by split <;> decide
      omega
    have p : piled (t :: ts) = t.length + 2 + piled ts := by unfold piled; simp
    show (textFrom (k + 1) _ ts).length ≤ _
    omega
theorem join_le (ts : List Str) : (Str.join ", " ts).length ≤ piled ts := by
  by_cases h : ts = []
  · subst h; decide
  · have := join_length_add ts h
    omega
mutual
theorem shown_le : ∀ d : PyData, d.shown.length ≤ wt d
  | .none => by simp only [PyData.shown, wt]; decide
  | .bool b => by cases b <;> (simp only [PyData.shown, wt]; decide)
  | .int i => by
    simp only [PyData.shown, wt]
    have e := int_text_length_le (a := i) (k := i.natAbs.log2 + 1) (Nat.succ_pos _) (Nat.lt_succ_self _)
    rw [PySem.ofString_length]
    omega
  | .str x => by simp only [PyData.shown, wt]; exact Nat.le_refl _
  | .list xs => by
    have ih := shownAll_le xs
    have t := textFrom_le (PyData.shownAll xs) 0 "["
    simp only [PyData.shown, wt]
    unfold listText
    rw [strLen_append]
    have e1 : (Str.ofString "[").length = 1 := by decide
    have e2 : (Str.ofString "]").length = 1 := by decide
    omega
  | .tuple xs => by
    have ih := shownAll_le xs
    have t := join_le (PyData.shownAll xs)
    simp only [PyData.shown, wt]
    unfold tupleText
    rw [strLen_append, strLen_append]
    have e1 : (Str.ofString "(").length = 1 := by decide
    have e2 : (Str.ofString (if (PyData.shownAll xs).length == 1 then ",)" else ")" : String)).length ≤ 2 := by split <;> decide
    omega
  | .dict kvs => by simp only [PyData.shown, wt]; exact Nat.le_refl _
theorem shownAll_le : ∀ xs : List PyData, piled (PyData.shownAll xs) ≤ wtAll xs
  | [] => by simp only [PyData.shownAll, wtAll]; exact Nat.le_refl _
  | x :: xs => by
    have h1 := shown_le x
    have h2 := shownAll_le xs
    have p : piled (x.shown :: PyData.shownAll xs) = x.shown.length + 2 + piled (PyData.shownAll xs) := by unfold piled; simp
    simp only [PyData.shownAll, wtAll]
    omega
end
/-- what repr asks, at once -/
theorem shows {d : PyData} {n : Nat} (h : wt d ≤ n) (hn : n ≤ 16000000 := by decide) : d.shown.length ≤ sizeLine :=
  Nat.le_trans (shown_le d) (Nat.le_trans h (Nat.le_trans hn (by decide)))
theorem log_of {i : Int} {n : Nat} (h : i.natAbs < 2 ^ n) (h0 : 0 < n) : i.natAbs.log2 < n := PySem.Flt.log2_lt_of h0 h
end Gk
namespace Gk
open PySem L2 PyProof.Rows
/-! zip of two sources of any kind: tuples, lists, ranges -/
theorem draws_range {prog : Program} {w : World} {A : Around} (hh : A.handled = none) (it : Addr) (lo c : Int) (n : Nat) :
    Draws prog w A it [it] n (fun i v => ∃ t, v = .int (lo + (i : Nat) * c) t) (fun i h => IsRangeIter h it (lo + (i : Nat) * c) ((n : Int) - (i : Nat)) c) where
  live := fun _ _ st => ⟨_, st⟩
  frame := fun _ _ _ st hk => hk it (by simp) _ st
  item := fun i s Q E hi st hQ => by
    have hT : s.TypeIs (.ref it) "range_iterator" := ⟨_, st, rfl⟩
    unfold Builtin.SmallTypes.nextOf
    refine wpAny_bind (wpAny_callSpecial?_slot (name := Str.ofString "__next__") hT F.slot_range_iterator_next
      (call_meets F.slot_range_iterator_next hT F.entry_range_iterator_next (F.args_range_iterator_next_1 _) (AutoRange.range_iterator___next___range_iterator_1 it _ _ c (by omega)) ⟨st, ?_⟩))
    refine wpAny_pure (hQ _ _ (s.toks + 1) ⟨_, rfl⟩ ?_ ((Heap.SameBut.update ..).trans (Heap.SameBut.update ..)))
    have e1 : lo + ((i + 1 : Nat) : Int) * c = lo + (i : Int) * c + c := by rw [Int.natCast_add, Int.add_mul]; show lo + ((i : Int) * c + 1 * c) = _; rw [Int.one_mul, Int.add_assoc]
    have e2 : (n : Int) - ((i + 1 : Nat) : Int) = (n : Int) - (i : Int) - 1 := by omega
    rw [e1, e2]
    exact Heap.get?_update_self _ (Heap.get?_update_self _ st rfl) rfl
  done := fun s Q E st hE => by
    have hT : s.TypeIs (.ref it) "range_iterator" := ⟨_, st, rfl⟩
    unfold Builtin.SmallTypes.nextOf
    refine wpAny_bind (wpAny_callSpecial?_slot (name := Str.ofString "__next__") hT F.slot_range_iterator_next
      (wpAny_call_entry F.slot_range_iterator_next hT F.entry_range_iterator_next ?_ (F.args_range_iterator_next_1 _)))
    show wpAny _ _ (field (.ref it) 0 >>= _) _ _ s
    refine wpAny_bind (wpAny_field st rfl (x := rawInt (lo + (n : Nat) * c)) rfl ?_)
    show wpAny _ _ (field (.ref it) 1 >>= _) _ _ s
    refine wpAny_bind (wpAny_field st rfl (x := rawInt ((n : Int) - (n : Nat))) rfl ?_)
    show wpAny _ _ (field (.ref it) 2 >>= _) _ _ s
    refine wpAny_bind (wpAny_field st rfl (x := rawInt c) rfl ?_)
    show wpAny _ _ (if (n : Int) - (n : Nat) ≤ 0 then _ else _) _ _ s
    rw [if_pos (by omega)]
    refine wpAny_bind (wpAny_rule ?_)
    refine wpAny_bind ?_
    show wpAny _ _ (newExc (.type "StopIteration") [] >>= _) _ _ _
    refine wpAny_bind ?_
    simp only [newExc, newTuple]
    refine wpAny_bind (wpAny_newObj_type ?_ (by size_fits))
    refine wpAny_bind (m := firstArgMember _ _) (wpAny_of_eq (a := Value.none) (by first | rfl | (simp only [firstArgMember]; rfl)) ?_)
    refine wpAny_newObj_type ?_ (by size_fits)
    simp only [raiseNew]
    refine wpAny_bind (wpAny_handled ?_)
    first | rw [show A.in1.handled = none from hh] | rw [hh]
    refine wpAny_bind (wpAny_pure (wpAny_throw ?_))
    exact hE _ _ (((Heap.ExtBut.refl it s.heap).push _).push _) ⟨_, Heap.get?_push_size _ rfl, rfl⟩
theorem begins_range {r : Addr} {a b c : Int} {t u v : Tok} (h : Builtin.Range.small a b c = true) :
    Begins (.ref r) { cls := .type "range_iterator", data := .fields #[rawInt a, rawInt (Builtin.Range.rangeSize a b c), rawInt c] } fun h => IsRange h r a b c t u v where
  iter := fun prog w A E s Q hr q => wpAny_pyIter_range hr h q
  keeps := fun _ _ x hk => hk r _ x
  free := rfl

/-- what a zip draws from -/
inductive Sr
  | t (a : Addr)
  | l (a : Addr)
  | r (lo c : Int) (n : Nat)
def Sr.has (K : PySem.W.Frag) : Sr → Hp → List V → Prop
  | .t a, H, xs => SqT K H a xs
  | .l a, H, xs => SqL K H a xs
  | .r lo c n, _, xs => xs = (List.range n).map fun (i : Nat) => V.int (lo + (i : Int) * c)
def Sr.tn : Sr → Addr → Nat → Heap → Prop
  | .t a, it, i, h => h.IsTupleIter it a i
  | .l a, it, i, h => h.IsListIter it a i
  | .r lo c n, it, i, h => IsRangeIter h it (lo + (i : Nat) * c) ((n : Int) - (i : Nat)) c
def Sr.own : Sr → Addr → Prop
  | .t a, b => b = a
  | .l a, b => b = a
  | .r _ _ _, _ => False
theorem Sr.tn_at {S : Sr} {it : Addr} {i : Nat} {h h' : Heap} (t : S.tn it i h) (k : ∀ o, h.get? it = some o → h'.get? it = some o) : S.tn it i h' := by
  cases S with
  | t a => exact Heap.IsTupleIter.at t k
  | l a => exact Heap.IsListIter.at t k
  | r lo c n => exact k _ t
theorem Sr.tn_obj {S : Sr} {it : Addr} {i : Nat} {h : Heap} (t : S.tn it i h) : ∃ o, h.get? it = some o ∧ ∀ v, o.data ≠ .cell v := by
  cases S with
  | t a => obtain ⟨o, e, _, d⟩ := t; exact ⟨o, e, fun v q => by rw [d] at q; cases q⟩
  | l a => obtain ⟨o, e, _, d⟩ := t; exact ⟨o, e, fun v q => by rw [d] at q; cases q⟩
  | r lo c n => exact ⟨_, t, fun v q => by have q' : Data.fields _ = Data.cell v := q; cases q'⟩
theorem Sr.inj {X : Cx} {pins : List (Addr × Obj)} {σ : L2.St} {H : Hp} {s : Shared} {S : Sr} {xs ys : List V} (I : Inv X pins σ H s) (h1 : S.has X.K H xs) (h2 : S.has X.K H ys) : xs = ys := by
  cases S with
  | t a => exact I.tuple_inj h1 h2
  | l a => exact I.list_inj h1 h2
  | r lo c n => exact Eq.trans h1 (Eq.symm h2)
theorem sr_draws {X : Cx} {pins : List (Addr × Obj)} {σ : L2.St} {H : Hp} {s : Shared} {S : Sr} {xs : List V} {it : Addr} {i : Nat} (hc : X.calm = true) (I : Inv X pins σ H s) (hS : S.has X.K H xs) (ht : S.tn it i s.heap) (hn : ¬ S.own it) :
    ∃ (fp : List Addr) (P : Nat → Value → Prop) (St : Nat → Heap → Prop), Draws X.prog X.w X.A.in1 it fp xs.length P St ∧ St i s.heap ∧ (∀ j v, P j v → ∃ x, xs[j]? = some x ∧ RelV x v) ∧ (∀ j h, St j h → S.tn it j h) ∧ it ∈ fp ∧ ∀ b ∈ fp, b = it ∨ S.own b := by
  cases S with
  | t a =>
    obtain ⟨its, rv, p, hz⟩ := I.tuple hS
    have hl := rv.length
    have D := Draws.tuple (prog := X.prog) (w := X.w) (A := X.A.in1) (I.ok.hd hc) it a (fun e => hn e.symm) its.toArray
    rw [List.size_toArray, ← hl] at D
    refine ⟨_, _, _, D, ⟨ht, p⟩, fun j v e => ?_, fun j h st => st.1, by simp, fun b hb => ?_⟩
    · have e' : its[j]? = some v := by simpa using e
      have hj : j < xs.length := by
        have := (List.getElem?_eq_some_iff.mp e').1
        omega
      obtain ⟨u, hu, ru⟩ := rv.get (List.getElem?_eq_getElem hj)
      rw [e'] at hu
      cases hu
      exact ⟨xs[j], List.getElem?_eq_getElem hj, ru⟩
    · have : b = it ∨ b = a := by simpa using hb
      exact this
  | l a =>
    obtain ⟨its, rv, p, hz⟩ := I.list hS
    have hl := rv.length
    have D := Draws.list (prog := X.prog) (w := X.w) (A := X.A.in1) (I.ok.hd hc) it a (fun e => hn e.symm) its.toArray
    rw [List.size_toArray, ← hl] at D
    refine ⟨_, _, _, D, ⟨ht, p.isList⟩, fun j v e => ?_, fun j h st => st.1, by simp, fun b hb => ?_⟩
    · have e' : its[j]? = some v := by simpa using e
      have hj : j < xs.length := by
        have := (List.getElem?_eq_some_iff.mp e').1
        omega
      obtain ⟨u, hu, ru⟩ := rv.get (List.getElem?_eq_getElem hj)
      rw [e'] at hu
      cases hu
      exact ⟨xs[j], List.getElem?_eq_getElem hj, ru⟩
    · have : b = it ∨ b = a := by simpa using hb
      exact this
  | r lo c n =>
    have hS : xs = (List.range n).map fun (i : Nat) => V.int (lo + (i : Int) * c) := hS
    subst hS
    have D := draws_range (prog := X.prog) (w := X.w) (A := X.A.in1) (I.ok.hd hc) it lo c n
    have el : n = ((List.range n).map fun (i : Nat) => V.int (lo + (i : Int) * c)).length := by simp
    refine ⟨[it], fun j v => j < n ∧ ∃ t, v = .int (lo + (j : Nat) * c) t, _, ⟨D.live, D.frame, fun i s Q E hi st hQ => D.item i s Q E (by omega) st fun x h' tk q a b => hQ x h' tk ⟨by omega, q⟩ a b, fun s Q E st hE => D.done s Q E (by rw [← el] at st; exact st) hE⟩, ht, fun j v e => ?_, fun j h st => st, by simp, fun b hb => .inl (by simpa using hb)⟩
    obtain ⟨hj, t, rfl⟩ := e
    exact ⟨.int (lo + (j : Int) * c), by rw [List.getElem?_map, List.getElem?_range hj]; rfl, t, rfl⟩

/-- the five cells of a zip lie apart from all -/
structure ZA (z TI TO i1 i2 : Addr) (S1 S2 : Sr) : Prop where
  d : [z, TI, TO, i1, i2].Nodup
  o1 : ∀ b, S1.own b → b ∉ [z, TI, TO, i1, i2]
  o2 : ∀ b, S2.own b → b ∉ [z, TI, TO, i1, i2]
def ItzG (K : PySem.W.Frag) (S1 S2 : Sr) : It :=
  ⟨fun i H => ∃ (xs ys : List V) (x y : V), S1.has K H xs ∧ S2.has K H ys ∧ xs[i]? = some x ∧ ys[i]? = some y,
    fun i H v H' => ∃ T x y, v = .ref T ∧ H T = none ∧ H' = upd H T (.tup [x, y]) ∧ (∀ xs, S1.has K H xs → xs[i]? = some x) ∧ ∀ ys, S2.has K H ys → ys[i]? = some y,
    fun i H => ∃ xs ys : List V, S1.has K H xs ∧ S2.has K H ys ∧ i = min xs.length ys.length⟩
theorem ZA.sep {z TI TO i1 i2 : Addr} {S1 S2 : Sr} (Z : ZA z TI TO i1 i2 S1 S2) {fp1 fp2 : List Addr} (m1 : i1 ∈ fp1) (m2 : i2 ∈ fp2) (h1 : ∀ b ∈ fp1, b = i1 ∨ S1.own b) (h2 : ∀ b ∈ fp2, b = i2 ∨ S2.own b) : ZipSep2 z TI TO i1 i2 fp1 fp2 := by
  obtain ⟨d, o1, o2⟩ := Z
  simp only [List.nodup_cons, List.mem_cons, List.not_mem_nil, or_false, not_or] at d
  obtain ⟨⟨d1, d2, d3, d4⟩, ⟨d5, d6, d7⟩, ⟨d8, d9⟩, d10, _⟩ := d
  have f1 : ∀ b ∈ [z, TI, TO, i1, i2], b ≠ i1 → b ∉ fp1 := fun b hb n q => by
    rcases h1 b q with e | e
    · exact n e
    · exact o1 b e hb
  have f2 : ∀ b ∈ [z, TI, TO, i1, i2], b ≠ i2 → b ∉ fp2 := fun b hb n q => by
    rcases h2 b q with e | e
    · exact n e
    · exact o2 b e hb
  exact ⟨fun e => d1 e.symm, fun e => d2 e.symm, d5, d6, m1, f1 z (by simp) d3, f1 TO (by simp) d8, d7, m2, f2 z (by simp) d4, f2 TO (by simp) d9, f2 i1 (by simp) d10, f1 i2 (by simp) (fun e => d10 e.symm)⟩
theorem turn_zipG {P : Program} {w : World} {K : PySem.W.Frag} {elts : List Expr} {kk : Nat} {tpos : Pos} {z TI TO i1 i2 : Addr} {S1 S2 : Sr} (Z : ZA z TI TO i1 i2 S1 S2) :
    Turn P w K (.Tuple elts kk tpos) (ItzG K S1 S2) [z, TI, TO, i1, i2] z (fun i h => IsZip h z TI TO .none ∧ IsPair h TI (.ref i1) (.ref i2) ∧ (∃ x y, IsPair h TO x y) ∧ S1.tn i1 i h ∧ S2.tn i2 i h) where
  mem := by simp
  obj := fun i h st c hc => by
    obtain ⟨hz, hTI, ⟨x, y, hTO⟩, h1, h2⟩ := st
    have e' : c = z ∨ c = TI ∨ c = TO ∨ c = i1 ∨ c = i2 := by simpa using hc
    rcases e' with q | q | q | q | q
    · rw [q]; exact ⟨_, hz, fun v q => nomatch q⟩
    · rw [q]; exact ⟨_, hTI, fun v q => nomatch q⟩
    · rw [q]; exact ⟨_, hTO, fun v q => nomatch q⟩
    · rw [q]; exact Sr.tn_obj h1
    · rw [q]; exact Sr.tn_obj h2
  keep := fun i h h' st k => by
    obtain ⟨hz, hTI, ⟨x, y, hTO⟩, h1, h2⟩ := st
    exact ⟨k z (by simp) _ hz, k TI (by simp) _ hTI, ⟨x, y, k TO (by simp) _ hTO⟩, Sr.tn_at h1 fun o q => k i1 (by simp) o q, Sr.tn_at h2 fun o q => k i2 (by simp) o q⟩
  item := by
    intro X hP hw hK hc i pins s σ H E I hf st hg
    subst hP hw hK
    obtain ⟨hz, hTI, ⟨x0, y0, hTO⟩, h1, h2⟩ := st
    obtain ⟨xs, ys, x, y, hqx, hqy, hx, hy⟩ := hg
    obtain ⟨fp1, P1, St1, D1, st1, r1, t1, m1, f1⟩ := sr_draws hc I hqx h1 fun e => Z.o1 _ e (by simp)
    obtain ⟨fp2, P2, St2, D2, st2, r2, t2, m2, f2⟩ := sr_draws hc I hqy h2 fun e => Z.o2 _ e (by simp)
    have S := Z.sep m1 m2 f1 f2
    have hzl : z < s.heap.objs.size := Heap.lt_size hz
    refine wpAny_pyNext_zipD2_item S D1 D2 hz hTI hTO st1 st2 (List.getElem?_eq_some_iff.mp hx).1 (List.getElem?_eq_some_iff.mp hy).1 fun u u2 h' tk p1 p2 z' TO' h1' h2' hT hsz hk => ?_
    obtain ⟨x', ex, ru⟩ := r1 _ _ p1
    obtain ⟨y', ey, ru2⟩ := r2 _ _ p2
    cases hx.symm.trans ex
    cases hy.symm.trans ey
    refine ⟨_, rfl, wpAny_letOwnedTupleGo_zip (s := { s with heap := h', toks := tk }) z' fun h'' z'' sb => ?_⟩
    have hT2 : h''.get? s.heap.objs.size = some { cls := .type "tuple", data := .seq #[u, u2] } := (sb.2 _ (Nat.ne_of_gt hzl)).trans hT
    have new : ObjOk X.prog X.w (upd H s.heap.objs.size (.tup [x, y])) h'' s.heap.objs.size (.tup [x, y]) :=
      ⟨by show 2 ≤ sizeLine; decide, [u, u2], .cons ru (.cons ru2 .nil), ⟨_, hT2, rfl, _, rfl⟩⟩
    have I1 : Inv X pins σ (upd H s.heap.objs.size (.tup [x, y])) { s with heap := h'', toks := tk } :=
      I.turnedNew (t' := tk) (ch := [z, TI, TO, i1, i2]) (fun c o hb q => (sb.2 c (fun q' => hb (by simp [q']))).trans (hk c o (fun q' => hb (by simp [q'])) (fun q' => hb (by simp [q'])) (fun q' => hb (by simp [q'])) (fun q' => hb (by simp [q'])) q)) hf (Nat.le_refl _) new
    refine ⟨.ref s.heap.objs.size, _, I1, rfl, ⟨_, x, y, rfl, I.hok.fresh (Nat.le_refl _), rfl, fun l hl => by rw [Sr.inj I hl hqx]; exact hx, fun l hl => by rw [Sr.inj I hl hqy]; exact hy⟩, ⟨z'', ?_, ⟨u, u2, ?_⟩, ?_, ?_⟩, fun c hcm => ?_⟩
    · exact (sb.2 _ S.TIz).trans (hk _ _ S.TIz S.TITO S.TIi1 S.TIi2 hTI)
    · exact (sb.2 _ S.TOz).trans TO'
    · exact Sr.tn_at (t1 _ _ h1') fun o q => (sb.2 _ S.zi1.symm).trans q
    · exact Sr.tn_at (t2 _ _ h2') fun o q => (sb.2 _ S.zi2.symm).trans q
    · have hlt : c < s.heap.objs.size := by
        have e' : c = z ∨ c = TI ∨ c = TO ∨ c = i1 ∨ c = i2 := by simpa using hcm
        rcases e' with q | q | q | q | q
        · rw [q]; exact hzl
        · rw [q]; exact Heap.lt_size hTI
        · rw [q]; exact Heap.lt_size hTO
        · rw [q]; obtain ⟨_, e1, _⟩ := Sr.tn_obj h1; exact Heap.lt_size e1
        · rw [q]; obtain ⟨_, e2, _⟩ := Sr.tn_obj h2; exact Heap.lt_size e2
      rw [upd_ne (Nat.ne_of_lt hlt)]
      exact (hf c hcm).1
  done := by
    intro X hP hw hK hc i pins s σ H E I hf st hg
    subst hP hw hK
    obtain ⟨hz, hTI, ⟨x0, y0, hTO⟩, h1, h2⟩ := st
    obtain ⟨xs, ys, hqx, hqy, hend⟩ := hg
    obtain ⟨fp1, P1, St1, D1, st1, r1, t1, m1, f1⟩ := sr_draws hc I hqx h1 fun e => Z.o1 _ e (by simp)
    obtain ⟨fp2, P2, St2, D2, st2, r2, t2, m2, f2⟩ := sr_draws hc I hqy h2 fun e => Z.o2 _ e (by simp)
    exact wpAny_pyNext_zipD2_end (Z.sep m1 m2 f1 f2) D1 D2 hz hTI hTO st1 st2 (by omega) (by omega) (by omega) fun h' tk hk => ⟨rfl, I.turnedL (t' := tk) (ch := [z, TI, TO, i1, i2]) (fun c o hb q =>
      hk c o (fun q' => hb (by simp [q'])) (fun q' => hb (by simp [q'])) (fun q' => hb (by simp [q'])) (fun q' => hb (by simp [q'])) q) hf⟩
  self := fun A i s Q E st h => wpAny_pyIter_zip st.1 h
theorem walk_zipG {K : PySem.W.Frag} {S1 S2 : Sr} {xs ys : List V} {n : Nat} (hn : n = min xs.length ys.length) : Walk (ItzG K S1 S2) n (fun H => S1.has K H xs ∧ S2.has K H ys) (YPair (fun i => xs[i]?) (fun i => ys[i]?)) := by
  subst hn
  refine ⟨fun i _ hi q => ?_, fun _ q => ⟨xs, ys, q.1, q.2, rfl⟩, fun i H v H' _ q y => ?_⟩
  · have h1 : i < xs.length := by omega
    have h2 : i < ys.length := by omega
    exact ⟨xs, ys, xs[i], ys[i], q.1, q.2, by simp [h1], by simp [h2]⟩
  · obtain ⟨T, x, z, h1, h2, h3, h4, h5⟩ := y
    exact ⟨T, x, z, h1, h2, h3, h4 xs q.1, h5 ys q.2⟩
/-- a tuple or a list as an argument -/
inductive SrV (K : PySem.W.Frag) (H : Hp) : V → Sr → Prop
  | t {a : Addr} {xs : List V} (h : SqT K H a xs) : SrV K H (.ref a) (.t a)
  | l {a : Addr} {xs : List V} (h : SqL K H a xs) : SrV K H (.ref a) (.l a)
theorem SrV.begin {X : Cx} {pins : List (Addr × Obj)} {σ : L2.St} {H : Hp} {s : Shared} {v : V} {u : Value} {S : Sr} (I : Inv X pins σ H s) (h : SrV X.K H v S) (r : RelV v u) :
    ∃ (o : Obj) (G : Heap → Prop), Begins u o G ∧ G s.heap ∧ (∀ h' it, h'.get? it = some o → S.tn it 0 h') ∧ ∀ b, S.own b → b < s.heap.objs.size := by
  cases h with
  | t h =>
    cases r
    obtain ⟨its, rv, p, hz⟩ := I.tuple h
    obtain ⟨o, ho, _⟩ := id p
    exact ⟨_, _, begins_tuple _ its.toArray, p, fun h' it e => ⟨_, e, rfl, rfl⟩, fun b e => by rw [show b = _ from e]; exact Heap.lt_size ho⟩
  | l h =>
    cases r
    obtain ⟨its, rv, p, hz⟩ := I.list h
    exact ⟨_, _, begins_list _ its.toArray, p.isList, fun h' it e => ⟨_, e, rfl, rfl⟩, fun b e => by rw [show b = _ from e]; exact p.lt⟩
theorem nod5 (n : Nat) : [n + 4, n + 2, n + 3, n, n + 1].Nodup := by
  simp only [List.nodup_cons, List.mem_cons, List.not_mem_nil, or_false, not_or, List.nodup_nil, and_true, not_false_eq_true]
  omega
theorem not5 {n b : Nat} (h : b < n) : b ∉ [n + 4, n + 2, n + 3, n, n + 1] := fun hm => by
  have e : b = n + 4 ∨ b = n + 2 ∨ b = n + 3 ∨ b = n ∨ b = n + 1 := by simpa using hm
  omega
theorem zip_ready {X : Cx} {pins : List (Addr × Obj)} {σ : L2.St} {H : Hp} {s : Shared} {u1 u2 : Value} {S1 S2 : Sr} {o1 o2 : Obj} {G1 G2 : Heap → Prop} {elts : List Expr} {kk : Nat} {tpos : Pos} {R : It → Hp → Prop} (I : Inv X pins σ H s)
    (B1 : Begins u1 o1 G1) (B2 : Begins u2 o2 G2) (g1 : G1 s.heap) (g2 : G2 s.heap) (t1 : ∀ h' it, h'.get? it = some o1 → S1.tn it 0 h') (t2 : ∀ h' it, h'.get? it = some o2 → S2.tn it 0 h')
    (w1 : ∀ b, S1.own b → b < s.heap.objs.size) (w2 : ∀ b, S2.own b → b < s.heap.objs.size) (q : R (ItzG X.K S1 S2) H) :
    wpAny (model X.prog X.w) X.A (call (.type "zip") [u1, u2]) (fun v s1 => wpAny (model X.prog X.w) X.A (pyIter v) (PIE X pins σ (.Tuple elts kk tpos) R) X.xe s1) X.xe s := by
  refine zip_begins2 B1 B2 g1 g2 fun h' hz hTI hTO h1 h2 hsz hk => wpAny_pyIter_zip hz ?_
  have I2 : Inv X pins σ H { s with heap := h' } := I.kept (t' := s.toks) hk
  have fresh5 : ∀ c, c ∈ [s.heap.objs.size + 4, s.heap.objs.size + 2, s.heap.objs.size + 3, s.heap.objs.size, s.heap.objs.size + 1] → FpOk X pins H c := fun c hcm => by
    have e' : c = s.heap.objs.size + 4 ∨ c = s.heap.objs.size + 2 ∨ c = s.heap.objs.size + 3 ∨ c = s.heap.objs.size ∨ c = s.heap.objs.size + 1 := by simpa using hcm
    have hle : s.heap.objs.size ≤ c := by omega
    exact I.fpOk hle (I.hok.fresh hle)
  refine ⟨s.heap.objs.size + 4, [s.heap.objs.size + 4, s.heap.objs.size + 2, s.heap.objs.size + 3, s.heap.objs.size, s.heap.objs.size + 1], _, _, H, rfl, I2, turn_zipG ⟨?_, ?_, ?_⟩, ⟨hz, hTI, ⟨_, _, hTO⟩, t1 _ _ h1, t2 _ _ h2⟩, fresh5, q⟩
  · exact nod5 _
  · exact fun b hb => not5 (w1 b hb)
  · exact fun b hb => not5 (w2 b hb)
/-- zip of two of tuples and lists -/
def iZipG (K : PySem.W.Frag) (ta : TA) : TI := fun σ H R => ta σ H fun vs H1 => ∃ x y S1 S2, vs = [x, y] ∧ SrV K H1 x S1 ∧ SrV K H1 y S2 ∧ R (ItzG K S1 S2) H1
theorem pi_zipG {X : Cx} {e e2 : Expr} {ta : TA} {p pos tpos : Pos} {elts : List Expr} {kk : Nat} (hg : Gl X "zip") (hm : X.mg "zip" = none) (ha : PA X [e, e2] ta)
    (hs : starEach [e, e2] X.env = (false, eval e X.env) :: starEach [e2] X.env := by rfl) (hpl : (backTo pos (starEach [e2] X.env)).any (·.1) = false := by rfl) :
    PI X (.Tuple elts kk tpos) (.Call (.Name "zip" p) [e, e2] [] pos) (iZipG X.K ta) := by
  refine ⟨fun pins s σ H R I h => ?_⟩
  refine Call_ (ld_blt I hg hm PyProof.Rows.boot_zip (PyProof.Rows.callWith_type1 (thn (ha.run pos pins s σ H _ I h) fun us s1 ⟨vs, H1, I1, r1, q1⟩ => ?_) hs hpl))
  obtain ⟨x, y, S1, S2, ex, v1, v2, q⟩ := q1
  subst ex
  cases r1 with
  | cons r rr =>
    cases rr with
    | cons r' rr =>
      cases rr
      obtain ⟨o1, G1, B1, g1, t1, w1⟩ := v1.begin I1 r
      obtain ⟨o2, G2, B2, g2, t2, w2⟩ := v2.begin I1 r'
      exact zip_ready I1 B1 B2 g1 g2 t1 t2 w1 w2 q
/-- zip of a tuple or list and a range of three words -/
def iZipR (K : PySem.W.Frag) (te : TE) (ta : TA) : TI := fun σ H R => te σ H fun x H1 => ta σ H1 fun vs H2 => ∃ (S : Sr) (i j c : Int) (n : Nat), vs = [.int i, .int j, .int c] ∧ RgC i j c n ∧ SrV K H2 x S ∧ R (ItzG K S (.r i c n)) H2
theorem pi_zipR {X : Cx} {e a b c : Expr} {te : TE} {ta : TA} {p p2 q2 pos tpos : Pos} {elts : List Expr} {kk : Nat} (hg : Gl X "zip") (hm : X.mg "zip" = none) (hg2 : Gl X "range") (hm2 : X.mg "range" = none) (he : PE X e te) (ha : PA X [a, b, c] ta)
    (hs2 : starEach [a, b, c] X.env = (false, eval a X.env) :: starEach [b, c] X.env := by rfl) (hpl2 : (backTo q2 (starEach [b, c] X.env)).any (·.1) = false := by rfl)
    (hs : starEach [e, .Call (.Name "range" p2) [a, b, c] [] q2] X.env = (false, eval e X.env) :: starEach [.Call (.Name "range" p2) [a, b, c] [] q2] X.env := by rfl)
    (hs3 : starEach [.Call (.Name "range" p2) [a, b, c] [] q2] X.env = (false, eval (.Call (.Name "range" p2) [a, b, c] [] q2) X.env) :: starEach [] X.env := by rfl)
    (hpl : (backTo pos (starEach [.Call (.Name "range" p2) [a, b, c] [] q2] X.env)).any (·.1) = false := by rfl) :
    PI X (.Tuple elts kk tpos) (.Call (.Name "zip" p) [e, .Call (.Name "range" p2) [a, b, c] [] q2] [] pos) (iZipR X.K te ta) := by
  refine ⟨fun pins s σ H R I h => ?_⟩
  refine Call_ (ld_blt I hg hm PyProof.Rows.boot_zip (PyProof.Rows.callWith_type1 (PyProof.Rows.args_cons (thn (he.run pins s σ H _ I h) fun v s1 ⟨x, H1, I1, r1, q1⟩ => PyProof.Rows.args_cons (Call_ (ld_blt I1 hg2 hm2 boot_range (PyProof.Rows.callWith_type1 (thn (ha.run q2 pins s1 σ H1 _ I1 q1) fun us s2 ⟨vs, H2, I2, r2, q3⟩ => ?_) hs2 hpl2))) hs3) hs) hs hpl))
  obtain ⟨S, i, j, k, n, e, ⟨c0, c1, c2, c3⟩, v1, q⟩ := q3
  subst e
  cases r2 with
  | cons r rr =>
    cases rr with
    | cons r' rr =>
      cases rr with
      | cons r'' rr =>
        cases rr
        obtain ⟨t, rfl⟩ := r
        obtain ⟨t', rfl⟩ := r'
        obtain ⟨t'', rfl⟩ := r''
        refine call_range_3 c0 (PyProof.Rows.args_nil ?_) (.inl (PyProof.noPylong_small c1))
        have I3 : Inv X pins σ H2 { s2 with heap := s2.heap.push { cls := .type "range", data := .fields #[.int i t, .int j t', .int k t''] } } := I2.kept (t' := s2.toks) fun b o e => Heap.get?_push_of_some _ e
        obtain ⟨o1, G1, B1, g1, t1, w1⟩ := v1.begin I3 r1
        refine zip_ready (S2 := .r i k n) I3 B1 (begins_range c2) g1 (IsRange.new _ _ _ _ _ _ _) t1 (fun h' it eo => ?_) w1 (fun b hb => False.elim (show False from hb)) q
        have e1 : i + ((0 : Nat) : Int) * k = i := by simp
        have e2 : (n : Int) - ((0 : Nat) : Int) = Builtin.Range.rangeSize i j k := by rw [c3]; simp
        show IsRangeIter _ _ (i + ((0 : Nat) : Int) * k) ((n : Int) - ((0 : Nat) : Int)) k
        rw [e1, e2]
        exact eo
end Gk
namespace Gk
open PySem L2 PyProof.Rows
/-! small data: shown, laid, compared -/
structure Sm (d : PyData) (k n : Nat) : Prop where
  s : d.showable = true
  dp : d.depth ≤ k
  w : wt d ≤ n
  l : d.canLay0 = true
structure SmAll (ds : List PyData) (k n : Nat) : Prop where
  s : PyData.showableAll ds = true
  dp : PyData.depthAll ds ≤ k
  w : wtAll ds ≤ n
  l : PyData.canLayAll0 ds = true
theorem sm_int {i : Int} (h : i.natAbs < 2 ^ 64) : Sm (.int i) 1 66 := by
  have g := log_of h (by decide)
  refine ⟨?_, ?_, ?_, rfl⟩
  · simp only [PyData.showable, decide_eq_true_eq]; omega
  · simp only [PyData.depth]; omega
  · simp only [wt]; omega
theorem sm_bl (b : Bool) : Sm (.bool b) 1 5 := by
  refine ⟨rfl, ?_, ?_, rfl⟩
  · simp only [PyData.depth]; omega
  · simp only [wt]; omega
theorem sm_nil : SmAll [] 0 0 := by
  refine ⟨rfl, ?_, ?_, rfl⟩
  · simp only [PyData.depthAll]; omega
  · simp only [wtAll]; omega
theorem sm_cons {d : PyData} {ds : List PyData} {k n k' n' : Nat} (h : Sm d k n) (h' : SmAll ds k' n') : SmAll (d :: ds) (max k k') (n + 2 + n') := by
  obtain ⟨a1, a2, a3, a4⟩ := h
  obtain ⟨b1, b2, b3, b4⟩ := h'
  refine ⟨?_, ?_, ?_, ?_⟩
  · simp only [PyData.showableAll, a1, b1, Bool.and_self]
  · simp only [PyData.depthAll]; omega
  · simp only [wtAll]; omega
  · simp only [PyData.canLayAll0, a4, b4, Bool.and_self]
theorem sm_tup {ds : List PyData} {k n : Nat} (h : SmAll ds k n) : Sm (.tuple ds) (k + 1) (n + 3) := by
  obtain ⟨b1, b2, b3, b4⟩ := h
  refine ⟨?_, ?_, ?_, ?_⟩
  · simp only [PyData.showable, b1]
  · simp only [PyData.depth]; omega
  · simp only [wt]; omega
  · simp only [PyData.canLay0, b4]
theorem sm_lst {ds : List PyData} {k n : Nat} (h : SmAll ds k n) : Sm (.list ds) (k + 1) (n + 2) := by
  obtain ⟨b1, b2, b3, b4⟩ := h
  refine ⟨?_, ?_, ?_, ?_⟩
  · simp only [PyData.showable, b1]
  · simp only [PyData.depth]; omega
  · simp only [wt]; omega
  · simp only [PyData.canLay0, b4]
def pdI (ns : List Int) : List PyData := ns.map PyData.int
theorem sm_ints : ∀ {ns : List Int}, (∀ i ∈ ns, i.natAbs < 2 ^ 64) → SmAll (pdI ns) 1 (68 * ns.length)
  | [], _ => ⟨rfl, by simp only [pdI, List.map_nil, PyData.depthAll]; omega, by simp only [pdI, List.map_nil, wtAll]; omega, rfl⟩
  | i :: r, h => by
    have a := sm_cons (sm_int (h i (by simp))) (sm_ints (ns := r) fun j hj => h j (by simp [hj]))
    refine ⟨a.s, ?_, ?_, a.l⟩
    · have := a.dp; show PyData.depthAll (PyData.int i :: pdI r) ≤ 1; omega
    · have := a.w; show wtAll (PyData.int i :: pdI r) ≤ 68 * (r.length + 1); omega
theorem Sm.rp {d : PyData} {k n : Nat} (h : Sm d k n) (hk : k ≤ 60) (hn : n ≤ 16000000) : d.showable = true ∧ d.depth ≤ 60 ∧ d.shown.length ≤ sizeLine :=
  ⟨h.s, Nat.le_trans h.dp hk, shows h.w hn⟩
theorem Sm.shaped {d : PyData} {k n : Nat} (h : Sm d k n) (hk : k ≤ 64) : SeqAt.shaped d = true := by
  unfold SeqAt.shaped
  rw [h.l, Bool.true_and]
  exact decide_eq_true (Nat.le_trans h.dp hk)
theorem Sm.refl {d : PyData} {k n : Nat} (h : Sm d k n) : PyData.eqv d d = true := SeqAt.eqv_refl _ h.l
theorem dp_ints {K : PySem.W.Frag} {H : Hp} : ∀ ns : List Int, DpAll K H (ns.map V.int) (pdI ns)
  | [] => .nil
  | i :: r => .cons (.int i) (dp_ints r)
theorem eqv_nil (x : PyData) (r : List PyData) : PyData.eqv (.list (x :: r)) (.list []) = false := by
  simp only [PyData.eqv, PyData.eqvAll]
theorem eqv_nil2 : PyData.eqv (.list []) (.list []) = true := by
  simp only [PyData.eqv, PyData.eqvAll]
/-- what repr asks, of small data -/
theorem rp_ok {K : PySem.W.Frag} {H : Hp} {x : V} {d : PyData} {k n : Nat} {Q : VK} (hd : Dp K H x d) (h : Sm d k n) (q : Q (.str d.shown) H) (hk : k ≤ 60 := by decide) (hn : n ≤ 16000000 := by first | decide | omega) : rRepr K [x] H Q :=
  ⟨x, d, rfl, hd, (h.rp hk hn).1, (h.rp hk hn).2.1, (h.rp hk hn).2.2, q⟩
theorem sm_wide {i : Int} (h : i.natAbs < 2 ^ 1000) : Sm (.int i) 1 1010 := by
  have g := log_of h (by decide)
  refine ⟨?_, ?_, ?_, rfl⟩
  · simp only [PyData.showable, decide_eq_true_eq]; omega
  · simp only [PyData.depth]; omega
  · simp only [wt]; omega
theorem lay_ints : ∀ ns : List Int, PyData.canLayAll0 (pdI ns) = true ∧ PyData.depthAll (pdI ns) = 0
  | [] => ⟨rfl, by simp only [pdI, List.map_nil, PyData.depthAll]⟩
  | i :: r => by
    obtain ⟨a, b⟩ := lay_ints r
    refine ⟨?_, ?_⟩
    · show PyData.canLayAll0 (PyData.int i :: pdI r) = true
      simp only [PyData.canLayAll0, PyData.canLay0, a, Bool.and_self]
    · show PyData.depthAll (PyData.int i :: pdI r) = 0
      simp only [PyData.depthAll, PyData.depth, b]; rfl
theorem shaped_ints (ns : List Int) : SeqAt.shaped (.list (pdI ns)) = true := by
  obtain ⟨a, b⟩ := lay_ints ns
  unfold SeqAt.shaped
  simp only [PyData.canLay0, a, PyData.depth, b]
  decide
theorem eqv_ints_nil (ns : List Int) : PyData.eqv (.list (pdI ns)) (.list []) = decide (ns = []) := by
  cases ns with
  | nil => exact eqv_nil2
  | cons i r => exact eqv_nil _ _
end Gk
namespace Gk
open PySem L2 PyProof.Rows
/-! helps of the walks, for every law -/
/-! small helps -/
theorem if_dec {p A B : Prop} [Decidable p] (h1 : p → A) (h2 : ¬ p → B) : if decide p = true then A else B := by
  by_cases h : p
  · rw [if_pos (decide_eq_true h)]; exact h1 h
  · rw [if_neg (by simpa using h)]; exact h2 h
theorem lc_yes {σ : L2.St} {H : Hp} {A B : Hp → Prop} (h : A H) : tYes σ H (fun b H3 => if b = true then A H3 else B H3) := by
  show (if true = true then A H else B H)
  rw [if_pos rfl]
  exact h
/-- while by an invariant, a measure, and what holds behind it -/
theorem while_go {c : TT} {tb : TS} {D : Ends} {σ : L2.St} {H : Hp} (Pv : L2.St → Hp → Prop) (μ : L2.St → Hp → Nat) (Dn : L2.St → Hp → Prop) (h0 : Pv σ H)
    (hs : ∀ σ H, Pv σ H → c σ H fun b H1 => if b = true then tb { D with nx := fun σ' H' => Pv σ' H' ∧ μ σ' H' < μ σ H, ct := fun σ' H' => Pv σ' H' ∧ μ σ' H' < μ σ H, bk := D.nx } σ H1 else Dn σ H1)
    (hd : ∀ σ H, Dn σ H → D.nx σ H) (mono : ∀ σ H Q Q', (∀ b H1, Q b H1 → Q' b H1) → c σ H Q → c σ H Q') : tWhile c tb D σ H :=
  while_by Pv μ h0 (fun σ H p => mono σ H _ _ (fun b H1 q => by
    cases b with
    | true => exact q
    | false => exact hd σ H1 q) (hs σ H p)) mono
theorem same_refl (H : Hp) : Same H H := fun _ _ e => e
theorem same_tup {K : PySem.W.Frag} {H H' : Hp} {a : Addr} {xs : List V} (e : Same H H') (h : SqT K H a xs) : SqT K H' a xs := by
  rcases h with h | h
  · rcases h with h | ⟨o, h⟩
    · exact .inl (.inl (e _ _ h))
    · exact .inl (.inr ⟨o, e _ _ h⟩)
  · exact .inr h
theorem same_new {H : Hp} {p : Addr} {o : HO} (h : H p = none) : Same H (upd H p o) := fun b x e => by
  rw [upd_ne (ne_of_none e h)]
  exact e
/-- an object that H does not know may change -/
theorem same_mut {H H' : Hp} {p : Addr} {o : HO} (e : Same H H') (h : H p = none) : Same H (upd H' p o) := fun b x q => by
  rw [upd_ne (ne_of_none q h)]
  exact e b x q
theorem same_back {H H' : Hp} {p : Addr} (e : Same H H') (h : H' p = none) : H p = none := by
  cases q : H p with
  | none => rfl
  | some o => rw [e p o q] at h; cases h
theorem mulG_r {i j : Int} {n : Nat} (h : j.natAbs < n) (hn : n ≤ 2 ^ 64 := by decide) : CMulG i j := .inr (.inl (Nat.lt_of_lt_of_le h hn))
theorem mulG_l {i j : Int} {n : Nat} (h : i.natAbs < n) (hn : n ≤ 2 ^ 64 := by decide) : CMulG i j := .inl (Nat.lt_of_lt_of_le h hn)
theorem divG {i j : Int} (h : 0 < j) (hb : j.natAbs < 2 ^ 64) : CDivW i j := wide_div (b := 64) h hb (by decide) (by decide)
theorem seq_cut {t1 t2 : TS} {D : Ends} {σ : L2.St} {H : Hp} (R : L2.St → Hp → Prop) (rest : ∀ σ' H', R σ' H' → t2 D σ' H') (main : (∀ σ' H', R σ' H' → t2 D σ' H') → tSeq t1 t2 D σ H) : tSeq t1 t2 D σ H := main rest
theorem ifs_both {tc : TT} {t u : TS} {D : Ends} {σ : L2.St} {H : Hp} (E F : Prop) (yes : E → t D σ H) (no : F → u D σ H) (main : (E → t D σ H) → (F → u D σ H) → tIfS tc t u D σ H) : tIfS tc t u D σ H := main yes no
/-- two ways on, the heap grown by the test -/
theorem ifs_hp {tc : TT} {t u : TS} {D : Ends} {σ : L2.St} {H : Hp} (E F : Prop) (yes : E → ∀ H2, Same H H2 → t D σ H2) (no : F → ∀ H2, Same H H2 → u D σ H2) (main : (E → ∀ H2, Same H H2 → t D σ H2) → (F → ∀ H2, Same H H2 → u D σ H2) → tIfS tc t u D σ H) : tIfS tc t u D σ H := main yes no
theorem gn_go {i : Nat} {v : V} {σ : L2.St} {H : Hp} {Q : L2.St → Hp → Prop} (h : Q (σ.set i (some v)) H) : gName i v σ H Q := h
theorem nx_go {f : L2.St → Hp → Prop} {rt : VK} {bk ct : L2.St → Hp → Prop} {σ : L2.St} {H : Hp} (h : f σ H) : ({ nx := f, rt := rt, bk := bk, ct := ct } : Ends).nx σ H := h
theorem next_go {D : Ends} {σ : L2.St} {H : Hp} (h : D.nx σ H) : tNext D σ H := h
theorem if_not_dec {p A B : Prop} [Decidable p] (h1 : ¬ p → A) (h2 : p → B) : if (!decide p) = true then A else B := by
  by_cases h : p
  · rw [if_neg (by simp [h])]; exact h2 h
  · rw [if_pos (by simp [h])]; exact h1 h
theorem if_ne_same {x y : V} {A B : Prop} (e : x = y) (h : B) : if (!decide (x = y)) = true then A else B := by
  rw [if_neg (by simp [e])]
  exact h
def iv (xs : List Nat) : List V := xs.map fun (a : Nat) => V.int (a : Int)
theorem iv_len (xs : List Nat) : (iv xs).length = xs.length := by unfold iv; rw [List.length_map]
theorem iv_get {xs : List Nat} {i a : Nat} (h : xs[i]? = some a) : (iv xs)[i]? = some (V.int (a : Int)) := by unfold iv; rw [List.getElem?_map, h]; rfl
theorem iv_at {xs : List Nat} {i : Nat} {x : V} (h : (iv xs)[i]? = some x) : ∃ a, xs[i]? = some a ∧ x = V.int (a : Int) := by
  unfold iv at h
  rw [List.getElem?_map] at h
  cases e : xs[i]? with
  | none => rw [e] at h; cases h
  | some a => rw [e] at h; exact ⟨a, rfl, (Option.some.inj h).symm⟩
theorem iv_app (xs ys : List Nat) : iv (xs ++ ys) = iv xs ++ iv ys := List.map_append
theorem cut_from (xs : List V) (n : Nat) : cutV xs (some (n : Int)) none = xs.drop n := by
  unfold cutV
  rw [HT.sIx_none, show HT.sIx xs.length 0 (some (n : Int)) = min n xs.length from HT.sIx_nat xs.length 0 n]
  by_cases h : n ≤ xs.length
  · rw [Nat.min_eq_left h, List.take_of_length_le (by rw [List.length_drop]; exact Nat.le_refl _)]
  · rw [Nat.min_eq_right (by omega), List.drop_eq_nil_of_le (Nat.le_refl _), List.drop_eq_nil_of_le (by omega), List.take_nil]
theorem cut_all {xs : List V} {n : Nat} (h : HT.sIx xs.length 0 (some (n : Int)) = 0 ∧ HT.sIx xs.length xs.length none = xs.length) : xs.drop n = xs := by
  have h1 := h.1
  rw [show HT.sIx xs.length 0 (some (n : Int)) = min n xs.length from HT.sIx_nat xs.length 0 n] at h1
  by_cases z : n = 0
  · subst z; rfl
  · have : xs.length = 0 := by omega
    rw [List.eq_nil_of_length_eq_zero this]; exact List.drop_nil
/-- a cut of a tuple: old or new -/
theorem cut_ok {K : PySem.W.Frag} {H : Hp} {a : Addr} {xs : List V} {n : Nat} {Q : VK} (hS : SqT K H a xs) (h : ∀ t H', Same H H' → SqT K H' t (xs.drop n) → Q (.ref t) H') : rSlA K (.ref a) (some (n : Int)) none H Q :=
  ⟨a, xs, rfl, hS, fun w => h a H (same_refl H) (by rw [cut_all w]; exact hS), fun _ p np => h p _ (same_new np) (by rw [cut_from]; exact SqT.of upd_same)⟩
/-- two tuples put together -/
theorem cat_ok {K : PySem.W.Frag} {H : Hp} {a b : Addr} {xs ys : List V} {Q : VK} (ha : SqT K H a xs) (hb : SqT K H b ys) (hl : xs.length + ys.length ≤ sizeLine) (h : ∀ t H', Same H H' → SqT K H' t (xs ++ ys) → Q (.ref t) H') : rCatA K (.ref a) (.ref b) H Q :=
  ⟨a, b, xs, ys, rfl, rfl, ha, hb, hl, fun e => h b H (same_refl H) (by rw [e]; exact hb), fun _ e => h a H (same_refl H) (by rw [e, List.append_nil]; exact ha), fun _ _ p np => h p _ (same_new np) (SqT.of upd_same)⟩
theorem rgV_nat (n : Nat) : rgV 0 (n : Int) = iv (List.range n) := by
  unfold rgV iv
  rw [show ((n : Int) - 0).toNat = n by omega]
  exact List.map_congr_left fun i _ => by rw [Int.zero_add]
theorem im_at {ns : List Int} {i : Nat} {x : V} (h : (ns.map V.int)[i]? = some x) : ∃ a, ns[i]? = some a ∧ x = V.int a := by
  rw [List.getElem?_map] at h
  cases e : ns[i]? with
  | none => rw [e] at h; cases h
  | some a => rw [e] at h; exact ⟨a, rfl, (Option.some.inj h).symm⟩
/-! the source of draws -/
def sd (c : Addr) (l m t : Int) : List (Key × V) := [(.inr "cells", .ref c), (.inr "left", .int l), (.inr "mixed", .int m), (.inr "turn", .int t)]
theorem s_lc : ¬ (("cells" : Str) = ("left" : Str)) := by decide +kernel
theorem n_lc : ¬ ((Sum.inr ("cells" : Str) : Key) = Sum.inr ("left" : Str)) := fun e => s_lc (Sum.inr.inj e)
theorem s_mc : ¬ (("cells" : Str) = ("mixed" : Str)) := by decide +kernel
theorem n_mc : ¬ ((Sum.inr ("cells" : Str) : Key) = Sum.inr ("mixed" : Str)) := fun e => s_mc (Sum.inr.inj e)
theorem s_tc : ¬ (("cells" : Str) = ("turn" : Str)) := by decide +kernel
theorem n_tc : ¬ ((Sum.inr ("cells" : Str) : Key) = Sum.inr ("turn" : Str)) := fun e => s_tc (Sum.inr.inj e)
theorem s_ml : ¬ (("left" : Str) = ("mixed" : Str)) := by decide +kernel
theorem n_ml : ¬ ((Sum.inr ("left" : Str) : Key) = Sum.inr ("mixed" : Str)) := fun e => s_ml (Sum.inr.inj e)
theorem s_tl : ¬ (("left" : Str) = ("turn" : Str)) := by decide +kernel
theorem n_tl : ¬ ((Sum.inr ("left" : Str) : Key) = Sum.inr ("turn" : Str)) := fun e => s_tl (Sum.inr.inj e)
theorem s_tm : ¬ (("mixed" : Str) = ("turn" : Str)) := by decide +kernel
theorem n_tm : ¬ ((Sum.inr ("mixed" : Str) : Key) = Sum.inr ("turn" : Str)) := fun e => s_tm (Sum.inr.inj e)
theorem s_mt : ¬ (("turn" : Str) = ("mixed" : Str)) := by decide +kernel
theorem n_mt : ¬ ((Sum.inr ("turn" : Str) : Key) = Sum.inr ("mixed" : Str)) := fun e => s_mt (Sum.inr.inj e)
theorem s_lm : ¬ (("mixed" : Str) = ("left" : Str)) := by decide +kernel
theorem n_lm : ¬ ((Sum.inr ("mixed" : Str) : Key) = Sum.inr ("left" : Str)) := fun e => s_lm (Sum.inr.inj e)
theorem s_lt : ¬ (("turn" : Str) = ("left" : Str)) := by decide +kernel
theorem n_lt : ¬ ((Sum.inr ("turn" : Str) : Key) = Sum.inr ("left" : Str)) := fun e => s_lt (Sum.inr.inj e)
theorem sd_cells (c : Addr) (l m t : Int) : valV (sd c l m t) (.inr "cells") = some (.ref c) := valV_pos rfl
theorem sd_left (c : Addr) (l m t : Int) : valV (sd c l m t) (.inr "left") = some (.int l) := (valV_neg n_lc).trans (valV_pos rfl)
theorem sd_mixed (c : Addr) (l m t : Int) : valV (sd c l m t) (.inr "mixed") = some (.int m) := (valV_neg n_mc).trans ((valV_neg n_ml).trans (valV_pos rfl))
theorem sd_turn (c : Addr) (l m t : Int) : valV (sd c l m t) (.inr "turn") = some (.int t) := (valV_neg n_tc).trans ((valV_neg n_tl).trans ((valV_neg n_tm).trans (valV_pos rfl)))
theorem sd_put_left (c : Addr) (l m t x : Int) : putK (sd c l m t) (.inr "left") (.int x) = sd c x m t := by
  unfold putK sd
  simp [s_lc, s_lm, s_lt]
theorem sd_put_mixed (c : Addr) (l m t x : Int) : putK (sd c l m t) (.inr "mixed") (.int x) = sd c l x t := by
  unfold putK sd
  simp [s_mc, s_ml, s_mt]
theorem sd_put_turn (c : Addr) (l m t x : Int) : putK (sd c l m t) (.inr "turn") (.int x) = sd c l m x := by
  unfold putK sd
  simp [s_tc, s_tl, s_tm]
theorem sd_make (c : Addr) (l m t : Int) : mergeK [] (sd c l m t) = sd c l m t := by
  unfold mergeK sd
  simp [putK, s_lc, s_mc, s_tc, s_ml, s_tl, s_tm]
theorem dget {H : Hp} {a : Addr} {kvs : List (Key × V)} {v : V} (k : Key) (e : H a = some (.dK kvs)) (h : valV kvs k = some v) : DGet H a (kV k) (some v) := h ▸ DGet.k e
section
variable {H : Hp} {p c : Addr} {l m t : Int}
theorem g_cells (h : H p = some (.dK (sd c l m t))) : DGet H p (.str "cells") (some (.ref c)) := dget (.inr "cells") h (sd_cells c l m t)
theorem g_left (h : H p = some (.dK (sd c l m t))) : DGet H p (.str "left") (some (.int l)) := dget (.inr "left") h (sd_left c l m t)
theorem g_mixed (h : H p = some (.dK (sd c l m t))) : DGet H p (.str "mixed") (some (.int m)) := dget (.inr "mixed") h (sd_mixed c l m t)
theorem g_turn (h : H p = some (.dK (sd c l m t))) : DGet H p (.str "turn") (some (.int t)) := dget (.inr "turn") h (sd_turn c l m t)
theorem p_left (h : H p = some (.dK (sd c l m t))) (x : Int) : DPut H p (.str "left") (.int x) (upd H p (.dK (sd c x m t))) := sd_put_left c l m t x ▸ DPut.k (k := .inr "left") h (by show (4 : Nat) < sizeLine; decide)
theorem p_mixed (h : H p = some (.dK (sd c l m t))) (x : Int) : DPut H p (.str "mixed") (.int x) (upd H p (.dK (sd c l x t))) := sd_put_mixed c l m t x ▸ DPut.k (k := .inr "mixed") h (by show (4 : Nat) < sizeLine; decide)
theorem p_turn (h : H p = some (.dK (sd c l m t))) (x : Int) : DPut H p (.str "turn") (.int x) (upd H p (.dK (sd c l m x))) := sd_put_turn c l m t x ▸ DPut.k (k := .inr "turn") h (by show (4 : Nat) < sizeLine; decide)
end
/-- a source at p, its cells at c -/
def Src (H : Hp) (p c : Addr) : Prop := ∃ (ns : List Int) (l m t : Int), H p = some (.dK (sd c l m t)) ∧ H c = some (.lst (ns.map V.int))
/-- all but the source stands -/
def But (p c : Addr) (H H' : Hp) : Prop := ∀ b o, b ≠ p → b ≠ c → H b = some o → H' b = some o
theorem Src.ne {H : Hp} {p c : Addr} (s : Src H p c) : p ≠ c := by
  obtain ⟨ns, l, m, t, h1, h2⟩ := s
  exact ne_of h1 h2 (by intro z; cases z)
theorem Src.same {H H' : Hp} {p c : Addr} (s : Src H p c) (e : Same H H') : Src H' p c := by
  obtain ⟨ns, l, m, t, h1, h2⟩ := s
  exact ⟨ns, l, m, t, e _ _ h1, e _ _ h2⟩
theorem Same.but {H H' : Hp} {p c : Addr} (e : Same H H') : But p c H H' := fun b o _ _ h => e b o h
/-- a tuple stays where the source alone changes -/
theorem but_tup {H H' : Hp} {p c t : Addr} {xs : List V} (s : Src H p c) (b : But p c H H') (h : H t = some (.tup xs)) : H' t = some (.tup xs) := by
  obtain ⟨ns, l, m, u, h1, h2⟩ := s
  exact b t _ (ne_of h h1 (by intro z; cases z)) (ne_of h h2 (by intro z; cases z)) h
/-- what a new object is not -/
theorem Src.new {H : Hp} {p c D : Addr} (s : Src H p c) (h : H D = none) : D ≠ p ∧ D ≠ c := by
  obtain ⟨ns, l, m, u, h1, h2⟩ := s
  exact ⟨fun e => by (rw [← e, h] at h1; cases h1), fun e => by (rw [← e, h] at h2; cases h2)⟩
theorem if_ne_bl {b b' : Bool} {A B : Prop} (e : b = b') (h : B) : if (!decide (V.bl b = V.bl b')) = true then A else B := if_ne_same (by rw [e]) h
theorem if_eqv {d : PyData} {A B : Prop} (e : PyData.eqv d d = true) (h : B) : if (!PyData.eqv d d) = true then A else B := by
  rw [e]
  exact h
theorem ixN_n {n j : Nat} (h : j < n) : ixN n (j : Int) = some j := by
  unfold ixN
  rw [if_pos (by omega), if_pos (by omega)]
  rfl
end Gk
namespace K48
open PySem L2 Gk Ca
def topS (i : Nat) : Stmt := PySem.Challenge.pw_lotsoflots_k48_whole_close_counts_are_sh.main.body.getD i (.Pass ⟨0, 0, 0, 0⟩)
abbrev s_inputs_out_of : Stmt := topS 1
abbrev N_inputs_out_of : List Str := ["n", "k", "found", "i"]
theorem sc_inputs_out_of : FnScope N_inputs_out_of ["n", "k"] (defScope s_inputs_out_of) := ⟨rfl, rfl, rfl, by decide +kernel, rfl, by decide +kernel, by decide +kernel⟩
abbrev Df_inputs_out_of (K : PySem.W.Frag) (mg : Str → Option Value) (a : Addr) (fd : FuncData) : Prop := Df K mg "inputs_out_of" s_inputs_out_of ["n", "k"] a fd
abbrev s_ball_count : Stmt := topS 3
abbrev N_ball_count : List Str := ["n", "k", "j"]
theorem sc_ball_count : FnScope N_ball_count ["n", "k"] (defScope s_ball_count) := ⟨rfl, rfl, rfl, by decide +kernel, rfl, by decide +kernel, by decide +kernel⟩
abbrev Df_ball_count (K : PySem.W.Frag) (mg : Str → Option Value) (a : Addr) (fd : FuncData) : Prop := Df K mg "ball_count" s_ball_count ["n", "k"] a fd
abbrev s_count_within : Stmt := topS 4
abbrev N_count_within : List Str := ["n", "k", "r", "found", "many"]
theorem sc_count_within : FnScope N_count_within ["n", "k", "r"] (defScope s_count_within) := ⟨rfl, rfl, rfl, by decide +kernel, rfl, by decide +kernel, by decide +kernel⟩
abbrev Df_count_within (K : PySem.W.Frag) (mg : Str → Option Value) (a : Addr) (fd : FuncData) : Prop := Df K mg "count_within" s_count_within ["n", "k", "r"] a fd
abbrev s_count_close : Stmt := topS 5
abbrev N_count_close : List Str := ["n", "m", "k"]
theorem sc_count_close : FnScope N_count_close ["n", "m"] (defScope s_count_close) := ⟨rfl, rfl, rfl, by decide +kernel, rfl, by decide +kernel, by decide +kernel⟩
abbrev Df_count_close (K : PySem.W.Frag) (mg : Str → Option Value) (a : Addr) (fd : FuncData) : Prop := Df K mg "count_close" s_count_close ["n", "m"] a fd
abbrev s_count_by_steps : Stmt := topS 6
abbrev N_count_by_steps : List Str := ["n", "m", "t", "lap"]
theorem sc_count_by_steps : FnScope N_count_by_steps ["n", "m", "t"] (defScope s_count_by_steps) := ⟨rfl, rfl, rfl, by decide +kernel, rfl, by decide +kernel, by decide +kernel⟩
abbrev Df_count_by_steps (K : PySem.W.Frag) (mg : Str → Option Value) (a : Addr) (fd : FuncData) : Prop := Df K mg "count_by_steps" s_count_by_steps ["n", "m", "t"] a fd
abbrev s_most_far_off : Stmt := topS 7
abbrev N_most_far_off : List Str := ["n", "m", "t"]
theorem sc_most_far_off : FnScope N_most_far_off ["n", "m", "t"] (defScope s_most_far_off) := ⟨rfl, rfl, rfl, by decide +kernel, rfl, by decide +kernel, by decide +kernel⟩
abbrev Df_most_far_off (K : PySem.W.Frag) (mg : Str → Option Value) (a : Addr) (fd : FuncData) : Prop := Df K mg "most_far_off" s_most_far_off ["n", "m", "t"] a fd
abbrev s_choose_points : Stmt := topS 9
abbrev N_choose_points : List Str := ["a", "b", "found", "i"]
theorem sc_choose_points : FnScope N_choose_points ["a", "b"] (defScope s_choose_points) := ⟨rfl, rfl, rfl, by decide +kernel, rfl, by decide +kernel, by decide +kernel⟩
abbrev Df_choose_points (K : PySem.W.Frag) (mg : Str → Option Value) (a : Addr) (fd : FuncData) : Prop := Df K mg "choose_points" s_choose_points ["a", "b"] a fd
abbrev s_greatest_at_most : Stmt := topS 10
abbrev N_greatest_at_most : List Str := ["m", "k", "a"]
theorem sc_greatest_at_most : FnScope N_greatest_at_most ["m", "k"] (defScope s_greatest_at_most) := ⟨rfl, rfl, rfl, by decide +kernel, rfl, by decide +kernel, by decide +kernel⟩
abbrev Df_greatest_at_most (K : PySem.W.Frag) (mg : Str → Option Value) (a : Addr) (fd : FuncData) : Prop := Df K mg "greatest_at_most" s_greatest_at_most ["m", "k"] a fd
abbrev s_cascade_of : Stmt := topS 12
abbrev N_cascade_of : List Str := ["m", "k", "found", "left", "i", "a"]
theorem sc_cascade_of : FnScope N_cascade_of ["m", "k"] (defScope s_cascade_of) := ⟨rfl, rfl, rfl, by decide +kernel, rfl, by decide +kernel, by decide +kernel⟩
abbrev Df_cascade_of (K : PySem.W.Frag) (mg : Str → Option Value) (a : Addr) (fd : FuncData) : Prop := Df K mg "cascade_of" s_cascade_of ["m", "k"] a fd
abbrev s_shadow_number : Stmt := topS 13
abbrev N_shadow_number : List Str := ["m", "k", "step", "a"]
theorem sc_shadow_number : FnScope N_shadow_number ["m", "k"] (defScope s_shadow_number) := ⟨rfl, rfl, rfl, by decide +kernel, rfl, by decide +kernel, by decide +kernel⟩
abbrev Df_shadow_number (K : PySem.W.Frag) (mg : Str → Option Value) (a : Addr) (fd : FuncData) : Prop := Df K mg "shadow_number" s_shadow_number ["m", "k"] a fd
abbrev s_least_many : Stmt := topS 15
abbrev N_least_many : List Str := ["n", "k", "low", "high", "middle"]
theorem sc_least_many : FnScope N_least_many ["n", "k"] (defScope s_least_many) := ⟨rfl, rfl, rfl, by decide +kernel, rfl, by decide +kernel, by decide +kernel⟩
abbrev Df_least_many (K : PySem.W.Frag) (mg : Str → Option Value) (a : Addr) (fd : FuncData) : Prop := Df K mg "least_many" s_least_many ["n", "k"] a fd
abbrev s_lot_over : Stmt := topS 17
abbrev N_lot_over : List Str := ["n", "k", "found", "i"]
theorem sc_lot_over : FnScope N_lot_over ["n", "k"] (defScope s_lot_over) := ⟨rfl, rfl, rfl, by decide +kernel, rfl, by decide +kernel, by decide +kernel⟩
abbrev Df_lot_over (K : PySem.W.Frag) (mg : Str → Option Value) (a : Addr) (fd : FuncData) : Prop := Df K mg "lot_over" s_lot_over ["n", "k"] a fd
abbrev s_shadow_up_bound : Stmt := topS 19
abbrev N_shadow_up_bound : List Str := ["n", "m", "k"]
theorem sc_shadow_up_bound : FnScope N_shadow_up_bound ["n", "m", "k"] (defScope s_shadow_up_bound) := ⟨rfl, rfl, rfl, by decide +kernel, rfl, by decide +kernel, by decide +kernel⟩
abbrev Df_shadow_up_bound (K : PySem.W.Frag) (mg : Str → Option Value) (a : Addr) (fd : FuncData) : Prop := Df K mg "shadow_up_bound" s_shadow_up_bound ["n", "m", "k"] a fd
abbrev s__law_source : Stmt := topS 21
abbrev N__law_source : List Str := ["script", "mixed", "cell"]
theorem sc__law_source : FnScope N__law_source ["script"] (defScope s__law_source) := ⟨rfl, rfl, rfl, by decide +kernel, rfl, by decide +kernel, by decide +kernel⟩
abbrev Df__law_source (K : PySem.W.Frag) (mg : Str → Option Value) (a : Addr) (fd : FuncData) : Prop := Df K mg "_law_source" s__law_source ["script"] a fd
abbrev s__law_pick : Stmt := topS 22
abbrev N__law_pick : List Str := ["source", "many", "left", "mixed"]
theorem sc__law_pick : FnScope N__law_pick ["source", "many"] (defScope s__law_pick) := ⟨rfl, rfl, rfl, by decide +kernel, rfl, by decide +kernel, by decide +kernel⟩
abbrev Df__law_pick (K : PySem.W.Frag) (mg : Str → Option Value) (a : Addr) (fd : FuncData) : Prop := Df K mg "_law_pick" s__law_pick ["source", "many"] a fd
abbrev s__law_of : Stmt := topS 23
abbrev N__law_of : List Str := ["source", "some"]
theorem sc__law_of : FnScope N__law_of ["source", "some"] (defScope s__law_of) := ⟨rfl, rfl, rfl, by decide +kernel, rfl, by decide +kernel, by decide +kernel⟩
abbrev Df__law_of (K : PySem.W.Frag) (mg : Str → Option Value) (a : Addr) (fd : FuncData) : Prop := Df K mg "_law_of" s__law_of ["source", "some"] a fd
abbrev s__law_over : Stmt := topS 24
abbrev N__law_over : List Str := ["n", "k", "found", "i"]
theorem sc__law_over : FnScope N__law_over ["n", "k"] (defScope s__law_over) := ⟨rfl, rfl, rfl, by decide +kernel, rfl, by decide +kernel, by decide +kernel⟩
abbrev Df__law_over (K : PySem.W.Frag) (mg : Str → Option Value) (a : Addr) (fd : FuncData) : Prop := Df K mg "_law_over" s__law_over ["n", "k"] a fd
abbrev s__law_ball : Stmt := topS 25
abbrev N__law_ball : List Str := ["n", "k", "j"]
theorem sc__law_ball : FnScope N__law_ball ["n", "k"] (defScope s__law_ball) := ⟨rfl, rfl, rfl, by decide +kernel, rfl, by decide +kernel, by decide +kernel⟩
abbrev Df__law_ball (K : PySem.W.Frag) (mg : Str → Option Value) (a : Addr) (fd : FuncData) : Prop := Df K mg "_law_ball" s__law_ball ["n", "k"] a fd
abbrev s__law_within : Stmt := topS 26
abbrev N__law_within : List Str := ["n", "k", "r", "with_first"]
theorem sc__law_within : FnScope N__law_within ["n", "k", "r"] (defScope s__law_within) := ⟨rfl, rfl, rfl, by decide +kernel, rfl, by decide +kernel, by decide +kernel⟩
abbrev Df__law_within (K : PySem.W.Frag) (mg : Str → Option Value) (a : Addr) (fd : FuncData) : Prop := Df K mg "_law_within" s__law_within ["n", "k", "r"] a fd
abbrev s__law_close : Stmt := topS 27
abbrev N__law_close : List Str := ["n", "m", "k"]
theorem sc__law_close : FnScope N__law_close ["n", "m"] (defScope s__law_close) := ⟨rfl, rfl, rfl, by decide +kernel, rfl, by decide +kernel, by decide +kernel⟩
abbrev Df__law_close (K : PySem.W.Frag) (mg : Str → Option Value) (a : Addr) (fd : FuncData) : Prop := Df K mg "_law_close" s__law_close ["n", "m"] a fd
abbrev s__law_steps : Stmt := topS 28
abbrev N__law_steps : List Str := ["n", "m", "t", "turn"]
theorem sc__law_steps : FnScope N__law_steps ["n", "m", "t"] (defScope s__law_steps) := ⟨rfl, rfl, rfl, by decide +kernel, rfl, by decide +kernel, by decide +kernel⟩
abbrev Df__law_steps (K : PySem.W.Frag) (mg : Str → Option Value) (a : Addr) (fd : FuncData) : Prop := Df K mg "_law_steps" s__law_steps ["n", "m", "t"] a fd
abbrev s_law : Stmt := topS 29
abbrev N_law : List Str := ["script", "source", "lap", "n", "whole", "k", "r", "told", "near", "m", "close", "t", "far", "need", "least"]
theorem sc_law : FnScope N_law ["script"] (defScope s_law) := ⟨rfl, rfl, rfl, by decide +kernel, rfl, by decide +kernel, by decide +kernel⟩
abbrev Df_law (K : PySem.W.Frag) (mg : Str → Option Value) (a : Addr) (fd : FuncData) : Prop := Df K mg "law" s_law ["script"] a fd
structure Bl (mg : Str → Option Value) : Prop where
  abs : mg "abs" = none
  enumerate : mg "enumerate" = none
  int : mg "int" = none
  len : mg "len" = none
  max : mg "max" = none
  min : mg "min" = none
  range : mg "range" = none
  repr : mg "repr" = none
  sum : mg "sum" = none
  tuple : mg "tuple" = none
section
variable {P : Program} {w : World} {K : PySem.W.Frag} {mg : Str → Option Value} {base : Heap}
def sp_choose_points (K : PySem.W.Frag) : Sp := fun vs H Q _ => ∃ a b : Int, vs = [.int a, .int b] ∧ a.natAbs < 2 ^ 60 ∧ b < 2 ^ 20 ∧ Q (.int (cb a b)) H
abbrev Ok_choose_points (P : Program) (w : World) (K : PySem.W.Frag) (mg : Str → Option Value) (base : Heap) (a : Addr) (fd : FuncData) : Prop := FnOk P w K mg base CX0 1 a fd ["a", "b"] (sp_choose_points K)
theorem mono_choose_points {K : PySem.W.Frag} {vs : List V} {H : Hp} {Q Q' : VK} {E : XK} (h : sp_choose_points K vs H Q E) (k : ∀ v H1, Q v H1 → Q' v H1) : sp_choose_points K vs H Q' E := by
  obtain ⟨a, b, e, ha, hb, q⟩ := h
  exact ⟨a, b, e, ha, hb, k _ _ q⟩
theorem ok_choose_points {a_choose_points : Addr} {d_choose_points : FuncData} (D_choose_points : Df_choose_points K mg a_choose_points d_choose_points) (B : Bl mg) : Ok_choose_points P w K mg base a_choose_points d_choose_points := by
  refine D_choose_points.F.ok sc_choose_points (fun vs H Q E h => by (repeat obtain ⟨_, h⟩ := h); subst_vars; rfl) (fun cdv A outer s H vs Q E hr h => ?_)
  · obtain ⟨a, b, rfl, ha, hb, q⟩ := h
    refine ⟨_, (pss_cons (ps_if (PW.pt (pw_or (pt_cmpR op_lt (pv 1) pe_int (nomark _)) (pw_or1 (pt_cmpR op_gt (pv 1) (pv 0) (nomark _))))) (pss_one (ps_ret pe_int)) pss_nil)
    (pss_cons (ps_set (i := 2) sc_choose_points.nd rfl (.inl rfl) pe_int)
    (pss_cons (ps_for PassesOwn.never rfl (pi_range1 (by rfl) B.range (pa_cons (pv 1) pa_nil)) (pg_name (i := 3) sc_choose_points.nd rfl (.inl rfl))
      (pss_one (ps_set (i := 2) sc_choose_points.nd rfl (.inl rfl) (pe_op op_fdivW (pe_op op_mulG (pv 2) (pe_op op_sub (pv 0) (pv 3))) (pe_op op_add (pv 3) pe_int)))))
    (pss_one (ps_ret (pv 2)))))), ?_⟩
    refine ⟨_, rfl, _, _, rfl, rfl, _, rfl, if_dec (fun h1 => ?_) (fun h1 => ?_)⟩
    · refine iteT ?_
      unfold cb at q
      rw [if_pos (.inl h1)] at q
      exact q
    · refine ⟨_, rfl, _, rfl, _, _, rfl, rfl, _, rfl, if_dec (fun h2 => ?_) (fun h2 => ?_)⟩
      · unfold cb at q
        rw [if_pos (.inr h2)] at q
        exact q
      · refine ⟨_, rfl, _, rfl, by omega, by omega, ?_⟩
        refine for_range (lo := 0) (n := b.toNat) (fun i σ H' => ∃ v, σ = [some (.int a), some (.int b), some (.int (ch a.toNat i)), v] ∧ H' = H) ⟨none, by rw [ch_zero]; rfl, rfl⟩ (fun i σ H' hi ⟨v, e1, e2⟩ => ?_) (fun σ H' ⟨v, e1, e2⟩ => ?_)
        · subst e1 e2
          refine ⟨_, rfl, _, rfl, _, rfl, _, _, rfl, rfl, _, _, rfl, rfl, mulG_r (n := 2 ^ 61) (by omega), _, rfl, _, _, rfl, rfl, ?_⟩
          refine ⟨_, _, rfl, rfl, divG (by omega) (by omega), some (.int (0 + (i : Int))), ?_, rfl⟩
          have e := chs_nat a.toNat (i + 1)
          have e' : chs (a.toNat : Int) (i + 1) = chs (a.toNat : Int) i * ((a.toNat : Int) - i) / (i + 1) := rfl
          rw [e', chs_nat, show (a.toNat : Int) = a by omega] at e
          show [some (V.int a), some (V.int b), some (V.int ((ch a.toNat i : Int) * (a - (0 + (i : Int))) / (0 + (i : Int) + 1))), some (V.int (0 + (i : Int)))] = _
          rw [Int.zero_add, e]
        · subst e1 e2
          unfold cb at q
          rw [if_neg (by omega)] at q
          exact ⟨_, rfl, q⟩
def sp_greatest_at_most (K : PySem.W.Frag) : Sp := fun vs H Q _ => ∃ m k : Nat, vs = [.int m, .int k] ∧ 1 ≤ k ∧ k < 2 ^ 20 ∧ m < 2 ^ 58 ∧ Q (.int (top m k)) H
abbrev Ok_greatest_at_most (P : Program) (w : World) (K : PySem.W.Frag) (mg : Str → Option Value) (base : Heap) (a : Addr) (fd : FuncData) : Prop := FnOk P w K mg base CX0 2 a fd ["m", "k"] (sp_greatest_at_most K)
theorem ok_greatest_at_most {a_greatest_at_most : Addr} {d_greatest_at_most : FuncData} {a_choose_points : Addr} {d_choose_points : FuncData} (D_greatest_at_most : Df_greatest_at_most K mg a_greatest_at_most d_greatest_at_most) (D_choose_points : Df_choose_points K mg a_choose_points d_choose_points) (G_choose_points : Ok_choose_points P w K mg base a_choose_points d_choose_points) (B : Bl mg) : Ok_greatest_at_most P w K mg base a_greatest_at_most d_greatest_at_most := by
  refine D_greatest_at_most.F.ok sc_greatest_at_most (fun vs H Q E h => by (repeat obtain ⟨_, h⟩ := h); subst_vars; rfl) (fun cdv A outer s H vs Q E hr h => ?_)
  have hrchoose_points : Room 1 _ := hr.mono (by decide)
  · obtain ⟨m, k, rfl, hk, hk2, hm, q⟩ := h
    refine ⟨_, (pss_cons (ps_set (i := 2) sc_greatest_at_most.nd rfl (.inl rfl) (pe_op op_sub (pv 1) pe_int))
    (pss_cons (ps_while PassesOwn.never (pt_cmpR op_le (pe_cl D_choose_points G_choose_points hrchoose_points (by rfl) (pa_cons (pe_op op_add (pv 2) pe_int) (pa_cons (pv 1) pa_nil))) (pv 0) (nomark _))
      (pss_one (ps_set (i := 2) sc_greatest_at_most.nd rfl (.inl rfl) (pe_op op_add (pv 2) pe_int))))
    (pss_one (ps_ret (pv 2))))), ?_⟩
    refine ⟨_, rfl, _, _, rfl, rfl, ?_⟩
    have bound : ∀ A : Nat, ch A k ≤ m → A < m + k := fun A h => by
      refine Nat.lt_of_not_le fun z => ?_
      obtain ⟨j, rfl⟩ : ∃ j, k = j + 1 := ⟨k - 1, by omega⟩
      have := ch_mono (j + 1) z
      have := ch_grow m j
      omega
    refine while_by (fun σ H' => ∃ A : Nat, σ = [some (.int m), some (.int k), some (.int A)] ∧ H' = H ∧ k ≤ A + 1 ∧ ch A k ≤ m)
      (fun σ _ => match σ with | [_, _, some (.int A)] => m + k - A.toNat | _ => 0) ⟨k - 1, by rw [show ((k - 1 : Nat) : Int) = (k : Int) - 1 by omega]; rfl, rfl, by omega, by rw [ch_lt _ _ (by omega)]; omega⟩ (fun σ H' h => ?_) (fun σ H' Q1 Q2 k1 h => ?_)
    · obtain ⟨A, rfl, rfl, h1, h2⟩ := h
      have hb := bound A h2
      refine ⟨_, rfl, _, _, rfl, rfl, _, rfl, _, _, rfl, by omega, by omega, ?_⟩
      refine ⟨_, rfl, _, _, rfl, rfl, _, rfl, ?_⟩
      rw [show ((A : Int) + 1) = ((A + 1 : Nat) : Int) by omega, cb_nat]
      refine if_dec (fun h3 => ?_) (fun h3 => ?_)
      · have h3 : ch (A + 1) k ≤ m := by omega
        have hb2 := bound (A + 1) h3
        refine ⟨_, rfl, _, _, rfl, rfl, ⟨A + 1, rfl, rfl, by omega, h3⟩, ?_⟩
        show m + k - ((A : Int) + 1).toNat < m + k - (A : Int).toNat
        omega
      · refine ⟨_, rfl, ?_⟩
        have t : top m k = A := top_eq hk ⟨h1, h2, by omega⟩
        rw [t] at q
        exact q
    · obtain ⟨v, e, i, j, f1, f2, v2, e2, a, b, e3, ha, hb, v3, e4, i2, j2, e5, e6, k3, e7, h⟩ := h
      exact ⟨v, e, i, j, f1, f2, v2, e2, a, b, e3, ha, hb, v3, e4, i2, j2, e5, e6, k3, e7, k1 _ _ h⟩
def sp_cascade_of (K : PySem.W.Frag) : Sp := fun vs H Q _ => ∃ m k : Nat, vs = [.int m, .int k] ∧ 1 ≤ k ∧ k < 2 ^ 20 ∧ m < 2 ^ 58 ∧ ∀ t H', Same H H' → H t = none → H' t = some (.tup (iv (casc k m))) → Q (.ref t) H'
abbrev Ok_cascade_of (P : Program) (w : World) (K : PySem.W.Frag) (mg : Str → Option Value) (base : Heap) (a : Addr) (fd : FuncData) : Prop := FnOk P w K mg base CX0 3 a fd ["m", "k"] (sp_cascade_of K)
theorem ok_cascade_of {a_cascade_of : Addr} {d_cascade_of : FuncData} {a_choose_points : Addr} {d_choose_points : FuncData} {a_greatest_at_most : Addr} {d_greatest_at_most : FuncData} (D_cascade_of : Df_cascade_of K mg a_cascade_of d_cascade_of) (D_choose_points : Df_choose_points K mg a_choose_points d_choose_points) (G_choose_points : Ok_choose_points P w K mg base a_choose_points d_choose_points) (D_greatest_at_most : Df_greatest_at_most K mg a_greatest_at_most d_greatest_at_most) (G_greatest_at_most : Ok_greatest_at_most P w K mg base a_greatest_at_most d_greatest_at_most) (B : Bl mg) : Ok_cascade_of P w K mg base a_cascade_of d_cascade_of := by
  refine D_cascade_of.F.ok sc_cascade_of (fun vs H Q E h => by (repeat obtain ⟨_, h⟩ := h); subst_vars; rfl) (fun cdv A outer s H vs Q E hr h => ?_)
  have hrchoose_points : Room 1 _ := hr.mono (by decide)
  have hrgreatest_at_most : Room 2 _ := hr.mono (by decide)
  · obtain ⟨m, k, rfl, hk, hk2, hm, q⟩ := h
    refine ⟨_, (pss_cons (ps_par3 (i := 2) (j := 3) (l := 4) (by rfl) sc_cascade_of.nd rfl rfl rfl (by decide) (by decide) (by decide) rfl rfl rfl (pa_cons (pe_lst pa_nil) (pa_cons (pv 0) (pa_cons (pv 1) pa_nil))) (by rfl))
    (pss_cons (ps_while PassesOwn.never (pt_cmpR op_gt (pv 3) pe_int (nomark _))
      (pss_cons (ps_set (i := 5) sc_cascade_of.nd rfl (.inl rfl) (pe_cl D_greatest_at_most G_greatest_at_most hrgreatest_at_most (by rfl) (pa_cons (pv 3) (pa_cons (pv 4) pa_nil))))
      (pss_cons (ps_expr (pe_bm PySem.F.plainAttrs_list PySem.F.slot_list_append PySem.F.type_list_append mt_append (pv 2) (pa_cons (pv 5) pa_nil)))
      (pss_one (ps_par (i := 3) (j := 4) (by rfl) sc_cascade_of.nd rfl rfl (by decide) rfl rfl (pa_cons (pe_op op_sub (pv 3) (pe_cl D_choose_points G_choose_points hrchoose_points (by rfl) (pa_cons (pv 5) (pa_cons (pv 4) pa_nil)))) (pa_cons (pe_op op_sub (pv 4) pe_int) pa_nil)) (by rfl))))))
    (pss_one (ps_ret (pe_callTy call_tuple_of (by rfl) B.tuple (by decide +kernel) (pa_cons (pv 2) pa_nil)))))), ?_⟩
    refine ⟨Nat.zero_le _, fun l nl => ?_⟩
    refine ⟨_, rfl, _, rfl, _, _, _, rfl, ?_⟩
    refine while_by (fun σ H' => ∃ (done : List Nat) (m' j : Nat) (v : Option V), σ = [some (.int m), some (.int k), some (.ref l), some (.int m'), some (.int j), v] ∧ Same H H' ∧ H' l = some (.lst (iv done)) ∧
        casc k m = done ++ casc j m' ∧ done.length + j = k ∧ m' ≤ m ∧ (j = 0 → m' = 0))
      (fun σ _ => match σ with | [_, _, _, _, some (.int j), _] => j.toNat | _ => 0)
      ⟨[], m, k, none, rfl, same_new nl, upd_same, rfl, by simp, Nat.le_refl _, by omega⟩ (fun σ H' h => ?_) (fun σ H' Q1 Q2 k1 h => ?_)
    · obtain ⟨done, m', j, v, rfl, s1, hl, ec, el, hm', hj⟩ := h
      refine ⟨_, rfl, _, _, rfl, rfl, _, rfl, if_dec (fun h3 => ?_) (fun h3 => ?_)⟩
      · have m0 : m' ≠ 0 := by omega
        have j0 : j ≠ 0 := fun z => m0 (hj z)
        obtain ⟨i, rfl⟩ : ∃ i, j = i + 1 := ⟨j - 1, by omega⟩
        have t := top_spec m' (show 1 ≤ i + 1 by omega)
        have tl := @top_lt m' (i + 1) (by omega)
        refine ⟨_, rfl, _, rfl, m', i + 1, rfl, by omega, by omega, by omega, ?_⟩
        refine ⟨_, rfl, .inl ⟨rfl, _, SqL.of hl⟩, _, rfl, l, _, _, rfl, rfl, hl, by rw [iv_len]; exact Nat.lt_of_le_of_lt (show done.length ≤ 2 ^ 20 by omega) (by decide), ?_⟩
        refine ⟨_, rfl, _, rfl, _, rfl, _, _, rfl, by omega, by omega, _, _, rfl, rfl, _, rfl, _, _, rfl, rfl, _, _, rfl, ?_⟩
        rw [cb_nat]
        refine ⟨⟨done ++ [top m' (i + 1)], m' - ch (top m' (i + 1)) (i + 1), i, some (.int (top m' (i + 1))), ?_, ?_, ?_, ?_, ?_, by omega, ?_⟩, ?_⟩
        · have e1 : ((m' - ch (top m' (i + 1)) (i + 1) : Nat) : Int) = (m' : Int) - (ch (top m' (i + 1)) (i + 1) : Int) := by have := t.le; omega
          have e2 : ((i + 1 : Nat) : Int) - 1 = (i : Int) := by omega
          rw [e1]
          show [_, _, _, _, some (V.int (((i + 1 : Nat) : Int) - 1)), _] = _
          rw [e2]
        · exact same_mut s1 nl
        · rw [upd_same]; unfold iv; rw [List.map_append]; rfl
        · rw [ec, casc_succ m0, List.append_assoc]; rfl
        · simp; omega
        · intro z
          subst z
          exact rest_zero
        · show (((i + 1 : Nat) : Int) - 1).toNat < ((i + 1 : Nat) : Int).toNat
          omega
      · have m0 : m' = 0 := by omega
        subst m0
        rw [casc_none, List.append_nil] at ec
        refine ⟨_, rfl, l, _, rfl, .inl ⟨SqL.of hl, fun t nt => ?_⟩⟩
        rw [← ec]
        refine q t _ ?_ ?_ ?_
        · exact fun b o e => same_new nt b o (s1 b o e)
        · exact same_back s1 nt
        · rw [upd_same, ec]
    · obtain ⟨v, e, i, j, f1, f2, k3, e7, h⟩ := h
      exact ⟨v, e, i, j, f1, f2, k3, e7, k1 _ _ h⟩
def sp_shadow_number (K : PySem.W.Frag) : Sp := fun vs H Q _ => ∃ m k : Nat, vs = [.int m, .int k] ∧ 1 ≤ k ∧ k < 2 ^ 20 ∧ m < 2 ^ 58 ∧ ∀ H', Same H H' → Q (.int (sh k m)) H'
abbrev Ok_shadow_number (P : Program) (w : World) (K : PySem.W.Frag) (mg : Str → Option Value) (base : Heap) (a : Addr) (fd : FuncData) : Prop := FnOk P w K mg base CX0 4 a fd ["m", "k"] (sp_shadow_number K)
theorem ok_shadow_number {a_shadow_number : Addr} {d_shadow_number : FuncData} {a_choose_points : Addr} {d_choose_points : FuncData} {a_cascade_of : Addr} {d_cascade_of : FuncData} (D_shadow_number : Df_shadow_number K mg a_shadow_number d_shadow_number) (D_choose_points : Df_choose_points K mg a_choose_points d_choose_points) (G_choose_points : Ok_choose_points P w K mg base a_choose_points d_choose_points) (D_cascade_of : Df_cascade_of K mg a_cascade_of d_cascade_of) (G_cascade_of : Ok_cascade_of P w K mg base a_cascade_of d_cascade_of) (B : Bl mg) : Ok_shadow_number P w K mg base a_shadow_number d_shadow_number := by
  refine D_shadow_number.F.ok sc_shadow_number (fun vs H Q E h => by (repeat obtain ⟨_, h⟩ := h); subst_vars; rfl) (fun cdv A outer s H vs Q E hr h => ?_)
  have hrchoose_points : Room 1 _ := hr.mono (by decide)
  have hrcascade_of : Room 3 _ := hr.mono (by decide)
  · obtain ⟨m, k, rfl, hk, hk2, hm, q⟩ := h
    refine ⟨_, (pss_cons (ps_if (pt_cmpR op_eq (pv 0) pe_int (nomark _)) (pss_one (ps_ret pe_int)) pss_nil)
    (pss_one (ps_ret (pe_callB (cr_sum rfl) (by rfl) B.sum (by decide +kernel) (pa_cons (pe_lc (own := [("step", 2), ("a", 3)]) (g := (gTup K 2 (gCons (gName 2) (gCons (gName 3) gNil)))) (tt := tYes) rfl sc_shadow_number.nd (pi_enumT (by rfl) B.enumerate (pa_cons (pe_cl D_cascade_of G_cascade_of hrcascade_of (by rfl) (pa_cons (pv 0) (pa_cons (pv 1) pa_nil))) pa_nil)) (blkOk_by (N := N_shadow_number) (sc := defScope s_shadow_number) (by decide +kernel)) (fun _ _ _ _ _ => (pg_tup rfl (pgs_cons (pg_name (i := 2) sc_shadow_number.nd rfl (.inl rfl)) (pgs_cons (pg_name (i := 3) sc_shadow_number.nd rfl (.inl rfl)) pgs_nil)))) (fun _ _ _ _ _ => pts_nil) (fun _ _ _ _ _ => (pe_cl D_choose_points G_choose_points hrchoose_points (by rfl) (pa_cons (pv 3) (pa_cons (pe_op op_sub (pe_op op_sub (pv 1) (pv 2)) pe_int) pa_nil))))) pa_nil))))), ?_⟩
    refine ⟨_, rfl, rfl, _, rfl, if_dec (fun h1 => ?_) (fun h1 => ?_)⟩
    · have m0 : m = 0 := by have := V.int.inj h1; omega
      subst m0
      rw [sh_zero] at q
      exact q H (same_refl H)
    · refine ⟨_, rfl, _, rfl, m, k, rfl, hk, hk2, hm, fun t H1 s1 nt ht => ?_⟩
      refine ⟨t, _, rfl, SqT.of ht, fun D nD => ?_⟩
      refine lc_it (walk_enumT (K := K) (a := t) (xs := iv (casc k m))) (fun i H' => Same H1 H' ∧ H' D = some (.lst (((trm k m).take i).map V.int))) ⟨same_new nD, upd_same⟩
        (fun i H' _ ⟨s2, _⟩ => SqT.of (s2 _ _ ht)) (fun i x H' H2 hi ⟨s2, hD⟩ hy => ?_) (fun H' ⟨s2, hD⟩ => ?_)
      · obtain ⟨T, x1, x2, rfl, nT, rfl, g1, g2⟩ := hy
        cases g1
        rw [iv_len] at hi
        obtain ⟨a, ha⟩ : ∃ a, (casc k m)[i]? = some a := ⟨(casc k m)[i], by simp [hi]⟩
        have e2 : x2 = .int a := by
          have g2 : (iv (casc k m))[i]? = some x2 := g2
          unfold iv at g2
          rw [List.getElem?_map, ha] at g2
          exact (Option.some.inj g2).symm
        subst e2
        have hle := casc_len k m
        have hmem := casc_mem k m a (List.mem_of_getElem? ha)
        have nTD : D ≠ T := ne_of_none hD nT
        refine ⟨T, [.int i, .int a], rfl, .inl (.inl upd_same), rfl, _, _, rfl, _, _, rfl, rfl, rfl, ?_⟩
        refine lc_yes ?_
        refine ⟨_, rfl, _, rfl, _, rfl, _, _, rfl, rfl, _, _, rfl, rfl, _, _, rfl, by omega, by omega, _, by rw [upd_ne nTD]; exact hD, ?_, ?_, ?_⟩
        · rw [List.length_map, List.length_take]
          have : min i (trm k m).length ≤ 2 ^ 20 := by omega
          exact Nat.lt_of_le_of_lt this (by decide)
        · exact same_mut (fun b o e => same_new nT b o (s2 b o e)) nD
        · rw [upd_same, List.take_add_one, trm_get k m i a ha, List.map_append]
          rfl
      · rw [iv_len, ← trm_len, List.take_length] at hD
        refine ⟨D, trm k m, rfl, SqL.of hD, ?_⟩
        rw [trm_sum]
        exact q H' fun b o e => s2 b o (s1 b o e)
def sp_shadow_up_bound (K : PySem.W.Frag) : Sp := fun vs H Q _ => ∃ n m k : Nat, vs = [.int n, .int m, .int k] ∧ k < n ∧ n < 2 ^ 20 ∧ m < 2 ^ 58 ∧ ∀ H', Same H H' → Q (.int (sh (n - k) m)) H'
abbrev Ok_shadow_up_bound (P : Program) (w : World) (K : PySem.W.Frag) (mg : Str → Option Value) (base : Heap) (a : Addr) (fd : FuncData) : Prop := FnOk P w K mg base CX0 5 a fd ["n", "m", "k"] (sp_shadow_up_bound K)
theorem ok_shadow_up_bound {a_shadow_up_bound : Addr} {d_shadow_up_bound : FuncData} {a_shadow_number : Addr} {d_shadow_number : FuncData} (D_shadow_up_bound : Df_shadow_up_bound K mg a_shadow_up_bound d_shadow_up_bound) (D_shadow_number : Df_shadow_number K mg a_shadow_number d_shadow_number) (G_shadow_number : Ok_shadow_number P w K mg base a_shadow_number d_shadow_number) (B : Bl mg) : Ok_shadow_up_bound P w K mg base a_shadow_up_bound d_shadow_up_bound := by
  refine D_shadow_up_bound.F.ok sc_shadow_up_bound (fun vs H Q E h => by (repeat obtain ⟨_, h⟩ := h); subst_vars; rfl) (fun cdv A outer s H vs Q E hr h => ?_)
  have hrshadow_number : Room 4 _ := hr.mono (by decide)
  · obtain ⟨n, m, k, rfl, hk, hn, hm, q⟩ := h
    refine ⟨_, (pss_one (ps_ret (pe_cl D_shadow_number G_shadow_number hrshadow_number (by rfl) (pa_cons (pv 1) (pa_cons (pe_op op_sub (pv 0) (pv 2)) pa_nil))))), ?_⟩
    refine ⟨_, rfl, _, rfl, _, rfl, _, _, rfl, rfl, m, n - k, ?_, by omega, by omega, hm, q⟩
    show [V.int m, V.int ((n : Int) - (k : Int))] = _
    rw [show (n : Int) - (k : Int) = ((n - k : Nat) : Int) by omega]
def sp_lot_over (K : PySem.W.Frag) : Sp := fun vs H Q _ => ∃ a b : Nat, vs = [.int a, .int b] ∧ a < 2 ^ 40 ∧ b < 2 ^ 20 ∧ Q (.int (ch a b)) H
abbrev Ok_lot_over (P : Program) (w : World) (K : PySem.W.Frag) (mg : Str → Option Value) (base : Heap) (a : Addr) (fd : FuncData) : Prop := FnOk P w K mg base CX0 1 a fd ["n", "k"] (sp_lot_over K)
theorem ok_lot_over {a_lot_over : Addr} {d_lot_over : FuncData} (D_lot_over : Df_lot_over K mg a_lot_over d_lot_over) (B : Bl mg) : Ok_lot_over P w K mg base a_lot_over d_lot_over := by
  refine D_lot_over.F.ok sc_lot_over (fun vs H Q E h => by (repeat obtain ⟨_, h⟩ := h); subst_vars; rfl) (fun cdv A outer s H vs Q E hr h => ?_)
  · obtain ⟨a, b, rfl, ha, hb, q⟩ := h
    refine ⟨_, (pss_cons (ps_if (PW.pt (pw_or (pt_cmpR op_lt (pv 1) pe_int (nomark _)) (pw_or1 (pt_cmpR op_gt (pv 1) (pv 0) (nomark _))))) (pss_one (ps_ret pe_int)) pss_nil)
    (pss_cons (ps_set (i := 2) sc_lot_over.nd rfl (.inl rfl) pe_int)
    (pss_cons (ps_for PassesOwn.never rfl (pi_range1 (by rfl) B.range (pa_cons (pv 1) pa_nil)) (pg_name (i := 3) sc_lot_over.nd rfl (.inl rfl))
      (pss_one (ps_set (i := 2) sc_lot_over.nd rfl (.inl rfl) (pe_op op_fdivW (pe_op op_mulG (pv 2) (pe_op op_sub (pv 0) (pv 3))) (pe_op op_add (pv 3) pe_int)))))
    (pss_one (ps_ret (pv 2)))))), ?_⟩
    refine ⟨_, rfl, _, _, rfl, rfl, _, rfl, if_dec (fun h1 => by omega) (fun h1 => ?_)⟩
    refine ⟨_, rfl, _, rfl, _, _, rfl, rfl, _, rfl, if_dec (fun h2 => ?_) (fun h2 => ?_)⟩
    · rw [ch_lt a b (by omega)] at q
      exact q
    · refine ⟨_, rfl, _, rfl, by omega, by omega, ?_⟩
      refine for_range (lo := 0) (n := (b : Int).toNat) (fun i σ H' => ∃ v, σ = [some (.int a), some (.int b), some (.int (ch a i)), v] ∧ H' = H) ⟨none, by rw [ch_zero]; rfl, rfl⟩ (fun i σ H' hi ⟨v, e1, e2⟩ => ?_) (fun σ H' ⟨v, e1, e2⟩ => ?_)
      · subst e1 e2
        refine ⟨_, rfl, _, rfl, _, rfl, _, _, rfl, rfl, _, _, rfl, rfl, mulG_r (n := 2 ^ 61) (by omega), _, rfl, _, _, rfl, rfl, ?_⟩
        refine ⟨_, _, rfl, rfl, divG (by omega) (by omega), some (.int (0 + (i : Int))), ?_, rfl⟩
        have e := chs_nat a (i + 1)
        have e' : chs (a : Int) (i + 1) = chs (a : Int) i * ((a : Int) - i) / (i + 1) := rfl
        rw [e', chs_nat] at e
        show [some (V.int a), some (V.int b), some (V.int ((ch a i : Int) * (a - (0 + (i : Int))) / (0 + (i : Int) + 1))), some (V.int (0 + (i : Int)))] = _
        rw [Int.zero_add, e]
      · subst e1 e2
        exact ⟨_, rfl, q⟩
def sp_inputs_out_of (K : PySem.W.Frag) : Sp := fun vs H Q _ => ∃ a b : Nat, vs = [.int a, .int b] ∧ a < 2 ^ 40 ∧ b < 2 ^ 20 ∧ Q (.int (ch a b)) H
abbrev Ok_inputs_out_of (P : Program) (w : World) (K : PySem.W.Frag) (mg : Str → Option Value) (base : Heap) (a : Addr) (fd : FuncData) : Prop := FnOk P w K mg base CX0 1 a fd ["n", "k"] (sp_inputs_out_of K)
theorem ok_inputs_out_of {a_inputs_out_of : Addr} {d_inputs_out_of : FuncData} (D_inputs_out_of : Df_inputs_out_of K mg a_inputs_out_of d_inputs_out_of) (B : Bl mg) : Ok_inputs_out_of P w K mg base a_inputs_out_of d_inputs_out_of := by
  refine D_inputs_out_of.F.ok sc_inputs_out_of (fun vs H Q E h => by (repeat obtain ⟨_, h⟩ := h); subst_vars; rfl) (fun cdv A outer s H vs Q E hr h => ?_)
  · obtain ⟨a, b, rfl, ha, hb, q⟩ := h
    refine ⟨_, (pss_cons (ps_set (i := 2) sc_inputs_out_of.nd rfl (.inl rfl) (pe_ifExp (pt_chain op_le op_le pe_int (pv 1) (pv 0)) pe_int pe_int))
    (pss_cons (ps_for PassesOwn.never rfl (pi_range1 (by rfl) B.range (pa_cons (pe_ifExp (pt_cmpR op_eq (pv 2) pe_int (nomark _)) (pv 1) pe_int) pa_nil)) (pg_name (i := 3) sc_inputs_out_of.nd rfl (.inl rfl))
      (pss_one (ps_set (i := 2) sc_inputs_out_of.nd rfl (.inl rfl) (pe_op op_fdivW (pe_op op_mulG (pv 2) (pe_op op_sub (pv 0) (pv 3))) (pe_op op_add (pv 3) pe_int)))))
    (pss_one (ps_ret (pv 2))))), ?_⟩
    refine ⟨_, rfl, _, _, rfl, rfl, _, rfl, if_dec (fun h1 => ?_) (fun h1 => by omega)⟩
    refine ⟨_, rfl, _, _, rfl, rfl, _, rfl, if_dec (fun h2 => ?_) (fun h2 => ?_)⟩
    · refine ⟨_, rfl, rfl, _, rfl, if_dec (fun h3 => ?_) (fun h3 => absurd rfl h3)⟩
      refine ⟨_, rfl, _, rfl, by omega, by omega, ?_⟩
      refine for_range (lo := 0) (n := (b : Int).toNat) (fun i σ H' => ∃ v, σ = [some (.int a), some (.int b), some (.int (ch a i)), v] ∧ H' = H) ⟨none, by rw [ch_zero]; rfl, rfl⟩ (fun i σ H' hi ⟨v, e1, e2⟩ => ?_) (fun σ H' ⟨v, e1, e2⟩ => ?_)
      · subst e1 e2
        refine ⟨_, rfl, _, rfl, _, rfl, _, _, rfl, rfl, _, _, rfl, rfl, mulG_r (n := 2 ^ 61) (by omega), _, rfl, _, _, rfl, rfl, ?_⟩
        refine ⟨_, _, rfl, rfl, divG (by omega) (by omega), some (.int (0 + (i : Int))), ?_, rfl⟩
        have e := chs_nat a (i + 1)
        have e' : chs (a : Int) (i + 1) = chs (a : Int) i * ((a : Int) - i) / (i + 1) := rfl
        rw [e', chs_nat] at e
        show [some (V.int a), some (V.int b), some (V.int ((ch a i : Int) * (a - (0 + (i : Int))) / (0 + (i : Int) + 1))), some (V.int (0 + (i : Int)))] = _
        rw [Int.zero_add, e]
      · subst e1 e2
        exact ⟨_, rfl, q⟩
    · rw [ch_lt a b (by omega)] at q
      refine ⟨_, rfl, rfl, _, rfl, if_dec (fun h3 => absurd h3 (by intro z; cases z)) (fun h3 => ?_)⟩
      refine ⟨_, rfl, by decide, by decide, ?_⟩
      refine for_range (lo := 0) (n := (0 : Int).toNat) (fun i σ H' => σ = [some (.int a), some (.int b), some (.int 0), none] ∧ H' = H) ⟨rfl, rfl⟩ (fun i σ H' hi _ => absurd hi (Nat.not_lt_zero _)) (fun σ H' ⟨e1, e2⟩ => ?_)
      subst e1 e2
      exact ⟨_, rfl, q⟩
def sp__law_over (K : PySem.W.Frag) : Sp := fun vs H Q _ => ∃ a b : Int, vs = [.int a, .int b] ∧ a.natAbs < 2 ^ 40 ∧ b.natAbs < 2 ^ 20 ∧ Q (.int (cb a b)) H
abbrev Ok__law_over (P : Program) (w : World) (K : PySem.W.Frag) (mg : Str → Option Value) (base : Heap) (a : Addr) (fd : FuncData) : Prop := FnOk P w K mg base CX0 1 a fd ["n", "k"] (sp__law_over K)
theorem ok__law_over {a__law_over : Addr} {d__law_over : FuncData} (D__law_over : Df__law_over K mg a__law_over d__law_over) (B : Bl mg) : Ok__law_over P w K mg base a__law_over d__law_over := by
  refine D__law_over.F.ok sc__law_over (fun vs H Q E h => by (repeat obtain ⟨_, h⟩ := h); subst_vars; rfl) (fun cdv A outer s H vs Q E hr h => ?_)
  · obtain ⟨a, b, rfl, ha, hb, q⟩ := h
    refine ⟨_, (pss_cons (ps_set (i := 2) sc__law_over.nd rfl (.inl rfl) pe_int)
    (pss_cons (ps_for PassesOwn.never rfl (pi_range1 (by rfl) B.range (pa_cons (pv 1) pa_nil)) (pg_name (i := 3) sc__law_over.nd rfl (.inl rfl))
      (pss_one (ps_set (i := 2) sc__law_over.nd rfl (.inl rfl) (pe_op op_fdivW (pe_op op_mulG (pv 2) (pe_op op_sub (pv 0) (pv 3))) (pe_op op_add (pv 3) pe_int)))))
    (pss_one (ps_ret (pe_ifExp (pt_chain op_le op_le pe_int (pv 1) (pv 0)) (pv 2) pe_int))))), ?_⟩
    refine ⟨_, rfl, _, rfl, by omega, by omega, ?_⟩
    refine for_range (lo := 0) (n := b.toNat) (fun i σ H' => ∃ v, σ = [some (.int a), some (.int b), some (.int (chs a i)), v] ∧ H' = H) ⟨none, rfl, rfl⟩ (fun i σ H' hi ⟨v, e1, e2⟩ => ?_) (fun σ H' ⟨v, e1, e2⟩ => ?_)
    · subst e1 e2
      refine ⟨_, rfl, _, rfl, _, rfl, _, _, rfl, rfl, _, _, rfl, rfl, mulG_r (n := 2 ^ 61) (by omega), _, rfl, _, _, rfl, rfl, ?_⟩
      refine ⟨_, _, rfl, rfl, divG (by omega) (by omega), some (.int (0 + (i : Int))), ?_, rfl⟩
      have e' : chs a (i + 1) = chs a i * (a - i) / (i + 1) := rfl
      rw [e']
      show [some (V.int a), some (V.int b), some (V.int (chs a i * (a - (0 + (i : Int))) / (0 + (i : Int) + 1))), some (V.int (0 + (i : Int)))] = _
      rw [Int.zero_add]
    · subst e1 e2
      unfold cb at q
      refine ⟨_, rfl, _, _, rfl, rfl, _, rfl, if_dec (fun h1 => ?_) (fun h1 => ?_)⟩
      · refine ⟨_, rfl, _, _, rfl, rfl, _, rfl, if_dec (fun h2 => ?_) (fun h2 => ?_)⟩
        · rw [if_neg (by omega)] at q
          obtain ⟨a, rfl⟩ := Int.eq_ofNat_of_zero_le (show 0 ≤ a by omega)
          refine ⟨_, rfl, ?_⟩
          rw [chs_nat a b.toNat]
          exact q
        · rw [if_pos (by omega)] at q
          exact q
      · rw [if_pos (by omega)] at q
        exact ⟨_, rfl, iteF q⟩
end
end K48
namespace K48
open PySem L2 Gk Ca
/-- the numbers that a ball adds -/
def chL (n i : Nat) : List Int := (List.range i).map fun j => (ch n j : Int)
theorem chL_succ (n i : Nat) : chL n (i + 1) = chL n i ++ [(ch n i : Int)] := by unfold chL; rw [List.range_succ, List.map_append]; rfl
theorem chL_len (n i : Nat) : (chL n i).length = i := by unfold chL; rw [List.length_map, List.length_range]
theorem chL_sum (n : Nat) : ∀ i, (chL n i).sum = (bs n i : Int)
  | 0 => rfl
  | i + 1 => by rw [chL_succ, List.sum_append, chL_sum n i, bs_succ]; simp
theorem pow_b {n : Nat} (h : n ≤ 40) : 2 ^ n ≤ 2 ^ 40 := Nat.pow_le_pow_right (by decide) h
theorem bs_one (n : Nat) : bs n 1 = 1 := by show 0 + ch n 0 = 1; rw [ch_zero]
section
variable {P : Program} {w : World} {K : PySem.W.Frag} {mg : Str → Option Value} {base : Heap}
def sp_ball_count (K : PySem.W.Frag) : Sp := fun vs H Q _ => ∃ n k : Nat, vs = [.int n, .int k] ∧ n ≤ 40 ∧ k ≤ 100 ∧ ∀ H', Same H H' → Q (.int (bs n (k + 1))) H'
abbrev Ok_ball_count (P : Program) (w : World) (K : PySem.W.Frag) (mg : Str → Option Value) (base : Heap) (a : Addr) (fd : FuncData) : Prop := FnOk P w K mg base CX0 2 a fd ["n", "k"] (sp_ball_count K)
theorem ok_ball_count {a_ball_count : Addr} {d_ball_count : FuncData} {a_inputs_out_of : Addr} {d_inputs_out_of : FuncData} (D_ball_count : Df_ball_count K mg a_ball_count d_ball_count) (D_inputs_out_of : Df_inputs_out_of K mg a_inputs_out_of d_inputs_out_of) (G_inputs_out_of : Ok_inputs_out_of P w K mg base a_inputs_out_of d_inputs_out_of) (B : Bl mg) : Ok_ball_count P w K mg base a_ball_count d_ball_count := by
  refine D_ball_count.F.ok sc_ball_count (fun vs H Q E h => by (repeat obtain ⟨_, h⟩ := h); subst_vars; rfl) (fun cdv A outer s H vs Q E hr h => ?_)
  have hrinputs_out_of : Room 1 _ := hr.mono (by decide)
  · obtain ⟨n, k, rfl, hn, hk, q⟩ := h
    refine ⟨_, (pss_one (ps_ret (pe_callB (cr_sum rfl) (by rfl) B.sum (by decide +kernel) (pa_cons (pe_lc (own := [("j", 2)]) (g := (gName 2)) (tt := tYes) rfl sc_ball_count.nd (pi_range1 (by rfl) B.range (pa_cons (pe_op op_add (pv 1) pe_int) pa_nil)) (blkOk_by (N := N_ball_count) (sc := defScope s_ball_count) (by decide +kernel)) (fun _ _ _ _ _ => (pg_name (i := 2) sc_ball_count.nd rfl (.inl rfl))) (fun _ _ _ _ _ => pts_nil) (fun _ _ _ _ _ => (pe_cl D_inputs_out_of G_inputs_out_of hrinputs_out_of (by rfl) (pa_cons (pv 0) (pa_cons (pv 2) pa_nil))))) pa_nil)))), ?_⟩
    refine ⟨_, rfl, _, _, rfl, rfl, _, rfl, by omega, by omega, fun D nD => ?_⟩
    have en : ((k : Int) + 1).toNat = k + 1 := by omega
    refine lc_it (walk_range (lo := 0) (n := ((k : Int) + 1).toNat)) (fun i H' => Same H H' ∧ H' D = some (.lst ((chL n i).map V.int))) ⟨same_new nD, upd_same⟩
      (fun i H' _ _ => trivial) (fun i x H' H2 hi ⟨s2, hD⟩ ⟨e3, hx⟩ => ?_) (fun H' ⟨s2, hD⟩ => ?_)
    · subst e3 hx
      refine ⟨rfl, ?_⟩
      refine lc_yes ?_
      refine ⟨_, rfl, _, rfl, n, i, ?_, by omega, by omega, _, hD, ?_, same_mut s2 nD, ?_⟩
      · show [V.int (n : Int), V.int (0 + (i : Int))] = _
        rw [Int.zero_add]
      · rw [List.length_map, chL_len]
        exact Nat.lt_of_le_of_lt (show i ≤ 200 by omega) (by decide)
      · rw [upd_same, chL_succ, List.map_append]; rfl
    · rw [en] at hD
      refine ⟨D, chL n (k + 1), rfl, SqL.of hD, ?_⟩
      rw [chL_sum]
      exact q H' s2
def sp_count_within (K : PySem.W.Frag) : Sp := fun vs H Q _ => ∃ n k r : Nat, vs = [.int n, .int k, .int r] ∧ n ≤ 40 ∧ k ≤ 100 ∧ (r = 0 ∨ (k ≤ n ∧ r ≤ ch n k)) ∧ Q (.int (sh (n - k) r)) H
abbrev Ok_count_within (P : Program) (w : World) (K : PySem.W.Frag) (mg : Str → Option Value) (base : Heap) (a : Addr) (fd : FuncData) : Prop := FnOk P w K mg base CX0 2 a fd ["n", "k", "r"] (sp_count_within K)
theorem ok_count_within {a_count_within : Addr} {d_count_within : FuncData} {a_inputs_out_of : Addr} {d_inputs_out_of : FuncData} (D_count_within : Df_count_within K mg a_count_within d_count_within) (D_inputs_out_of : Df_inputs_out_of K mg a_inputs_out_of d_inputs_out_of) (G_inputs_out_of : Ok_inputs_out_of P w K mg base a_inputs_out_of d_inputs_out_of) (B : Bl mg) : Ok_count_within P w K mg base a_count_within d_count_within := by
  refine D_count_within.F.ok sc_count_within (fun vs H Q E h => by (repeat obtain ⟨_, h⟩ := h); subst_vars; rfl) (fun cdv A outer s H vs Q E hr h => ?_)
  have hrinputs_out_of : Room 1 _ := hr.mono (by decide)
  · obtain ⟨n, k, r, rfl, hn, hk, hr0, q⟩ := h
    refine ⟨_, (pss_cons (ps_set (i := 3) sc_count_within.nd rfl (.inl rfl) pe_int)
    (pss_cons (ps_while PassesOwn.never (PW.pt (pw_and (pt_cmpR op_gt (pv 2) pe_int (nomark _)) (pw_and1 (pt_cmpR op_gt (pv 1) pe_int (nomark _)))))
      (pss_cons (ps_set (i := 4) sc_count_within.nd rfl (.inl rfl) (pe_cl D_inputs_out_of G_inputs_out_of hrinputs_out_of (by rfl) (pa_cons (pe_op op_sub (pv 0) pe_int) (pa_cons (pe_op op_sub (pv 1) pe_int) pa_nil))))
      (pss_one (ps_if (pt_cmpR op_le (pv 2) (pv 4) (nomark _)) (pss_one (ps_par (i := 0) (j := 1) (by rfl) sc_count_within.nd rfl rfl (by decide) rfl rfl (pa_cons (pe_op op_sub (pv 0) pe_int) (pa_cons (pe_op op_sub (pv 1) pe_int) pa_nil)) (by rfl))) (pss_cons (ps_set (i := 3) sc_count_within.nd rfl (.inl rfl) (pe_op op_add (pv 3) (pe_cl D_inputs_out_of G_inputs_out_of hrinputs_out_of (by rfl) (pa_cons (pe_op op_sub (pv 0) pe_int) (pa_cons (pv 1) pa_nil)))))
        (pss_one (ps_par (i := 0) (j := 2) (by rfl) sc_count_within.nd rfl rfl (by decide) rfl rfl (pa_cons (pe_op op_sub (pv 0) pe_int) (pa_cons (pe_op op_sub (pv 2) (pv 4)) pa_nil)) (by rfl))))))))
    (pss_one (ps_ret (pe_op op_add (pv 3) (pe_ifExp (pt_cmpR op_gt (pv 2) pe_int (nomark _)) (pv 0) pe_int)))))), ?_⟩
    refine while_go (fun σ H' => ∃ (n' k' r' f : Nat) (v4 : Option V), σ = [some (.int n'), some (.int k'), some (.int r'), some (.int f), v4] ∧ H' = H ∧ n' ≤ 40 ∧ k' ≤ 100 ∧ (r' = 0 ∨ (k' ≤ n' ∧ r' ≤ ch n' k')) ∧ f + sh (n' - k') r' = sh (n - k) r)
      (fun σ _ => match σ with | [some (.int n), _, _, _, _] => n.toNat | _ => 0) (fun σ H' => ∃ (n' k' r' f : Nat) (v4 : Option V), σ = [some (.int n'), some (.int k'), some (.int r'), some (.int f), v4] ∧ H' = H ∧ (r' = 0 ∨ (k' = 0 ∧ r' ≤ ch n' 0)) ∧ f + sh (n' - k') r' = sh (n - k) r)
      ⟨n, k, r, 0, none, rfl, rfl, hn, hk, hr0, by omega⟩ (fun σ H' h => ?_) (fun σ H' h => ?_) (fun σ H' Q1 Q2 k1 h => ?_)
    · obtain ⟨n', k', r', f, v4, rfl, rfl, hn', hk', hr', e⟩ := h
      refine ⟨_, rfl, _, _, rfl, rfl, _, rfl, if_dec (fun h1 => ?_) (fun h1 => ⟨n', k', r', f, v4, rfl, rfl, .inl (by omega), e⟩)⟩
      have r0 : r' ≠ 0 := by omega
      obtain ⟨kn, hc⟩ := hr'.resolve_left r0
      refine ⟨_, rfl, _, _, rfl, rfl, _, rfl, if_dec (fun h2 => ?_) (fun h2 => ⟨n', k', r', f, v4, rfl, rfl, .inr ⟨by omega, by rw [show (0 : Nat) = k' by omega]; exact hc⟩, e⟩)⟩
      obtain ⟨a, rfl⟩ : ∃ a, n' = a + 1 := ⟨n' - 1, by omega⟩
      obtain ⟨b, rfl⟩ : ∃ b, k' = b + 1 := ⟨k' - 1, by omega⟩
      have pa : ((a + 1 : Nat) : Int) - 1 = (a : Int) := by omega
      have pb : ((b + 1 : Nat) : Int) - 1 = (b : Int) := by omega
      refine ⟨_, rfl, _, _, rfl, rfl, _, rfl, _, _, rfl, rfl, a, b, ?_, by omega, by omega, ?_⟩
      · show [V.int (((a + 1 : Nat) : Int) - 1), V.int (((b + 1 : Nat) : Int) - 1)] = _
        rw [pa, pb]
      refine gn_go (nx_go ?_)
      refine ⟨_, rfl, _, rfl, _, _, rfl, rfl, _, rfl, if_dec (fun h3 => ?_) (fun h3 => ?_)⟩
      · refine ⟨_, rfl, _, _, rfl, rfl, _, rfl, _, _, rfl, rfl, _, _, rfl, ?_⟩
        refine ⟨⟨a, b, r', f, some (.int (ch a b)), ?_, rfl, by omega, by omega, .inr ⟨by omega, by omega⟩, ?_⟩, ?_⟩
        · rw [← pa, ← pb]; rfl
        · rw [show a - b = a + 1 - (b + 1) by omega]; exact e
        · show (((a + 1 : Nat) : Int) - 1).toNat < ((a + 1 : Nat) : Int).toNat
          omega
      · have w := wi_else (n := a) (k := b + 1) (r := r') (by omega) hc (by rw [Nat.add_sub_cancel]; omega)
        rw [Nat.add_sub_cancel] at w
        obtain ⟨w1, w2, w3⟩ := w
        refine ⟨_, rfl, _, rfl, _, _, rfl, rfl, _, rfl, a, b + 1, ?_, by omega, by omega, _, _, rfl, rfl, ?_⟩
        · show [V.int (((a + 1 : Nat) : Int) - 1), V.int ((b + 1 : Nat) : Int)] = _
          rw [pa]
        refine gn_go (nx_go ?_)
        refine ⟨_, rfl, _, _, rfl, rfl, _, rfl, _, rfl, _, _, rfl, rfl, _, _, rfl, ?_⟩
        refine ⟨⟨a, b + 1, r' - ch a b, f + ch a (b + 1), some (.int (ch a b)), ?_, rfl, by omega, by omega, .inr ⟨w1, w2⟩, by omega⟩, ?_⟩
        · rw [show ((r' - ch a b : Nat) : Int) = (r' : Int) - (ch a b : Int) by omega, ← pa]; rfl
        show (((a + 1 : Nat) : Int) - 1).toNat < ((a + 1 : Nat) : Int).toNat
        omega
    · obtain ⟨n', k', r', f, v4, rfl, rfl, hr', e⟩ := h
      refine ⟨_, rfl, _, rfl, _, _, rfl, rfl, _, rfl, if_dec (fun h1 => ?_) (fun h1 => ?_)⟩
      · obtain ⟨rfl, hc⟩ := hr'.resolve_left (by omega)
        rw [Nat.sub_zero, wi_end hc (by omega)] at e
        refine ⟨_, rfl, _, _, rfl, rfl, ?_⟩
        rw [← e] at q
        exact q
      · have r0 : r' = 0 := by omega
        subst r0
        rw [sh_zero] at e
        refine ⟨_, _, rfl, rfl, ?_⟩
        rw [← e] at q
        exact q
    · obtain ⟨v, e, i, j, f1, f2, v2, e2, h⟩ := h
      refine ⟨v, e, i, j, f1, f2, v2, e2, ?_⟩
      cases v2 with
      | true =>
        obtain ⟨v3, e3, i3, j3, f4, f5, k4, e6, h⟩ := h
        exact ⟨v3, e3, i3, j3, f4, f5, k4, e6, k1 _ _ h⟩
      | false => exact k1 _ _ h
end
end K48
namespace K48
open PySem L2 Gk Ca
theorem cl_code {n m k : Nat} (h1 : bs n (k + 1) ≤ m) (h2 : m ≤ 2 ^ n) (hk : k ≤ n) (h3 : k = n ∨ m < bs n (k + 1 + 1)) :
    bs n (k + 1 + 1) + sh (n - (k + 1)) (m - bs n (k + 1)) = cl n m := by
  rcases h3 with h3 | h3
  · subst h3
    rw [bs_all] at h1 ⊢
    rw [bs_big (by omega), show m - 2 ^ k = 0 by omega, sh_zero, cl_full h1]
    rfl
  · by_cases hn : k = n
    · subst hn
      have := bs_all k
      have e : bs k (k + 1 + 1) = 2 ^ k := bs_big (by omega)
      omega
    · have p : 1 ≤ bs n (k + 1) := by
        have := bs_mono n (show 1 ≤ k + 1 by omega)
        rw [bs_one] at this
        exact this
      rw [cl_in (k := k + 1) (by omega) (by omega) h1 h3]
theorem two_pow (n : Nat) : (1 : Int) * 2 ^ (n : Int).toNat = ((2 ^ n : Nat) : Int) := by
  rw [Int.one_mul, Int.toNat_natCast]
  induction n with
  | zero => rfl
  | succ n ih => rw [Int.pow_succ, ih, Nat.pow_succ, Int.natCast_mul]; rfl
section
variable {P : Program} {w : World} {K : PySem.W.Frag} {mg : Str → Option Value} {base : Heap}
def sp_count_close (K : PySem.W.Frag) : Sp := fun vs H Q _ => ∃ n m : Nat, vs = [.int n, .int m] ∧ n ≤ 40 ∧ m ≤ 2 ^ n ∧ ∀ H', Same H H' → Q (.int (cl n m)) H'
abbrev Ok_count_close (P : Program) (w : World) (K : PySem.W.Frag) (mg : Str → Option Value) (base : Heap) (a : Addr) (fd : FuncData) : Prop := FnOk P w K mg base CX0 3 a fd ["n", "m"] (sp_count_close K)
theorem ok_count_close {a_count_close : Addr} {d_count_close : FuncData} {a_ball_count : Addr} {d_ball_count : FuncData} {a_count_within : Addr} {d_count_within : FuncData} (D_count_close : Df_count_close K mg a_count_close d_count_close) (D_ball_count : Df_ball_count K mg a_ball_count d_ball_count) (G_ball_count : Ok_ball_count P w K mg base a_ball_count d_ball_count) (D_count_within : Df_count_within K mg a_count_within d_count_within) (G_count_within : Ok_count_within P w K mg base a_count_within d_count_within) (B : Bl mg) : Ok_count_close P w K mg base a_count_close d_count_close := by
  refine D_count_close.F.ok sc_count_close (fun vs H Q E h => by (repeat obtain ⟨_, h⟩ := h); subst_vars; rfl) (fun cdv A outer s H vs Q E hr h => ?_)
  have hrball_count : Room 2 _ := hr.mono (by decide)
  have hrcount_within : Room 2 _ := hr.mono (by decide)
  · obtain ⟨n, m, rfl, hn, hm, q⟩ := h
    refine ⟨_, (pss_cons (ps_if (pt_cmpR op_eq (pv 1) pe_int (nomark _)) (pss_one (ps_ret pe_int)) pss_nil)
    (pss_cons (ps_set (i := 2) sc_count_close.nd rfl (.inl rfl) pe_int)
    (pss_cons (ps_while PassesOwn.never (PW.pt (pw_and (pt_cmpR op_lt (pv 2) (pv 0) (nomark _)) (pw_and1 (pt_cmpR op_le (pe_cl D_ball_count G_ball_count hrball_count (by rfl) (pa_cons (pv 0) (pa_cons (pe_op op_add (pv 2) pe_int) pa_nil))) (pv 1) (nomark _)))))
      (pss_one (ps_set (i := 2) sc_count_close.nd rfl (.inl rfl) (pe_op op_add (pv 2) pe_int))))
    (pss_one (ps_ret (pe_callB (call_min2 rfl) (by rfl) B.min (by decide +kernel) (pa_cons (pe_op op_add (pe_cl D_ball_count G_ball_count hrball_count (by rfl) (pa_cons (pv 0) (pa_cons (pe_op op_add (pv 2) pe_int) pa_nil))) (pe_cl D_count_within G_count_within hrcount_within (by rfl) (pa_cons (pv 0) (pa_cons (pe_op op_add (pv 2) pe_int) (pa_cons (pe_op op_sub (pv 1) (pe_cl D_ball_count G_ball_count hrball_count (by rfl) (pa_cons (pv 0) (pa_cons (pv 2) pa_nil)))) pa_nil))))) (pa_cons (pe_op op_shl pe_int (pv 0)) pa_nil)))))))), ?_⟩
    have pb := pow_b hn
    refine ⟨_, rfl, rfl, _, rfl, if_dec (fun h1 => ?_) (fun h1 => ?_)⟩
    · have m0 : m = 0 := by have := V.int.inj h1; omega
      subst m0
      rw [cl_zero] at q
      exact q H (same_refl H)
    have m0 : m ≠ 0 := fun z => h1 (by rw [z]; rfl)
    refine next_go (nx_go ?_)
    refine while_go (fun σ H' => ∃ k : Nat, σ = [some (.int n), some (.int m), some (.int k)] ∧ Same H H' ∧ k ≤ n ∧ bs n (k + 1) ≤ m)
      (fun σ _ => match σ with | [_, _, some (.int k)] => n - k.toNat | _ => 0) (fun σ H' => ∃ k : Nat, σ = [some (.int n), some (.int m), some (.int k)] ∧ Same H H' ∧ k ≤ n ∧ bs n (k + 1) ≤ m ∧ (k = n ∨ m < bs n (k + 1 + 1)))
      ⟨0, rfl, same_refl H, Nat.zero_le _, by rw [bs_one]; omega⟩ (fun σ H' h => ?_) (fun σ H' h => ?_) (fun σ H' Q1 Q2 k1 h => ?_)
    · obtain ⟨k, rfl, s1, hk, hb⟩ := h
      refine ⟨_, rfl, _, rfl, _, _, rfl, rfl, _, rfl, if_dec (fun h2 => ?_) (fun h2 => ⟨k, rfl, s1, hk, hb, .inl (by omega)⟩)⟩
      refine ⟨_, rfl, _, rfl, _, _, rfl, rfl, n, k + 1, rfl, hn, by omega, fun H2 s2 => ⟨_, rfl, _, _, rfl, rfl, _, rfl, if_dec (fun h3 => ?_) (fun h3 => ⟨k, rfl, s1.trans s2, hk, hb, .inr (by omega)⟩)⟩⟩
      refine ⟨_, rfl, _, _, rfl, rfl, ⟨k + 1, rfl, s1.trans s2, by omega, by omega⟩, ?_⟩
      show n - ((k : Int) + 1).toNat < n - (k : Int).toNat
      omega
    · obtain ⟨k, rfl, s1, hk, hb, hx⟩ := h
      have e := cl_code hb hm hk hx
      have le := cl_le n m
      refine ⟨_, rfl, _, rfl, _, _, rfl, rfl, n, k + 1, rfl, hn, by omega, fun H2 s2 => ?_⟩
      refine ⟨_, rfl, _, rfl, _, _, rfl, rfl, _, rfl, _, rfl, _, rfl, n, k, rfl, hn, by omega, fun H3 s3 => ?_⟩
      refine ⟨_, _, rfl, rfl, n, k + 1, m - bs n (k + 1), ?_, hn, by omega, ?_, _, _, rfl, rfl, _, rfl, ?_⟩
      · show [V.int n, V.int ((k : Int) + 1), V.int ((m : Int) - (bs n (k + 1) : Int))] = _
        rw [show (m : Int) - (bs n (k + 1) : Int) = ((m - bs n (k + 1) : Nat) : Int) by omega]
        rfl
      · rcases hx with hx | hx
        · subst hx
          rw [bs_all]
          exact .inl (by omega)
        · by_cases z : m - bs n (k + 1) = 0
          · exact .inl z
          · refine .inr ⟨?_, by rw [bs_succ n (k + 1)] at hx; omega⟩
            refine Nat.le_of_not_lt fun y => ?_
            have a := bs_big (n := n) (k := k + 1) (by omega)
            omega
      · refine ⟨_, _, rfl, rfl, ⟨by omega, by omega, by decide⟩, _, _, rfl, ?_⟩
        have eA : (bs n (k + 1 + 1) : Int) + (sh (n - (k + 1)) (m - bs n (k + 1)) : Int) = (cl n m : Int) := by rw [← e]; rfl
        rw [two_pow, eA, if_neg (by omega)]
        exact q H3 ((s1.trans s2).trans s3)
    · obtain ⟨v, e, v2, e2, i, j, f1, f2, k3, e3, h⟩ := h
      refine ⟨v, e, v2, e2, i, j, f1, f2, k3, e3, ?_⟩
      cases k3 with
      | true =>
        obtain ⟨v4, e4, v5, e5, i3, j3, f4, f5, n2, k4, e6, b1, b2, h⟩ := h
        refine ⟨v4, e4, v5, e5, i3, j3, f4, f5, n2, k4, e6, b1, b2, fun H2 s2 => ?_⟩
        obtain ⟨v6, e7, i4, j4, f6, f7, k5, e8, h⟩ := h H2 s2
        exact ⟨v6, e7, i4, j4, f6, f7, k5, e8, k1 _ _ h⟩
      | false => exact k1 _ _ h
def sp_count_by_steps (K : PySem.W.Frag) : Sp := fun vs H Q _ => ∃ n m t : Nat, vs = [.int n, .int m, .int t] ∧ n ≤ 40 ∧ m ≤ 2 ^ n ∧ t ≤ 100 ∧ ∀ H', Same H H' → Q (.int (st n m t)) H'
abbrev Ok_count_by_steps (P : Program) (w : World) (K : PySem.W.Frag) (mg : Str → Option Value) (base : Heap) (a : Addr) (fd : FuncData) : Prop := FnOk P w K mg base CX0 4 a fd ["n", "m", "t"] (sp_count_by_steps K)
theorem ok_count_by_steps {a_count_by_steps : Addr} {d_count_by_steps : FuncData} {a_count_close : Addr} {d_count_close : FuncData} (D_count_by_steps : Df_count_by_steps K mg a_count_by_steps d_count_by_steps) (D_count_close : Df_count_close K mg a_count_close d_count_close) (G_count_close : Ok_count_close P w K mg base a_count_close d_count_close) (B : Bl mg) : Ok_count_by_steps P w K mg base a_count_by_steps d_count_by_steps := by
  refine D_count_by_steps.F.ok sc_count_by_steps (fun vs H Q E h => by (repeat obtain ⟨_, h⟩ := h); subst_vars; rfl) (fun cdv A outer s H vs Q E hr h => ?_)
  have hrcount_close : Room 3 _ := hr.mono (by decide)
  · obtain ⟨n, m, t, rfl, hn, hm, ht, q⟩ := h
    refine ⟨_, (pss_cons (ps_for PassesOwn.never rfl (pi_range1 (by rfl) B.range (pa_cons (pv 2) pa_nil)) (pg_name (i := 3) sc_count_by_steps.nd rfl (.inl rfl))
      (pss_one (ps_set (i := 1) sc_count_by_steps.nd rfl (.inl rfl) (pe_cl D_count_close G_count_close hrcount_close (by rfl) (pa_cons (pv 0) (pa_cons (pv 1) pa_nil))))))
    (pss_one (ps_ret (pv 1)))), ?_⟩
    refine ⟨_, rfl, _, rfl, by omega, by omega, ?_⟩
    refine for_range (lo := 0) (n := (t : Int).toNat) (fun i σ H' => ∃ v, σ = [some (.int n), some (.int (st n m i)), some (.int t), v] ∧ Same H H') ⟨none, rfl, same_refl H⟩ (fun i σ H' hi ⟨v, e1, s1⟩ => ?_) (fun σ H' ⟨v, e1, s1⟩ => ?_)
    · subst e1
      refine ⟨_, rfl, _, rfl, n, st n m i, rfl, hn, st_le hm i, fun H2 s2 => ?_⟩
      exact ⟨_, rfl, s1.trans s2⟩
    · subst e1
      rw [Int.toNat_natCast]
      exact ⟨_, rfl, q H' s1⟩
def sp_most_far_off (K : PySem.W.Frag) : Sp := fun vs H Q _ => ∃ n m t : Nat, vs = [.int n, .int m, .int t] ∧ n ≤ 40 ∧ m ≤ 2 ^ n ∧ t ≤ 100 ∧ ∀ H', Same H H' → Q (.int ((2 ^ n - st n m t : Nat) : Int)) H'
abbrev Ok_most_far_off (P : Program) (w : World) (K : PySem.W.Frag) (mg : Str → Option Value) (base : Heap) (a : Addr) (fd : FuncData) : Prop := FnOk P w K mg base CX0 5 a fd ["n", "m", "t"] (sp_most_far_off K)
theorem ok_most_far_off {a_most_far_off : Addr} {d_most_far_off : FuncData} {a_count_by_steps : Addr} {d_count_by_steps : FuncData} (D_most_far_off : Df_most_far_off K mg a_most_far_off d_most_far_off) (D_count_by_steps : Df_count_by_steps K mg a_count_by_steps d_count_by_steps) (G_count_by_steps : Ok_count_by_steps P w K mg base a_count_by_steps d_count_by_steps) (B : Bl mg) : Ok_most_far_off P w K mg base a_most_far_off d_most_far_off := by
  refine D_most_far_off.F.ok sc_most_far_off (fun vs H Q E h => by (repeat obtain ⟨_, h⟩ := h); subst_vars; rfl) (fun cdv A outer s H vs Q E hr h => ?_)
  have hrcount_by_steps : Room 4 _ := hr.mono (by decide)
  · obtain ⟨n, m, t, rfl, hn, hm, ht, q⟩ := h
    refine ⟨_, (pss_one (ps_ret (pe_op op_sub (pe_op op_shl pe_int (pv 0)) (pe_cl D_count_by_steps G_count_by_steps hrcount_by_steps (by rfl) (pa_cons (pv 0) (pa_cons (pv 1) (pa_cons (pv 2) pa_nil))))))), ?_⟩
    have le := st_le hm t
    refine ⟨_, rfl, _, _, rfl, rfl, ⟨by omega, by omega, by decide⟩, _, rfl, _, rfl, _, rfl, n, m, t, rfl, hn, hm, ht, fun H2 s2 => ⟨_, _, rfl, rfl, ?_⟩⟩
    have q2 := q H2 s2
    rw [show ((2 ^ n - st n m t : Nat) : Int) = ((2 ^ n : Nat) : Int) - (st n m t : Int) by omega, ← two_pow] at q2
    exact q2
def sp_least_many (K : PySem.W.Frag) : Sp := fun vs H Q _ => ∃ n m : Nat, vs = [.int n, .int m] ∧ n ≤ 40 ∧ m ≤ 2 ^ n ∧ ∀ H' (x : Nat), Same H H' → x ≤ 2 ^ n → m ≤ cl n x → (x = 0 ∨ cl n (x - 1) < m) → Q (.int x) H'
abbrev Ok_least_many (P : Program) (w : World) (K : PySem.W.Frag) (mg : Str → Option Value) (base : Heap) (a : Addr) (fd : FuncData) : Prop := FnOk P w K mg base CX0 4 a fd ["n", "k"] (sp_least_many K)
theorem ok_least_many {a_least_many : Addr} {d_least_many : FuncData} {a_count_close : Addr} {d_count_close : FuncData} (D_least_many : Df_least_many K mg a_least_many d_least_many) (D_count_close : Df_count_close K mg a_count_close d_count_close) (G_count_close : Ok_count_close P w K mg base a_count_close d_count_close) (B : Bl mg) : Ok_least_many P w K mg base a_least_many d_least_many := by
  refine D_least_many.F.ok sc_least_many (fun vs H Q E h => by (repeat obtain ⟨_, h⟩ := h); subst_vars; rfl) (fun cdv A outer s H vs Q E hr h => ?_)
  have hrcount_close : Room 3 _ := hr.mono (by decide)
  · obtain ⟨n, m, rfl, hn, hm, q⟩ := h
    refine ⟨_, (pss_cons (ps_par (i := 2) (j := 3) (by rfl) sc_least_many.nd rfl rfl (by decide) rfl rfl (pa_cons (pe_un un_neg pe_int) (pa_cons (pe_op op_shl pe_int (pv 0)) pa_nil)) (by rfl))
    (pss_cons (ps_while PassesOwn.never (pt_cmpR op_gt (pe_op op_sub (pv 3) (pv 2)) pe_int (nomark _))
      (pss_cons (ps_set (i := 4) sc_least_many.nd rfl (.inl rfl) (pe_op op_fdivW (pe_op op_add (pv 2) (pv 3)) pe_int))
      (pss_one (ps_if (pt_cmpR op_ge (pe_cl D_count_close G_count_close hrcount_close (by rfl) (pa_cons (pv 0) (pa_cons (pv 4) pa_nil))) (pv 1) (nomark _)) (pss_one (ps_set (i := 3) sc_least_many.nd rfl (.inl rfl) (pv 4))) (pss_one (ps_set (i := 2) sc_least_many.nd rfl (.inl rfl) (pv 4)))))))
    (pss_one (ps_ret (pv 3))))), ?_⟩
    have pb := pow_b hn
    have pp : 1 ≤ 2 ^ n := Nat.one_le_two_pow
    refine ⟨_, rfl, _, rfl, _, _, rfl, rfl, ⟨by omega, by omega, by decide⟩, _, _, rfl, ?_⟩
    refine while_go (fun σ H' => ∃ (lo : Int) (hi : Nat) (v4 : Option V), σ = [some (.int n), some (.int m), some (.int lo), some (.int hi), v4] ∧ Same H H' ∧ -1 ≤ lo ∧ lo < hi ∧ hi ≤ 2 ^ n ∧ m ≤ cl n hi ∧ (lo = -1 ∨ cl n lo.toNat < m))
      (fun σ _ => match σ with | [_, _, some (.int lo), some (.int hi), _] => (hi - lo).toNat | _ => 0) (fun σ H' => ∃ (hi : Nat) (v2 v4 : Option V), σ = [some (.int n), some (.int m), v2, some (.int hi), v4] ∧ Same H H' ∧ hi ≤ 2 ^ n ∧ m ≤ cl n hi ∧ (hi = 0 ∨ cl n (hi - 1) < m))
      ⟨-1, 2 ^ n, none, ?_, same_refl H, by omega, by omega, Nat.le_refl _, by rw [cl_full (Nat.le_refl _)]; exact hm, .inl rfl⟩ (fun σ H' h => ?_) (fun σ H' h => ?_) (fun σ H' Q1 Q2 k1 h => ?_)
    · rw [← two_pow]; rfl
    · obtain ⟨lo, hi, v4, rfl, s1, h1, h2, h3, h4, h5⟩ := h
      refine ⟨_, rfl, _, rfl, _, _, rfl, rfl, _, _, rfl, rfl, _, rfl, if_dec (fun h6 => ?_) (fun h6 => ⟨hi, _, v4, rfl, s1, h3, h4, ?_⟩)⟩
      · refine ⟨_, rfl, _, rfl, _, _, rfl, rfl, _, _, rfl, rfl, divG (by decide) (by decide), ?_⟩
        have d1 := Int.mul_ediv_add_emod (lo + hi) 2
        have d2 := Int.emod_nonneg (lo + hi) (show (2 : Int) ≠ 0 by decide)
        have d3 := Int.emod_lt_of_pos (lo + hi) (show (0 : Int) < 2 by decide)
        obtain ⟨mi, hmi⟩ := Int.eq_ofNat_of_zero_le (show 0 ≤ (lo + hi) / 2 by omega)
        refine gn_go (nx_go ?_)
        refine ⟨_, rfl, _, rfl, n, mi, by rw [← hmi]; rfl, hn, by omega, fun H2 s2 => ⟨_, rfl, _, _, rfl, rfl, _, rfl, if_dec (fun h7 => ?_) (fun h7 => ?_)⟩⟩
        · refine ⟨_, rfl, ⟨lo, mi, some (.int mi), by rw [← hmi]; rfl, s1.trans s2, h1, by omega, by omega, by omega, h5⟩, ?_⟩
          show ((lo + (hi : Int)) / 2 - lo).toNat < ((hi : Int) - lo).toNat
          omega
        · refine ⟨_, rfl, ⟨(mi : Int), hi, some (.int mi), by rw [← hmi]; rfl, s1.trans s2, by omega, by omega, h3, h4, .inr (by rw [Int.toNat_natCast]; omega)⟩, ?_⟩
          show ((hi : Int) - (lo + (hi : Int)) / 2).toNat < ((hi : Int) - lo).toNat
          omega
      · rcases h5 with h5 | h5
        · exact .inl (by omega)
        · by_cases z : lo = -1
          · exact .inl (by omega)
          · exact .inr (by rw [show hi - 1 = lo.toNat by omega]; exact h5)
    · obtain ⟨hi, v2, v4, rfl, s1, h3, h4, h5⟩ := h
      exact ⟨_, rfl, q H' hi s1 h3 h4 h5⟩
    · obtain ⟨v, e, v2, e2, i, j, f1, f2, i2, j2, f3, f4, k3, e3, h⟩ := h
      exact ⟨v, e, v2, e2, i, j, f1, f2, i2, j2, f3, f4, k3, e3, k1 _ _ h⟩
end
end K48
namespace K48
open PySem L2 Gk Ca
section
variable {P : Program} {w : World} {K : PySem.W.Frag} {mg : Str → Option Value} {base : Heap}
def sp__law_source (K : PySem.W.Frag) : Sp := fun vs H Q _ => ∃ (a : Addr) (ns : List Int), vs = [.ref a] ∧ SqL K H a (ns.map V.int) ∧ ns.length ≤ 1000 ∧ ∀ H' p c, Same H H' → H p = none → H c = none → Src H' p c → Q (.ref p) H'
abbrev Ok__law_source (P : Program) (w : World) (K : PySem.W.Frag) (mg : Str → Option Value) (base : Heap) (a : Addr) (fd : FuncData) : Prop := FnOk P w K mg base CX0 1 a fd ["script"] (sp__law_source K)
theorem ok__law_source {a__law_source : Addr} {d__law_source : FuncData} (D__law_source : Df__law_source K mg a__law_source d__law_source) (B : Bl mg) : Ok__law_source P w K mg base a__law_source d__law_source := by
  refine D__law_source.F.ok sc__law_source (fun vs H Q E h => by (repeat obtain ⟨_, h⟩ := h); subst_vars; rfl) (fun cdv A outer s H vs Q E hr h => ?_)
  · obtain ⟨a, ns, rfl, hS, hlen, q⟩ := h
    refine ⟨_, (pss_cons (ps_set (i := 1) sc__law_source.nd rfl (.inl rfl) pe_int)
    (pss_cons (ps_for PassesOwn.never rfl (pi_list (pv 0)) (pg_name (i := 2) sc__law_source.nd rfl (.inl rfl))
      (pss_one (ps_set (i := 1) sc__law_source.nd rfl (.inl rfl) (pe_op op_modG (pe_callTy call_int1 (by rfl) B.int (by decide +kernel) (pa_cons (pe_op op_add (pe_op op_add (pe_op op_mulG (pv 1) pe_int) (pe_op op_mulG (pv 2) pe_int)) pe_int) pa_nil)) pe_int))))
    (pss_one (ps_ret (pe_disp (pps_cons pe_str (pe_revL (pe_lc (own := [("cell", 2)]) (g := (gName 2)) (tt := tYes) rfl sc__law_source.nd (pi_list (pv 0)) (blkOk_by (N := N__law_source) (sc := defScope s__law_source) (by decide +kernel)) (fun _ _ _ _ _ => (pg_name (i := 2) sc__law_source.nd rfl (.inl rfl))) (fun _ _ _ _ _ => pts_nil) (fun _ _ _ _ _ => (pe_callB call_abs (by rfl) B.abs (by decide +kernel) (pa_cons (pv 2) pa_nil))))) (pps_cons pe_str pe_int (pps_cons pe_str (pv 1) (pps_cons pe_str pe_int pps_nil)))) (by rfl) (by rfl) (fun z => by cases z) (by decide)))))), ?_⟩
    refine ⟨_, rfl, a, rfl, ⟨_, hS⟩, for_list (K := K) (a := a) (xs := ns.map V.int) (fun i σ H' => ∃ (z : Int) (v : Option V), σ = [some (.ref a), some (.int z), v] ∧ H' = H)
      ⟨11, none, rfl, rfl⟩ (fun i σ H' _ ⟨z, v, e1, e2⟩ => by subst e2; exact hS) (fun i x σ H' hi ⟨z, v, e1, e2⟩ => ?_) (fun σ H' ⟨z, v, e1, e2⟩ => ?_)⟩
    · subst e1 e2
      obtain ⟨y, hy, rfl⟩ := im_at hi
      refine ⟨_, rfl, _, _, rfl, rfl, mulG_r (n := 2 ^ 64) (by decide), _, rfl, _, _, rfl, rfl, mulG_r (n := 2 ^ 64) (by decide), _, _, rfl, rfl, _, _, rfl, rfl, .inl ⟨_, rfl, _, _, rfl, rfl, (by show (0 : Int) < 2147483629; decide), ?_⟩⟩
      exact ⟨_, _, rfl, rfl⟩
    · subst e1 e2
      refine fun p np => ?_
      have s0 : Same H' _ := same_new (o := .dK []) np
      have hS0 := s0.seq hS
      refine ⟨_, rfl, a, rfl, ⟨_, hS0⟩, fun D nD => ?_⟩
      refine lc_it (walk_list (K := K) (a := a) (xs := ns.map V.int)) (fun i H2 => Same (upd H' p (.dK [])) H2 ∧ H2 D = some (.lst (((ns.map fun n => if n < 0 then -n else n).take i).map V.int))) ⟨same_new nD, upd_same⟩
        (fun i H2 _ ⟨s2, _⟩ => s2.seq hS0) (fun i x H2 H3 hi ⟨s2, hD⟩ ⟨e3, hx⟩ => ?_) (fun H2 ⟨s2, hD⟩ => ?_)
      · subst e3
        rw [List.length_map] at hi
        rw [List.getElem?_map, List.getElem?_eq_getElem hi] at hx
        cases hx
        refine ⟨rfl, ?_⟩
        refine lc_yes ?_
        refine ⟨_, rfl, _, rfl, _, hD, ?_, same_mut s2 nD, ?_⟩
        · rw [List.length_map, List.length_take]
          exact Nat.lt_of_le_of_lt (Nat.le_trans (Nat.min_le_left _ _) (show i ≤ 1000 by omega)) (by decide)
        · rw [upd_same, List.take_add_one, List.getElem?_map, List.getElem?_eq_getElem hi, List.map_append]
          rfl
      · rw [List.length_map, List.take_of_length_le (by rw [List.length_map]; exact Nat.le_refl _)] at hD
        have hp2 : H2 p = some (.dK []) := s2 _ _ upd_same
        refine ⟨D, _, rfl, SqL.of hD, fun c nc => ?_⟩
        have ncp : c ≠ p := fun e => by (rw [e, hp2] at nc; cases nc)
        have hcp : (upd H2 c (.lst ((List.map V.int (ns.map fun n => if n < 0 then -n else n)).reverse))) p = some (.dK []) := by
          rw [upd_ne ncp.symm]; exact hp2
        refine ⟨_, rfl, hcp, sd c 1 z 0, rfl, by show (4 : Nat) ≤ 15; decide, ?_⟩
        rw [sd_make]
        have nc' : H' c = none := same_back (s0.trans s2) nc
        refine q _ p c ?_ np nc' ⟨(ns.map fun n => if n < 0 then -n else n).reverse, 1, z, 0, upd_same, ?_⟩
        · exact same_mut (same_mut (s0.trans s2) nc') np
        · rw [upd_ne ncp, upd_same, List.map_reverse]
def sp__law_pick (K : PySem.W.Frag) : Sp := fun vs H Q _ => ∃ (p c : Addr) (n : Int), vs = [.ref p, .int n] ∧ n.natAbs < 2 ^ 60 ∧ Src H p c ∧
  ∀ H' (r : Int), But p c H H' → Src H' p c → 0 ≤ r → (r < n ∨ r = 0) → Q (.int r) H'
abbrev Ok__law_pick (P : Program) (w : World) (K : PySem.W.Frag) (mg : Str → Option Value) (base : Heap) (a : Addr) (fd : FuncData) : Prop := FnOk P w K mg base CX0 1 a fd ["source", "many"] (sp__law_pick K)
theorem ok__law_pick {a__law_pick : Addr} {d__law_pick : FuncData} (D__law_pick : Df__law_pick K mg a__law_pick d__law_pick) (B : Bl mg) : Ok__law_pick P w K mg base a__law_pick d__law_pick := by
  refine D__law_pick.F.ok sc__law_pick (fun vs H Q E h => by (repeat obtain ⟨_, h⟩ := h); subst_vars; rfl) (fun cdv A outer s H vs Q E hr h => ?_)
  · obtain ⟨p, c, n, rfl, hn, hs, q⟩ := h
    refine ⟨_, (pss_cons (ps_while PassesOwn.never (PW.pt (pw_and (pt_cmpR op_gt (pv 1) pe_int (nomark _)) (pw_and (pt_cmpR op_lt (pe_dget (hu_of hr) (pv 0) pe_str (fun _ _ => rfl)) pe_int (nomark _)) (pw_and1 (pt_cmpR op_gt (pe_callB call_len_seq (by rfl) B.len (by decide +kernel) (pa_cons (pe_dget (hu_of hr) (pv 0) pe_str (fun _ _ => rfl)) pa_nil)) pe_int (nomark _))))))
      (pss_one (ps_dput (hu_of hr) (pv 0) pe_str (pe_bm0 PySem.F.plainAttrs_list PySem.F.slot_list_pop PySem.F.type_list_pop mt_pop (pe_dget (hu_of hr) (pv 0) pe_str (fun _ _ => rfl))) rfl)))
    (pss_cons (ps_set (i := 2) sc__law_pick.nd rfl (.inl rfl) (pe_dget (hu_of hr) (pv 0) pe_str (fun _ _ => rfl)))
    (pss_cons (ps_if (PW.pt (pw_or (pt_cmpR op_lt (pv 1) pe_int (nomark _)) (pw_or1 (pt_cmpR op_gt (pv 2) pe_int (nomark _))))) (pss_cons (ps_dput (hu_of hr) (pv 0) pe_str (pe_op op_fdivW (pv 2) (pe_callB (call_max2 rfl) (by rfl) B.max (by decide +kernel) (pa_cons pe_int (pa_cons (pv 1) pa_nil)))) rfl)
      (pss_one (ps_ret (pe_op op_modG (pe_callTy call_int1 (by rfl) B.int (by decide +kernel) (pa_cons (pv 2) pa_nil)) (pe_callB (call_max2 rfl) (by rfl) B.max (by decide +kernel) (pa_cons pe_int (pa_cons (pv 1) pa_nil))))))) pss_nil)
    (pss_cons (ps_dput (hu_of hr) (pv 0) pe_str (pe_op op_add (pe_dget (hu_of hr) (pv 0) pe_str (fun _ _ => rfl)) pe_int) rfl)
    (pss_cons (ps_set (i := 3) sc__law_pick.nd rfl (.inl rfl) (pe_op op_modG (pe_callTy call_int1 (by rfl) B.int (by decide +kernel) (pa_cons (pe_op op_add (pe_dget (hu_of hr) (pv 0) pe_str (fun _ _ => rfl)) (pe_op op_mulG (pe_dget (hu_of hr) (pv 0) pe_str (fun _ _ => rfl)) pe_int)) pa_nil)) pe_int))
    (pss_cons (ps_set (i := 3) sc__law_pick.nd rfl (.inl rfl) (pe_op op_modG (pe_callTy call_int1 (by rfl) B.int (by decide +kernel) (pa_cons (pe_op op_add (pe_op op_mulG (pv 3) (pv 3)) (pe_op op_mulG (pe_dget (hu_of hr) (pv 0) pe_str (fun _ _ => rfl)) pe_int)) pa_nil)) pe_int))
    (pss_cons (ps_dput (hu_of hr) (pv 0) pe_str (pv 3) rfl)
    (pss_one (ps_ret (pe_op op_modG (pe_callTy call_int1 (by rfl) B.int (by decide +kernel) (pa_cons (pe_op op_fdivW (pv 3) pe_int) pa_nil)) (pv 1))))))))))), ?_⟩
    have npc := hs.ne
    obtain ⟨ns, l, m, t, h2, h3⟩ := hs
    refine while_go (fun σ H' => ∃ (ns : List Int) (l : Int), σ = [some (.ref p), some (.int n), none, none] ∧ But p c H H' ∧ H' p = some (.dK (sd c l m t)) ∧ H' c = some (.lst (ns.map V.int)))
      (fun _ H' => match H' c with | some (.lst xs) => xs.length | _ => 0) (fun σ H' => ∃ (ns : List Int) (l : Int), σ = [some (.ref p), some (.int n), none, none] ∧ But p c H H' ∧ H' p = some (.dK (sd c l m t)) ∧ H' c = some (.lst (ns.map V.int)))
      ⟨ns, l, rfl, fun _ _ _ _ e => e, h2, h3⟩ (fun σ H' h => ?_) (fun σ H' h => ?_) (fun σ H' Q1 Q2 k1 h => ?_)
    · obtain ⟨ns, l, rfl, b1, h2, h3⟩ := h
      refine ⟨_, rfl, _, _, rfl, rfl, _, rfl, if_dec (fun h6 => ?_) (fun h6 => ⟨ns, l, rfl, b1, h2, h3⟩)⟩
      refine ⟨_, rfl, p, _, rfl, g_left h2, _, _, rfl, rfl, _, rfl, if_dec (fun h4 => ?_) (fun h4 => ?_)⟩
      · refine ⟨_, rfl, p, _, rfl, g_cells h2, c, _, rfl, .inl (SqL.of h3), _, _, rfl, rfl, _, rfl, if_dec (fun h5 => ?_) (fun h5 => ?_)⟩
        · rw [List.length_map] at h5
          obtain ⟨ns', z, rfl⟩ : ∃ ns' z, ns = ns' ++ [z] := ⟨ns.dropLast, ns.getLast (by intro e; subst e; simp at h5), (List.dropLast_concat_getLast _).symm⟩
          refine ⟨_, rfl, p, _, rfl, g_cells h2, .inl ⟨rfl, _, SqL.of h3⟩, c, _, .int z, rfl, rfl, h3, by simp, ?_⟩
          have e1 : ((ns' ++ [z]).map V.int).dropLast = ns'.map V.int := by simp
          rw [e1]
          refine ⟨_, rfl, p, _, rfl, p_left (by rw [upd_ne npc]; exact h2) z, ⟨ns', z, rfl, fun b o n1 n2 e => ?_, upd_same, by rw [upd_ne npc.symm, upd_same]⟩, ?_⟩
          · rw [upd_ne n1, upd_ne n2]
            exact b1 b o n1 n2 e
          · rw [upd_ne npc.symm, upd_same, h3]
            simp
        · exact ⟨ns, l, rfl, b1, h2, h3⟩
      · exact ⟨ns, l, rfl, b1, h2, h3⟩
    · obtain ⟨ns, l, rfl, b1, h2, h3⟩ := h
      refine ⟨_, rfl, p, _, rfl, g_left h2, ?_⟩
      refine gn_go (nx_go ?_)
      have fin : (if n > 1 then n else 1) ≥ 1 ∧ (if n > 1 then n else 1).natAbs < 2 ^ 60 ∧ ((if n > 1 then n else 1) = n ∨ (if n > 1 then n else 1) = 1) := by split <;> omega
      generalize em : (if n > 1 then n else 1) = M at fin
      refine ifs_both True (2 ≤ n) (fun _ => ?_) (fun hn2 => ?_) (fun yes no => ?_)
      · refine ⟨_, rfl, _, rfl, _, _, rfl, ?_⟩
        rw [em]
        refine ⟨_, _, rfl, rfl, divG (by omega) (by omega), _, rfl, p, _, rfl, p_left h2 _, ?_⟩
        refine ⟨_, rfl, .inl ⟨_, rfl, _, rfl, _, _, rfl, ?_⟩⟩
        rw [em]
        refine ⟨_, _, rfl, rfl, by omega, ?_⟩
        have r1 := Int.emod_nonneg l (show M ≠ 0 by omega)
        have r2 := Int.emod_lt_of_pos l (show 0 < M by omega)
        refine q _ _ (fun b o n1 n2 e => ?_) ⟨ns, _, _, _, upd_same, by rw [upd_ne npc.symm]; exact h3⟩ r1 (by omega)
        rw [upd_ne n1]
        exact b1 b o n1 n2 e
      · refine next_go (nx_go ?_)
        refine ⟨_, rfl, p, _, rfl, g_turn h2, _, _, rfl, rfl, _, rfl, p, _, rfl, p_turn h2 _, ?_⟩
        have h2' : (upd H' p (.dK (sd c l m (t + 1)))) p = some (.dK (sd c l m (t + 1))) := upd_same
        refine ⟨_, rfl, p, _, rfl, g_mixed h2', _, rfl, p, _, rfl, g_turn h2', _, _, rfl, rfl, mulG_r (n := 2 ^ 64) (by decide), _, _, rfl, rfl, .inl ⟨_, rfl, _, _, rfl, rfl, (by show (0 : Int) < 998244353; decide), ?_⟩⟩
        generalize em2 : (m + (t + 1) * 104729) % 998244353 = z1
        have b1' : 0 ≤ z1 ∧ z1 < 998244353 := by rw [← em2]; exact ⟨Int.emod_nonneg _ (by decide), Int.emod_lt_of_pos _ (by decide)⟩
        refine ⟨_, rfl, _, rfl, _, _, rfl, rfl, mulG_r (n := 2 ^ 64) (by omega), _, rfl, p, _, rfl, g_turn h2', _, _, rfl, rfl, mulG_r (n := 2 ^ 64) (by decide), _, _, rfl, rfl, .inl ⟨_, rfl, _, _, rfl, rfl, (by show (0 : Int) < 2147483647; decide), ?_⟩⟩
        refine gn_go (nx_go ?_)
        refine ⟨_, rfl, _, rfl, p, _, rfl, p_mixed h2' _, ?_⟩
        refine ⟨_, rfl, _, _, rfl, rfl, divG (by decide) (by decide), .inl ⟨_, rfl, _, rfl, _, _, rfl, rfl, by omega, ?_⟩⟩
        refine q _ _ (fun b o n1 n2 e => ?_) ⟨ns, _, _, _, upd_same, by rw [upd_ne npc.symm, upd_ne npc.symm]; exact h3⟩ (Int.emod_nonneg _ (by omega)) (.inl (Int.emod_lt_of_pos _ (by omega)))
        rw [upd_ne n1, upd_ne n1]
        exact b1 b o n1 n2 e
      · refine ⟨_, rfl, _, _, rfl, rfl, _, rfl, if_dec (fun h1 => iteT (yes trivial)) (fun h1 => ⟨_, rfl, _, _, rfl, rfl, _, rfl, if_dec (fun h2 => yes trivial) (fun h2 => no (by omega))⟩)⟩
    · obtain ⟨v, e, i, j, f1, f2, k0, f3, h⟩ := h
      refine ⟨v, e, i, j, f1, f2, k0, f3, ?_⟩
      cases k0 with
      | true =>
        obtain ⟨v, e, a, v2, f1, f2, i, j, f3, f4, k3, f5, h⟩ := h
        refine ⟨v, e, a, v2, f1, f2, i, j, f3, f4, k3, f5, ?_⟩
        cases k3 with
        | true =>
          obtain ⟨v3, e3, a0, v5, g1, g2, a3, ys, f6, f7, i3, j3, f8, f9, k4, f10, h⟩ := h
          exact ⟨v3, e3, a0, v5, g1, g2, a3, ys, f6, f7, i3, j3, f8, f9, k4, f10, k1 _ _ h⟩
        | false => exact k1 _ _ h
      | false => exact k1 _ _ h
def sp__law_of (K : PySem.W.Frag) : Sp := fun vs H Q _ => ∃ (p c l : Addr) (xs : List V), vs = [.ref p, .ref l] ∧ SqL K H l xs ∧ xs ≠ [] ∧ xs.length < 2 ^ 50 ∧ (∀ H', But p c H H' → SqL K H' l xs) ∧ Src H p c ∧
  ∀ H' x, But p c H H' → Src H' p c → x ∈ xs → Q x H'
abbrev Ok__law_of (P : Program) (w : World) (K : PySem.W.Frag) (mg : Str → Option Value) (base : Heap) (a : Addr) (fd : FuncData) : Prop := FnOk P w K mg base CX0 2 a fd ["source", "some"] (sp__law_of K)
theorem ok__law_of {a__law_of : Addr} {d__law_of : FuncData} {a__law_pick : Addr} {d__law_pick : FuncData} (D__law_of : Df__law_of K mg a__law_of d__law_of) (D__law_pick : Df__law_pick K mg a__law_pick d__law_pick) (G__law_pick : Ok__law_pick P w K mg base a__law_pick d__law_pick) (B : Bl mg) : Ok__law_of P w K mg base a__law_of d__law_of := by
  refine D__law_of.F.ok sc__law_of (fun vs H Q E h => by (repeat obtain ⟨_, h⟩ := h); subst_vars; rfl) (fun cdv A outer s H vs Q E hr h => ?_)
  have hr_law_pick : Room 1 _ := hr.mono (by decide)
  · obtain ⟨p, c, l, xs, rfl, hl, hne, hn, hk, src, q⟩ := h
    refine ⟨_, (pss_one (ps_ret (pe_ix ix_list (pv 1) (pe_cl D__law_pick G__law_pick hr_law_pick (by rfl) (pa_cons (pv 0) (pa_cons (pe_callB call_len_seq (by rfl) B.len (by decide +kernel) (pa_cons (pv 1) pa_nil)) pa_nil))) (fun _ _ => rfl)))), ?_⟩
    have pos : 0 < xs.length := List.length_pos_iff.mpr hne
    refine ⟨_, rfl, _, rfl, _, rfl, l, _, rfl, .inl hl, p, c, _, rfl, by omega, src, fun H1 r b1 src1 r0 rl => ?_⟩
    obtain ⟨r, rfl⟩ := Int.eq_ofNat_of_zero_le r0
    have hr : r < xs.length := by omega
    exact ⟨l, xs, r, xs[r], rfl, rfl, hk H1 b1, atI_nat (List.getElem?_eq_getElem hr), q H1 _ b1 src1 (List.getElem_mem hr)⟩
def sp__law_ball (K : PySem.W.Frag) : Sp := fun vs H Q _ => ∃ n k : Nat, vs = [.int n, .int k] ∧ n ≤ 40 ∧ k ≤ 1000 ∧ ∀ H', Same H H' → Q (.int (bs n (k + 1))) H'
abbrev Ok__law_ball (P : Program) (w : World) (K : PySem.W.Frag) (mg : Str → Option Value) (base : Heap) (a : Addr) (fd : FuncData) : Prop := FnOk P w K mg base CX0 2 a fd ["n", "k"] (sp__law_ball K)
theorem ok__law_ball {a__law_ball : Addr} {d__law_ball : FuncData} {a__law_over : Addr} {d__law_over : FuncData} (D__law_ball : Df__law_ball K mg a__law_ball d__law_ball) (D__law_over : Df__law_over K mg a__law_over d__law_over) (G__law_over : Ok__law_over P w K mg base a__law_over d__law_over) (B : Bl mg) : Ok__law_ball P w K mg base a__law_ball d__law_ball := by
  refine D__law_ball.F.ok sc__law_ball (fun vs H Q E h => by (repeat obtain ⟨_, h⟩ := h); subst_vars; rfl) (fun cdv A outer s H vs Q E hr h => ?_)
  have hr_law_over : Room 1 _ := hr.mono (by decide)
  · obtain ⟨n, k, rfl, hn, hk, q⟩ := h
    refine ⟨_, (pss_one (ps_ret (pe_callB (cr_sum rfl) (by rfl) B.sum (by decide +kernel) (pa_cons (pe_lc (own := [("j", 2)]) (g := (gName 2)) (tt := tYes) rfl sc__law_ball.nd (pi_range1 (by rfl) B.range (pa_cons (pe_op op_add (pe_callB (call_min2 rfl) (by rfl) B.min (by decide +kernel) (pa_cons (pv 1) (pa_cons (pv 0) pa_nil))) pe_int) pa_nil)) (blkOk_by (N := N__law_ball) (sc := defScope s__law_ball) (by decide +kernel)) (fun _ _ _ _ _ => (pg_name (i := 2) sc__law_ball.nd rfl (.inl rfl))) (fun _ _ _ _ _ => pts_nil) (fun _ _ _ _ _ => (pe_cl D__law_over G__law_over hr_law_over (by rfl) (pa_cons (pv 0) (pa_cons (pv 2) pa_nil))))) pa_nil)))), ?_⟩
    refine ⟨_, rfl, _, rfl, _, _, rfl, ?_⟩
    have en : (if (n : Int) < (k : Int) then (n : Int) else (k : Int)) = ((min k n : Nat) : Int) := by
      by_cases z : (n : Int) < (k : Int)
      · rw [if_pos z]; omega
      · rw [if_neg z]; omega
    rw [en]
    refine ⟨_, _, rfl, rfl, _, rfl, by omega, by omega, fun D nD => ?_⟩
    have en : (((min k n : Nat) : Int) + 1).toNat = min k n + 1 := by omega
    refine lc_it (walk_range (lo := 0) (n := (((min k n : Nat) : Int) + 1).toNat)) (fun i H' => Same H H' ∧ H' D = some (.lst ((chL n i).map V.int))) ⟨same_new nD, upd_same⟩
      (fun i H' _ _ => trivial) (fun i x H' H2 hi ⟨s2, hD⟩ ⟨e3, hx⟩ => ?_) (fun H' ⟨s2, hD⟩ => ?_)
    · subst e3 hx
      refine ⟨rfl, ?_⟩
      refine lc_yes ?_
      refine ⟨_, rfl, _, rfl, n, i, ?_, by omega, by omega, _, hD, ?_, same_mut s2 nD, ?_⟩
      · show [V.int (n : Int), V.int (0 + (i : Int))] = _
        rw [Int.zero_add]
      · rw [List.length_map, chL_len]
        exact Nat.lt_of_le_of_lt (show i ≤ 2000 by omega) (by decide)
      · rw [upd_same, chL_succ, List.map_append, cb_nat]; rfl
    · rw [en] at hD
      refine ⟨D, chL n (min k n + 1), rfl, SqL.of hD, ?_⟩
      rw [chL_sum]
      have e : bs n (min k n + 1) = bs n (k + 1) := by
        by_cases z : k ≤ n
        · rw [Nat.min_eq_left z]
        · rw [Nat.min_eq_right (by omega), bs_all, bs_big (by omega)]
      rw [e]
      exact q H' s2
def spd__law_within (K : PySem.W.Frag) : Nat → Sp
  | 0 => fun _ _ _ _ => False
  | d + 1 => fun vs H Q _ => ∃ n k r : Nat, vs = [.int n, .int k, .int r] ∧ n ≤ d ∧ n ≤ 40 ∧ k ≤ n ∧ r ≤ ch n k ∧ Q (.int (sh (n - k) r)) H
def sp__law_within (K : PySem.W.Frag) : Sp := spd__law_within K 23
abbrev Ok__law_within (P : Program) (w : World) (K : PySem.W.Frag) (mg : Str → Option Value) (base : Heap) (a : Addr) (fd : FuncData) : Prop := FnOk P w K mg base CX0 24 a fd ["n", "k", "r"] (sp__law_within K)
theorem okd__law_within {a__law_within : Addr} {d__law_within : FuncData} {a__law_over : Addr} {d__law_over : FuncData} (D__law_within : Df__law_within K mg a__law_within d__law_within) (D__law_over : Df__law_over K mg a__law_over d__law_over) (G__law_over : Ok__law_over P w K mg base a__law_over d__law_over) (B : Bl mg) : 
    ∀ d, FnOk P w K mg base CX0 (d + 1) a__law_within d__law_within ["n", "k", "r"] (spd__law_within K d)
  | 0 => ⟨fun _ _ _ _ h => h.elim, fun _ _ _ _ _ _ _ _ _ _ _ _ _ h => h.elim⟩
  | d + 1 => by
    have G__law_within := okd__law_within D__law_within D__law_over G__law_over B d
    refine D__law_within.F.ok sc__law_within (fun vs H Q E h => by (obtain ⟨_, _, _, rfl, _⟩ := h; rfl)) (fun cdv A outer s H vs Q E hr h => ?_)
    have hr_law_within : Room (d + 1) _ := hr
    have hr_law_over : Room 1 _ := hr.mono (by omega)
    obtain ⟨n, k, r, rfl, hd, hn, hk, hc, q⟩ := h
    refine ⟨_, (pss_cons (ps_if (pt_cmpR op_eq (pv 2) pe_int (nomark _)) (pss_one (ps_ret pe_int)) pss_nil)
    (pss_cons (ps_if (pt_cmpR op_eq (pv 1) pe_int (nomark _)) (pss_one (ps_ret (pv 0))) pss_nil)
    (pss_cons (ps_set (i := 3) sc__law_within.nd rfl (.inl rfl) (pe_cl D__law_over G__law_over hr_law_over (by rfl) (pa_cons (pe_op op_sub (pv 0) pe_int) (pa_cons (pe_op op_sub (pv 1) pe_int) pa_nil))))
    (pss_cons (ps_if (pt_cmpR op_le (pv 2) (pv 3) (nomark _)) (pss_one (ps_ret (pe_cl D__law_within G__law_within hr_law_within (by rfl) (pa_cons (pe_op op_sub (pv 0) pe_int) (pa_cons (pe_op op_sub (pv 1) pe_int) (pa_cons (pv 2) pa_nil)))))) pss_nil)
    (pss_one (ps_ret (pe_op op_add (pe_cl D__law_over G__law_over hr_law_over (by rfl) (pa_cons (pe_op op_sub (pv 0) pe_int) (pa_cons (pv 1) pa_nil))) (pe_cl D__law_within G__law_within hr_law_within (by rfl) (pa_cons (pe_op op_sub (pv 0) pe_int) (pa_cons (pv 1) (pa_cons (pe_op op_sub (pv 2) (pv 3)) pa_nil))))))))))), ?_⟩
    refine ⟨_, rfl, rfl, _, rfl, if_dec (fun h1 => ?_) (fun h1 => ?_)⟩
    · have r0 : r = 0 := by have := V.int.inj h1; omega
      subst r0
      rw [sh_zero] at q
      exact q
    have r0 : r ≠ 0 := fun z => h1 (by rw [z]; rfl)
    refine next_go (nx_go ?_)
    refine ⟨_, rfl, rfl, _, rfl, if_dec (fun h2 => ?_) (fun h2 => ?_)⟩
    · have k0 : k = 0 := by have := V.int.inj h2; omega
      subst k0
      rw [Nat.sub_zero, wi_end hc (by omega)] at q
      exact ⟨_, rfl, q⟩
    have k0 : k ≠ 0 := fun z => h2 (by rw [z]; rfl)
    refine next_go (nx_go ?_)
    obtain ⟨b, rfl⟩ : ∃ b, k = b + 1 := ⟨k - 1, by omega⟩
    obtain ⟨a, rfl⟩ : ∃ a, n = a + 1 := ⟨n - 1, by omega⟩
    have pa : ((a + 1 : Nat) : Int) - 1 = (a : Int) := by omega
    have pb : ((b + 1 : Nat) : Int) - 1 = (b : Int) := by omega
    refine ⟨_, rfl, _, _, rfl, rfl, _, rfl, _, _, rfl, rfl, _, _, rfl, by omega, by omega, ?_⟩
    rw [pa, pb, cb_nat]
    refine gn_go (nx_go ?_)
    obtain ⟨d, rfl⟩ : ∃ d', d = d' + 1 := ⟨d - 1, by omega⟩
    refine ⟨_, rfl, _, rfl, _, _, rfl, rfl, _, rfl, if_dec (fun h3 => ?_) (fun h3 => ?_)⟩
    · refine ⟨_, rfl, _, _, rfl, rfl, _, rfl, _, _, rfl, rfl, _, rfl, a, b, r, ?_, by omega, by omega, by omega, by omega, ?_⟩
      · show [V.int (((a + 1 : Nat) : Int) - 1), V.int (((b + 1 : Nat) : Int) - 1), V.int r] = _
        rw [pa, pb]
      · rw [show a - b = a + 1 - (b + 1) by omega]; exact q
    · have w := wi_else (n := a) (k := b + 1) (r := r) (by omega) hc (by rw [Nat.add_sub_cancel]; omega)
      rw [Nat.add_sub_cancel] at w
      obtain ⟨w1, w2, w3⟩ := w
      refine next_go (nx_go ?_)
      refine ⟨_, rfl, _, _, rfl, rfl, _, rfl, _, _, rfl, by omega, by omega, ?_⟩
      rw [pa, cb_nat]
      refine ⟨_, rfl, _, _, rfl, rfl, _, rfl, _, rfl, _, rfl, _, _, rfl, rfl, a, b + 1, r - ch a b, ?_, by omega, by omega, w1, w2, _, _, rfl, rfl, ?_⟩
      · show [V.int (((a + 1 : Nat) : Int) - 1), V.int ((b + 1 : Nat) : Int), V.int ((r : Int) - (ch a b : Int))] = _
        rw [pa, show (r : Int) - (ch a b : Int) = ((r - ch a b : Nat) : Int) by omega]
      · rw [w3] at q
        exact q
theorem ok__law_within {a__law_within : Addr} {d__law_within : FuncData} {a__law_over : Addr} {d__law_over : FuncData} (D__law_within : Df__law_within K mg a__law_within d__law_within) (D__law_over : Df__law_over K mg a__law_over d__law_over) (G__law_over : Ok__law_over P w K mg base a__law_over d__law_over) (B : Bl mg) : 
    Ok__law_within P w K mg base a__law_within d__law_within := okd__law_within D__law_within D__law_over G__law_over B 23
def sp__law_close (K : PySem.W.Frag) : Sp := fun vs H Q _ => ∃ n m : Nat, vs = [.int n, .int m] ∧ 1 ≤ n ∧ n ≤ 22 ∧ m ≤ 2 ^ n ∧ ∀ H', Same H H' → Q (.int (cl n m)) H'
abbrev Ok__law_close (P : Program) (w : World) (K : PySem.W.Frag) (mg : Str → Option Value) (base : Heap) (a : Addr) (fd : FuncData) : Prop := FnOk P w K mg base CX0 25 a fd ["n", "m"] (sp__law_close K)
theorem ok__law_close {a__law_close : Addr} {d__law_close : FuncData} {a__law_ball : Addr} {d__law_ball : FuncData} {a__law_within : Addr} {d__law_within : FuncData} (D__law_close : Df__law_close K mg a__law_close d__law_close) (D__law_ball : Df__law_ball K mg a__law_ball d__law_ball) (G__law_ball : Ok__law_ball P w K mg base a__law_ball d__law_ball) (D__law_within : Df__law_within K mg a__law_within d__law_within) (G__law_within : Ok__law_within P w K mg base a__law_within d__law_within) (B : Bl mg) : Ok__law_close P w K mg base a__law_close d__law_close := by
  refine D__law_close.F.ok sc__law_close (fun vs H Q E h => by (repeat obtain ⟨_, h⟩ := h); subst_vars; rfl) (fun cdv A outer s H vs Q E hr h => ?_)
  have hr_law_ball : Room 2 _ := hr.mono (by decide)
  have hr_law_within : Room 24 _ := hr.mono (by decide)
  · obtain ⟨n, m, rfl, hn1, hn, hm, q⟩ := h
    refine ⟨_, (pss_cons (ps_if (pt_cmpR op_eq (pv 1) pe_int (nomark _)) (pss_one (ps_ret pe_int)) pss_nil)
    (pss_cons (ps_set (i := 2) sc__law_close.nd rfl (.inl rfl) pe_int)
    (pss_cons (ps_while PassesOwn.never (PW.pt (pw_and (pt_cmpR op_lt (pv 2) (pv 0) (nomark _)) (pw_and1 (pt_cmpR op_le (pe_cl D__law_ball G__law_ball hr_law_ball (by rfl) (pa_cons (pv 0) (pa_cons (pv 2) pa_nil))) (pv 1) (nomark _)))))
      (pss_one (ps_set (i := 2) sc__law_close.nd rfl (.inl rfl) (pe_op op_add (pv 2) pe_int))))
    (pss_cons (ps_if (pt_cmpR op_le (pe_cl D__law_ball G__law_ball hr_law_ball (by rfl) (pa_cons (pv 0) (pa_cons (pv 2) pa_nil))) (pv 1) (nomark _)) (pss_one (ps_ret (pe_cl D__law_ball G__law_ball hr_law_ball (by rfl) (pa_cons (pv 0) (pa_cons (pv 0) pa_nil))))) pss_nil)
    (pss_one (ps_ret (pe_op op_add (pe_cl D__law_ball G__law_ball hr_law_ball (by rfl) (pa_cons (pv 0) (pa_cons (pv 2) pa_nil))) (pe_cl D__law_within G__law_within hr_law_within (by rfl) (pa_cons (pv 0) (pa_cons (pv 2) (pa_cons (pe_op op_sub (pv 1) (pe_cl D__law_ball G__law_ball hr_law_ball (by rfl) (pa_cons (pv 0) (pa_cons (pe_op op_sub (pv 2) pe_int) pa_nil)))) pa_nil))))))))))), ?_⟩
    refine ⟨_, rfl, rfl, _, rfl, if_dec (fun h1 => ?_) (fun h1 => ?_)⟩
    · have m0 : m = 0 := by have := V.int.inj h1; omega
      subst m0
      rw [cl_zero] at q
      exact q H (same_refl H)
    have m0 : m ≠ 0 := fun z => h1 (by rw [z]; rfl)
    refine next_go (nx_go ?_)
    refine while_go (fun σ H' => ∃ k : Nat, σ = [some (.int n), some (.int m), some (.int k)] ∧ Same H H' ∧ k ≤ n ∧ bs n k ≤ m)
      (fun σ _ => match σ with | [_, _, some (.int k)] => n - k.toNat | _ => 0) (fun σ H' => ∃ k : Nat, σ = [some (.int n), some (.int m), some (.int k)] ∧ Same H H' ∧ k ≤ n ∧ bs n k ≤ m ∧ (k = n ∨ m < bs n (k + 1)))
      ⟨0, rfl, same_refl H, Nat.zero_le _, Nat.zero_le _⟩ (fun σ H' h => ?_) (fun σ H' h => ?_) (fun σ H' Q1 Q2 k1 h => ?_)
    · obtain ⟨k, rfl, s1, hk, hb⟩ := h
      refine ⟨_, rfl, _, rfl, _, _, rfl, rfl, _, rfl, if_dec (fun h2 => ?_) (fun h2 => ⟨k, rfl, s1, hk, hb, .inl (by omega)⟩)⟩
      refine ⟨_, rfl, _, rfl, n, k, rfl, by omega, by omega, fun H2 s2 => ⟨_, rfl, _, _, rfl, rfl, _, rfl, if_dec (fun h3 => ?_) (fun h3 => ⟨k, rfl, s1.trans s2, hk, hb, .inr (by omega)⟩)⟩⟩
      refine ⟨_, rfl, _, _, rfl, rfl, ⟨k + 1, rfl, s1.trans s2, by omega, by omega⟩, ?_⟩
      show n - ((k : Int) + 1).toNat < n - (k : Int).toNat
      omega
    · obtain ⟨k, rfl, s1, hk, hb, hx⟩ := h
      refine ⟨_, rfl, _, rfl, n, k, rfl, by omega, by omega, fun H2 s2 => ⟨_, rfl, _, _, rfl, rfl, _, rfl, if_dec (fun h3 => ?_) (fun h3 => ?_)⟩⟩
      · have ek : k = n := by
          rcases hx with hx | hx
          · exact hx
          · omega
        subst ek
        refine ⟨_, rfl, _, rfl, k, k, rfl, by omega, by omega, fun H3 s3 => ?_⟩
        rw [bs_all]
        have e : cl k m = 2 ^ k := cl_full (by rw [bs_all] at h3; omega)
        rw [e] at q
        exact q H3 ((s1.trans s2).trans s3)
      · have kp : k ≠ 0 := fun z => by
          subst z
          rw [bs_one] at h3
          omega
        have e := cl_in (n := n) (m := m) (k := k) (by omega) hk hb (by omega)
        obtain ⟨j, rfl⟩ : ∃ j, k = j + 1 := ⟨k - 1, by omega⟩
        have pj : ((j + 1 : Nat) : Int) - 1 = (j : Int) := by omega
        refine next_go (nx_go ?_)
        refine ⟨_, rfl, _, rfl, n, j + 1, rfl, by omega, by omega, fun H3 s3 => ?_⟩
        refine ⟨_, rfl, _, rfl, _, rfl, _, rfl, _, rfl, _, _, rfl, rfl, n, j, ?_, by omega, by omega, fun H4 s4 => ?_⟩
        · show [V.int (n : Int), V.int (((j + 1 : Nat) : Int) - 1)] = _
          rw [pj]
        refine ⟨_, _, rfl, rfl, n, j + 1, m - bs n (j + 1), ?_, by omega, by omega, hk, ?_, _, _, rfl, rfl, ?_⟩
        · show [V.int (n : Int), V.int ((j + 1 : Nat) : Int), V.int ((m : Int) - (bs n (j + 1) : Int))] = _
          rw [show (m : Int) - (bs n (j + 1) : Int) = ((m - bs n (j + 1) : Nat) : Int) by omega]
        · rw [bs_succ n (j + 1)] at h3; omega
        · rw [e] at q
          exact q H4 (((s1.trans s2).trans s3).trans s4)
    · obtain ⟨v, e, v2, e2, i, j, f1, f2, k3, e3, h⟩ := h
      refine ⟨v, e, v2, e2, i, j, f1, f2, k3, e3, ?_⟩
      cases k3 with
      | true =>
        obtain ⟨v4, e4, v5, e5, n2, k4, e6, b1, b2, h⟩ := h
        refine ⟨v4, e4, v5, e5, n2, k4, e6, b1, b2, fun H2 s2 => ?_⟩
        obtain ⟨v6, e7, i4, j4, f6, f7, k5, e8, h⟩ := h H2 s2
        exact ⟨v6, e7, i4, j4, f6, f7, k5, e8, k1 _ _ h⟩
      | false => exact k1 _ _ h
def sp__law_steps (K : PySem.W.Frag) : Sp := fun vs H Q _ => ∃ n m t : Nat, vs = [.int n, .int m, .int t] ∧ 1 ≤ n ∧ n ≤ 22 ∧ m ≤ 2 ^ n ∧ t ≤ 100 ∧ ∀ H', Same H H' → Q (.int (st n m t)) H'
abbrev Ok__law_steps (P : Program) (w : World) (K : PySem.W.Frag) (mg : Str → Option Value) (base : Heap) (a : Addr) (fd : FuncData) : Prop := FnOk P w K mg base CX0 26 a fd ["n", "m", "t"] (sp__law_steps K)
theorem ok__law_steps {a__law_steps : Addr} {d__law_steps : FuncData} {a__law_close : Addr} {d__law_close : FuncData} (D__law_steps : Df__law_steps K mg a__law_steps d__law_steps) (D__law_close : Df__law_close K mg a__law_close d__law_close) (G__law_close : Ok__law_close P w K mg base a__law_close d__law_close) (B : Bl mg) : Ok__law_steps P w K mg base a__law_steps d__law_steps := by
  refine D__law_steps.F.ok sc__law_steps (fun vs H Q E h => by (repeat obtain ⟨_, h⟩ := h); subst_vars; rfl) (fun cdv A outer s H vs Q E hr h => ?_)
  have hr_law_close : Room 25 _ := hr.mono (by decide)
  · obtain ⟨n, m, t, rfl, hn1, hn, hm, ht, q⟩ := h
    refine ⟨_, (pss_cons (ps_for PassesOwn.never rfl (pi_range1 (by rfl) B.range (pa_cons (pv 2) pa_nil)) (pg_name (i := 3) sc__law_steps.nd rfl (.inl rfl))
      (pss_one (ps_set (i := 1) sc__law_steps.nd rfl (.inl rfl) (pe_cl D__law_close G__law_close hr_law_close (by rfl) (pa_cons (pv 0) (pa_cons (pv 1) pa_nil))))))
    (pss_one (ps_ret (pv 1)))), ?_⟩
    refine ⟨_, rfl, _, rfl, by omega, by omega, ?_⟩
    refine for_range (lo := 0) (n := (t : Int).toNat) (fun i σ H' => ∃ v, σ = [some (.int n), some (.int (st n m i)), some (.int t), v] ∧ Same H H') ⟨none, rfl, same_refl H⟩ (fun i σ H' hi ⟨v, e1, s1⟩ => ?_) (fun σ H' ⟨v, e1, s1⟩ => ?_)
    · subst e1
      refine ⟨_, rfl, _, rfl, n, st n m i, rfl, hn1, hn, st_le hm i, fun H2 s2 => ?_⟩
      exact ⟨_, rfl, s1.trans s2⟩
    · subst e1
      rw [Int.toNat_natCast]
      exact ⟨_, rfl, q H' s1⟩
end
end K48
namespace K48
open PySem L2 Gk Ca
theorem len13 {α : Type} : ∀ (l : List α), l.length = 13 → ∃ v2 v3 v4 v5 v6 v7 v8 v9 v10 v11 v12 v13 v14, l = [v2, v3, v4, v5, v6, v7, v8, v9, v10, v11, v12, v13, v14]
  | [v2, v3, v4, v5, v6, v7, v8, v9, v10, v11, v12, v13, v14], _ => ⟨v2, v3, v4, v5, v6, v7, v8, v9, v10, v11, v12, v13, v14, rfl⟩
theorem cb_pos (a b : Int) : 0 ≤ cb a b := by unfold cb; split <;> omega
theorem min_r {z : Int} {c : Nat} (h : 0 ≤ z) : ∃ r : Nat, (if (c : Int) < z then (c : Int) else z) = (r : Int) ∧ r ≤ c := by
  by_cases q : (c : Int) < z
  · rw [if_pos q]; exact ⟨c, rfl, Nat.le_refl _⟩
  · rw [if_neg q]; exact ⟨z.toNat, by omega, by omega⟩
theorem min_max {W : Nat} {x : Int} : ∃ m : Nat, (if (W : Int) < (if 0 > x then 0 else x) then (W : Int) else (if 0 > x then 0 else x)) = (m : Int) ∧ m ≤ W := by
  by_cases q : 0 > x
  · rw [if_pos q]
    by_cases z : (W : Int) < 0
    · omega
    · rw [if_neg z]; exact ⟨0, rfl, Nat.zero_le _⟩
  · rw [if_neg q]
    by_cases z : (W : Int) < x
    · rw [if_pos z]; exact ⟨W, rfl, Nat.le_refl _⟩
    · rw [if_neg z]; exact ⟨x.toNat, by omega, by omega⟩
theorem min_le {W : Nat} {x : Int} (h : 0 ≤ x) : ∃ m : Nat, (if (W : Int) < x then (W : Int) else x) = (m : Int) ∧ m ≤ W := by
  by_cases z : (W : Int) < x
  · rw [if_pos z]; exact ⟨W, rfl, Nat.le_refl _⟩
  · rw [if_neg z]; exact ⟨x.toNat, by omega, by omega⟩
theorem ends20 : ∀ (i m : Nat), [0, 1, 21, 1048576][i]? = some m → [0, 21, 211, 1048576][i]? = some (cl 20 m) ∧ m ≤ 2 ^ 20
  | 0, m, h => by cases h; exact ⟨by rw [cl_zero]; rfl, by decide⟩
  | 1, m, h => by
    cases h
    have := @st_ball 20 0 1
    have e : cl 20 (bs 20 1) = bs 20 2 := this
    rw [show bs 20 1 = 1 by decide, show bs 20 2 = 21 by decide] at e
    exact ⟨by rw [e]; rfl, by decide⟩
  | 2, m, h => by
    cases h
    have := @st_ball 20 1 1
    have e : cl 20 (bs 20 2) = bs 20 3 := this
    rw [show bs 20 2 = 21 by decide, show bs 20 3 = 211 by decide] at e
    exact ⟨by rw [e]; rfl, by decide⟩
  | 3, m, h => by cases h; exact ⟨by rw [cl_full (by decide)]; rfl, by decide⟩
  | i + 4, m, h => by simp at h
theorem ch_20 {n k : Nat} (hn : n ≤ 20) : ch n k ≤ 2 ^ 20 := Nat.le_trans (ch_pow n k) (Nat.pow_le_pow_right (by decide) hn)
theorem pow_20 {n : Nat} (hn : n ≤ 20) : 2 ^ n ≤ 2 ^ 20 := Nat.pow_le_pow_right (by decide) hn
theorem sh_64 {n k r : Nat} (hn : n ≤ 20) (hr : r ≤ ch n k) : sh (n - k) r ≤ 2 ^ 26 := by
  have a := sh_le (n - k) r
  have b := ch_20 (k := k) hn
  have c : (n - k) * r ≤ 20 * 2 ^ 20 := Nat.mul_le_mul (by omega) (by omega)
  omega
def sp_law (K : PySem.W.Frag) : Sp := fun vs H Q _ => ∃ (a : Addr) (ns : List Int), vs = [.ref a] ∧ SqL K H a (ns.map V.int) ∧ ns.length ≤ 63 ∧ ∀ H', Q (.bl true) H'
theorem sp_start {K : PySem.W.Frag} {H : Hp} {a : Addr} {ns : List Int} (hl : ns.length ≤ 63) (hS : SqL K H a (ns.map V.int)) : sp_law K [.ref a] H (fun v _ => v = .bl true) E0 := ⟨a, ns, rfl, hS, hl, fun _ => rfl⟩
section
variable {P : Program} {w : World} {K : PySem.W.Frag} {mg : Str → Option Value} {base : Heap}
abbrev Ok_law (P : Program) (w : World) (K : PySem.W.Frag) (mg : Str → Option Value) (base : Heap) (a : Addr) (fd : FuncData) : Prop := FnG P w K mg base 27 a fd ["script"] (sp_law K)
theorem ok_law {a_law : Addr} {d_law : FuncData} {a_ball_count : Addr} {d_ball_count : FuncData} {a_count_within : Addr} {d_count_within : FuncData} {a_count_close : Addr} {d_count_close : FuncData} {a_count_by_steps : Addr} {d_count_by_steps : FuncData} {a_most_far_off : Addr} {d_most_far_off : FuncData} {a_shadow_number : Addr} {d_shadow_number : FuncData} {a_least_many : Addr} {d_least_many : FuncData} {a_lot_over : Addr} {d_lot_over : FuncData} {a_shadow_up_bound : Addr} {d_shadow_up_bound : FuncData} {a__law_source : Addr} {d__law_source : FuncData} {a__law_pick : Addr} {d__law_pick : FuncData} {a__law_of : Addr} {d__law_of : FuncData} {a__law_over : Addr} {d__law_over : FuncData} {a__law_ball : Addr} {d__law_ball : FuncData} {a__law_within : Addr} {d__law_within : FuncData} {a__law_close : Addr} {d__law_close : FuncData} {a__law_steps : Addr} {d__law_steps : FuncData} (D_law : Df_law K mg a_law d_law) (D_ball_count : Df_ball_count K mg a_ball_count d_ball_count) (G_ball_count : Ok_ball_count P w K mg base a_ball_count d_ball_count) (D_count_within : Df_count_within K mg a_count_within d_count_within) (G_count_within : Ok_count_within P w K mg base a_count_within d_count_within) (D_count_close : Df_count_close K mg a_count_close d_count_close) (G_count_close : Ok_count_close P w K mg base a_count_close d_count_close) (D_count_by_steps : Df_count_by_steps K mg a_count_by_steps d_count_by_steps) (G_count_by_steps : Ok_count_by_steps P w K mg base a_count_by_steps d_count_by_steps) (D_most_far_off : Df_most_far_off K mg a_most_far_off d_most_far_off) (G_most_far_off : Ok_most_far_off P w K mg base a_most_far_off d_most_far_off) (D_shadow_number : Df_shadow_number K mg a_shadow_number d_shadow_number) (G_shadow_number : Ok_shadow_number P w K mg base a_shadow_number d_shadow_number) (D_least_many : Df_least_many K mg a_least_many d_least_many) (G_least_many : Ok_least_many P w K mg base a_least_many d_least_many) (D_lot_over : Df_lot_over K mg a_lot_over d_lot_over) (G_lot_over : Ok_lot_over P w K mg base a_lot_over d_lot_over) (D_shadow_up_bound : Df_shadow_up_bound K mg a_shadow_up_bound d_shadow_up_bound) (G_shadow_up_bound : Ok_shadow_up_bound P w K mg base a_shadow_up_bound d_shadow_up_bound) (D__law_source : Df__law_source K mg a__law_source d__law_source) (G__law_source : Ok__law_source P w K mg base a__law_source d__law_source) (D__law_pick : Df__law_pick K mg a__law_pick d__law_pick) (G__law_pick : Ok__law_pick P w K mg base a__law_pick d__law_pick) (D__law_of : Df__law_of K mg a__law_of d__law_of) (G__law_of : Ok__law_of P w K mg base a__law_of d__law_of) (D__law_over : Df__law_over K mg a__law_over d__law_over) (G__law_over : Ok__law_over P w K mg base a__law_over d__law_over) (D__law_ball : Df__law_ball K mg a__law_ball d__law_ball) (G__law_ball : Ok__law_ball P w K mg base a__law_ball d__law_ball) (D__law_within : Df__law_within K mg a__law_within d__law_within) (G__law_within : Ok__law_within P w K mg base a__law_within d__law_within) (D__law_close : Df__law_close K mg a__law_close d__law_close) (G__law_close : Ok__law_close P w K mg base a__law_close d__law_close) (D__law_steps : Df__law_steps K mg a__law_steps d__law_steps) (G__law_steps : Ok__law_steps P w K mg base a__law_steps d__law_steps) (B : Bl mg) : Ok_law P w K mg base a_law d_law := by
  refine fnG_of D_law.F sc_law (fun vs H Q E h => by (repeat obtain ⟨_, h⟩ := h); subst_vars; rfl) (fun cdv A outer s H vs Q E hg hr h => ?_)
  have hrball_count : Room 2 _ := hr.mono (by decide)
  have hrcount_within : Room 2 _ := hr.mono (by decide)
  have hrcount_close : Room 3 _ := hr.mono (by decide)
  have hrcount_by_steps : Room 4 _ := hr.mono (by decide)
  have hrmost_far_off : Room 5 _ := hr.mono (by decide)
  have hrshadow_number : Room 4 _ := hr.mono (by decide)
  have hrleast_many : Room 4 _ := hr.mono (by decide)
  have hrlot_over : Room 1 _ := hr.mono (by decide)
  have hrshadow_up_bound : Room 5 _ := hr.mono (by decide)
  have hr_law_source : Room 1 _ := hr.mono (by decide)
  have hr_law_pick : Room 1 _ := hr.mono (by decide)
  have hr_law_of : Room 2 _ := hr.mono (by decide)
  have hr_law_over : Room 1 _ := hr.mono (by decide)
  have hr_law_ball : Room 2 _ := hr.mono (by decide)
  have hr_law_within : Room 24 _ := hr.mono (by decide)
  have hr_law_close : Room 25 _ := hr.mono (by decide)
  have hr_law_steps : Room 26 _ := hr.mono (by decide)
  · obtain ⟨a, ns, rfl, hS, hlen, fin⟩ := h
    refine ⟨_, (pss_cons (ps_set (i := 1) sc_law.nd rfl (.inl rfl) (pe_cl D__law_source G__law_source hr_law_source (by rfl) (pa_cons (pv 0) pa_nil)))
    (pss_cons (ps_for PassesOwn.never rfl (pi_range1 (by rfl) B.range (pa_cons pe_int pa_nil)) (pg_name (i := 2) sc_law.nd rfl (.inl rfl))
      (pss_cons (ps_set (i := 3) sc_law.nd rfl (.inl rfl) (pe_op op_add pe_int (pe_cl D__law_pick G__law_pick hr_law_pick (by rfl) (pa_cons (pv 1) (pa_cons pe_int pa_nil)))))
      (pss_cons (ps_par (i := 4) (j := 5) (by rfl) sc_law.nd rfl rfl (by decide) rfl rfl (pa_cons (pe_cl D__law_ball G__law_ball hr_law_ball (by rfl) (pa_cons (pv 3) (pa_cons (pv 3) pa_nil))) (pa_cons (pe_cl D__law_pick G__law_pick hr_law_pick (by rfl) (pa_cons (pv 1) (pa_cons (pv 3) pa_nil))) pa_nil)) (by rfl))
      (pss_cons (ps_set (i := 6) sc_law.nd rfl (.inl rfl) (pe_cl D__law_of G__law_of hr_law_of (by rfl) (pa_cons (pv 1) (pa_cons (pe_lst (pa_cons (pe_cl D__law_pick G__law_pick hr_law_pick (by rfl) (pa_cons (pv 1) (pa_cons (pe_op op_add (pe_cl D__law_over G__law_over hr_law_over (by rfl) (pa_cons (pv 3) (pa_cons (pv 5) pa_nil))) pe_int) pa_nil))) (pa_cons (pe_cl D__law_over G__law_over hr_law_over (by rfl) (pa_cons (pv 3) (pa_cons (pv 5) pa_nil))) (pa_cons pe_int (pa_cons pe_int (pa_cons (pe_cl D__law_over G__law_over hr_law_over (by rfl) (pa_cons (pe_op op_sub (pv 3) pe_int) (pa_cons (pe_op op_sub (pv 5) pe_int) pa_nil))) pa_nil)))))) pa_nil))))
      (pss_cons (ps_set (i := 6) sc_law.nd rfl (.inl rfl) (pe_callB (call_min2 rfl) (by rfl) B.min (by decide +kernel) (pa_cons (pv 6) (pa_cons (pe_cl D__law_over G__law_over hr_law_over (by rfl) (pa_cons (pv 3) (pa_cons (pv 5) pa_nil))) pa_nil))))
      (pss_cons (ps_set (i := 7) sc_law.nd rfl (.inl rfl) (pe_cl D_count_within G_count_within hrcount_within (by rfl) (pa_cons (pv 3) (pa_cons (pv 5) (pa_cons (pv 6) pa_nil)))))
      (pss_cons (ps_if (PW.pt (pw_or (pt_cmpR op_ne (pe_callB (cr_repr hg hr.units) (by rfl) B.repr (by decide +kernel) (pa_cons (pe_lst (pa_cons (pv 7) (pa_cons (pe_cl D_ball_count G_ball_count hrball_count (by rfl) (pa_cons (pv 3) (pa_cons (pv 5) pa_nil))) pa_nil))) pa_nil)) (pe_callB (cr_repr hg hr.units) (by rfl) B.repr (by decide +kernel) (pa_cons (pe_lst (pa_cons (pe_cl D__law_within G__law_within hr_law_within (by rfl) (pa_cons (pv 3) (pa_cons (pv 5) (pa_cons (pv 6) pa_nil)))) (pa_cons (pe_cl D__law_ball G__law_ball hr_law_ball (by rfl) (pa_cons (pv 3) (pa_cons (pv 5) pa_nil))) pa_nil))) pa_nil)) (nomark _)) (pw_or1 (pt_cmpR op_ne (pe_cl D_lot_over G_lot_over hrlot_over (by rfl) (pa_cons (pv 3) (pa_cons (pv 5) pa_nil))) (pe_cl D__law_over G__law_over hr_law_over (by rfl) (pa_cons (pv 3) (pa_cons (pv 5) pa_nil))) (nomark _))))) (pss_one (ps_ret pe_bl)) pss_nil)
      (pss_cons (ps_if (PW.pt (pw_and (pt_chain op_lt op_lt pe_int (pe_op op_sub (pv 3) (pv 5)) pe_int) (pw_and1 (pt_cmpR op_ne (pe_cl D_shadow_number G_shadow_number hrshadow_number (by rfl) (pa_cons (pv 6) (pa_cons (pe_op op_sub (pv 3) (pv 5)) pa_nil))) (pv 7) (nomark _))))) (pss_one (ps_ret pe_bl)) pss_nil)
      (pss_cons (ps_if (PW.pt (pw_and (pt_chain op_lt op_lt pe_int (pe_op op_sub (pv 3) (pv 5)) pe_int) (pw_and (pt_chain op_lt op_lt pe_int (pv 5) pe_int) (pw_and (pt_cmpR op_lt (pv 3) pe_int (nomark _)) (pw_and (pt_chain op_lt op_lt pe_int (pv 6) pe_int) (pw_and1 (pt_cmpR op_ne (pe_cl D_shadow_up_bound G_shadow_up_bound hrshadow_up_bound (by rfl) (pa_cons (pv 3) (pa_cons (pv 6) (pa_cons (pv 5) pa_nil)))) (pv 7) (nomark _)))))))) (pss_one (ps_ret pe_bl)) pss_nil)
      (pss_cons (ps_set (i := 8) sc_law.nd rfl (.inl rfl) (pe_op op_add (pe_cl D__law_ball G__law_ball hr_law_ball (by rfl) (pa_cons (pv 3) (pa_cons (pv 5) pa_nil))) (pe_cl D__law_of G__law_of hr_law_of (by rfl) (pa_cons (pv 1) (pa_cons (pe_lst (pa_cons pe_int (pa_cons pe_int (pa_cons (pe_un un_neg pe_int) (pa_cons pe_int (pa_cons (pe_un un_neg pe_int) pa_nil)))))) pa_nil)))))
      (pss_cons (ps_set (i := 9) sc_law.nd rfl (.inl rfl) (pe_cl D__law_of G__law_of hr_law_of (by rfl) (pa_cons (pv 1) (pa_cons (pe_lst (pa_cons (pe_cl D__law_pick G__law_pick hr_law_pick (by rfl) (pa_cons (pv 1) (pa_cons (pe_op op_add (pv 4) pe_int) pa_nil))) (pa_cons (pe_callB (call_min2 rfl) (by rfl) B.min (by decide +kernel) (pa_cons (pe_callB (call_max2 rfl) (by rfl) B.max (by decide +kernel) (pa_cons (pv 8) (pa_cons pe_int pa_nil))) (pa_cons (pv 4) pa_nil))) (pa_cons (pv 4) (pa_cons (pe_op op_sub (pv 4) pe_int) (pa_cons pe_int (pa_cons pe_int (pa_cons pe_int pa_nil)))))))) pa_nil))))
      (pss_cons (ps_par (i := 10) (j := 11) (by rfl) sc_law.nd rfl rfl (by decide) rfl rfl (pa_cons (pe_cl D__law_close G__law_close hr_law_close (by rfl) (pa_cons (pv 3) (pa_cons (pv 9) pa_nil))) (pa_cons (pe_cl D__law_pick G__law_pick hr_law_pick (by rfl) (pa_cons (pv 1) (pa_cons pe_int pa_nil))) pa_nil)) (by rfl))
      (pss_cons (ps_if (PW.pt (pw_or (pt_cmpR op_ne (pe_callB (cr_repr hg hr.units) (by rfl) B.repr (by decide +kernel) (pa_cons (pe_cl D_count_close G_count_close hrcount_close (by rfl) (pa_cons (pv 3) (pa_cons (pv 9) pa_nil))) pa_nil)) (pe_callB (cr_repr hg hr.units) (by rfl) B.repr (by decide +kernel) (pa_cons (pv 10) pa_nil)) (nomark _)) (pw_or (pt_cmpR op_lt (pv 10) (pv 9) (nomark _)) (pw_or1 (pt_cmpR op_gt (pv 10) (pv 4) (nomark _)))))) (pss_one (ps_ret pe_bl)) pss_nil)
      (pss_cons (ps_if (pt_cmpR op_ne (pe_callB (cr_repr hg hr.units) (by rfl) B.repr (by decide +kernel) (pa_cons (pe_cl D_count_by_steps G_count_by_steps hrcount_by_steps (by rfl) (pa_cons (pv 3) (pa_cons (pv 9) (pa_cons (pv 11) pa_nil)))) pa_nil)) (pe_callB (cr_repr hg hr.units) (by rfl) B.repr (by decide +kernel) (pa_cons (pe_cl D__law_steps G__law_steps hr_law_steps (by rfl) (pa_cons (pv 3) (pa_cons (pv 9) (pa_cons (pv 11) pa_nil)))) pa_nil)) (nomark _)) (pss_one (ps_ret pe_bl)) pss_nil)
      (pss_cons (ps_set (i := 12) sc_law.nd rfl (.inl rfl) (pe_op op_sub (pv 4) (pe_cl D__law_steps G__law_steps hr_law_steps (by rfl) (pa_cons (pv 3) (pa_cons (pv 9) (pa_cons (pv 11) pa_nil))))))
      (pss_cons (ps_if (pt_cmpR op_ne (pe_callB (cr_repr hg hr.units) (by rfl) B.repr (by decide +kernel) (pa_cons (pe_cl D_most_far_off G_most_far_off hrmost_far_off (by rfl) (pa_cons (pv 3) (pa_cons (pv 9) (pa_cons (pv 11) pa_nil)))) pa_nil)) (pe_callB (cr_repr hg hr.units) (by rfl) B.repr (by decide +kernel) (pa_cons (pv 12) pa_nil)) (nomark _)) (pss_one (ps_ret pe_bl)) pss_nil)
      (pss_cons (ps_if (PW.pt (pw_or (pt_cmpR op_lt (pe_cl D_most_far_off G_most_far_off hrmost_far_off (by rfl) (pa_cons (pv 3) (pa_cons (pv 12) (pa_cons (pv 11) pa_nil)))) (pv 9) (nomark _)) (pw_or1 (pt_cmpR op_ne (pe_cl D_most_far_off G_most_far_off hrmost_far_off (by rfl) (pa_cons (pv 3) (pa_cons (pe_cl D_most_far_off G_most_far_off hrmost_far_off (by rfl) (pa_cons (pv 3) (pa_cons (pv 12) (pa_cons (pv 11) pa_nil)))) (pa_cons (pv 11) pa_nil)))) (pv 12) (nomark _))))) (pss_one (ps_ret pe_bl)) pss_nil)
      (pss_cons (ps_if (pt_cmpR op_ne (pe_cl D_count_by_steps G_count_by_steps hrcount_by_steps (by rfl) (pa_cons (pv 3) (pa_cons (pe_cl D__law_ball G__law_ball hr_law_ball (by rfl) (pa_cons (pv 3) (pa_cons (pv 5) pa_nil))) (pa_cons (pv 11) pa_nil)))) (pe_cl D__law_ball G__law_ball hr_law_ball (by rfl) (pa_cons (pv 3) (pa_cons (pe_op op_add (pv 5) (pv 11)) pa_nil))) (nomark _)) (pss_one (ps_ret pe_bl)) pss_nil)
      (pss_cons (ps_set (i := 13) sc_law.nd rfl (.inl rfl) (pe_cl D__law_of G__law_of hr_law_of (by rfl) (pa_cons (pv 1) (pa_cons (pe_lst (pa_cons (pe_cl D__law_pick G__law_pick hr_law_pick (by rfl) (pa_cons (pv 1) (pa_cons (pe_op op_add (pv 4) pe_int) pa_nil))) (pa_cons (pv 10) (pa_cons (pe_callB (call_min2 rfl) (by rfl) B.min (by decide +kernel) (pa_cons (pe_op op_add (pv 10) pe_int) (pa_cons (pv 4) pa_nil))) (pa_cons pe_int (pa_cons pe_int (pa_cons (pv 4) pa_nil))))))) pa_nil))))
      (pss_cons (ps_set (i := 14) sc_law.nd rfl (.inl rfl) (pe_cl D_least_many G_least_many hrleast_many (by rfl) (pa_cons (pv 3) (pa_cons (pv 13) pa_nil))))
      (pss_one (ps_if (PW.pt (pw_or (pt_cmpR op_lt (pe_cl D__law_close G__law_close hr_law_close (by rfl) (pa_cons (pv 3) (pa_cons (pv 14) pa_nil))) (pv 13) (nomark _)) (pw_or1 (PW.pt (pw_and (pt_cmpR op_gt (pv 14) pe_int (nomark _)) (pw_and1 (pt_cmpR op_ge (pe_cl D__law_close G__law_close hr_law_close (by rfl) (pa_cons (pv 3) (pa_cons (pe_op op_sub (pv 14) pe_int) pa_nil))) (pv 13) (nomark _)))))))) (pss_one (ps_ret pe_bl)) pss_nil))))))))))))))))))))))
    (pss_one (ps_ret (pe_cmpR (op_eqD hr.units) (pe_lc (own := [("m", 9)]) (g := (gName 9)) (tt := tYes) rfl sc_law.nd (pi_tup (pe_tup (pa_cons pe_int (pa_cons pe_int (pa_cons pe_int (pa_cons (pe_op op_pow pe_int pe_int) pa_nil)))))) (blkOk_by (N := N_law) (sc := defScope s_law) (by decide +kernel)) (fun _ _ _ _ _ => (pg_name (i := 9) sc_law.nd rfl (.inl rfl))) (fun _ _ _ _ _ => pts_nil) (fun _ _ _ _ _ => (pe_cl D_count_close G_count_close hrcount_close (by rfl) (pa_cons pe_int (pa_cons (pv 9) pa_nil))))) (pe_lst (pa_cons pe_int (pa_cons pe_int (pa_cons pe_int (pa_cons (pe_op op_pow pe_int pe_int) pa_nil))))) (nomark _)))))), ?_⟩
    refine ⟨_, rfl, a, ns, rfl, hS, by omega, fun H1 p c s1 np nc src => ?_⟩
    refine ⟨_, rfl, by decide, by decide, ?_⟩
    refine for_range (lo := 0) (n := (6 : Int).toNat) (fun _ σ H' => ∃ l : List (Option V), σ = some (.ref a) :: some (.ref p) :: l ∧ l.length = 13 ∧ Src H' p c) ⟨_, rfl, rfl, src⟩ (fun i σ H' hi ⟨l, e1, el, src⟩ => ?_) (fun σ H' ⟨l, e1, el, src⟩ => ?_)
    · obtain ⟨v2, v3, v4, v5, v6, v7, v8, v9, v10, v11, v12, v13, v14, rfl⟩ := len13 l el
      subst e1
      refine seq_cut (t1 := tAsg _ _) (fun σ' H' => ∃ (n : Nat) (v2 : Option V), σ' = [some (.ref a), some (.ref p), v2, some (.int (n : Int)), v4, v5, v6, v7, v8, v9, v10, v11, v12, v13, v14] ∧ 8 ≤ n ∧ n ≤ 20 ∧ Src H' p c) (fun σ' H' h => ?_) (fun rest => ?_)
      · clear src
        obtain ⟨n, v2, rfl, hn8, hn, src⟩ := h
        have p20 := pow_20 hn
        have p2 : 2 ^ 8 ≤ 2 ^ n := Nat.pow_le_pow_right (by decide) hn8
        refine ⟨_, rfl, _, rfl, n, n, rfl, by omega, by omega, fun H2 s2 => ⟨_, rfl, _, rfl, p, c, n, rfl, by omega, src.same s2, fun H3 k b3 src3 k0 kl => ⟨_, _, rfl, ?_⟩⟩⟩
        obtain ⟨k, rfl⟩ := Int.eq_ofNat_of_zero_le k0
        have hk : k < n := by omega
        have c20 := ch_20 (k := k) hn
        rw [bs_all]
        clear src s2 b3 k0 kl
        refine ⟨_, rfl, _, rfl, _, rfl, _, rfl, _, _, rfl, by omega, by omega, _, _, rfl, rfl, p, c, _, rfl, by rw [cb_nat]; omega, src3, fun H4 r4 b4 src4 r40 r4l => ?_⟩
        refine ⟨_, rfl, _, rfl, _, _, rfl, by omega, by omega, ?_⟩
        refine ⟨_, rfl, _, _, rfl, rfl, _, rfl, _, _, rfl, rfl, _, _, rfl, by omega, by omega, ?_⟩
        refine ⟨by show 5 ≤ sizeLine; decide, fun L nL => ?_⟩
        obtain ⟨nLp, nLc⟩ := src4.new nL
        refine ⟨p, c, L, _, rfl, SqL.of upd_same, List.cons_ne_nil _ _, by show 5 < 2 ^ 50; decide, fun H' b => SqL.of (b _ _ nLp nLc upd_same), src4.same (same_new nL), fun H5 x b5 src5 hx => ?_⟩
        obtain ⟨z, rfl, hz⟩ : ∃ z : Int, x = .int z ∧ 0 ≤ z := by
          simp only [List.cons_append, List.nil_append, List.mem_cons, List.not_mem_nil, or_false] at hx
          rcases hx with e | e | e | e | e
          · exact ⟨_, e, r40⟩
          · exact ⟨_, e, cb_pos _ _⟩
          · exact ⟨_, e, by decide⟩
          · exact ⟨_, e, by decide⟩
          · exact ⟨_, e, cb_pos _ _⟩
        clear hx b5 nL nLp nLc src4 b4 src3
        refine gn_go (nx_go ?_)
        refine ⟨_, rfl, _, rfl, _, rfl, _, _, rfl, by omega, by omega, _, _, rfl, ?_⟩
        rw [cb_nat]
        obtain ⟨r, er, hr⟩ := min_r (c := ch n k) hz
        rw [er]
        clear er r40 r4l
        refine gn_go (nx_go ?_)
        have sb := sh_64 (k := k) hn hr
        have bb := bs_le n (k + 1)
        have rp := (sm_lst (sm_ints (ns := [(sh (n - k) r : Int), (bs n (k + 1) : Int)]) (by
          intro i hi
          rcases List.mem_cons.mp hi with e | e
          · subst e; omega
          · rw [List.mem_singleton.mp e]; omega))).rp (by decide) (by show (68 * 2 + 2 : Nat) ≤ 16000000; decide)
        refine ⟨_, rfl, _, rfl, _, rfl, n, k, r, rfl, by omega, by omega, .inr ⟨by omega, hr⟩, ?_⟩
        refine gn_go (nx_go ?_)
        refine seq_cut (t1 := tIfS _ _ _) (fun σ' H' => σ' = [some (.ref a), some (.ref p), v2, some (.int (n : Int)), some (.int ((2 ^ n : Nat) : Int)), some (.int (k : Int)), some (.int (r : Int)), some (.int (sh (n - k) r : Int)), v8, v9, v10, v11, v12, v13, v14] ∧ Src H' p c) (fun σ' H' h => ?_) (fun rest => ?_)
        · clear src5
          obtain ⟨rfl, src⟩ := h
          refine seq_cut (t1 := tIfS _ _ _) (fun σ' H' => σ' = [some (.ref a), some (.ref p), v2, some (.int (n : Int)), some (.int ((2 ^ n : Nat) : Int)), some (.int (k : Int)), some (.int (r : Int)), some (.int (sh (n - k) r : Int)), v8, v9, v10, v11, v12, v13, v14] ∧ Src H' p c) (fun σ' H' h => ?_) (fun rest => ?_)
          · clear src
            obtain ⟨rfl, src⟩ := h
            refine seq_cut (t1 := tIfS _ _ _) (fun σ' H' => σ' = [some (.ref a), some (.ref p), v2, some (.int (n : Int)), some (.int ((2 ^ n : Nat) : Int)), some (.int (k : Int)), some (.int (r : Int)), some (.int (sh (n - k) r : Int)), v8, v9, v10, v11, v12, v13, v14] ∧ Src H' p c) (fun σ' H' h => ?_) (fun rest => ?_)
            · clear src
              obtain ⟨rfl, src⟩ := h
              refine ⟨_, rfl, _, rfl, n, k, rfl, by omega, by omega, fun H2 s2 => ?_⟩
              refine ⟨_, rfl, _, rfl, _, rfl, by show 5 ≤ sizeLine; decide, fun L nL => ?_⟩
              have src2 := src.same s2
              obtain ⟨nLp, nLc⟩ := src2.new nL
              refine ⟨p, c, L, _, rfl, SqL.of upd_same, List.cons_ne_nil _ _, by show 5 < 2 ^ 50; decide, fun H' b => SqL.of (b _ _ nLp nLc upd_same), src2.same (same_new nL), fun H3 x b3 src3 hx => ?_⟩
              obtain ⟨y, rfl⟩ : ∃ y : Int, x = .int y := by
                simp only [List.cons_append, List.nil_append, List.mem_cons, List.not_mem_nil, or_false] at hx
                rcases hx with e | e | e | e | e <;> exact ⟨_, e⟩
              refine ⟨_, _, rfl, rfl, ?_⟩
              refine gn_go (nx_go ?_)
              clear b3 nL nLp nLc src2 src s2 hx
              refine ⟨_, rfl, _, rfl, _, rfl, _, _, rfl, rfl, p, c, _, rfl, by omega, src3, fun H4 r4 b4 src4 r40 r4l => ?_⟩
              refine ⟨_, rfl, _, _, rfl, _, rfl, _, _, rfl, ?_⟩
              refine ⟨_, rfl, _, rfl, _, _, rfl, rfl, by show 7 ≤ sizeLine; decide, fun L nL => ?_⟩
              obtain ⟨nLp, nLc⟩ := src4.new nL
              refine ⟨p, c, L, _, rfl, SqL.of upd_same, List.cons_ne_nil _ _, by show 7 < 2 ^ 50; decide, fun H' b => SqL.of (b _ _ nLp nLc upd_same), src4.same (same_new nL), fun H5 x b5 src5 hx => ?_⟩
              obtain ⟨m, rfl, hm⟩ : ∃ m : Nat, x = .int m ∧ m ≤ 2 ^ n := by
                simp only [List.cons_append, List.nil_append, List.mem_cons, List.not_mem_nil, or_false] at hx
                rcases hx with e | e | e | e | e | e | e
                · exact ⟨r4.toNat, by rw [e, show ((r4.toNat : Nat) : Int) = r4 by omega], by omega⟩
                · obtain ⟨q, eq, hq⟩ := min_max (W := 2 ^ n) (x := ((bs n (k + 1) : Nat) : Int) + y)
                  exact ⟨q, by rw [e]; exact congrArg V.int eq, hq⟩
                · exact ⟨2 ^ n, e, Nat.le_refl _⟩
                · exact ⟨2 ^ n - 1, by rw [e, show ((2 ^ n - 1 : Nat) : Int) = ((2 ^ n : Nat) : Int) - 1 by omega], by omega⟩
                · exact ⟨0, e, by omega⟩
                · exact ⟨1, e, by omega⟩
                · exact ⟨2, e, by omega⟩
              clear hx b5 nL nLp nLc src4 b4 src3 r40 r4l
              refine gn_go (nx_go ?_)
              have cge := cl_ge hm
              have cle := cl_le n m
              refine ⟨_, rfl, _, rfl, n, m, rfl, by omega, by omega, hm, fun H6 s6 => ⟨_, rfl, p, c, 9, rfl, by decide, src5.same s6, fun H7 t b7 src7 t0 tl => ⟨_, _, rfl, ?_⟩⟩⟩
              obtain ⟨t, rfl⟩ := Int.eq_ofNat_of_zero_le t0
              have ht : t ≤ 8 := by omega
              have stl := st_le hm t
              clear src5 s6 b7 t0 tl
              refine gn_go ?_
              refine gn_go ?_
              refine nx_go ?_
              have rpc := (sm_int (i := (cl n m : Int)) (by omega)).rp (by decide) (by decide)
              have rps := (sm_int (i := (st n m t : Int)) (by omega)).rp (by decide) (by decide)
              have rpf := (sm_int (i := ((2 ^ n - st n m t : Nat) : Int)) (by omega)).rp (by decide) (by decide)
              refine seq_cut (t1 := tIfS _ _ _) (fun σ' H' => ∃ v6 v7 v8 : Option V, σ' = [some (.ref a), some (.ref p), v2, some (.int (n : Int)), some (.int ((2 ^ n : Nat) : Int)), some (.int (k : Int)), v6, v7, v8, some (.int (m : Int)), some (.int (cl n m : Int)), some (.int (t : Int)), v12, v13, v14] ∧ Src H' p c) (fun σ' H' h => ?_) (fun rest => ?_)
              · clear src7
                obtain ⟨v6, v7, v8, rfl, src⟩ := h
                refine seq_cut (t1 := tIfS _ _ _) (fun σ' H' => σ' = [some (.ref a), some (.ref p), v2, some (.int (n : Int)), some (.int ((2 ^ n : Nat) : Int)), some (.int (k : Int)), v6, v7, v8, some (.int (m : Int)), some (.int (cl n m : Int)), some (.int (t : Int)), v12, v13, v14] ∧ Src H' p c) (fun σ' H' h => ?_) (fun rest => ?_)
                · clear src
                  obtain ⟨rfl, src⟩ := h
                  refine seq_cut (t1 := tAsg _ _) (fun σ' H' => σ' = [some (.ref a), some (.ref p), v2, some (.int (n : Int)), some (.int ((2 ^ n : Nat) : Int)), some (.int (k : Int)), v6, v7, v8, some (.int (m : Int)), some (.int (cl n m : Int)), some (.int (t : Int)), some (.int ((2 ^ n - st n m t : Nat) : Int)), v13, v14] ∧ Src H' p c) (fun σ' H' h => ?_) (fun rest => ?_)
                  · clear src
                    obtain ⟨rfl, src⟩ := h
                    refine ⟨_, rfl, _, rfl, _, rfl, n, m, t, rfl, by omega, hm, by omega, fun H8 s8 => ⟨_, _, rfl, .int _, rpf.1, rpf.2.1, rpf.2.2, _, rfl, _, _, rfl, .int _, rpf.1, rpf.2.1, rpf.2.2, rfl, _, rfl, if_ne_same rfl (next_go (nx_go ?_))⟩⟩
                    replace src := src.same s8
                    clear s8
                    have f2 := far_back (t := t) hm
                    have f3 := far_three (t := t) hm
                    generalize hF : 2 ^ n - st n m t = F at *
                    have hFl : F ≤ 2 ^ n := by omega
                    refine ⟨_, rfl, _, rfl, _, rfl, n, F, t, rfl, by omega, hFl, by omega, fun H8 s8 => ⟨_, rfl, _, _, rfl, rfl, _, rfl, if_dec (fun h => by omega) (fun _ => ?_)⟩⟩
                    refine ⟨_, rfl, _, rfl, _, rfl, _, rfl, n, F, t, rfl, by omega, hFl, by omega, fun H9 s9 => ⟨_, rfl, n, 2 ^ n - st n F t, t, rfl, by omega, by omega, by omega, fun H10 s10 => ⟨_, rfl, rfl, _, rfl, if_ne_same (by rw [f3]) (next_go (nx_go ?_))⟩⟩⟩
                    replace src := ((src.same s8).same s9).same s10
                    clear s8 s9 s10
                    refine ⟨_, rfl, _, rfl, _, rfl, n, k, rfl, by omega, by omega, fun H8 s8 => ⟨_, rfl, n, bs n (k + 1), t, rfl, by omega, bs_le n (k + 1), by omega, fun H9 s9 => ?_⟩⟩
                    refine ⟨_, rfl, _, rfl, _, rfl, _, _, rfl, rfl, n, k + t, rfl, by omega, by omega, fun H10 s10 => ⟨rfl, _, rfl, if_ne_same (by rw [st_ball]) (next_go (nx_go ?_))⟩⟩
                    replace src := ((src.same s8).same s9).same s10
                    clear s8 s9 s10
                    refine ⟨_, rfl, _, rfl, _, rfl, _, _, rfl, rfl, p, c, _, rfl, by omega, src, fun H4 r4 b4 src4 r40 r4l => ?_⟩
                    refine ⟨_, rfl, _, rfl, _, _, rfl, rfl, _, rfl, _, _, rfl, ?_⟩
                    refine ⟨_, rfl, by show 6 ≤ sizeLine; decide, fun L nL => ?_⟩
                    obtain ⟨nLp, nLc⟩ := src4.new nL
                    refine ⟨p, c, L, _, rfl, SqL.of upd_same, List.cons_ne_nil _ _, by show 6 < 2 ^ 50; decide, fun H' b => SqL.of (b _ _ nLp nLc upd_same), src4.same (same_new nL), fun H5 x b5 src5 hx => ?_⟩
                    obtain ⟨need, rfl, hneed⟩ : ∃ need : Nat, x = .int need ∧ need ≤ 2 ^ n := by
                      simp only [List.cons_append, List.nil_append, List.mem_cons, List.not_mem_nil, or_false] at hx
                      rcases hx with e | e | e | e | e | e
                      · exact ⟨r4.toNat, by rw [e, show ((r4.toNat : Nat) : Int) = r4 by omega], by omega⟩
                      · exact ⟨cl n m, e, cle⟩
                      · obtain ⟨q, eq, hq⟩ := min_le (W := 2 ^ n) (x := ((cl n m : Nat) : Int) + 1) (by omega)
                        exact ⟨q, by rw [e]; exact congrArg V.int eq, hq⟩
                      · exact ⟨0, e, by omega⟩
                      · exact ⟨1, e, by omega⟩
                      · exact ⟨2 ^ n, e, Nat.le_refl _⟩
                    clear hx b5 nL nLp nLc src4 b4 r40 r4l src
                    refine gn_go (nx_go ?_)
                    refine ⟨_, rfl, _, rfl, n, need, rfl, by omega, hneed, fun H6 x s6 hx1 hx2 hx3 => ?_⟩
                    refine gn_go (nx_go ?_)
                    have src6 := src5.same s6
                    clear src5 s6
                    refine ⟨_, rfl, _, rfl, n, x, rfl, by omega, by omega, hx1, fun H7 s7 => ⟨_, rfl, _, _, rfl, rfl, _, rfl, if_dec (fun h => by omega) (fun _ => ⟨_, rfl, _, _, rfl, rfl, _, rfl, if_dec (fun h => ?_) (fun h => iteF (next_go (nx_go ⟨_, rfl, rfl, src6.same s7⟩)))⟩)⟩⟩
                    refine ⟨_, rfl, _, rfl, _, _, rfl, rfl, n, x - 1, ?_, by omega, by omega, by omega, fun H8 s8 => ⟨_, rfl, _, _, rfl, rfl, _, rfl, if_dec (fun h => by omega) (fun _ => next_go (nx_go ⟨_, rfl, rfl, (src6.same s7).same s8⟩))⟩⟩
                    show [V.int (n : Int), V.int ((x : Int) - 1)] = _
                    rw [show (x : Int) - 1 = ((x - 1 : Nat) : Int) by omega]
                  · refine ⟨_, rfl, _, rfl, _, rfl, _, rfl, n, m, t, rfl, by omega, by omega, hm, by omega, fun H8 s8 => ⟨_, _, rfl, rfl, ?_⟩⟩
                    refine rest _ _ ⟨?_, src.same s8⟩
                    rw [show ((2 ^ n - st n m t : Nat) : Int) = ((2 ^ n : Nat) : Int) - (st n m t : Int) by omega]
                    rfl
                · refine ⟨_, rfl, _, rfl, _, rfl, n, m, t, rfl, by omega, hm, by omega, fun H8 s8 => ?_⟩
                  refine ⟨_, _, rfl, .int _, rps.1, rps.2.1, rps.2.2, _, rfl, _, rfl, _, rfl, n, m, t, rfl, by omega, by omega, hm, by omega, fun H9 s9 => ⟨_, _, rfl, .int _, rps.1, rps.2.1, rps.2.2, rfl, _, rfl, if_ne_same rfl (next_go (nx_go ?_))⟩⟩
                  exact rest _ _ ⟨rfl, (src.same s8).same s9⟩
              · refine ⟨_, rfl, _, rfl, n, m, rfl, by omega, hm, fun H8 s8 => ?_⟩
                refine ⟨_, _, rfl, .int _, rpc.1, rpc.2.1, rpc.2.2, _, rfl, _, _, rfl, .int _, rpc.1, rpc.2.1, rpc.2.2, rfl, _, rfl, if_ne_same rfl ?_⟩
                refine ⟨_, rfl, _, rfl, _, _, rfl, rfl, _, rfl, if_dec (fun h => by omega) (fun _ => ⟨_, rfl, _, rfl, _, _, rfl, rfl, _, rfl, if_dec (fun h => by omega) (fun _ => next_go (nx_go ?_))⟩)⟩
                exact rest _ _ ⟨some (.int (r : Int)), some (.int (sh (n - k) r : Int)), some (.int ((bs n (k + 1) : Int) + y)), rfl, src7.same s8⟩
            · have bye : ∀ H2, Same H' H2 → _ := fun H2 s2 => rest _ H2 ⟨rfl, src.same s2⟩
              refine ⟨_, rfl, _, rfl, _, _, rfl, rfl, _, _, rfl, rfl, _, rfl, if_dec (fun h1 => ⟨_, _, rfl, rfl, _, rfl, if_dec (fun h2 => ?_) (fun h2 => iteF (next_go (nx_go (bye _ (same_refl _)))))⟩) (fun h1 => ⟨_, rfl, iteF (iteF (next_go (nx_go (bye _ (same_refl _)))))⟩)⟩
              refine ⟨_, rfl, _, _, rfl, rfl, _, rfl, if_dec (fun h3 => ⟨_, _, rfl, rfl, _, rfl, if_dec (fun h4 => ?_) (fun h4 => iteF (next_go (nx_go (bye _ (same_refl _)))))⟩) (fun h3 => ⟨_, rfl, iteF (iteF (next_go (nx_go (bye _ (same_refl _)))))⟩)⟩
              refine ⟨_, rfl, _, _, rfl, rfl, _, rfl, if_dec (fun h5 => ?_) (fun h5 => iteF (next_go (nx_go (bye _ (same_refl _)))))⟩
              refine ⟨_, rfl, _, _, rfl, rfl, _, rfl, if_dec (fun h6 => ⟨_, _, rfl, rfl, _, rfl, if_dec (fun h7 => ?_) (fun h7 => iteF (next_go (nx_go (bye _ (same_refl _)))))⟩) (fun h6 => ⟨_, rfl, iteF (iteF (next_go (nx_go (bye _ (same_refl _)))))⟩)⟩
              refine ⟨_, rfl, _, rfl, _, rfl, n, r, k, rfl, hk, by omega, by omega, fun H2 s2 => ⟨_, rfl, rfl, _, rfl, if_ne_same rfl (next_go (nx_go (bye _ s2)))⟩⟩
          · have bye : ∀ H2, Same H' H2 → _ := fun H2 s2 => rest _ H2 ⟨rfl, src.same s2⟩
            refine ⟨_, rfl, _, rfl, _, _, rfl, rfl, _, _, rfl, rfl, _, rfl, if_dec (fun h1 => ⟨_, _, rfl, rfl, _, rfl, if_dec (fun h2 => ?_) (fun h2 => iteF (next_go (nx_go (bye _ (same_refl _)))))⟩) (fun h1 => ⟨_, rfl, iteF (iteF (next_go (nx_go (bye _ (same_refl _)))))⟩)⟩
            refine ⟨_, rfl, _, rfl, _, rfl, _, _, rfl, rfl, r, n - k, ?_, by omega, by omega, by omega, fun H2 s2 => ⟨_, rfl, rfl, _, rfl, if_ne_same rfl (next_go (nx_go (bye _ s2)))⟩⟩
            show [V.int (r : Int), V.int ((n : Int) - (k : Int))] = _
            rw [show (n : Int) - (k : Int) = ((n - k : Nat) : Int) by omega]
        · refine ⟨_, rfl, _, rfl, _, rfl, n, k, rfl, by omega, by omega, fun H6 s6 => ⟨by show 2 ≤ sizeLine; decide, fun L nL => ?_⟩⟩
          refine ⟨_, _, rfl, .lst (SqL.of upd_same) (dp_ints [(sh (n - k) r : Int), (bs n (k + 1) : Int)]), rp.1, rp.2.1, rp.2.2, ?_⟩
          refine ⟨_, rfl, _, rfl, _, rfl, n, k, r, rfl, Nat.le_trans hn (by decide), by omega, by omega, hr, _, rfl, _, rfl, n, k, rfl, by omega, by omega, fun H7 s7 => ⟨by show 2 ≤ sizeLine; decide, fun L2 nL2 => ?_⟩⟩
          refine ⟨_, _, rfl, .lst (SqL.of upd_same) (dp_ints [(sh (n - k) r : Int), (bs n (k + 1) : Int)]), rp.1, rp.2.1, rp.2.2, ?_⟩
          have s8 := ((s6.trans (same_new (o := .lst [.int (sh (n - k) r), .int (bs n (k + 1))]) nL)).trans s7).trans (same_new (o := .lst [.int (sh (n - k) r), .int (bs n (k + 1))]) nL2)
          refine ⟨rfl, _, rfl, if_ne_same rfl ?_⟩
          refine ⟨_, rfl, _, rfl, n, k, rfl, by omega, by omega, _, rfl, _, rfl, _, _, rfl, by omega, by omega, rfl, _, rfl, if_ne_same (by rw [cb_nat]) (next_go (nx_go ?_))⟩
          exact rest _ _ ⟨rfl, src5.same s8⟩
      · refine ⟨_, rfl, p, c, 13, rfl, by decide, src, fun H2 r b2 src2 r0 rl => ⟨_, _, rfl, rfl, ?_⟩⟩
        obtain ⟨r, rfl⟩ := Int.eq_ofNat_of_zero_le r0
        exact rest _ _ ⟨8 + r, some (.int (0 + (i : Int))), rfl, by omega, by omega, src2⟩
    · obtain ⟨v2, v3, v4, v5, v6, v7, v8, v9, v10, v11, v12, v13, v14, rfl⟩ := len13 l el
      subst e1
      refine ⟨_, _, rfl, rfl, ⟨by decide, by decide, by decide⟩, by show 4 ≤ sizeLine; decide, fun tt ntt => ⟨tt, rfl, ⟨_, SqT.of upd_same⟩, fun D nD => ?_⟩⟩
      have e20 : (2 : Int) ^ (20 : Int).toNat = ((1048576 : Nat) : Int) := by decide
      generalize hG : upd H' tt _ = G at nD
      have htt : SqT K G tt (iv [0, 1, 21, 1048576]) := by
        refine SqT.of ?_
        rw [← hG, upd_same]
        show some (HO.tup [V.int 0, V.int 1, V.int 21, V.int ((2 : Int) ^ (20 : Int).toNat)]) = _
        rw [e20]
        rfl
      refine lc_it (walk_tup (K := K) (a := tt) (xs := iv [0, 1, 21, 1048576])) (fun i H2 => Same G H2 ∧ H2 D = some (.lst (((il [0, 21, 211, 1048576]).take i).map V.int))) ⟨same_new nD, upd_same⟩
        (fun i H2 _ ⟨s2, _⟩ => same_tup s2 htt) (fun i x H2 H3 hi ⟨s2, hD⟩ ⟨e3, hx⟩ => ?_) (fun H2 ⟨s2, hD⟩ => ?_)
      · subst e3
        obtain ⟨m, hm, rfl⟩ := iv_at hx
        obtain ⟨h1, h2⟩ := ends20 i m hm
        refine ⟨rfl, ?_⟩
        refine lc_yes ?_
        refine ⟨_, rfl, 20, m, rfl, by decide, h2, fun H4 s4 => ⟨_, s4 _ _ hD, ?_, same_mut (s2.trans s4) nD, ?_⟩⟩
        · rw [List.length_map, List.length_take]
          exact Nat.lt_of_le_of_lt (Nat.min_le_right _ _) (by show 4 < sizeLine; decide)
        · rw [upd_same, List.take_add_one, show (il [0, 21, 211, 1048576])[i]? = some (cl 20 m : Int) by unfold il; rw [List.getElem?_map, h1]; rfl, List.map_append]
          rfl
      · refine ⟨_, _, rfl, rfl, ⟨by decide, by decide, by decide⟩, by show 4 ≤ sizeLine; decide, fun L nL => ?_⟩
        have sm := sm_lst (sm_ints (ns := il [0, 21, 211, 1048576]) (by decide))
        refine ⟨.list (pdI (il [0, 21, 211, 1048576])), .list (pdI (il [0, 21, 211, 1048576])), .lst (SqL.of (same_new nL _ _ hD)) (dp_ints _), .lst (SqL.of ?_) (dp_ints (il [0, 21, 211, 1048576])), shaped_ints _, shaped_ints _, ?_⟩
        · rw [upd_same]
          show some (HO.lst [V.int 0, V.int 21, V.int 211, V.int ((2 : Int) ^ (20 : Int).toNat)]) = _
          rw [e20]
          rfl
        · rw [sm.refl]
          exact fin _
end
end K48
namespace K48
open PySem L2 Gk Ca
theorem all_mk {l : PySem.W.OpenLaw} {w : World} {K : PySem.W.Frag} {h : Heap} {mg : Str → Option Value} {fa : Addr} (X : K.In h) (G : h.Ns mainGlobals mg) (hfa : mg "law" = some (.ref fa))
    {f0 f1 f2 f3 f4 f5 f6 f7 f8 f9 f10 f11 f12 f13 f14 f15 f16 f17 f18 f19 f20 f21 : Addr} {od0 an0 od1 an1 od2 an2 od3 an3 od4 an4 od5 an5 od6 an6 od7 an7 od8 an8 od9 an9 od10 an10 od11 an11 od12 an12 od13 an13 od14 an14 od15 an15 od16 an16 od17 an17 od18 an18 od19 an19 od20 an20 od21 an21 : Option Addr} {sl0 sl1 sl2 sl3 sl4 sl5 sl6 sl7 sl8 sl9 sl10 sl11 sl12 sl13 sl14 sl15 sl16 sl17 sl18 sl19 sl20 sl21 : Array (Option Value)} {oc0 kV0 dc0 pm0 cd0 ct0 oc1 kV1 dc1 pm1 cd1 ct1 oc2 kV2 dc2 pm2 cd2 ct2 oc3 kV3 dc3 pm3 cd3 ct3 oc4 kV4 dc4 pm4 cd4 ct4 oc5 kV5 dc5 pm5 cd5 ct5 oc6 kV6 dc6 pm6 cd6 ct6 oc7 kV7 dc7 pm7 cd7 ct7 oc8 kV8 dc8 pm8 cd8 ct8 oc9 kV9 dc9 pm9 cd9 ct9 oc10 kV10 dc10 pm10 cd10 ct10 oc11 kV11 dc11 pm11 cd11 ct11 oc12 kV12 dc12 pm12 cd12 ct12 oc13 kV13 dc13 pm13 cd13 ct13 oc14 kV14 dc14 pm14 cd14 ct14 oc15 kV15 dc15 pm15 cd15 ct15 oc16 kV16 dc16 pm16 cd16 ct16 oc17 kV17 dc17 pm17 cd17 ct17 oc18 kV18 dc18 pm18 cd18 ct18 oc19 kV19 dc19 pm19 cd19 ct19 oc20 kV20 dc20 pm20 cd20 ct20 oc21 kV21 dc21 pm21 cd21 ct21 : Value}
    (a0 : PySem.W.nsIn K mainGlobals "inputs_out_of" = some (some (.ref f0))) (l0 : K.lookup f0 = some ⟨oc0, od0, .func (PySem.W.fnOf "inputs_out_of" "inputs_out_of" (defArgs s_inputs_out_of) (defBody s_inputs_out_of) (defScope s_inputs_out_of) .none kV0 dc0 pm0 an0 cd0 ct0), sl0⟩) (c0 : PySem.W.codeIn K cd0 "inputs_out_of" = true) (k0 : PySem.W.keepIn K (.ref f0) = true)
    (a1 : PySem.W.nsIn K mainGlobals "ball_count" = some (some (.ref f1))) (l1 : K.lookup f1 = some ⟨oc1, od1, .func (PySem.W.fnOf "ball_count" "ball_count" (defArgs s_ball_count) (defBody s_ball_count) (defScope s_ball_count) .none kV1 dc1 pm1 an1 cd1 ct1), sl1⟩) (c1 : PySem.W.codeIn K cd1 "ball_count" = true) (k1 : PySem.W.keepIn K (.ref f1) = true)
    (a2 : PySem.W.nsIn K mainGlobals "count_within" = some (some (.ref f2))) (l2 : K.lookup f2 = some ⟨oc2, od2, .func (PySem.W.fnOf "count_within" "count_within" (defArgs s_count_within) (defBody s_count_within) (defScope s_count_within) .none kV2 dc2 pm2 an2 cd2 ct2), sl2⟩) (c2 : PySem.W.codeIn K cd2 "count_within" = true) (k2 : PySem.W.keepIn K (.ref f2) = true)
    (a3 : PySem.W.nsIn K mainGlobals "count_close" = some (some (.ref f3))) (l3 : K.lookup f3 = some ⟨oc3, od3, .func (PySem.W.fnOf "count_close" "count_close" (defArgs s_count_close) (defBody s_count_close) (defScope s_count_close) .none kV3 dc3 pm3 an3 cd3 ct3), sl3⟩) (c3 : PySem.W.codeIn K cd3 "count_close" = true) (k3 : PySem.W.keepIn K (.ref f3) = true)
    (a4 : PySem.W.nsIn K mainGlobals "count_by_steps" = some (some (.ref f4))) (l4 : K.lookup f4 = some ⟨oc4, od4, .func (PySem.W.fnOf "count_by_steps" "count_by_steps" (defArgs s_count_by_steps) (defBody s_count_by_steps) (defScope s_count_by_steps) .none kV4 dc4 pm4 an4 cd4 ct4), sl4⟩) (c4 : PySem.W.codeIn K cd4 "count_by_steps" = true) (k4 : PySem.W.keepIn K (.ref f4) = true)
    (a5 : PySem.W.nsIn K mainGlobals "most_far_off" = some (some (.ref f5))) (l5 : K.lookup f5 = some ⟨oc5, od5, .func (PySem.W.fnOf "most_far_off" "most_far_off" (defArgs s_most_far_off) (defBody s_most_far_off) (defScope s_most_far_off) .none kV5 dc5 pm5 an5 cd5 ct5), sl5⟩) (c5 : PySem.W.codeIn K cd5 "most_far_off" = true) (k5 : PySem.W.keepIn K (.ref f5) = true)
    (a6 : PySem.W.nsIn K mainGlobals "choose_points" = some (some (.ref f6))) (l6 : K.lookup f6 = some ⟨oc6, od6, .func (PySem.W.fnOf "choose_points" "choose_points" (defArgs s_choose_points) (defBody s_choose_points) (defScope s_choose_points) .none kV6 dc6 pm6 an6 cd6 ct6), sl6⟩) (c6 : PySem.W.codeIn K cd6 "choose_points" = true) (k6 : PySem.W.keepIn K (.ref f6) = true)
    (a7 : PySem.W.nsIn K mainGlobals "greatest_at_most" = some (some (.ref f7))) (l7 : K.lookup f7 = some ⟨oc7, od7, .func (PySem.W.fnOf "greatest_at_most" "greatest_at_most" (defArgs s_greatest_at_most) (defBody s_greatest_at_most) (defScope s_greatest_at_most) .none kV7 dc7 pm7 an7 cd7 ct7), sl7⟩) (c7 : PySem.W.codeIn K cd7 "greatest_at_most" = true) (k7 : PySem.W.keepIn K (.ref f7) = true)
    (a8 : PySem.W.nsIn K mainGlobals "cascade_of" = some (some (.ref f8))) (l8 : K.lookup f8 = some ⟨oc8, od8, .func (PySem.W.fnOf "cascade_of" "cascade_of" (defArgs s_cascade_of) (defBody s_cascade_of) (defScope s_cascade_of) .none kV8 dc8 pm8 an8 cd8 ct8), sl8⟩) (c8 : PySem.W.codeIn K cd8 "cascade_of" = true) (k8 : PySem.W.keepIn K (.ref f8) = true)
    (a9 : PySem.W.nsIn K mainGlobals "shadow_number" = some (some (.ref f9))) (l9 : K.lookup f9 = some ⟨oc9, od9, .func (PySem.W.fnOf "shadow_number" "shadow_number" (defArgs s_shadow_number) (defBody s_shadow_number) (defScope s_shadow_number) .none kV9 dc9 pm9 an9 cd9 ct9), sl9⟩) (c9 : PySem.W.codeIn K cd9 "shadow_number" = true) (k9 : PySem.W.keepIn K (.ref f9) = true)
    (a10 : PySem.W.nsIn K mainGlobals "least_many" = some (some (.ref f10))) (l10 : K.lookup f10 = some ⟨oc10, od10, .func (PySem.W.fnOf "least_many" "least_many" (defArgs s_least_many) (defBody s_least_many) (defScope s_least_many) .none kV10 dc10 pm10 an10 cd10 ct10), sl10⟩) (c10 : PySem.W.codeIn K cd10 "least_many" = true) (k10 : PySem.W.keepIn K (.ref f10) = true)
    (a11 : PySem.W.nsIn K mainGlobals "lot_over" = some (some (.ref f11))) (l11 : K.lookup f11 = some ⟨oc11, od11, .func (PySem.W.fnOf "lot_over" "lot_over" (defArgs s_lot_over) (defBody s_lot_over) (defScope s_lot_over) .none kV11 dc11 pm11 an11 cd11 ct11), sl11⟩) (c11 : PySem.W.codeIn K cd11 "lot_over" = true) (k11 : PySem.W.keepIn K (.ref f11) = true)
    (a12 : PySem.W.nsIn K mainGlobals "shadow_up_bound" = some (some (.ref f12))) (l12 : K.lookup f12 = some ⟨oc12, od12, .func (PySem.W.fnOf "shadow_up_bound" "shadow_up_bound" (defArgs s_shadow_up_bound) (defBody s_shadow_up_bound) (defScope s_shadow_up_bound) .none kV12 dc12 pm12 an12 cd12 ct12), sl12⟩) (c12 : PySem.W.codeIn K cd12 "shadow_up_bound" = true) (k12 : PySem.W.keepIn K (.ref f12) = true)
    (a13 : PySem.W.nsIn K mainGlobals "_law_source" = some (some (.ref f13))) (l13 : K.lookup f13 = some ⟨oc13, od13, .func (PySem.W.fnOf "_law_source" "_law_source" (defArgs s__law_source) (defBody s__law_source) (defScope s__law_source) .none kV13 dc13 pm13 an13 cd13 ct13), sl13⟩) (c13 : PySem.W.codeIn K cd13 "_law_source" = true) (k13 : PySem.W.keepIn K (.ref f13) = true)
    (a14 : PySem.W.nsIn K mainGlobals "_law_pick" = some (some (.ref f14))) (l14 : K.lookup f14 = some ⟨oc14, od14, .func (PySem.W.fnOf "_law_pick" "_law_pick" (defArgs s__law_pick) (defBody s__law_pick) (defScope s__law_pick) .none kV14 dc14 pm14 an14 cd14 ct14), sl14⟩) (c14 : PySem.W.codeIn K cd14 "_law_pick" = true) (k14 : PySem.W.keepIn K (.ref f14) = true)
    (a15 : PySem.W.nsIn K mainGlobals "_law_of" = some (some (.ref f15))) (l15 : K.lookup f15 = some ⟨oc15, od15, .func (PySem.W.fnOf "_law_of" "_law_of" (defArgs s__law_of) (defBody s__law_of) (defScope s__law_of) .none kV15 dc15 pm15 an15 cd15 ct15), sl15⟩) (c15 : PySem.W.codeIn K cd15 "_law_of" = true) (k15 : PySem.W.keepIn K (.ref f15) = true)
    (a16 : PySem.W.nsIn K mainGlobals "_law_over" = some (some (.ref f16))) (l16 : K.lookup f16 = some ⟨oc16, od16, .func (PySem.W.fnOf "_law_over" "_law_over" (defArgs s__law_over) (defBody s__law_over) (defScope s__law_over) .none kV16 dc16 pm16 an16 cd16 ct16), sl16⟩) (c16 : PySem.W.codeIn K cd16 "_law_over" = true) (k16 : PySem.W.keepIn K (.ref f16) = true)
    (a17 : PySem.W.nsIn K mainGlobals "_law_ball" = some (some (.ref f17))) (l17 : K.lookup f17 = some ⟨oc17, od17, .func (PySem.W.fnOf "_law_ball" "_law_ball" (defArgs s__law_ball) (defBody s__law_ball) (defScope s__law_ball) .none kV17 dc17 pm17 an17 cd17 ct17), sl17⟩) (c17 : PySem.W.codeIn K cd17 "_law_ball" = true) (k17 : PySem.W.keepIn K (.ref f17) = true)
    (a18 : PySem.W.nsIn K mainGlobals "_law_within" = some (some (.ref f18))) (l18 : K.lookup f18 = some ⟨oc18, od18, .func (PySem.W.fnOf "_law_within" "_law_within" (defArgs s__law_within) (defBody s__law_within) (defScope s__law_within) .none kV18 dc18 pm18 an18 cd18 ct18), sl18⟩) (c18 : PySem.W.codeIn K cd18 "_law_within" = true) (k18 : PySem.W.keepIn K (.ref f18) = true)
    (a19 : PySem.W.nsIn K mainGlobals "_law_close" = some (some (.ref f19))) (l19 : K.lookup f19 = some ⟨oc19, od19, .func (PySem.W.fnOf "_law_close" "_law_close" (defArgs s__law_close) (defBody s__law_close) (defScope s__law_close) .none kV19 dc19 pm19 an19 cd19 ct19), sl19⟩) (c19 : PySem.W.codeIn K cd19 "_law_close" = true) (k19 : PySem.W.keepIn K (.ref f19) = true)
    (a20 : PySem.W.nsIn K mainGlobals "_law_steps" = some (some (.ref f20))) (l20 : K.lookup f20 = some ⟨oc20, od20, .func (PySem.W.fnOf "_law_steps" "_law_steps" (defArgs s__law_steps) (defBody s__law_steps) (defScope s__law_steps) .none kV20 dc20 pm20 an20 cd20 ct20), sl20⟩) (c20 : PySem.W.codeIn K cd20 "_law_steps" = true) (k20 : PySem.W.keepIn K (.ref f20) = true)
    (a21 : PySem.W.nsIn K mainGlobals "law" = some (some (.ref f21))) (l21 : K.lookup f21 = some ⟨oc21, od21, .func (PySem.W.fnOf "law" "law" (defArgs s_law) (defBody s_law) (defScope s_law) .none kV21 dc21 pm21 an21 cd21 ct21), sl21⟩) (c21 : PySem.W.codeIn K cd21 "law" = true) (k21 : PySem.W.keepIn K (.ref f21) = true)
    (z0 : PySem.W.nsIn K mainGlobals "abs" = some none)    (z1 : PySem.W.nsIn K mainGlobals "enumerate" = some none)    (z2 : PySem.W.nsIn K mainGlobals "int" = some none)    (z3 : PySem.W.nsIn K mainGlobals "len" = some none)    (z4 : PySem.W.nsIn K mainGlobals "max" = some none)    (z5 : PySem.W.nsIn K mainGlobals "min" = some none)    (z6 : PySem.W.nsIn K mainGlobals "range" = some none)    (z7 : PySem.W.nsIn K mainGlobals "repr" = some none)    (z8 : PySem.W.nsIn K mainGlobals "sum" = some none)    (z9 : PySem.W.nsIn K mainGlobals "tuple" = some none) :
    ∃ fd : FuncData, (∀ (s : Shared) (v : Value), BindsTo s fd ⟨[v], []⟩ [("script", v)]) ∧ ∀ base : Heap, K.In base → base.Ns mainGlobals mg → FnG l.prog w K mg base 27 fa fd ["script"] (sp_law K) := by
  have e := hfa.symm.trans (PySem.W.mg_of X G a21)
  cases e
  have B : Bl mg := ⟨PySem.W.mg_none_of X G z0, PySem.W.mg_none_of X G z1, PySem.W.mg_none_of X G z2, PySem.W.mg_none_of X G z3, PySem.W.mg_none_of X G z4, PySem.W.mg_none_of X G z5, PySem.W.mg_none_of X G z6, PySem.W.mg_none_of X G z7, PySem.W.mg_none_of X G z8, PySem.W.mg_none_of X G z9⟩
  have F0 := fun_mk (st := s_inputs_out_of) l0 c0 k0
  have D_inputs_out_of : Df_inputs_out_of K mg f0 _ := ⟨F0, PySem.W.mg_of X G a0, F0.binds (ps := ["n", "k"]) fun _ _ _ _ _ _ us hl => match us, hl with | [_, _], _ => rfl⟩
  have F1 := fun_mk (st := s_ball_count) l1 c1 k1
  have D_ball_count : Df_ball_count K mg f1 _ := ⟨F1, PySem.W.mg_of X G a1, F1.binds (ps := ["n", "k"]) fun _ _ _ _ _ _ us hl => match us, hl with | [_, _], _ => rfl⟩
  have F2 := fun_mk (st := s_count_within) l2 c2 k2
  have D_count_within : Df_count_within K mg f2 _ := ⟨F2, PySem.W.mg_of X G a2, F2.binds (ps := ["n", "k", "r"]) fun _ _ _ _ _ _ us hl => match us, hl with | [_, _, _], _ => rfl⟩
  have F3 := fun_mk (st := s_count_close) l3 c3 k3
  have D_count_close : Df_count_close K mg f3 _ := ⟨F3, PySem.W.mg_of X G a3, F3.binds (ps := ["n", "m"]) fun _ _ _ _ _ _ us hl => match us, hl with | [_, _], _ => rfl⟩
  have F4 := fun_mk (st := s_count_by_steps) l4 c4 k4
  have D_count_by_steps : Df_count_by_steps K mg f4 _ := ⟨F4, PySem.W.mg_of X G a4, F4.binds (ps := ["n", "m", "t"]) fun _ _ _ _ _ _ us hl => match us, hl with | [_, _, _], _ => rfl⟩
  have F5 := fun_mk (st := s_most_far_off) l5 c5 k5
  have D_most_far_off : Df_most_far_off K mg f5 _ := ⟨F5, PySem.W.mg_of X G a5, F5.binds (ps := ["n", "m", "t"]) fun _ _ _ _ _ _ us hl => match us, hl with | [_, _, _], _ => rfl⟩
  have F6 := fun_mk (st := s_choose_points) l6 c6 k6
  have D_choose_points : Df_choose_points K mg f6 _ := ⟨F6, PySem.W.mg_of X G a6, F6.binds (ps := ["a", "b"]) fun _ _ _ _ _ _ us hl => match us, hl with | [_, _], _ => rfl⟩
  have F7 := fun_mk (st := s_greatest_at_most) l7 c7 k7
  have D_greatest_at_most : Df_greatest_at_most K mg f7 _ := ⟨F7, PySem.W.mg_of X G a7, F7.binds (ps := ["m", "k"]) fun _ _ _ _ _ _ us hl => match us, hl with | [_, _], _ => rfl⟩
  have F8 := fun_mk (st := s_cascade_of) l8 c8 k8
  have D_cascade_of : Df_cascade_of K mg f8 _ := ⟨F8, PySem.W.mg_of X G a8, F8.binds (ps := ["m", "k"]) fun _ _ _ _ _ _ us hl => match us, hl with | [_, _], _ => rfl⟩
  have F9 := fun_mk (st := s_shadow_number) l9 c9 k9
  have D_shadow_number : Df_shadow_number K mg f9 _ := ⟨F9, PySem.W.mg_of X G a9, F9.binds (ps := ["m", "k"]) fun _ _ _ _ _ _ us hl => match us, hl with | [_, _], _ => rfl⟩
  have F10 := fun_mk (st := s_least_many) l10 c10 k10
  have D_least_many : Df_least_many K mg f10 _ := ⟨F10, PySem.W.mg_of X G a10, F10.binds (ps := ["n", "k"]) fun _ _ _ _ _ _ us hl => match us, hl with | [_, _], _ => rfl⟩
  have F11 := fun_mk (st := s_lot_over) l11 c11 k11
  have D_lot_over : Df_lot_over K mg f11 _ := ⟨F11, PySem.W.mg_of X G a11, F11.binds (ps := ["n", "k"]) fun _ _ _ _ _ _ us hl => match us, hl with | [_, _], _ => rfl⟩
  have F12 := fun_mk (st := s_shadow_up_bound) l12 c12 k12
  have D_shadow_up_bound : Df_shadow_up_bound K mg f12 _ := ⟨F12, PySem.W.mg_of X G a12, F12.binds (ps := ["n", "m", "k"]) fun _ _ _ _ _ _ us hl => match us, hl with | [_, _, _], _ => rfl⟩
  have F13 := fun_mk (st := s__law_source) l13 c13 k13
  have D__law_source : Df__law_source K mg f13 _ := ⟨F13, PySem.W.mg_of X G a13, F13.binds (ps := ["script"]) fun _ _ _ _ _ _ us hl => match us, hl with | [_], _ => rfl⟩
  have F14 := fun_mk (st := s__law_pick) l14 c14 k14
  have D__law_pick : Df__law_pick K mg f14 _ := ⟨F14, PySem.W.mg_of X G a14, F14.binds (ps := ["source", "many"]) fun _ _ _ _ _ _ us hl => match us, hl with | [_, _], _ => rfl⟩
  have F15 := fun_mk (st := s__law_of) l15 c15 k15
  have D__law_of : Df__law_of K mg f15 _ := ⟨F15, PySem.W.mg_of X G a15, F15.binds (ps := ["source", "some"]) fun _ _ _ _ _ _ us hl => match us, hl with | [_, _], _ => rfl⟩
  have F16 := fun_mk (st := s__law_over) l16 c16 k16
  have D__law_over : Df__law_over K mg f16 _ := ⟨F16, PySem.W.mg_of X G a16, F16.binds (ps := ["n", "k"]) fun _ _ _ _ _ _ us hl => match us, hl with | [_, _], _ => rfl⟩
  have F17 := fun_mk (st := s__law_ball) l17 c17 k17
  have D__law_ball : Df__law_ball K mg f17 _ := ⟨F17, PySem.W.mg_of X G a17, F17.binds (ps := ["n", "k"]) fun _ _ _ _ _ _ us hl => match us, hl with | [_, _], _ => rfl⟩
  have F18 := fun_mk (st := s__law_within) l18 c18 k18
  have D__law_within : Df__law_within K mg f18 _ := ⟨F18, PySem.W.mg_of X G a18, F18.binds (ps := ["n", "k", "r"]) fun _ _ _ _ _ _ us hl => match us, hl with | [_, _, _], _ => rfl⟩
  have F19 := fun_mk (st := s__law_close) l19 c19 k19
  have D__law_close : Df__law_close K mg f19 _ := ⟨F19, PySem.W.mg_of X G a19, F19.binds (ps := ["n", "m"]) fun _ _ _ _ _ _ us hl => match us, hl with | [_, _], _ => rfl⟩
  have F20 := fun_mk (st := s__law_steps) l20 c20 k20
  have D__law_steps : Df__law_steps K mg f20 _ := ⟨F20, PySem.W.mg_of X G a20, F20.binds (ps := ["n", "m", "t"]) fun _ _ _ _ _ _ us hl => match us, hl with | [_, _, _], _ => rfl⟩
  have F21 := fun_mk (st := s_law) l21 c21 k21
  have D_law : Df_law K mg fa _ := ⟨F21, PySem.W.mg_of X G a21, F21.binds (ps := ["script"]) fun _ _ _ _ _ _ us hl => match us, hl with | [_], _ => rfl⟩
  refine ⟨PySem.W.fnOf "law" "law" (defArgs s_law) (defBody s_law) (defScope s_law) .none kV21 dc21 pm21 an21 cd21 ct21, fun s v => .of_eq rfl, fun base _ _ => ?_⟩
  have G_inputs_out_of : Ok_inputs_out_of l.prog w K mg base f0 _ := ok_inputs_out_of D_inputs_out_of  B
  have G_ball_count : Ok_ball_count l.prog w K mg base f1 _ := ok_ball_count D_ball_count D_inputs_out_of G_inputs_out_of B
  have G_count_within : Ok_count_within l.prog w K mg base f2 _ := ok_count_within D_count_within D_inputs_out_of G_inputs_out_of B
  have G_count_close : Ok_count_close l.prog w K mg base f3 _ := ok_count_close D_count_close D_ball_count G_ball_count D_count_within G_count_within B
  have G_count_by_steps : Ok_count_by_steps l.prog w K mg base f4 _ := ok_count_by_steps D_count_by_steps D_count_close G_count_close B
  have G_most_far_off : Ok_most_far_off l.prog w K mg base f5 _ := ok_most_far_off D_most_far_off D_count_by_steps G_count_by_steps B
  have G_choose_points : Ok_choose_points l.prog w K mg base f6 _ := ok_choose_points D_choose_points  B
  have G_greatest_at_most : Ok_greatest_at_most l.prog w K mg base f7 _ := ok_greatest_at_most D_greatest_at_most D_choose_points G_choose_points B
  have G_cascade_of : Ok_cascade_of l.prog w K mg base f8 _ := ok_cascade_of D_cascade_of D_choose_points G_choose_points D_greatest_at_most G_greatest_at_most B
  have G_shadow_number : Ok_shadow_number l.prog w K mg base f9 _ := ok_shadow_number D_shadow_number D_choose_points G_choose_points D_cascade_of G_cascade_of B
  have G_least_many : Ok_least_many l.prog w K mg base f10 _ := ok_least_many D_least_many D_count_close G_count_close B
  have G_lot_over : Ok_lot_over l.prog w K mg base f11 _ := ok_lot_over D_lot_over  B
  have G_shadow_up_bound : Ok_shadow_up_bound l.prog w K mg base f12 _ := ok_shadow_up_bound D_shadow_up_bound D_shadow_number G_shadow_number B
  have G__law_source : Ok__law_source l.prog w K mg base f13 _ := ok__law_source D__law_source  B
  have G__law_pick : Ok__law_pick l.prog w K mg base f14 _ := ok__law_pick D__law_pick  B
  have G__law_of : Ok__law_of l.prog w K mg base f15 _ := ok__law_of D__law_of D__law_pick G__law_pick B
  have G__law_over : Ok__law_over l.prog w K mg base f16 _ := ok__law_over D__law_over  B
  have G__law_ball : Ok__law_ball l.prog w K mg base f17 _ := ok__law_ball D__law_ball D__law_over G__law_over B
  have G__law_within : Ok__law_within l.prog w K mg base f18 _ := ok__law_within D__law_within D__law_over G__law_over B
  have G__law_close : Ok__law_close l.prog w K mg base f19 _ := ok__law_close D__law_close D__law_ball G__law_ball D__law_within G__law_within B
  have G__law_steps : Ok__law_steps l.prog w K mg base f20 _ := ok__law_steps D__law_steps D__law_close G__law_close B
  exact ok_law D_law D_ball_count G_ball_count D_count_within G_count_within D_count_close G_count_close D_count_by_steps G_count_by_steps D_most_far_off G_most_far_off D_shadow_number G_shadow_number D_least_many G_least_many D_lot_over G_lot_over D_shadow_up_bound G_shadow_up_bound D__law_source G__law_source D__law_pick G__law_pick D__law_of G__law_of D__law_over G__law_over D__law_ball G__law_ball D__law_within G__law_within D__law_close G__law_close D__law_steps G__law_steps B
end K48

open PySem PySem.W PyProof.Rows in
set_option maxRecDepth 100000 in
set_option maxHeartbeats 0 in
theorem PySem.Challenge.cw_lotsoflots_k48_whole_close_counts_are_sh_holds : PySem.Challenge.rw_lotsoflots_k48_whole_close_counts_are_sh.Holds := by
  w_on; o_law; k_head; (case hw => w_witness2)
  k_fill
  refine Gk.walk_ofG (l := PySem.Challenge.rw_lotsoflots_k48_whole_close_counts_are_sh) (n := 63) (k := 27) (x := "script") (sp := K48.sp_law) rfl (by decide) rfl ⟨rfl, by decide, by decide⟩ (fun w h Y => PySem.W.kIn_of Y) ?F (fun K H a ns hl _ hS => K48.sp_start hl hS)
  case F =>
    intro w mg fa h KX G hmg
    refine' K48.all_mk KX G hmg ?a0 ?l0 ?c0 ?k0 ?a1 ?l1 ?c1 ?k1 ?a2 ?l2 ?c2 ?k2 ?a3 ?l3 ?c3 ?k3 ?a4 ?l4 ?c4 ?k4 ?a5 ?l5 ?c5 ?k5 ?a6 ?l6 ?c6 ?k6 ?a7 ?l7 ?c7 ?k7 ?a8 ?l8 ?c8 ?k8 ?a9 ?l9 ?c9 ?k9 ?a10 ?l10 ?c10 ?k10 ?a11 ?l11 ?c11 ?k11 ?a12 ?l12 ?c12 ?k12 ?a13 ?l13 ?c13 ?k13 ?a14 ?l14 ?c14 ?k14 ?a15 ?l15 ?c15 ?k15 ?a16 ?l16 ?c16 ?k16 ?a17 ?l17 ?c17 ?k17 ?a18 ?l18 ?c18 ?k18 ?a19 ?l19 ?c19 ?k19 ?a20 ?l20 ?c20 ?k20 ?a21 ?l21 ?c21 ?k21 ?z0 ?z1 ?z2 ?z3 ?z4 ?z5 ?z6 ?z7 ?z8 ?z9
    (case a0 => k_is)
    (case l0 => k_is)
    (case c0 => k_is)
    (case k0 => k_is)
    (case a1 => k_is)
    (case l1 => k_is)
    (case c1 => k_is)
    (case k1 => k_is)
    (case a2 => k_is)
    (case l2 => k_is)
    (case c2 => k_is)
    (case k2 => k_is)
    (case a3 => k_is)
    (case l3 => k_is)
    (case c3 => k_is)
    (case k3 => k_is)
    (case a4 => k_is)
    (case l4 => k_is)
    (case c4 => k_is)
    (case k4 => k_is)
    (case a5 => k_is)
    (case l5 => k_is)
    (case c5 => k_is)
    (case k5 => k_is)
    (case a6 => k_is)
    (case l6 => k_is)
    (case c6 => k_is)
    (case k6 => k_is)
    (case a7 => k_is)
    (case l7 => k_is)
    (case c7 => k_is)
    (case k7 => k_is)
    (case a8 => k_is)
    (case l8 => k_is)
    (case c8 => k_is)
    (case k8 => k_is)
    (case a9 => k_is)
    (case l9 => k_is)
    (case c9 => k_is)
    (case k9 => k_is)
    (case a10 => k_is)
    (case l10 => k_is)
    (case c10 => k_is)
    (case k10 => k_is)
    (case a11 => k_is)
    (case l11 => k_is)
    (case c11 => k_is)
    (case k11 => k_is)
    (case a12 => k_is)
    (case l12 => k_is)
    (case c12 => k_is)
    (case k12 => k_is)
    (case a13 => k_is)
    (case l13 => k_is)
    (case c13 => k_is)
    (case k13 => k_is)
    (case a14 => k_is)
    (case l14 => k_is)
    (case c14 => k_is)
    (case k14 => k_is)
    (case a15 => k_is)
    (case l15 => k_is)
    (case c15 => k_is)
    (case k15 => k_is)
    (case a16 => k_is)
    (case l16 => k_is)
    (case c16 => k_is)
    (case k16 => k_is)
    (case a17 => k_is)
    (case l17 => k_is)
    (case c17 => k_is)
    (case k17 => k_is)
    (case a18 => k_is)
    (case l18 => k_is)
    (case c18 => k_is)
    (case k18 => k_is)
    (case a19 => k_is)
    (case l19 => k_is)
    (case c19 => k_is)
    (case k19 => k_is)
    (case a20 => k_is)
    (case l20 => k_is)
    (case c20 => k_is)
    (case k20 => k_is)
    (case a21 => k_is)
    (case l21 => k_is)
    (case c21 => k_is)
    (case k21 => k_is)
    (case z0 => k_is)
    (case z1 => k_is)
    (case z2 => k_is)
    (case z3 => k_is)
    (case z4 => k_is)
    (case z5 => k_is)
    (case z6 => k_is)
    (case z7 => k_is)
    (case z8 => k_is)
    (case z9 => k_is)
#print axioms PySem.Challenge.cw_lotsoflots_k48_whole_close_counts_are_sh_holds
