import PyProof.Rows.All
import Wide.All
import OpenK.AllK
import Wide.FinOn
import PyProof.ReprReads
import PyProof.ReprRoads
import PyProof.ReprBulk
import KE.KTupSum
import HandS.ForMost
import HandS.Property
import HandS.More
import HandS.Strs
import HandS.Star
import KE.GoesEnum
import HandS.SetFor
import HandS.Style
import HandS.Codes
import HandS.IsInst
import HandS.Deep
import HandS.TupAny
import HandS.TupMul
import HandS.TupSets
import HandS.Conv
import HandS.WideBits
import PySem.Challenge.RW_cornersure_k78_whole_seatings_of_members
section
set_option autoImplicit false
/-! Seats by divisors: the mathematics, no program in sight. -/
namespace Ap
/-- the k-th divisor: k, or 2k-1 -/
def dv (w : Bool) (k : Nat) : Int := if w then (k : Int) else 2 * (k : Int) - 1
theorem dv_pos (w : Bool) (k : Nat) (h : 0 < k) : 0 < dv w k := by
  unfold dv; split <;> omega
theorem dv_mono (w : Bool) (a b : Nat) (h : a ≤ b) : dv w a ≤ dv w b := by
  unfold dv; split <;> omega

theorem mul_mono {a b c d : Int} (h1 : a ≤ b) (h2 : c ≤ d) (ha : 0 ≤ b) (hc : 0 ≤ c) : a * c ≤ b * d :=
  Int.le_trans (Int.mul_le_mul_of_nonneg_right h1 hc) (Int.mul_le_mul_of_nonneg_left h2 ha)

theorem frac_trans {a1 b1 a2 b2 a3 b3 : Int} (h1 : a1 * b2 ≤ a2 * b1) (h2 : a2 * b3 ≤ a3 * b2) (p1 : 0 ≤ b1) (p2 : 0 < b2) (p3 : 0 ≤ b3) : a1 * b3 ≤ a3 * b1 := by
  refine Int.le_of_mul_le_mul_right (a := b2) ?_ p2
  have e1 : a1 * b3 * b2 = a1 * b2 * b3 := by grind
  have e2 : a3 * b1 * b2 = a3 * b2 * b1 := by grind
  have e3 : a2 * b1 * b3 = a2 * b3 * b1 := by grind
  rw [e1, e2]
  exact Int.le_trans (Int.mul_le_mul_of_nonneg_right h1 p3) (e3 ▸ Int.mul_le_mul_of_nonneg_right h2 p1)

/-- a greatest fraction among some of the first n -/
theorem argmax (p : Nat → Prop) (a b : Nat → Int) (hb : ∀ i, p i → 0 < b i) : ∀ n : Nat, (∃ i, i < n ∧ p i) → ∃ i, i < n ∧ p i ∧ ∀ c, c < n → p c → a c * b i ≤ a i * b c
  | 0, ⟨i, h, _⟩ => absurd h (Nat.not_lt_zero _)
  | n + 1, ⟨i, h, hi⟩ => by
    by_cases hn : p n
    · by_cases hq : ∃ i, i < n ∧ p i
      · obtain ⟨m, m1, m2, m3⟩ := argmax p a b hb n hq
        by_cases hc : a n * b m ≤ a m * b n
        · refine ⟨m, by omega, m2, fun c hc1 hc2 => ?_⟩
          by_cases e : c = n
          · rw [e]; exact hc
          · exact m3 c (by omega) hc2
        · refine ⟨n, by omega, hn, fun c hc1 hc2 => ?_⟩
          by_cases e : c = n
          · rw [e]; exact Int.le_refl _
          · exact frac_trans (m3 c (by omega) hc2) (by omega) (Int.le_of_lt (hb c hc2)) (hb m m2) (Int.le_of_lt (hb n hn))
      · refine ⟨n, by omega, hn, fun c hc1 hc2 => ?_⟩
        by_cases e : c = n
        · rw [e]; exact Int.le_refl _
        · exact absurd ⟨c, by omega, hc2⟩ hq
    · have hi' : i < n := by
        by_cases e : i = n
        · rw [e] at hi; exact absurd hi hn
        · omega
      obtain ⟨m, m1, m2, m3⟩ := argmax p a b hb n ⟨i, hi', hi⟩
      refine ⟨m, by omega, m2, fun c hc1 hc2 => ?_⟩
      by_cases e : c = n
      · rw [e] at hc2; exact absurd hc2 hn
      · exact m3 c (by omega) hc2
theorem argmin (p : Nat → Prop) (a b : Nat → Int) (hb : ∀ i, p i → 0 < b i) (n : Nat) (h : ∃ i, i < n ∧ p i) : ∃ i, i < n ∧ p i ∧ ∀ c, c < n → p c → a i * b c ≤ a c * b i := by
  obtain ⟨i, h1, h2, h3⟩ := argmax p (fun i => - a i) b hb n h
  refine ⟨i, h1, h2, fun c hc hp => ?_⟩
  have := h3 c hc hp
  rw [Int.neg_mul, Int.neg_mul] at this
  omega

/-! ### sums -/
def sm : Nat → (Nat → Nat) → Nat
  | 0, _ => 0
  | n + 1, s => sm n s + s n
theorem sm_congr {s t : Nat → Nat} : ∀ n : Nat, (∀ i, i < n → s i = t i) → sm n s = sm n t
  | 0, _ => rfl
  | n + 1, h => by
    show sm n s + s n = sm n t + t n
    rw [sm_congr n fun i hi => h i (by omega), h n (by omega)]
theorem sm_le {s t : Nat → Nat} : ∀ n : Nat, (∀ i, i < n → s i ≤ t i) → sm n s ≤ sm n t
  | 0, _ => Nat.le_refl _
  | n + 1, h => Nat.add_le_add (sm_le n fun i hi => h i (by omega)) (h n (by omega))
theorem sm_lt {s t : Nat → Nat} : ∀ n : Nat, (∀ i, i < n → s i ≤ t i) → (∃ i, i < n ∧ s i < t i) → sm n s < sm n t
  | 0, _, ⟨i, h, _⟩ => absurd h (Nat.not_lt_zero _)
  | n + 1, h, ⟨i, hi, hl⟩ => by
    show sm n s + s n < sm n t + t n
    by_cases e : i = n
    · have h1 := sm_le (s := s) (t := t) n fun i hi => h i (by omega)
      rw [e] at hl
      omega
    · have h1 := sm_lt (s := s) (t := t) n (fun i hi => h i (by omega)) ⟨i, by omega, hl⟩
      have h2 := h n (by omega)
      omega
theorem some_more {s t : Nat → Nat} {n : Nat} (e : sm n s = sm n t) (h : ∃ i, i < n ∧ s i < t i) : ∃ j, j < n ∧ t j < s j := by
  refine Classical.byContradiction fun hn => ?_
  have : sm n s < sm n t := sm_lt n (fun i hi => Nat.le_of_not_lt fun hl => hn ⟨i, hi, hl⟩) h
  omega
theorem some_more' {s t : Nat → Nat} {n : Nat} (e : sm n s = sm n t) {k : Nat} (hk : k < n) (h : s k < t k) : ∃ j, j < n ∧ j ≠ k ∧ t j < s j := by
  obtain ⟨j, h1, h2⟩ := some_more e ⟨k, hk, h⟩
  exact ⟨j, h1, fun q => by rw [q] at h2; omega, h2⟩
/-- one more for i, one less for j -/
def up (s : Nat → Nat) (i : Nat) : Nat → Nat := fun x => if x = i then s x + 1 else s x
def dn (s : Nat → Nat) (j : Nat) : Nat → Nat := fun x => if x = j then s x - 1 else s x
def mv (s : Nat → Nat) (i j : Nat) : Nat → Nat := fun x => if x = i then s x + 1 else if x = j then s x - 1 else s x
theorem up_i (s : Nat → Nat) (i : Nat) : up s i i = s i + 1 := if_pos rfl
theorem up_ne (s : Nat → Nat) {i x : Nat} (h : x ≠ i) : up s i x = s x := if_neg h
theorem dn_i (s : Nat → Nat) (i : Nat) : dn s i i = s i - 1 := if_pos rfl
theorem dn_ne (s : Nat → Nat) {i x : Nat} (h : x ≠ i) : dn s i x = s x := if_neg h
theorem mv_i (s : Nat → Nat) (i j : Nat) : mv s i j i = s i + 1 := if_pos rfl
theorem mv_j (s : Nat → Nat) {i j : Nat} (h : j ≠ i) : mv s i j j = s j - 1 := by unfold mv; rw [if_neg h, if_pos rfl]
theorem mv_ne (s : Nat → Nat) {i j x : Nat} (h : x ≠ i) (h' : x ≠ j) : mv s i j x = s x := by unfold mv; rw [if_neg h, if_neg h']
theorem sm_up (s : Nat → Nat) (i : Nat) : ∀ n : Nat, sm n (up s i) = sm n s + (if i < n then 1 else 0)
  | 0 => rfl
  | n + 1 => by
    show sm n (up s i) + up s i n = sm n s + s n + _
    rw [sm_up s i n]
    by_cases e : n = i
    · subst e
      rw [up_i, if_neg (Nat.lt_irrefl _), if_pos (Nat.lt_succ_self _)]
      omega
    · rw [up_ne s e]
      by_cases h : i < n
      · rw [if_pos h, if_pos (by omega)]; omega
      · rw [if_neg h, if_neg (by omega)]; omega
theorem sm_dn (s : Nat → Nat) {j n : Nat} (h : j < n) (hj : 0 < s j) : sm n (dn s j) + 1 = sm n s := by
  have e := sm_up (dn s j) j n
  rw [if_pos h] at e
  rw [← e]
  refine sm_congr n fun i _ => ?_
  by_cases q : i = j
  · rw [q, up_i, dn_i]; omega
  · rw [up_ne _ q, dn_ne _ q]
theorem sm_mv (s : Nat → Nat) {i j n : Nat} (hi : i < n) (h : j < n) (hij : j ≠ i) (hj : 0 < s j) : sm n (mv s i j) = sm n s := by
  have e := sm_up (dn s j) i n
  rw [if_pos hi, sm_dn s h hj] at e
  rw [← e]
  refine sm_congr n fun x _ => ?_
  by_cases q : x = i
  · rw [q, up_i, mv_i, dn_ne _ hij.symm]
  · by_cases q' : x = j
    · rw [up_ne _ q, q', mv_j s hij, dn_i]
    · rw [up_ne _ q, dn_ne _ q', mv_ne s q q']

section
variable (d : Nat → Int) (n : Nat)
/-- no last seat has by its high count a lesser worth than another's next one by its low count -/
def Gd (lo hi : Nat → Int) (s : Nat → Nat) : Prop := ∀ k j, k < n → j < n → j ≠ k → 0 < s k → lo j * d (s k) ≤ hi k * d (s j + 1)
/-- no next seat of another has a greater worth -/
def Fst (x : Nat → Int) (r : Nat → Nat) (k : Nat) : Prop := ∀ j, j < n → x j * d (r k + 1) ≤ x k * d (r j + 1)
end
section
variable {d : Nat → Int} {n : Nat} (hp : ∀ k, 0 < k → 0 < d k) (hm : ∀ a b, a ≤ b → d a ≤ d b)
include hp hm
theorem exch {lo hi : Nat → Int} (h0 : ∀ i, i < n → 0 ≤ lo i) (hlh : ∀ i, i < n → lo i ≤ hi i) {s t : Nat → Nat} (gs : Gd d n lo hi s) (gt : Gd d n lo hi t) (e : sm n s = sm n t) (hA : ∃ i, i < n ∧ s i < t i) :
    ∃ i j, i < n ∧ j < n ∧ j ≠ i ∧ s i < t i ∧ t j < s j ∧ Gd d n lo hi (mv s i j) := by
  have hB := some_more e hA
  obtain ⟨i, i1, i2, i3⟩ := argmax (fun i => s i < t i) lo (fun i => d (s i + 1)) (fun i _ => hp _ (by omega)) n hA
  obtain ⟨j, j1, j2, j3⟩ := argmin (fun j => t j < s j) hi (fun j => d (s j)) (fun j h => hp _ (by omega)) n hB
  have hji : j ≠ i := fun q => by rw [q] at j2; omega
  have d0 : ∀ k, 0 < k → 0 ≤ d k := fun k h => Int.le_of_lt (hp k h)
  have hi0 : ∀ i, i < n → 0 ≤ hi i := fun i h => Int.le_trans (h0 i h) (hlh i h)
  -- by t: lo l of another against i's high, a seat earlier
  have key : ∀ a b u v, a < n → b < n → b ≠ a → 0 < t a → u ≤ t a → t b + 1 ≤ v → 0 < u → lo b * d u ≤ hi a * d v := fun a b u v ha hb hne hta hu hv hu0 => by
    refine Int.le_trans (Int.mul_le_mul_of_nonneg_left (hm u (t a) hu) (h0 b hb)) (Int.le_trans (gt a b ha hb hne hta) (Int.mul_le_mul_of_nonneg_left (hm _ _ hv) (hi0 a ha)))
  refine ⟨i, j, i1, j1, hji, i2, j2, ?_⟩
  intro k l hk hl hlk hsk
  by_cases ki : k = i
  · subst ki
    rw [mv_i]
    by_cases lj : l = j
    · subst lj
      rw [mv_j s hji, show s l - 1 + 1 = s l by omega]
      exact key k l _ _ hk hl hlk (by omega) (by omega) (by omega) (by omega)
    · rw [mv_ne s hlk lj]
      by_cases hl2 : s l < t l
      · exact Int.le_trans (i3 l hl hl2) (Int.mul_le_mul_of_nonneg_right (hlh k hk) (d0 _ (by omega)))
      · exact key k l _ _ hk hl hlk (by omega) (by omega) (by omega) (by omega)
  · by_cases kj : k = j
    · subst kj
      rw [mv_j s hji] at hsk ⊢
      have b1 : ∀ l, l < n → l ≠ k → lo l * d (s k - 1) ≤ hi k * d (s l + 1) := fun l hl hlk =>
        Int.le_trans (Int.mul_le_mul_of_nonneg_left (hm _ _ (by omega)) (h0 l hl)) (gs k l hk hl hlk (by omega))
      by_cases li : l = i
      · subst li
        rw [mv_i]
        exact Int.le_trans (b1 l hl hlk) (Int.mul_le_mul_of_nonneg_left (hm _ _ (by omega)) (hi0 k hk))
      · rw [mv_ne s li hlk]
        exact b1 l hl hlk
    · rw [mv_ne s ki kj] at hsk ⊢
      by_cases li : l = i
      · subst li
        rw [mv_i]
        exact Int.le_trans (gs k l hk hl hlk hsk) (Int.mul_le_mul_of_nonneg_left (hm _ _ (by omega)) (hi0 k hk))
      · by_cases lj : l = j
        · subst lj
          rw [mv_j s hji, show s l - 1 + 1 = s l by omega]
          by_cases hk2 : t k < s k
          · exact Int.le_trans (Int.mul_le_mul_of_nonneg_right (hlh l hl) (d0 _ hsk)) (j3 k hk hk2)
          · exact key k l _ _ hk hl hlk (by omega) (by omega) (by omega) hsk
        · rw [mv_ne s li lj]
          exact gs k l hk hl hlk hsk
/-- all numbers between come -/
theorem between {lo hi : Nat → Int} (h0 : ∀ i, i < n → 0 ≤ lo i) (hlh : ∀ i, i < n → lo i ≤ hi i) {t : Nat → Nat} (gt : Gd d n lo hi t) {k v : Nat} (hk : k < n) (hv : v ≤ t k) :
    ∀ (m : Nat) (s : Nat → Nat), sm n (fun i => t i - s i) ≤ m → Gd d n lo hi s → sm n s = sm n t → s k ≤ v → ∃ u, Gd d n lo hi u ∧ sm n u = sm n t ∧ u k = v
  | m, s, hgap, gs, e, hs => by
    by_cases q : s k = v
    · exact ⟨s, gs, e, q⟩
    · obtain ⟨i, j, i1, j1, hji, i2, j2, g⟩ := exch hp hm h0 hlh gs gt e ⟨k, hk, by omega⟩
      have e2 : sm n (mv s i j) = sm n t := (sm_mv s i1 j1 hji (by omega)).trans e
      have hlt : sm n (fun x => t x - mv s i j x) < sm n (fun x => t x - s x) := by
        refine sm_lt n (fun x hx => ?_) ⟨i, i1, ?_⟩
        · show t x - mv s i j x ≤ t x - s x
          by_cases xi : x = i
          · rw [xi, mv_i]; omega
          · by_cases xj : x = j
            · rw [xj, mv_j s hji]; omega
            · rw [mv_ne s xi xj]; omega
        · show t i - mv s i j i < t i - s i
          rw [mv_i]; omega
      have hk2 : mv s i j k ≤ v := by
        by_cases ki : k = i
        · rw [ki, mv_i]; rw [ki] at hs q; omega
        · by_cases kj : k = j
          · rw [kj] at hs hv q; omega
          · rw [mv_ne s ki kj]; exact hs
      cases m with
      | zero => omega
      | succ m => exact between h0 hlh gt hk hv m (mv s i j) (by omega) g e2 hk2
theorem tie {x : Nat → Int} (h0 : ∀ i, i < n → 0 ≤ x i) {t : Nat → Nat} (g : Gd d n x x t) {i j : Nat} (hi : i < n) (hj : j < n) (hij : i ≠ j) (ht : 0 < t i) (e : x i * d (t j + 1) = x j * d (t i)) : Gd d n x x (mv t j i) := by
  have d0 : ∀ k, 0 < k → 0 ≤ d k := fun k h => Int.le_of_lt (hp k h)
  intro k l hk hl hlk hsk
  by_cases kj : k = j
  · subst kj
    rw [mv_i]
    by_cases li : l = i
    · subst li
      rw [mv_j t hij, show t l - 1 + 1 = t l by omega]
      omega
    · rw [mv_ne t hlk li]
      -- x l * d (t k + 1) ≤ x k * d (t l + 1), by i's last seat
      exact frac_trans (b2 := d (t i)) (g i l hi hl (by omega) ht) (by omega) (d0 _ (by omega)) (hp _ ht) (d0 _ (by omega))
  · by_cases ki : k = i
    · subst ki
      rw [mv_j t hij] at hsk ⊢
      have b1 : ∀ l, l < n → l ≠ k → x l * d (t k - 1) ≤ x k * d (t l + 1) := fun l hl hlk =>
        Int.le_trans (Int.mul_le_mul_of_nonneg_left (hm _ _ (by omega)) (h0 l hl)) (g k l hk hl hlk (by omega))
      by_cases lj : l = j
      · subst lj
        rw [mv_i]
        exact Int.le_trans (b1 l hl hlk) (Int.mul_le_mul_of_nonneg_left (hm _ _ (by omega)) (h0 k hk))
      · rw [mv_ne t lj hlk]
        exact b1 l hl hlk
    · rw [mv_ne t kj ki] at hsk ⊢
      by_cases lj : l = j
      · subst lj
        rw [mv_i]
        exact Int.le_trans (g k l hk hl hlk hsk) (Int.mul_le_mul_of_nonneg_left (hm _ _ (by omega)) (h0 k hk))
      · by_cases li : l = i
        · subst li
          rw [mv_j t hij, show t l - 1 + 1 = t l by omega]
          -- x l * d (t k) ≤ x k * d (t l), by j's next seat
          exact frac_trans (b2 := d (t j + 1)) (a2 := x j) (by omega) (g k j hk hj (fun q => kj q.symm) hsk) (d0 _ ht) (hp _ (by omega)) (d0 _ hsk)
        · rw [mv_ne t lj li]
          exact g k l hk hl hlk hsk
/-- the least number is one of the member with its low count and the others' high ones -/
theorem least {lo hi x : Nat → Int} (h0 : ∀ i, i < n → 0 ≤ lo i) (hlh : ∀ i, i < n → lo i ≤ hi i) {k : Nat} (hk : k < n) (xk : x k = lo k) (xo : ∀ j, j < n → j ≠ k → x j = hi j) {s : Nat → Nat} (gs : Gd d n lo hi s) :
    ∀ (m : Nat) (t : Nat → Nat), t k - s k ≤ m → Gd d n x x t → sm n t = sm n s → ∃ u, Gd d n x x u ∧ sm n u = sm n s ∧ u k ≤ s k
  | m, t, hgap, gt, e => by
    by_cases q : t k ≤ s k
    · exact ⟨t, gt, e, q⟩
    · obtain ⟨j, j1, j2, j3⟩ := some_more' (s := s) (t := t) e.symm hk (by omega)
      have hi0 : ∀ i, i < n → 0 ≤ hi i := fun i h => Int.le_trans (h0 i h) (hlh i h)
      have x0 : ∀ i, i < n → 0 ≤ x i := fun i h => by
        by_cases ik : i = k
        · rw [ik, xk]; exact h0 k hk
        · rw [xo i h ik]; exact hi0 i h
      have a1 := gt k j hk j1 j2 (by omega)
      have a2 := gs j k j1 hk (fun w => j2 w.symm) (by omega)
      have a3 : hi j * d (s k + 1) ≤ hi j * d (t k) := Int.mul_le_mul_of_nonneg_left (hm _ _ (by omega)) (hi0 j j1)
      have a4 : lo k * d (t j + 1) ≤ lo k * d (s j) := Int.mul_le_mul_of_nonneg_left (hm _ _ (by omega)) (h0 k hk)
      have e1 : x k * d (t j + 1) = x j * d (t k) := by
        rw [xk, xo j j1 j2] at a1 ⊢
        omega
      have g := tie hp hm x0 gt hk j1 (fun w => j2 w.symm) (by omega) e1
      have e2 : sm n (mv t j k) = sm n s := (sm_mv t j1 hk (fun w => j2 w.symm) (by omega)).trans e
      have ek : mv t j k k = t k - 1 := mv_j t (fun w => j2 w.symm)
      cases m with
      | zero => omega
      | succ m => exact least h0 hlh hk xk xo gs m (mv t j k) (by omega) g e2
/-- the greatest number is one of the member with its high count and the others' low ones -/
theorem most {lo hi x : Nat → Int} (h0 : ∀ i, i < n → 0 ≤ lo i) (hlh : ∀ i, i < n → lo i ≤ hi i) {k : Nat} (hk : k < n) (xk : x k = hi k) (xo : ∀ j, j < n → j ≠ k → x j = lo j) {s : Nat → Nat} (gs : Gd d n lo hi s) :
    ∀ (m : Nat) (t : Nat → Nat), s k - t k ≤ m → Gd d n x x t → sm n t = sm n s → ∃ u, Gd d n x x u ∧ sm n u = sm n s ∧ s k ≤ u k
  | m, t, hgap, gt, e => by
    by_cases q : s k ≤ t k
    · exact ⟨t, gt, e, q⟩
    · obtain ⟨j, j1, j2, j3⟩ := some_more' (s := t) (t := s) e hk (by omega)
      have hi0 : ∀ i, i < n → 0 ≤ hi i := fun i h => Int.le_trans (h0 i h) (hlh i h)
      have x0 : ∀ i, i < n → 0 ≤ x i := fun i h => by
        by_cases ik : i = k
        · rw [ik, xk]; exact hi0 k hk
        · rw [xo i h ik]; exact h0 i h
      have a1 := gt j k j1 hk (fun w => j2 w.symm) (by omega)
      have a2 := gs k j hk j1 j2 (by omega)
      have a3 : hi k * d (s j + 1) ≤ hi k * d (t j) := Int.mul_le_mul_of_nonneg_left (hm _ _ (by omega)) (hi0 k hk)
      have a4 : lo j * d (t k + 1) ≤ lo j * d (s k) := Int.mul_le_mul_of_nonneg_left (hm _ _ (by omega)) (h0 j j1)
      have e1 : x j * d (t k + 1) = x k * d (t j) := by
        rw [xk, xo j j1 j2] at a1 ⊢
        omega
      have g := tie hp hm x0 gt j1 hk j2 (by omega) e1
      have e2 : sm n (mv t k j) = sm n s := (sm_mv t hk j1 j2 (by omega)).trans e
      have ek : mv t k j k = t k + 1 := mv_i t k j
      cases m with
      | zero => omega
      | succ m => exact most h0 hlh hk xk xo gs m (mv t k j) (by omega) g e2
/-- a seat to any greatest worth -/
theorem give {x : Nat → Int} (h0 : ∀ i, i < n → 0 ≤ x i) {r : Nat → Nat} (g : Gd d n x x r) {k : Nat} (hk : k < n) (f : Fst d n x r k) : Gd d n x x (up r k) := by
  intro a b ha hb hne hpos
  by_cases ak : a = k
  · subst ak
    rw [up_i, up_ne r hne]
    exact f b hb
  · rw [up_ne r ak] at hpos ⊢
    by_cases bk : b = k
    · subst bk
      rw [up_i]
      exact Int.le_trans (g a b ha hb hne hpos) (Int.mul_le_mul_of_nonneg_left (hm _ _ (by omega)) (h0 a ha))
    · rw [up_ne r bk]
      exact g a b ha hb hne hpos
theorem take {x : Nat → Int} (h0 : ∀ i, i < n → 0 ≤ x i) {r : Nat → Nat} (g : Gd d n x x r) (hs : ∃ i, i < n ∧ 0 < r i) : ∃ k, k < n ∧ 0 < r k ∧ Gd d n x x (dn r k) ∧ Fst d n x (dn r k) k := by
  obtain ⟨k, k1, k2, k3⟩ := argmin (fun i => 0 < r i) x (fun i => d (r i)) (fun i h => hp _ h) n hs
  refine ⟨k, k1, k2, fun a b ha hb hne hpos => ?_, fun j hj => ?_⟩
  · by_cases ak : a = k
    · subst ak
      rw [dn_i] at hpos ⊢
      rw [dn_ne r hne]
      exact Int.le_trans (Int.mul_le_mul_of_nonneg_left (hm _ _ (by omega)) (h0 b hb)) (g a b ha hb hne k2)
    · rw [dn_ne r ak] at hpos ⊢
      by_cases bk : b = k
      · subst bk
        rw [dn_i, show r b - 1 + 1 = r b by omega]
        exact k3 a ha hpos
      · rw [dn_ne r bk]
        exact g a b ha hb hne hpos
  · rw [dn_i, show r k - 1 + 1 = r k by omega]
    by_cases jk : j = k
    · subst jk
      rw [dn_i, show r j - 1 + 1 = r j by omega]
      exact Int.le_refl _
    · rw [dn_ne r jk]
      exact g k j k1 hj jk k2
omit hm in
theorem first_there (x : Nat → Int) (r : Nat → Nat) (hn : 0 < n) : ∃ k, k < n ∧ Fst d n x r k := by
  obtain ⟨k, k1, _, k3⟩ := argmax (fun _ => True) x (fun i => d (r i + 1)) (fun i _ => hp _ (by omega)) n ⟨0, hn, trivial⟩
  exact ⟨k, k1, fun j hj => k3 j hj trivial⟩
/-- some seating comes of each member -/
theorem comes_some {x : Nat → Int} (h0 : ∀ i, i < n → 0 ≤ x i) (hn : 0 < n) : ∀ T : Nat, ∃ r, Gd d n x x r ∧ sm n r = T
  | 0 => ⟨fun _ => 0, fun _ _ _ _ _ h => absurd h (Nat.lt_irrefl _), by
      have : ∀ n : Nat, sm n (fun _ => 0) = 0 := fun n => by
        induction n with
        | zero => rfl
        | succ n ih => show sm n _ + 0 = 0; rw [ih]
      exact this n⟩
  | T + 1 => by
    obtain ⟨r, g, e⟩ := comes_some h0 hn T
    obtain ⟨k, k1, k2⟩ := first_there (d := d) hp x r hn
    exact ⟨up r k, give hp hm h0 g k1 k2, by rw [sm_up, if_pos k1, e]⟩
end
end Ap
end
section
set_option Elab.async false
set_option linter.all false
set_option maxRecDepth 100000
/-! Rules that the layer lacks: f(k = v, ..) by keywords alone, len of an own object, sum of a tuple, repr of data, a tuple known to have no dict and its methods. -/
namespace Ru
open PySem PySem.Spec PyProof.Rows L2
section
variable {X : Cx}
/-- f(k = v, ..), nothing by position -/
theorem pe_keys {CX : CXT} {k : Nat} {f : Addr} {fd : FuncData} {ps ks : List Str} {sp : Sp} {E : XK} {x : Str} {p pos : Pos} {kws : List Keyword} {tk : TA} {g : List Value → List Value → List Value} {gV : List V → List V → List V}
    (F : FnOk X.prog X.w X.K X.mg X.base CX k f fd ps sp) (room : Room k X.A) (gl : Gl X x) (m : X.mg x = some (.ref f)) (kp : PySem.W.keepIn X.K (.ref f) = true) (b : KBinds X.K fd ps ks g gV) (pass : Passes CX X E) (hk : PK X kws tk) (db : (x == ("__debug__" : Str)) = false)
    (form : (backToKw pos (keywordEach kws X.env)).all (·.1.isSome) = true ∧ (backToKw pos (keywordEach kws X.env)).filterMap (·.1) = ks ∧ ((backTo pos (starEach [] X.env)).any (·.1) || (backToKw pos (keywordEach kws X.env)).any (·.1.isNone)) = false) :
    PE X (.Call (.Name x p) [] kws pos) (tCallK sp gV E tNil tk) where
  run pins s σ H Q I h := wpAny_Call_Name_kw (ld_glob I gl m (PySem.W.callWith_KW0 (h₀ := X.base) I.ok.mod.kin kp form.1 (thn (hk.run pos pins s σ H _ I h) fun ws t ⟨zs, H2, J, r, q⟩ =>
    ⟨J.kIn, form.2.1 ▸ run_fnk (us := []) (vs := []) F room b pass J .nil r q⟩) form.2.2) db)
/-- len(o), o of an own class: its __len__, between 0 and 2^63 -/
def rLenO (C : Addr) (sp : Sp) (E : XK) : List V → Hp → VK → Prop := fun xs H Q => ∃ a dx fs, xs = [V.ref a] ∧ H a = some (.ins C dx fs) ∧ sp [.ref a] H (fun v H' => ∃ n : Int, v = .int n ∧ 0 ≤ n ∧ n < 2 ^ 63 ∧ Q (.int n) H') E
theorem call_lenO {CX : CXT} {k : Nat} {f C : Addr} {fd : FuncData} {ps : List Str} {sp : Sp} {E : XK} (at_ : PySem.W.findIn X.K (.ref C) "__len__" = some (some (.ref f))) (fn : PySem.W.isFn X.K (.ref f) = true) (F : FnOk X.prog X.w X.K X.mg X.base CX k f fd ps sp) (b : Binds X.K fd ps []) (room : Room (k + 1) X.A) (pass : Passes CX X E) :
    CallR X (.builtin "len") (rLenO C sp E) := by
  rintro pins s σ H _ us Q I r ⟨a, dx, fs, rfl, ob, z⟩
  obtain ⟨_, O, _⟩ := ins_get I.hok ob
  obtain ⟨_, J, _⟩ := O.look
  obtain ⟨_, hF⟩ := I.fr
  have many : ([Value.ref a] ++ []).length = ps.length := F.len _ _ _ _ z
  rw [Vals.ref1 r]
  refine PySem.W.len_K hF I.ok.mod.kin J at_ fn (wpAny_call (codeAny_mono (F.run _ X.stack s H _ _ [.ref a] _ E room.in1 I.env0.in1 (b s [.ref a] I.kIn many) (.cons rfl .nil) z) ?_))
  rintro (e | _ | _ | _ | u) t w
  · exact pass pins σ H s e t I w
  · exact w.elim
  · exact w.elim
  · exact w.elim
  · obtain ⟨_, H', I2, ru, n, rfl, lo, hi, q⟩ := I.after w
    obtain ⟨_, rfl⟩ : ∃ t, u = Value.int n t := ru
    exact ⟨⟨lo, hi⟩, .int n, H', I2.tok _, ⟨_, rfl⟩, q⟩
/-- sum of a tuple of ints -/
def rSumT (K : PySem.W.Frag) : List V → Hp → VK → Prop := fun vs H Q => ∃ (a : Addr) (ns : List Int), vs = [V.ref a] ∧ SqT K H a (ns.map V.int) ∧ Q (.int ns.sum) H
theorem cr_sumT (calm : X.calm = true) : CallR X (.builtin "sum") (rSumT X.K) := by
  rintro pins s σ H _ us Q I r ⟨a, ns, rfl, sq, q⟩
  obtain ⟨its, rv, at_, _⟩ := I.tuple sq
  have num := rv.ints
  obtain ⟨zs, e⟩ := num.allInts.items
  have same : numsOf its.toArray.toList = ns := num.numsOf
  have at2 : s.heap.IsTuple a its.toArray := at_
  rw [e] at at2 same
  rw [nums_intItems] at same
  rw [Vals.ref1 r]
  refine PySem.W.ktm_sumG (I.ok.hd calm) at2 fun h' tk t k => ?_
  have sum : preSum (numAt zs) zs.size = ns.sum := by
    rw [← same, preSum_eq, List.take_of_length_le (by rw [List.length_map, Array.length_toList]; exact Nat.le_refl _)]
  exact ⟨.int ns.sum, H, I.kept (t' := tk) k, ⟨t, by rw [sum]⟩, q⟩
/-- repr of a list or a tuple of data, where no repr is under way -/
def rReprD (K : PySem.W.Frag) : List V → Hp → VK → Prop := fun vs H Q => ∃ (a : Addr) (d : PyData), vs = [V.ref a] ∧ Dp K H (.ref a) d ∧ d.showable = true ∧ d.hasDict = false ∧ d.depth ≤ 50 ∧ d.shown.length ≤ sizeLine ∧ Q (.str d.shown) H
theorem call_reprD (room : X.A.units + 64 < cLine) (calm : X.A.guards = some []) : CallR X (.builtin "repr") (rReprD X.K) := by
  rintro pins s σ H _ us Q I r ⟨a, d, rfl, data, show_, flat, low, fits, q⟩
  rw [Vals.ref1 r]
  obtain ⟨_, reads⟩ := Dp.reads I d (.ref a) (.ref a) data rfl
  exact repr_of_reads' reads show_ (fun z => absurd (flat.symm.trans z) Bool.false_ne_true) calm (by omega) (fun _ _ e => e) (fun _ t tk k => ⟨.str d.shown, H, I.kept (t' := tk) k, ⟨t, rfl⟩, q⟩) fits
/-- a tuple whose object is known, so that it is known to have no dict of its own -/
def FrT (H : Hp) (p : Addr) (ys : List V) : Prop := ∃ o : Obj, H p = some (.frz o (.tup ys)) ∧ o.cls = .type "tuple" ∧ o.dict = none
/-- tuple(xs), xs a list, is such a one -/
theorem call_tupleF : CallR X (.type "tuple") (fun xs H Q => ∃ p ys, xs = [.ref p] ∧ SqL X.K H p ys ∧ ∀ (l : Addr) (o : Obj), H l = none → o.cls = .type "tuple" → o.dict = none → Q (.ref l) (upd H l (.frz o (.tup ys)))) := by
  rintro pins s σ H _ us Q I r ⟨p, ys, rfl, sq, q⟩
  rw [Vals.ref1 r]
  obtain ⟨its, rv, at_, fits⟩ := I.list sq
  refine call_tuple_list at_.isList (fun h1 k => ?_) (by rw [List.size_toArray, ← rv.length]; exact fits)
  have J := I.kept (t' := s.toks) k
  have e : (h1.push { cls := .type "tuple", data := .seq its.toArray }).get? h1.objs.size = some _ := Heap.get?_push_size _ rfl
  exact ⟨.ref _, _, J.laid (t' := s.toks) (o := .frz _ (.tup ys)) (fun _ _ => Heap.get?_push_of_some _) (Nat.le_refl _) ⟨e, fits, its, rv, _, e, rfl, _, rfl⟩, rfl, q _ _ (J.hok.fresh (Nat.le_refl _)) rfl rfl⟩
/-- t.m(e), t such a one -/
def tTM (r : V → List V → Hp → VK → Prop) (to te : TE) : TE := fun σ H Q => to σ H fun x H1 => (∃ p ys, x = .ref p ∧ FrT H1 p ys) ∧ te σ H1 fun y H2 => r x [y] H2 Q
theorem pe_tm {o e : Expr} {to te : TE} {name : Str} {apos pos : Pos} {id : String} {r : V → List V → Hp → VK → Prop} (plain : PlainAttrs "tuple") (slot : Slot "tuple" name id) (ty : typeOf (.builtin id) = pure (.type "method_descriptor")) (rule : MtR X id r) (ho : PE X o to) (he : PE X e te)
    (form : attributeBase o name X.env (eval o X.env) = eval o X.env ∧ (apos.endLine == pos.line) = true ∧ backTo pos (starEach [e] X.env) = [(false, eval e X.env)] := by exact ⟨by rfl, by rfl, by rfl⟩) : PE X (.Call (.Attribute o name apos) [e] [] pos) (tTM r to te) where
  run pins s σ H Q I h := wpAny_Call_method1_late form.1 form.2.1 form.2.2 (thn (ho.run pins s σ H _ I h) fun v t ⟨_, H1, J, rv, ⟨p, ys, ep, ob, hp, hc, hd⟩, q⟩ => by
    subst ep
    obtain rfl : v = .ref p := rv
    have at_ := (J.hok p _ hp).1
    exact ⟨"tuple", id, plain, slot, ty, ⟨ob, at_, hc⟩, fun _ z => by cases z; exact ⟨ob, at_, hd⟩, Calls.callWith_builtin rfl (Calls.evalArgs_plain (Calls.spliced_cons (thn (he.run pins t σ H1 _ J q) fun u t2 ⟨y, H2, J2, ru, q2⟩ =>
      Calls.spliced_nil (rule pins t2 σ H2 (.ref p) [y] (.ref p) [u] Q J2 rfl (.cons ru .nil) q2))))⟩)
end
end Ru
end
section
set_option Elab.async false
set_option linter.all false
set_option maxRecDepth 100000
/-! Promises that hold where no repr is under way (repr of a list or a tuple wants to know it). -/
namespace Gu
open PySem PySem.Spec PyProof.Rows L2
/-- the def at f, called by position where no repr is under way: what it promises -/
structure Quiet (P : Program) (w : World) (K : PySem.W.Frag) (mg : Str → Option Value) (base : Heap) (k : Nat) (f : Addr) (sp : Sp) : Prop where
  called : ∀ {A : Around} {outer : List Env} {s : Shared} {H : Hp} {us : List Value} {vs : List V} {Q : VK} {E : XK}, A.guards = some [] → Room k A → Env0 P w K mg base A outer s H → Vals vs us → sp vs H Q E →
    codeAny (model P w) A (.call (.ref f) ⟨us, []⟩) (CR CX0 outer P w H s Q E) s
section
variable {K : PySem.W.Frag} {P : Program} {w : World} {base : Heap} {mg : Str → Option Value}
theorem Quiet.more {j k : Nat} {f : Addr} {sp : Sp} (F : Quiet P w K mg base j f sp) (h : j ≤ k) : Quiet P w K mg base k f sp := ⟨fun g r e v z => F.called g (r.mono h) e v z⟩
theorem Quiet.less {k : Nat} {f : Addr} {sp sp' : Sp} (F : Quiet P w K mg base k f sp) (h : ∀ vs H Q E, sp' vs H Q E → sp vs H Q E) : Quiet P w K mg base k f sp' := ⟨fun g r e v z => F.called g r e v (h _ _ _ _ z)⟩
/-- by its body, told as a term -/
theorem quiet {x qual : Str} {sm : Stmt} {f : Addr} {fd : FuncData} {N ps : List Str} {k : Nat} {sp : Sp} (F : Fun K x qual sm f fd) (S : FnScope N ps (defScope sm)) (b : Binds K fd ps []) (len : ∀ {vs H Q E}, sp vs H Q E → vs.length = ps.length)
    (body : ∀ {cdv : Value} {A : Around} {outer : List Env} {s : Shared} {H : Hp} {vs : List V} {Q : VK} {E : XK}, A.guards = some [] → Room k (A.deeper (envOfC qual (defScope sm) s.heap.objs.size f cdv)) → sp vs H Q E →
      ∃ t, PSs (cxOf CX0 P w K mg base N qual (defScope sm) f cdv A outer s H E).nox (defBody sm) t ∧ t { nx := fun _ H' => Q .non H', rt := Q } (start N vs) H) : Quiet P w K mg base (k + 1) f sp := by
  refine ⟨fun {A outer s H us vs Q E} calm room env val z => ?_⟩
  obtain ⟨_, _, _, _, _, _, cdv, _, _, rfl, at_, code⟩ := F.ex
  have stay : ∀ b o, base.get? b = some o → s.heap.get? b = some o := fun b o e => (env.bs b o e).1
  have KI := env.mod.kin.keeps stay
  have many := len z
  have bound := b s us KI (by rw [List.append_nil, ← val.length, many])
  rw [List.append_nil] at bound
  refine codeAny_call_function room.depth (KI _ _ at_) rfl S.co S.gen rfl (PySem.W.codeRec_of KI code) (bound _ _ _ _ (wpAny_newFunctionEnv_cells S.kind (fun y hy => (S.par y.1 (List.of_mem_zip hy).1).imp_right fun c => ⟨c, PySem.W.cellsFrom_some _ _ _ (.inl c)⟩) ?_))
  rintro _ rfl t here
  obtain ⟨T, run, told⟩ := body (cdv := cdv) (outer := outer) calm (room.deeper _) z
  refine ⟨(env.mod.nolimit.keeps stay).keeps here.toInCall.keep, codeAny_func (wpAny_mono (run.nox.run [] t _ H _ (inv_start S room.hd env many val here) told) ?_ fun _ _ e => e)⟩
  rintro (_ | _ | _ | u) t' e
  all_goals first
    | (obtain ⟨v, _, H', J, rv, q⟩ := e; exact ⟨v, H', J.os, J.bare, J.base, J.hok, rv, q⟩)
    | (obtain ⟨_, H', J, q⟩ := e; exact ⟨.non, H', J.os, J.bare, J.base, J.hok, rfl, q⟩)
    | (obtain ⟨_, _, _, q⟩ := e; exact q.elim)
end
/-- f(e, ..) of such a def -/
theorem pe_quiet {X : Cx} {k : Nat} {f : Addr} {sp : Sp} {x : Str} {p pos : Pos} {e : Expr} {es : List Expr} {t : TA} (F : Quiet X.prog X.w X.K X.mg X.base k f sp) (calm : X.A.guards = some []) (room : Room k X.A) (g : Gl X x) (m : X.mg x = some (.ref f)) (kp : PySem.W.keepIn X.K (.ref f) = true)
    (ha : PA X (e :: es) t) (db : (x == ("__debug__" : Str)) = false) (plain : starEach (e :: es) X.env = (false, eval e X.env) :: starEach es X.env ∧ (backTo pos (starEach es X.env)).any (·.1) = false) : PE X (.Call (.Name x p) (e :: es) [] pos) (tCall sp [] E0 t) where
  run pins s σ H Q I h := wpAny_Call_Name_kw (ld_glob I g m (PySem.W.callWith_K (h₀ := X.base) I.ok.mod.kin kp (thn (ha.run pos pins s σ H _ I h) fun us t ⟨vs, H1, J, r, q⟩ =>
    ⟨J.kIn, wpAny_call (codeAny_mono (F.called calm room J.env0 r (E := E0) (List.append_nil vs ▸ (show sp (vs ++ []) H1 Q E0 from q))) fun
      | .ok (.ret _), _, z => J.after z
      | .ok .next, _, z => z.elim
      | .ok .brk, _, z => z.elim
      | .ok .cont, _, z => z.elim
      | .error _, _, z => z.elim)⟩) plain.1 plain.2) db)
/-! ### the law's own call -/
/-- what is tracked then: the script alone, and not even it where it is an object of the module -/
def script (K : PySem.W.Frag) (a : Addr) (o : Obj) (ns : List Int) : Hp := fun b => if b = a ∧ K.lookup a = none then some (.frz o (.lst (ns.map V.int))) else none
theorem script_only {K : PySem.W.Frag} {a b : Addr} {o : Obj} {ns : List Int} {u : HO} (h : script K a o ns b = some u) : b = a ∧ K.lookup a = none ∧ u = .frz o (.lst (ns.map V.int)) := by
  unfold script at h
  split at h
  · exact ⟨‹_ ∧ _›.1, ‹_ ∧ _›.2, (Option.some.inj h).symm⟩
  · cases h
theorem script_not {K : PySem.W.Frag} {a b : Addr} {o : Obj} {ns : List Int} (h : ∀ u, script K a o ns b ≠ some u) : script K a o ns b = none := Option.eq_none_iff_forall_ne_some.mpr h
theorem law_true {P : Program} {w : World} {K : PySem.W.Frag} {mg mb : Str → Option Value} {k : Nat} {fa a : Addr} {sp : Sp} {s : Shared} {vs : List Value} {ns : List Int} (X : K.In s.heap) (G : s.heap.Ns mainGlobals mg) (B : s.heap.Ns builtinsNs mb)
    (BB : ∀ x : Str, x ≠ "__name__" → mb x = bootBuiltins x) (lim : s.heap.NoLimit) (gens : s.gens = #[]) (at_ : s.heap.get? a = some { cls := .type "list", data := .seq vs.toArray }) (num : IntsAre vs ns) (few : ns.length ≤ sizeLine) (room : Room k callerA)
    (F : ∀ base, Quiet P w K mg base k fa sp) (told : ∀ H, SqL K H a (ns.map V.int) → sp [.ref a] H (fun v _ => v = .bl true) E0) :
    codeAny (model P w) callerA (.call (.ref fa) ⟨[.ref a], []⟩) (fun r t => r = .ok (.ret (.bool true)) ∧ OldK s.heap t.heap ∧ t.os = s.os ∧ AllBare t.gens) s := by
  have val : Vals (ns.map V.int) vs := vals_ints num
  have H0 : ∃ H, H = script K a { cls := .type "list", data := .seq vs.toArray } ns := ⟨_, rfl⟩
  obtain ⟨H, hH⟩ := H0
  have one : ∀ {b u}, H b = some u → b = a ∧ K.lookup a = none ∧ u = .frz { cls := .type "list", data := .seq vs.toArray } (.lst (ns.map V.int)) := fun z => script_only (hH ▸ z)
  have nor : ∀ {b}, (b = a → K.lookup a = none → False) → H b = none := fun z => by
    rw [hH]
    exact script_not fun u e => z (script_only e).1 (script_only e).2.1
  -- the script is read
  have sq : SqL K H a (ns.map V.int) := by
    cases q : K.lookup a with
    | none => exact .inl (.inr ⟨_, by rw [hH]; exact if_pos ⟨rfl, q⟩⟩)
    | some o =>
      obtain rfl := Option.some.inj (at_.symm.trans (X a o q))
      exact .inr ⟨_, vs.toArray, _, q, rfl, rfl, rfl, by rw [List.size_toArray, ← val.length, List.length_map]; exact few, val⟩
  -- what does not move: all but the script
  have ns_ : ∀ {b m}, s.heap.Ns b m → (hidT s.heap H).Ns b m := fun ⟨o, es, ep, e, d, r⟩ => ⟨o, es, ep, hidT_get e (nor fun z _ => by
    subst z
    obtain rfl := Option.some.inj (at_.symm.trans e)
    exact nomatch d), d, r⟩
  have KB : K.In (hidT s.heap H) := fun b o e => hidT_get (X b o e) (nor fun z n => by rw [z, n] at e; cases e)
  have env : Env0 P w K mg (hidT s.heap H) callerA [] s H := by
    refine ⟨rfl, ⟨KB, ns_ G, ⟨mb, ns_ B, BB⟩, lim.imp fun _ h => ⟨ns_ h.1, h.2⟩⟩, fun _ _ e => of_hidT e, Nat.le_of_eq (hidT_size _ _), trivial, fun _ => nofun, fun b u e => ?_, .of_eq gens⟩
    obtain ⟨rfl, _, rfl⟩ := one e
    exact ⟨at_, by rw [List.length_map]; exact few, vs, _, val, at_⟩
  refine codeAny_mono ((F _).called (vs := [.ref a]) rfl room env (.cons rfl .nil) (told H sq)) fun
    | .ok (.ret u), t, ⟨v, H', os, bare, un, ok, rv, q⟩ => ?_
    | .ok .next, _, z => z.elim
    | .ok .brk, _, z => z.elim
    | .ok .cont, _, z => z.elim
    | .error _, _, z => z.elim
  obtain rfl : v = .bl true := q
  obtain rfl : u = Value.bool true := rv
  refine ⟨rfl, .of_keep fun b o e => ?_, os, bare⟩
  cases q : H b with
  | none => exact un.keep b o e q nofun nofun
  | some u =>
    obtain ⟨rfl, _, rfl⟩ := one q
    obtain rfl := Option.some.inj (at_.symm.trans e)
    exact (ok _ _ (un.frzs _ _ _ q)).1
/-- the law of a row, from the promise of its def -/
theorem holds {l : PySem.W.OpenLaw} {q : Program} {loose : List Str} {XP : (Str → Option Value) → Heap → Prop} {YP : World → Heap → Prop} {d : DefRec} {K : Params → PySem.W.Frag} {k n : Nat} {sp : World → Sp} (most : l.most = some n) (few : n ≤ sizeLine) (plain : d.params.defaults = []) (room : Room k callerA)
    (part : ∀ (w : World) (h : Heap), YP w h → (K w.params).In h) (F : ∀ (w : World) (mg : Str → Option Value) (fa : Addr) (h : Heap), (K w.params).In h → h.Ns mainGlobals mg → mg d.name = some (.ref fa) → ∀ base, Quiet l.prog w (K w.params) mg base k fa (sp w))
    (told : ∀ (w : World) (a : Addr) (ns : List Int) (H : Hp), SqL (K w.params) H a (ns.map V.int) → sp w [.ref a] H (fun v _ => v = .bl true) E0) : PySem.W.WalkO q loose XP YP l.row.toRowW d [] (fun f vs => PySem.call f vs) :=
  Att.attach_call most plain fun w _ _ mg _ fa _ _ _ _ a _ ns G Y _ _ _ name obj num len gens => law_true (part w _ Y) G.T.g G.T.b G.T.builtins G.T.nolimit gens obj num (Nat.le_trans len few) room (F w mg fa _ (part w _ Y) G.T.g name) (told w a ns)
end Gu
end
section
set_option Elab.async false
set_option linter.all false
set_option maxRecDepth 100000
/-! for i, x in enumerate(t), t a tuple: the library's enumerate over anything that is drawn from (WalksT.enumFrom, Draws.tuple), turned into a walk of the layer. -/
namespace En
open PySem PySem.Spec PyProof.Rows L2
/-- enumerate(v): what it makes, v anything whose iterator is one new object -/
theorem makes {v : Value} {o : Obj} {G : Heap → Prop} (B : Begins v o G) :
    Meets (Builtin.«enumerate.__new__» ⟨[.type "enumerate", v], []⟩) (fun _ R s => G s.heap ∧
      R (.ok (.ret (.ref (s.heap.push o).objs.size))) { s with heap := (s.heap.push o).push { cls := .type "enumerate", data := .fields #[.none, .bool false, .ref s.heap.objs.size, rawInt 0, .none, .none] } }) :=
  .of_wp fun P w A R ⟨hp, g, d, tk, os⟩ ⟨g0, r⟩ => by
    have self := sub_enumerate
    have it : ∀ {A' : Around} {E : Value → Shared → Prop} {Q : Value → Shared → Prop}, Q (.ref hp.objs.size) ⟨hp.push o, g, d, tk, os⟩ → wpAny (model P w) A' (pyIter v) Q E ⟨hp, g, d, tk, os⟩ := fun q => B.iter P w _ _ ⟨hp, g, d, tk, os⟩ _ g0 q
    wp_walk using it
    refine wpAny_stack_any fun _ => wpAny_pure ?_
    split
    · rename_i t _ _ _ _ _
      rcases Bool.eq_false_or_eq_true (t == Value.type "enumerate") with z | z
      all_goals
        rw [z]
        wp_walk using it
        exact ⟨_, rfl, r⟩
    · wp_walk using it
      exact ⟨_, rfl, r⟩
/-- .. as a call -/
theorem made {P : Program} {w : World} {A : Around} {E : Value → Shared → Prop} {s : Shared} {v : Value} {o : Obj} {G : Heap → Prop} {Q : Value → Shared → Prop} (B : Begins v o G) (g : G s.heap)
    (h : ∀ h', IsEnum h' (s.heap.objs.size + 1) s.heap.objs.size 0 .none → h'.get? s.heap.objs.size = some o → (∀ b u, s.heap.get? b = some u → h'.get? b = some u) → Q (.ref (s.heap.objs.size + 1)) { s with heap := h' }) :
    wpAny (model P w) A (call (.type "enumerate") [v]) Q E s := by
  refine callType_new F.called_enumerate (by decide) (F.typeCall_enumerate_1 _) (F.newCall_enumerate_1 _) (fun _ => F.args_object_init_2 _ _) F.entry_enumerate_new (makes B) ⟨g, ?_⟩
  have top := Heap.get?_push_size (s.heap.push o) (o := { cls := .type "enumerate", data := .fields #[.none, .bool false, .ref s.heap.objs.size, rawInt 0, .none, .none] }) rfl
  have N : (s.heap.push o).objs.size = s.heap.objs.size + 1 := Heap.size_push ..
  show Shared.TypeIs _ _ _ ∧ Q _ _
  rw [N] at top ⊢
  exact ⟨⟨_, top, rfl⟩, h _ top (Heap.get?_push_of_some _ (Heap.get?_push_size _ B.free)) fun b u z => Heap.get?_push_of_some _ (Heap.get?_push_of_some _ z)⟩
/-- the n items of the tuple at a, each in a new pair behind its number -/
def IteT (K : PySem.W.Frag) (a : Addr) (n : Nat) : It where
  go i H := i < n ∧ ∃ xs, SqT K H a xs ∧ xs.length = n
  yld i H v H' := ∃ T x, v = .ref T ∧ H T = none ∧ H' = upd H T (.tup [.int (i : Nat), x]) ∧ ∀ xs, SqT K H a xs → xs[i]? = some x
  stop i H := n ≤ i ∧ ∃ xs, SqT K H a xs ∧ xs.length = n
theorem turn_enumT {P : Program} {w : World} {K : PySem.W.Frag} {elts : List Expr} {kk n : Nat} {tpos : Pos} {a e it : Addr} (ne1 : e ≠ it) (ne2 : a ≠ it) (ne3 : e ≠ a) :
    Turn P w K (.Tuple elts kk tpos) (IteT K a n) [e, it] e fun i h => i ≤ n ∧ (∃ old, IsEnum h e it (0 + (i : Int)) old) ∧ h.IsTupleIter it a i where
  mem := List.mem_cons_self
  obj := by
    rintro i h ⟨_, ⟨old, he⟩, o, ho, _, hd⟩ b hb
    rcases List.mem_cons.mp hb with rfl | hb
    · exact ⟨_, he, fun _ => nofun⟩
    · rw [List.mem_singleton.mp hb]
      exact ⟨o, ho, fun _ z => by rw [hd] at z; exact nomatch z⟩
  keep := fun i h h' ⟨le, ⟨old, he⟩, hit⟩ k => ⟨le, ⟨old, k e List.mem_cons_self _ he⟩, hit.at (k it (List.mem_cons_of_mem _ List.mem_cons_self))⟩
  item := by
    rintro X rfl rfl rfl calm i pins s σ H E I fp ⟨_, he, hit⟩ ⟨lt, xs, sq, rfl⟩
    obtain ⟨its, rv, at_, _⟩ := I.tuple sq
    have W := WalksT.enumFrom (prog := X.prog) (w := X.w) (A := X.A) 0 (Draws.tuple (show X.A.in1.handled = none from I.ok.hd calm) it a ne2 its.toArray) e ne1 (by simp [ne1, ne3]) List.mem_cons_self
    refine W.item i s _ E (by rw [List.size_toArray, ← rv.length]; exact lt) ⟨he, hit, at_⟩ fun T vals h' tk got new tup mid k => ⟨.ref T, rfl, W.go elts kk tpos i T _ _ E mid fun h2 st k2 => ?_⟩
    obtain ⟨t, v, hv, rfl⟩ := got
    obtain ⟨o, ho, oc, m, od⟩ := tup
    have hx := List.getElem?_eq_getElem lt
    obtain ⟨u, hu, ru⟩ := rv.get hx
    have vu : v = u := Option.some.inj (hv.symm.trans (by simpa using hu))
    subst vu
    have away := W.apart i T _ mid
    have J := I.turnedNew (t' := tk) (ob := .tup [.int (i : Nat), xs[i]]) (fun b o hb z => k2 b o hb (k b o hb z)) fp new
      ⟨by show 2 ≤ sizeLine; decide, [.int (0 + (i : Int)) t, v], .cons ⟨t, by rw [Int.zero_add]⟩ (.cons ru .nil), ⟨o, k2 T o away ho, oc, m, od⟩⟩
    exact ⟨.ref T, _, J, rfl, ⟨T, _, rfl, I.hok.fresh new, rfl, fun ys hy => by rw [I.tuple_inj hy sq]; exact hx⟩, ⟨lt, st.1, st.2.1⟩, fun b hb => (upd_ne fun z : b = T => away (z ▸ hb)).trans (fp b hb).1⟩
  done := by
    rintro X rfl rfl rfl calm i pins s σ H E I fp ⟨le, he, hit⟩ ⟨ge, xs, sq, rfl⟩
    obtain ⟨its, rv, at_, _⟩ := I.tuple sq
    obtain rfl : i = its.toArray.size := by rw [List.size_toArray, ← rv.length]; exact Nat.le_antisymm le ge
    have W := WalksT.enumFrom (prog := X.prog) (w := X.w) (A := X.A) 0 (Draws.tuple (show X.A.in1.handled = none from I.ok.hd calm) it a ne2 its.toArray) e ne1 (by simp [ne1, ne3]) List.mem_cons_self
    exact W.done s _ E ⟨he, hit, at_⟩ fun h' tk k => ⟨rfl, I.turnedL (t' := tk) k fp⟩
  self := fun A i s Q E ⟨_, ⟨_, he⟩, _⟩ q => wpAny_pyIter_enum he q
/-- enumerate(e), e a tuple -/
def iEnumT (K : PySem.W.Frag) (ta : TA) : TI := fun σ H R => ta σ H fun vs H1 => ∃ a xs, vs = [.ref a] ∧ SqT K H1 a xs ∧ R (IteT K a xs.length) H1
theorem pi_enumT {X : Cx} {e : Expr} {ta : TA} {p pos tpos : Pos} {elts : List Expr} {kk : Nat} (g : Gl X "enumerate") (m : X.mg "enumerate" = none) (ha : PA X [e] ta) (one : starEach [e] X.env = [(false, eval e X.env)] := by rfl) :
    PI X (.Tuple elts kk tpos) (.Call (.Name "enumerate" p) [e] [] pos) (iEnumT X.K ta) where
  run pins s σ H R I h := by
    refine Call_ (ld_blt I g m boot_enumerate (PyProof.Rows.callWith_type1 (thn (ha.run pos pins s σ H _ I h) ?_) one rfl))
    rintro us t ⟨_, H1, I1, r, a, xs, rfl, sq, q⟩
    obtain ⟨u, rfl, ru⟩ : ∃ u, us = [u] ∧ RelV (.ref a) u := by
      cases r with
      | cons r0 r1 => cases r1; exact ⟨_, rfl, r0⟩
    obtain rfl : u = .ref a := ru
    obtain ⟨its, rv, at_, _⟩ := I1.tuple sq
    have lt : a < t.heap.objs.size := let ⟨_, z, _⟩ := at_; Heap.lt_size z
    refine made (begins_tuple a its.toArray) at_ fun h' he hit k => wpAny_pyIter_enum he ?_
    refine ⟨_, [t.heap.objs.size + 1, t.heap.objs.size], _, _, H1, rfl, I1.kept (t' := t.toks) k, turn_enumT (Nat.succ_ne_self _) (Nat.ne_of_lt lt) (Nat.ne_of_gt (Nat.lt_succ_of_lt lt)), ⟨Nat.zero_le _, ⟨_, he⟩, _, hit, rfl, rfl⟩, fun b hb => ?_, q⟩
    have new : t.heap.objs.size ≤ b := by
      rcases List.mem_cons.mp hb with z | z
      · rw [z]; exact Nat.le_succ _
      · rw [List.mem_singleton.mp z]; exact Nat.le_refl _
    exact I1.fpOk new (I1.hok.fresh new)
end En
end
section
set_option Elab.async false
set_option linter.all false
set_option maxRecDepth 100000
/-! set(xs), xs a list or a tuple of ints: the tuple is the library's, the list is begun and filled here, in two lemmas. -/
namespace SeL
open PySem PySem.Spec PyProof.Rows L2
/-- the empty set that is made first -/
abbrev egg (w : World) : Obj := { cls := .type "set", dict := none, data := .set #[] 0 (.fresh 0 0 (!w.params.followText "set-order")) }
abbrev withEgg (w : World) (s : Shared) : Shared := { s with heap := s.heap.push (egg w) }
theorem wants_to {Q : Value → Shared → Prop} {E : Value → Shared → Prop} {R : Result → Shared → Prop} (h1 : ∀ v t, Q v t → R (.ok (.ret v)) t) (h2 : ∀ e t, E e t → R (.error e) t) : ∀ r t, wants Q E r t → R r t
  | .error e, t, z => h2 e t z
  | .ok (.ret v), t, z => h1 v t z
  | .ok .next, _, z => z.elim
  | .ok .brk, _, z => z.elim
  | .ok .cont, _, z => z.elim
/-- what is wanted of the set of the ints ns, laid at p in the state s -/
def Wants (w : World) (s : Shared) (ns : List Int) (Q : Value → Shared → Prop) : Prop :=
  ∀ {h : Heap} {tk c : Nat}, SetR w h s.heap.objs.size (fun j => decide (j ∈ ns)) c ∧ c ≤ ns.length ∧ (∀ b o, s.heap.get? b = some o → h.get? b = some o) → Q (.ref s.heap.objs.size) { s with heap := h, toks := tk }
section
variable {w : World} {P : Program} {s : Shared} {A : Around} {E : Value → Shared → Prop}
set_option maxHeartbeats 3200000 in
/-- set(a), whatever a is, once the empty set is filled from it -/
theorem begun {a : Value} {Q : Value → Shared → Prop}
    (fill : codeAny (model P w) A.in1 (.call (.builtin "set.__init__") ⟨[.ref s.heap.objs.size, a], []⟩) (wants (fun r t => r = .none ∧ Q (.ref s.heap.objs.size) t) E) (withEgg w s)) :
    wpAny (model P w) A (call (.type "set") [a]) Q E s := by
  have C := F.called_set
  obtain ⟨_, _, c1⟩ := C.mro
  have c2 := C.made
  have c3 := C.sub
  have c4 := C.notType
  have c5 := C.canCreate
  have c6 := F.typeCall_set_1 a
  have hT : (withEgg w s).TypeIs (.ref s.heap.objs.size) "set" := ⟨egg w, Heap.get?_push_size _ rfl, rfl⟩
  apply wpAny_call
  apply codeAny_of_tree
  show wpAny _ _ (callAny (.type "set") ⟨[a], []⟩) _ _ s
  apply wpAny_pure
  refine ⟨Code.quiet_builtin _ (by decide +kernel), codeAny_builtin F.entry_type_call ?_⟩
  rw [Around.under_plain (weight_type_call_type "set" [a] []) rfl]
  repeat (first | assumption | wp_step)
  refine codeAny_mono (code_set_led1 a (Q₁ := fun v t => v = .ref s.heap.objs.size ∧ t = withEgg w s) (E := E) ⟨rfl, rfl⟩) (wants_to ?_ fun _ _ z => z)
  rintro _ _ ⟨rfl, rfl⟩
  have c7 := C.init.lookup
  have c8 := C.init.bind (.ref s.heap.objs.size)
  repeat (first | assumption | wp_step)
  refine codeAny_mono fill (wants_to ?_ fun _ _ z => z)
  rintro _ t ⟨rfl, q⟩
  repeat (first | assumption | wp_step)
/-- the walk behind it: nothing that stood before is changed -/
theorem old_stays {h h' : Heap} {o u : Obj} {c : List Addr} {b : Addr} (fresh : ∀ z ∈ c, h.objs.size ≤ z) {I : Obj} (k : ∀ b u, b ∉ c → ((h.push o).push I).get? b = some u → h'.get? b = some u) (e : h.get? b = some u) : h'.get? b = some u :=
  k b u (fun z => Nat.lt_irrefl _ (Nat.lt_of_lt_of_le (Heap.lt_size e) (fresh b z))) (Heap.get?_push_of_some _ (Heap.get?_push_of_some _ e))
set_option maxHeartbeats 3200000 in
/-- the empty set filled from a list of ints -/
theorem filled {l : Addr} {items : Array Value} {ns : List Int} {Q : Value → Shared → Prop} (hh : A.handled = none) (hl : s.heap.IsList l items) (hn : IntsAre items.toList ns) (few : ns.length + 1 < scanBound) (h : Wants w s ns Q) :
    codeAny (model P w) A.in1 (.call (.builtin "set.__init__") ⟨[.ref s.heap.objs.size, .ref l], []⟩) (wants (fun r t => r = .none ∧ Q (.ref s.heap.objs.size) t) E) (withEgg w s) := by
  have size : items.size = ns.length := by rw [← Array.length_toList, IntsAre.length hn]
  have item : ∀ i v, items[i]? = some v → ∃ k t, ns[i]? = some k ∧ v = Value.int k t := fun i v hv => by
    have lt : i < ns.length := size ▸ (Array.getElem?_eq_some_iff.mp hv).1
    obtain ⟨t, e⟩ := IntsAre.int_at hn i v (Array.getElem?_toList ▸ hv)
    exact ⟨_, t, List.getElem?_eq_getElem lt, by rw [e, List.getD_eq_getElem?_getD, List.getElem?_eq_getElem lt]; rfl⟩
  have lt : l < s.heap.objs.size := by obtain ⟨_, e, _⟩ := hl; exact Heap.lt_size e
  have mine : (withEgg w s).heap.get? s.heap.objs.size = some (egg w) := Heap.get?_push_size _ rfl
  refine codeAny_call_builtin F.called_set.init.plain F.entry_set_init (check_set_init_1 ⟨_, mine, rfl⟩ ?_)
  obtain ⟨⟨_, dct, _, sl⟩, at_, rfl, m, rfl⟩ := hl
  have at2 := Heap.get?_push_of_some (egg w) at_
  have L2 : (withEgg w s).heap.IsList l items := ⟨_, at2, rfl, m, rfl⟩
  have n1 := F.sub_list_set
  have n2 := F.sub_list_frozenset
  have n3 : (Value.type "list" == Value.type "dict") = false := by decide
  unfold Builtin.«set.__init__» Builtin.Frozenset.updateFrom noKeywords
  generalize hp : pyIter = iter
  wp_walk
  subst hp
  refine wpAny_pyIter_list L2 (wpAny_bind (wpAny_runValue ?_))
  have next : (withEgg w s).heap.objs.size = s.heap.objs.size + 1 := Heap.size_push ..
  have far : l ≠ (withEgg w s).heap.objs.size := by rw [next]; exact Nat.ne_of_lt (Nat.lt_succ_of_lt lt)
  have apart : s.heap.objs.size ∉ [(withEgg w s).heap.objs.size, l] := by
    rw [next]
    intro z
    rcases List.mem_cons.mp z with z | z
    · exact Nat.succ_ne_self _ z.symm
    · exact Nat.ne_of_gt lt (List.mem_singleton.mp z)
  refine set_update_ints (Walks.list (show A.in1.in1.in1.handled = none from hh) _ l far items).toS s.heap.objs.size apart ns size few item items.size 0 _ rfl (Nat.zero_le _) ⟨⟨_, Heap.get?_push_size _ rfl, rfl, rfl⟩, L2.push _⟩
    ⟨0, Nat.le_refl 0, setR_new_at (Heap.get?_push_of_some _ mine)⟩ ?_
  intro t c moved le R
  obtain ⟨h', g, d, tk, os⟩ := t
  obtain rfl : g = s.gens := moved.gens
  obtain rfl : d = s.drawn := moved.drawn
  obtain rfl : os = s.os := moved.os
  refine wpAny_pure (wpAny_pure ⟨rfl, h ⟨R, size ▸ le, fun b u e => old_stays (c := [s.heap.objs.size, (withEgg w s).heap.objs.size]) (fun z hz => ?_) (fun b u n e => moved.heap b u n e) e⟩⟩)
  rcases List.mem_cons.mp hz with e | e
  · exact Nat.le_of_eq e.symm
  · rw [List.mem_singleton.mp e, next]; exact Nat.le_succ _
theorem set_list {l : Addr} {items : Array Value} {ns : List Int} {Q : Value → Shared → Prop} (hh : A.handled = none) (hl : s.heap.IsList l items) (hn : IntsAre items.toList ns) (few : ns.length + 1 < scanBound) (h : Wants w s ns Q) :
    wpAny (model P w) A (call (.type "set") [.ref l]) Q E s := begun (filled hh hl hn few h)
end
section
variable {X : Cx}
def rSetI (K : PySem.W.Frag) (w : World) : List V → Hp → VK → Prop := fun xs H Q => ∃ (l : Addr) (ns : List Int), xs = [V.ref l] ∧ (SqL K H l (ns.map V.int) ∨ SqT K H l (ns.map V.int)) ∧ ns.length < 64 ∧
  ∀ p c, H p = none → c ≤ ns.length → Q (.ref p) (upd H p (SetO w p (fun j => decide (j ∈ ns)) c))
theorem cr_setI (hc : X.calm = true) : CallR X (.type "set") (rSetI X.K X.w) := by
  rintro pins s σ H _ us Q I r ⟨l, ns, rfl, hl, h64, q⟩
  rw [Vals.ref1 r]
  have few : ns.length + 1 < scanBound := by unfold scanBound; omega
  have got : Wants X.w s ns (EP X pins σ Q) := fun {h tk c} ⟨R, le, k⟩ => ⟨.ref _, _, I.laid (t' := tk) k (Nat.le_refl _) (setO_new R), rfl, q _ c (I.hok.fresh (Nat.le_refl _)) le⟩
  rcases hl with hl | hl
  · obtain ⟨its, rv, at_, _⟩ := I.list hl
    exact set_list (I.ok.hd hc) at_.isList (ints_of_vals rv) few got
  · obtain ⟨its, rv, at_, _⟩ := I.tuple hl
    exact call_set_tupI ns (I.ok.hd hc) at_ (ints_of_vals rv) few fun _ _ _ R le k => got ⟨R, le, k⟩
end
end SeL
end
section
set_option Elab.async false
set_option linter.all false
set_option maxRecDepth 100000
/-! What an expression, a statement evaluates to, told by data: no addresses, no heaps.
S is the part of the heap whose data stand still, H the whole; what is new stands in both. -/
namespace Dt
open PySem L2
abbrev D := PyData

/-! ### data -/
theorem tup_same {K : PySem.W.Frag} {H H' : Hp} (e : Same H H') {p : Addr} {xs : List V} (h : SqT K H p xs) : SqT K H' p xs := h.imp_left fun z => z.imp (e p _) fun ⟨o, y⟩ => ⟨o, e p _ y⟩
mutual
theorem dp_same {K : PySem.W.Frag} {H H' : Hp} (e : Same H H') : ∀ (d : D) (v : V), Dp K H v d → Dp K H' v d
  | .none, _, h => by cases h; exact .non
  | .bool b, _, h => by cases h; exact .bl b
  | .int i, _, h => by cases h; exact .int i
  | .str x, _, h => by cases h; exact .str x
  | .list ds, _, h => by
    cases h with
    | lst hs ha => exact .lst (e.seq hs) (dpAll_same e ds _ ha)
  | .tuple ds, _, h => by
    cases h with
    | tup hs ha => exact .tup (tup_same e hs) (dpAll_same e ds _ ha)
  | .dict _, _, h => by cases h
theorem dpAll_same {K : PySem.W.Frag} {H H' : Hp} (e : Same H H') : ∀ (ds : List D) (vs : List V), DpAll K H vs ds → DpAll K H' vs ds
  | [], _, h => by cases h; exact .nil
  | d :: ds, _, h => by
    cases h with
    | cons h1 h2 => exact .cons (dp_same e d _ h1) (dpAll_same e ds _ h2)
end
theorem dpAll_len {K : PySem.W.Frag} {H : Hp} : ∀ {vs : List V} {ds : List D}, DpAll K H vs ds → vs.length = ds.length
  | _, _, .nil => rfl
  | _, _, .cons _ h => congrArg (· + 1) (dpAll_len h)
theorem dpAll_get {K : PySem.W.Frag} {H : Hp} : ∀ {vs : List V} {ds : List D} {i : Nat} {d : D}, DpAll K H vs ds → ds[i]? = some d → ∃ v, vs[i]? = some v ∧ Dp K H v d
  | _, _, _, _, .nil, h => by simp at h
  | v :: _, _ :: _, 0, _, .cons a _, h => by
    have e := Option.some.inj h
    subst e
    exact ⟨v, rfl, a⟩
  | _ :: _, _ :: _, i + 1, _, .cons _ b, h => dpAll_get (i := i) b h
theorem dpAll_get' {K : PySem.W.Frag} {H : Hp} : ∀ {vs : List V} {ds : List D} {i : Nat} {v : V}, DpAll K H vs ds → vs[i]? = some v → ∃ d, ds[i]? = some d ∧ Dp K H v d
  | _, _, _, _, .nil, h => by simp at h
  | _ :: _, d :: _, 0, _, .cons a _, h => by
    have e := Option.some.inj h
    subst e
    exact ⟨d, rfl, a⟩
  | _ :: _, _ :: _, i + 1, _, .cons _ b, h => dpAll_get' (i := i) b h
theorem dpAll_app {K : PySem.W.Frag} {H : Hp} : ∀ {vs : List V} {ds : List D} {ws : List V} {es : List D}, DpAll K H vs ds → DpAll K H ws es → DpAll K H (vs ++ ws) (ds ++ es)
  | _, _, _, _, .nil, h => h
  | _, _, _, _, .cons a b, h => .cons a (dpAll_app b h)
theorem dpAll_take {K : PySem.W.Frag} {H : Hp} : ∀ {vs : List V} {ds : List D} (n : Nat), DpAll K H vs ds → DpAll K H (vs.take n) (ds.take n)
  | _, _, 0, _ => by rw [List.take_zero, List.take_zero]; exact .nil
  | _, _, _ + 1, .nil => by rw [List.take_nil, List.take_nil]; exact .nil
  | _, _, n + 1, .cons a b => .cons a (dpAll_take n b)
theorem dpAll_drop {K : PySem.W.Frag} {H : Hp} : ∀ {vs : List V} {ds : List D} (n : Nat), DpAll K H vs ds → DpAll K H (vs.drop n) (ds.drop n)
  | _, _, 0, h => h
  | _, _, _ + 1, .nil => by rw [List.drop_nil, List.drop_nil]; exact .nil
  | _, _, n + 1, .cons _ b => dpAll_drop n b
theorem dpAll_ints {K : PySem.W.Frag} {H : Hp} : ∀ {vs : List V} {ns : List Int}, DpAll K H vs (ns.map PyData.int) → vs = ns.map V.int
  | _, [], .nil => rfl
  | _, n :: ns, .cons a b => by cases a; rw [List.map_cons, dpAll_ints b]
theorem dpAll_of_ints {K : PySem.W.Frag} {H : Hp} : ∀ (ns : List Int), DpAll K H (ns.map V.int) (ns.map PyData.int)
  | [] => .nil
  | n :: ns => .cons (.int n) (dpAll_of_ints ns)
theorem dpAll_bools {K : PySem.W.Frag} {H : Hp} : ∀ {vs : List V} {ns : List Bool}, DpAll K H vs (ns.map PyData.bool) → vs = ns.map V.bl
  | _, [], .nil => rfl
  | _, n :: ns, .cons a b => by cases a; rw [List.map_cons, dpAll_bools b]
theorem dpAll_strs {K : PySem.W.Frag} {H : Hp} : ∀ {vs : List V} {ns : List Str}, DpAll K H vs (ns.map PyData.str) → vs = ns.map V.str
  | _, [], .nil => rfl
  | _, n :: ns, .cons a b => by cases a; rw [List.map_cons, dpAll_strs b]
theorem dpAll_of_strs {K : PySem.W.Frag} {H : Hp} : ∀ (ns : List Str), DpAll K H (ns.map V.str) (ns.map PyData.str)
  | [] => .nil
  | n :: ns => .cons (.str n) (dpAll_of_strs ns)

/-! ### what values stand for -/
/-- data; a Counts object with these parts; a tuple of texts known to have no dict; a list that the heap tracks -/
inductive A where
  | d (x : D)
  | c (x : D)
  | t (ys : List Str)
  | l (xs : List D)
section
variable (K : PySem.W.Frag) (C : Addr)
def AV (H : Hp) (v : V) : A → Prop
  | .d x => Dp K H v x
  | .c x => ∃ a dx u, v = .ref a ∧ H a = some (.ins C dx [("held", u)]) ∧ Dp K H u x
  | .t ys => ∃ p, v = .ref p ∧ Ru.FrT H p (ys.map V.str)
  | .l xs => ∃ p vs, v = .ref p ∧ H p = some (.lst vs) ∧ DpAll K H vs xs
def AVs (H : Hp) : List V → List A → Prop
  | [], [] => True
  | v :: vs, a :: as => AV K C H v a ∧ AVs H vs as
  | _, _ => False
/-- what a name holds: nothing known; a value; a list of the def's own that no one else knows -/
inductive E where
  | any
  | v (a : A)
  | own (p : Addr) (xs : List D)
abbrev d (x : D) : E := .v (.d x)
def SlE (S H : Hp) (o : Option V) : E → Prop
  | .any => True
  | .v a => ∃ v, o = some v ∧ AV K C S v a
  | .own p xs => o = some (.ref p) ∧ S p = none ∧ ∃ vs, H p = some (.lst vs) ∧ DpAll K S vs xs
def En (S H : Hp) : L2.St → List E → Prop
  | [], [] => True
  | o :: σ, e :: ρ => SlE K C S H o e ∧ En S H σ ρ
  | _, _ => False
end
def owns : List E → List Addr
  | [] => []
  | .own p _ :: r => p :: owns r
  | _ :: r => owns r

/-! ### what is new behind an expression -/
structure Ext (S H S' H' : Hp) : Prop where
  ss : Same S S'
  sh : Same S' H'
  hh : Same H H'
  fr : ∀ b, H b ≠ none → S b = none → S' b = none
theorem Ext.refl {S H : Hp} (h : Same S H) : Ext S H S H := ⟨Same.refl S, h, Same.refl H, fun _ _ h => h⟩
theorem ne_same {H H' : Hp} (e : Same H H') {b : Addr} (h : H b ≠ none) : H' b ≠ none := by
  cases q : H b with
  | none => exact absurd q h
  | some o => rw [e b o q]; simp
theorem Ext.trans {S H S1 H1 S2 H2 : Hp} (a : Ext S H S1 H1) (b : Ext S1 H1 S2 H2) : Ext S H S2 H2 :=
  ⟨a.ss.trans b.ss, b.sh, a.hh.trans b.hh, fun x h1 h2 => b.fr x (ne_same a.hh h1) (a.fr x h1 h2)⟩
theorem same_new {H : Hp} {p : Addr} {o : HO} (h : H p = none) : Same H (upd H p o) := fun b x e => by
  rw [upd_ne (ne_of_none e h)]
  exact e
theorem Ext.new {S H : Hp} {p : Addr} (o : HO) (h : Same S H) (hp : H p = none) : Ext S H (upd S p o) (upd H p o) := by
  have sp : S p = none := h.free hp
  refine ⟨same_new sp, fun b x e => ?_, same_new hp, fun b h1 h2 => ?_⟩
  · by_cases q : b = p
    · rw [q, upd_same] at e ⊢; exact e
    · rw [upd_ne q] at e ⊢; exact h b x e
  · by_cases q : b = p
    · rw [q] at h1; exact absurd hp h1
    · rw [upd_ne q]; exact h2
section
variable {K : PySem.W.Frag} {C : Addr}
theorem AV.mono {H H' : Hp} (e : Same H H') {v : V} : ∀ {a : A}, AV K C H v a → AV K C H' v a
  | .d _, h => dp_same e _ _ h
  | .c _, ⟨p, dx, u, h1, h2, h3⟩ => ⟨p, dx, u, h1, e _ _ h2, dp_same e _ _ h3⟩
  | .t _, ⟨p, h1, o, h2, h3⟩ => ⟨p, h1, o, e _ _ h2, h3⟩
  | .l _, ⟨p, vs, h1, h2, h3⟩ => ⟨p, vs, h1, e _ _ h2, dpAll_same e _ _ h3⟩
theorem AVs.mono {H H' : Hp} (e : Same H H') : ∀ {vs : List V} {as : List A}, AVs K C H vs as → AVs K C H' vs as
  | [], [], _ => trivial
  | _ :: _, _ :: _, ⟨h1, h2⟩ => ⟨h1.mono e, AVs.mono e h2⟩
  | [], _ :: _, h => h.elim
  | _ :: _, [], h => h.elim
theorem AVs.len {H : Hp} : ∀ {vs : List V} {as : List A}, AVs K C H vs as → vs.length = as.length
  | [], [], _ => rfl
  | _ :: _, _ :: _, h => congrArg (· + 1) (AVs.len h.2)
  | [], _ :: _, h => h.elim
  | _ :: _, [], h => h.elim
theorem AVs.all {H : Hp} : ∀ {vs : List V} {ds : List D}, AVs K C H vs (ds.map A.d) → DpAll K H vs ds
  | [], [], _ => .nil
  | _ :: _, _ :: _, h => .cons h.1 (AVs.all h.2)
  | [], _ :: _, h => h.elim
  | _ :: _, [], h => h.elim
theorem SlE.mono {S H S' H' : Hp} (x : Ext S H S' H') {o : Option V} : ∀ {e : E}, SlE K C S H o e → SlE K C S' H' o e
  | .any, _ => trivial
  | .v _, ⟨v, h1, h2⟩ => ⟨v, h1, h2.mono x.ss⟩
  | .own p _, ⟨h1, h2, vs, h3, h4⟩ => ⟨h1, x.fr p (by rw [h3]; simp) h2, vs, x.hh _ _ h3, dpAll_same x.ss _ _ h4⟩
theorem En.mono {S H S' H' : Hp} (x : Ext S H S' H') : ∀ {σ : L2.St} {ρ : List E}, En K C S H σ ρ → En K C S' H' σ ρ
  | [], [], _ => trivial
  | _ :: _, _ :: _, h => ⟨h.1.mono x, En.mono x h.2⟩
  | [], _ :: _, h => h.elim
  | _ :: _, [], h => h.elim
theorem En.get {S H : Hp} : ∀ {σ : L2.St} {ρ : List E} {i : Nat} {e : E}, En K C S H σ ρ → ρ[i]? = some e → ∃ o, σ[i]? = some o ∧ SlE K C S H o e
  | o :: _, e' :: _, 0, e, h, q => by
    have z := Option.some.inj q
    subst z
    exact ⟨o, rfl, h.1⟩
  | _ :: _, _ :: _, i + 1, e, h, q => En.get (i := i) h.2 q
  | [], [], _, _, _, q => by simp at q
  | [], _ :: _, _, _, h, _ => h.elim
  | _ :: _, [], _, _, h, _ => h.elim
theorem En.set {S H : Hp} {e : E} {o : Option V} (he : SlE K C S H o e) : ∀ {σ : L2.St} {ρ : List E} (i : Nat), En K C S H σ ρ → En K C S H (σ.set i o) (ρ.set i e)
  | _ :: _, _ :: _, 0, h => ⟨he, h.2⟩
  | _ :: _, _ :: _, i + 1, h => ⟨h.1, En.set he i h.2⟩
  | [], [], _, _ => trivial
  | [], _ :: _, _, h => h.elim
  | _ :: _, [], _, h => h.elim
theorem En.len {S H : Hp} : ∀ {σ : L2.St} {ρ : List E}, En K C S H σ ρ → σ.length = ρ.length
  | [], [], _ => rfl
  | _ :: _, _ :: _, h => congrArg (· + 1) (En.len h.2)
  | [], _ :: _, h => h.elim
  | _ :: _, [], h => h.elim
theorem owns_mem {p : Addr} {xs : List D} : ∀ {ρ : List E} {i : Nat}, ρ[i]? = some (.own p xs) → p ∈ owns ρ
  | e :: ρ, 0, h => by
    have z := Option.some.inj h
    subst z
    exact List.mem_cons_self
  | e :: ρ, i + 1, h => by
    have q : p ∈ owns ρ := owns_mem (ρ := ρ) (i := i) h
    cases e with
    | any => exact q
    | v _ => exact q
    | own _ _ => exact List.mem_cons_of_mem _ q
  | [], _, h => by simp at h
/-- forgetting -/
def Wk : List E → List E → Prop
  | [], [] => True
  | e :: r, e' :: r' => (e' = .any ∨ e' = e) ∧ Wk r r'
  | _, _ => False
theorem En.weak {S H : Hp} : ∀ {σ : L2.St} {ρ ρ' : List E}, Wk ρ ρ' → En K C S H σ ρ → En K C S H σ ρ'
  | [], [], [], _, _ => trivial
  | o :: _, e :: _, e' :: _, w, h => ⟨by
      rcases w.1 with z | z
      · rw [z]; trivial
      · rw [z]; exact h.1, En.weak w.2 h.2⟩
  | [], [], _ :: _, w, _ => w.elim
  | _ :: _, _ :: _, [], w, _ => w.elim
  | [], _ :: _, _, _, h => h.elim
  | _ :: _, [], _, _, h => h.elim
end

/-! ### expressions -/
section
variable (K : PySem.W.Frag) (C : Addr)
def EvE (t : TE) (ρ : List E) (a : A) : Prop := ∀ (S : Hp) (σ : L2.St) (H : Hp), Same S H → En K C S H σ ρ → ∀ Q : VK, (∀ v S' H', Ext S H S' H' → AV K C S' v a → Q v H') → t σ H Q
def EvT (t : TT) (ρ : List E) (b : Bool) : Prop := ∀ (S : Hp) (σ : L2.St) (H : Hp), Same S H → En K C S H σ ρ → ∀ Q : Bool → Hp → Prop, (∀ S' H', Ext S H S' H' → Q b H') → t σ H Q
def EvA (t : TA) (ρ : List E) (as : List A) : Prop := ∀ (S : Hp) (σ : L2.St) (H : Hp), Same S H → En K C S H σ ρ → ∀ Q : List V → Hp → Prop, (∀ vs S' H', Ext S H S' H' → AVs K C S' vs as → Q vs H') → t σ H Q
def OpD (r : R2) (a b c : A) : Prop := ∀ (S H : Hp) (x y : V), Same S H → AV K C S x a → AV K C S y b → ∀ Q : VK, (∀ v S' H', Ext S H S' H' → AV K C S' v c → Q v H') → r x y H Q
def UnD (r : V → Hp → VK → Prop) (a c : A) : Prop := ∀ (S H : Hp) (x : V), Same S H → AV K C S x a → ∀ Q : VK, (∀ v S' H', Ext S H S' H' → AV K C S' v c → Q v H') → r x H Q
def CalD (r : List V → Hp → VK → Prop) (as : List A) (c : A) : Prop := ∀ (S H : Hp) (vs : List V), Same S H → AVs K C S vs as → ∀ Q : VK, (∀ v S' H', Ext S H S' H' → AV K C S' v c → Q v H') → r vs H Q
end
section
variable {K : PySem.W.Frag} {C : Addr} {ρ : List E} {a b c : A} {ta tb tc te : TE} {t u : TT} {as bs : List A}
theorem ev_var {i : Nat} (h : ρ[i]? = some (.v a)) : EvE K C (tVar i) ρ a := fun S σ H s e Q q => by
  obtain ⟨o, h1, v, h2, h3⟩ := e.get h
  exact ⟨v, by rw [h1, h2], q v S H (.refl s) h3⟩
theorem ev_int {i : Int} : EvE K C (tC (.int i)) ρ (.d (.int i)) := fun S σ H s e Q q => q _ S H (.refl s) (.int i)
theorem ev_bl {i : Bool} : EvE K C (tC (.bl i)) ρ (.d (.bool i)) := fun S σ H s e Q q => q _ S H (.refl s) (.bl i)
theorem ev_str {i : Str} : EvE K C (tC (.str i)) ρ (.d (.str i)) := fun S σ H s e Q q => q _ S H (.refl s) (.str i)
theorem ev_non : EvE K C (tC .non) ρ (.d .none) := fun S σ H s e Q q => q _ S H (.refl s) .non
theorem ev_is (h : EvE K C te ρ a) (e : a = b) : EvE K C te ρ b := e ▸ h
theorem ev_op {r : R2} (ha : EvE K C ta ρ a) (hb : EvE K C tb ρ b) (hr : OpD K C r a b c) : EvE K C (tOp r ta tb) ρ c := fun S σ H s e Q q =>
  ha S σ H s e _ fun x S1 H1 x1 hx => hb S1 σ H1 x1.sh (e.mono x1) _ fun y S2 H2 x2 hy => hr S2 H2 x y x2.sh (hx.mono x2.ss) hy Q fun v S3 H3 x3 hv => q v S3 H3 ((x1.trans x2).trans x3) hv
theorem ev_un {r : V → Hp → VK → Prop} (ha : EvE K C ta ρ a) (hr : UnD K C r a c) : EvE K C (tUn r ta) ρ c := fun S σ H s e Q q =>
  ha S σ H s e _ fun x S1 H1 x1 hx => hr S1 H1 x x1.sh hx Q fun v S3 H3 x3 hv => q v S3 H3 (x1.trans x3) hv
theorem ea_nil : EvA K C tNil ρ [] := fun S σ H s e Q q => q [] S H (.refl s) trivial
theorem ea_cons {tr : TA} (ha : EvE K C ta ρ a) (hr : EvA K C tr ρ as) : EvA K C (tCons ta tr) ρ (a :: as) := fun S σ H s e Q q =>
  ha S σ H s e _ fun x S1 H1 x1 hx => hr S1 σ H1 x1.sh (e.mono x1) _ fun xs S2 H2 x2 hxs => q _ S2 H2 (x1.trans x2) ⟨hx.mono x2.ss, hxs⟩
theorem avs_app {H : Hp} : ∀ {vs ws : List V} {as bs : List A}, AVs K C H vs as → AVs K C H ws bs → AVs K C H (vs ++ ws) (as ++ bs)
  | [], _, [], _, _, h => h
  | _ :: _, _, _ :: _, _, h, h' => ⟨h.1, avs_app h.2 h'⟩
  | [], _, _ :: _, _, h, _ => h.elim
  | _ :: _, _, [], _, h, _ => h.elim
theorem avs_of {H : Hp} : ∀ {vs : List V} {ds : List D}, DpAll K H vs ds → AVs K C H vs (ds.map A.d)
  | _, _, .nil => trivial
  | _, _, .cons a b => ⟨a, avs_of b⟩
theorem ea_starT {tr : TA} {ds : List D} (ha : EvE K C ta ρ (.d (.tuple ds))) (hr : EvA K C tr ρ as) : EvA K C (StX.tStar K ta tr) ρ (ds.map A.d ++ as) := fun S σ H s e Q q =>
  ha S σ H s e _ fun x S1 H1 x1 hx => by
    cases hx with
    | @tup p xs _ hs hd =>
      have hs' : SqT K H1 p xs := by
        have := dp_same x1.sh (.tuple ds) (.ref p) (.tup hs hd)
        rcases hs with (h | ⟨o, h⟩) | h
        · exact .inl (.inl (x1.sh _ _ h))
        · exact .inl (.inr ⟨o, x1.sh _ _ h⟩)
        · exact .inr h
      exact ⟨p, xs, rfl, .inl hs', hr S1 σ H1 x1.sh (e.mono x1) _ fun ys S2 H2 x2 hys => q _ S2 H2 (x1.trans x2) (avs_app (avs_of (dpAll_same x2.ss _ _ hd)) hys)⟩
theorem seqT_same {H H' : Hp} (e : Same H H') {p : Addr} {xs : List V} (h : SqT K H p xs) : SqT K H' p xs := tup_same e h
theorem ev_tup {ts : TA} {ds : List D} (h : EvA K C ts ρ (ds.map A.d)) (hl : ds.length ≤ 100000) : EvE K C (tTup ts) ρ (.d (.tuple ds)) := fun S σ H s e Q q =>
  h S σ H s e _ fun vs S1 H1 x1 hv => by
    have hd := AVs.all hv
    refine ⟨by rw [dpAll_len hd]; exact Nat.le_trans hl (by decide), fun p hp => ?_⟩
    have x2 := Ext.new (.tup vs) x1.sh hp
    exact q _ _ _ (x1.trans x2) (.tup (.inl (.inl upd_same)) (dpAll_same x2.ss _ _ hd))
theorem av_l {H : Hp} {v : V} {xs : List D} (h : AV K C H v (.l xs)) : AV K C H v (.d (.list xs)) := by
  obtain ⟨p, vs, rfl, h1, h2⟩ := h
  exact .lst (.inl (.inl h1)) h2
theorem ev_l {xs : List D} (h : EvE K C te ρ (.l xs)) : EvE K C te ρ (.d (.list xs)) := fun S σ H s e Q q => h S σ H s e Q fun v S1 H1 x1 hv => q v S1 H1 x1 (av_l hv)
theorem ev_lst {ts : TA} {ds : List D} (h : EvA K C ts ρ (ds.map A.d)) (hl : ds.length ≤ 100000) : EvE K C (tLst ts) ρ (.l ds) := fun S σ H s e Q q =>
  h S σ H s e _ fun vs S1 H1 x1 hv => by
    have hd := AVs.all hv
    refine ⟨by rw [dpAll_len hd]; exact Nat.le_trans hl (by decide), fun p hp => ?_⟩
    have x2 := Ext.new (.lst vs) x1.sh hp
    exact q _ _ _ (x1.trans x2) ⟨p, vs, rfl, upd_same, dpAll_same x2.ss _ _ hd⟩
theorem ev_cb {r : List V → Hp → VK → Prop} {ts : TA} (h : EvA K C ts ρ as) (hr : CalD K C r as c) : EvE K C (tCB r ts) ρ c := fun S σ H s e Q q =>
  h S σ H s e _ fun vs S1 H1 x1 hv => hr S1 H1 vs x1.sh hv Q fun v S2 H2 x2 hv2 => q v S2 H2 (x1.trans x2) hv2
theorem ev_ifE (h : EvT K C t ρ true) (ha : EvE K C ta ρ a) : EvE K C (tIf t ta tb) ρ a := fun S σ H s e Q q =>
  h S σ H s e _ fun S1 H1 x1 => by
    show ta σ H1 Q
    exact ha S1 σ H1 x1.sh (e.mono x1) Q fun v S2 H2 x2 hv => q v S2 H2 (x1.trans x2) hv
theorem ev_elE (h : EvT K C t ρ false) (ha : EvE K C tb ρ a) : EvE K C (tIf t ta tb) ρ a := fun S σ H s e Q q =>
  h S σ H s e _ fun S1 H1 x1 => by
    show tb σ H1 Q
    exact ha S1 σ H1 x1.sh (e.mono x1) Q fun v S2 H2 x2 hv => q v S2 H2 (x1.trans x2) hv
theorem ev_if {x : Bool} (h : EvT K C t ρ x) (h1 : x = true → EvE K C ta ρ a) (h2 : x = false → EvE K C tb ρ a) : EvE K C (tIf t ta tb) ρ a := by
  cases x with
  | true => exact ev_ifE h (h1 rfl)
  | false => exact ev_elE h (h2 rfl)
theorem ev_andV {x y : Bool} (h1 : EvE K C ta ρ (.d (.bool x))) (h2 : x = true → EvE K C tb ρ (.d (.bool y))) : EvE K C (tAndV ta tb) ρ (.d (.bool (x && y))) := fun S σ H s e Q q =>
  h1 S σ H s e _ fun v S1 H1 x1 hv => by
    cases hv
    refine ⟨x, rfl, ?_⟩
    cases x with
    | true => exact h2 rfl S1 σ H1 x1.sh (e.mono x1) Q fun v S2 H2 x2 hv => q v S2 H2 (x1.trans x2) hv
    | false => exact q _ S1 H1 x1 (.bl false)
theorem ev_orV {x y : Bool} (h1 : EvE K C ta ρ (.d (.bool x))) (h2 : x = false → EvE K C tb ρ (.d (.bool y))) : EvE K C (tOrV ta tb) ρ (.d (.bool (x || y))) := fun S σ H s e Q q =>
  h1 S σ H s e _ fun v S1 H1 x1 hv => by
    cases hv
    refine ⟨x, rfl, ?_⟩
    cases x with
    | false => exact h2 rfl S1 σ H1 x1.sh (e.mono x1) Q fun v S2 H2 x2 hv => q v S2 H2 (x1.trans x2) hv
    | true => exact q _ S1 H1 x1 (.bl true)
theorem ev_notV {x : Bool} (h1 : EvE K C ta ρ (.d (.bool x))) : EvE K C (tNotV ta) ρ (.d (.bool (!x))) := fun S σ H s e Q q =>
  h1 S σ H s e _ fun v S1 H1 x1 hv => by
    cases hv
    exact ⟨x, rfl, q _ S1 H1 x1 (.bl _)⟩
/-! tests -/
theorem et_test {x : Bool} (h : EvE K C te ρ (.d (.bool x))) : EvT K C (tTest te) ρ x := fun S σ H s e Q q =>
  h S σ H s e _ fun v S1 H1 x1 hv => by
    cases hv
    exact ⟨x, rfl, q S1 H1 x1⟩
theorem et_B {x : Bool} (h : EvE K C te ρ (.d (.bool x))) : EvT K C (tB te) ρ x := fun S σ H s e Q q =>
  h S σ H s e _ fun v S1 H1 x1 hv => by
    cases hv
    exact ⟨x, rfl, q S1 H1 x1⟩
theorem et_and {x y : Bool} (h1 : EvT K C t ρ x) (h2 : x = true → EvT K C u ρ y) : EvT K C (tAnd t u) ρ (x && y) := fun S σ H s e Q q =>
  h1 S σ H s e _ fun S1 H1 x1 => by
    cases x with
    | true => exact h2 rfl S1 σ H1 x1.sh (e.mono x1) Q fun S2 H2 x2 => q S2 H2 (x1.trans x2)
    | false => exact q S1 H1 x1
theorem et_or {x y : Bool} (h1 : EvT K C t ρ x) (h2 : x = false → EvT K C u ρ y) : EvT K C (tOr t u) ρ (x || y) := fun S σ H s e Q q =>
  h1 S σ H s e _ fun S1 H1 x1 => by
    cases x with
    | false => exact h2 rfl S1 σ H1 x1.sh (e.mono x1) Q fun S2 H2 x2 => q S2 H2 (x1.trans x2)
    | true => exact q S1 H1 x1
theorem et_not {x : Bool} (h1 : EvT K C t ρ x) : EvT K C (tNot t) ρ (!x) := fun S σ H s e Q q => h1 S σ H s e _ fun S1 H1 x1 => q S1 H1 x1
theorem et_yes : EvT K C tYes ρ true := fun S σ H s e Q q => q S H (.refl s)
theorem et_is {x y : Bool} (h : EvT K C t ρ x) (e : x = y) : EvT K C t ρ y := e ▸ h
/-- a < b < c -/
theorem ev_chain {r r' : R2} {x y : Bool} (ha : EvE K C ta ρ a) (hb : EvE K C tb ρ b) (hr : OpD K C r a b (.d (.bool x))) (hc : EvE K C tc ρ c) (hr' : OpD K C r' b c (.d (.bool y))) : EvE K C (tChain r r' ta tb tc) ρ (.d (.bool (x && y))) := fun S σ H s e Q q =>
  ha S σ H s e _ fun v S1 H1 x1 hv => hb S1 σ H1 x1.sh (e.mono x1) _ fun w S2 H2 x2 hw => hr S2 H2 v w x2.sh (hv.mono x2.ss) hw _ fun z S3 H3 x3 hz => by
    have x123 := (x1.trans x2).trans x3
    cases hz
    refine ⟨x, rfl, ?_⟩
    cases x with
    | true => exact hc S3 σ H3 x3.sh (e.mono x123) _ fun w' S4 H4 x4 hw' => hr' S4 H4 w w' x4.sh ((hw.mono x3.ss).mono x4.ss) hw' Q fun v S5 H5 x5 hv => q v S5 H5 ((x123.trans x4).trans x5) hv
    | false => exact q _ S3 H3 x123 (.bl false)
/-! operators -/
theorem op_i0 {g : Int → Int → Int} {i j : Int} : OpD K C (rI0 fun i j => .int (g i j)) (.d (.int i)) (.d (.int j)) (.d (.int (g i j))) := fun S H x y s hx hy Q q => by
  cases hx; cases hy; exact ⟨i, j, rfl, rfl, q _ S H (.refl s) (.int _)⟩
theorem op_b0 {g : Int → Int → Bool} {i j : Int} : OpD K C (rI0 fun i j => .bl (g i j)) (.d (.int i)) (.d (.int j)) (.d (.bool (g i j))) := fun S H x y s hx hy Q q => by
  cases hx; cases hy; exact ⟨i, j, rfl, rfl, q _ S H (.refl s) (.bl _)⟩
theorem op_i {P : Int → Int → Prop} {g : Int → Int → Int} {i j : Int} (h : P i j) : OpD K C (rI P fun i j => .int (g i j)) (.d (.int i)) (.d (.int j)) (.d (.int (g i j))) := fun S H x y s hx hy Q q => by
  cases hx; cases hy; exact ⟨i, j, rfl, rfl, h, q _ S H (.refl s) (.int _)⟩
/-- flat data and their values -/
def fl : D → Option V
  | .none => some .non
  | .bool b => some (.bl b)
  | .int i => some (.int i)
  | .str x => some (.str x)
  | _ => none
theorem fl_ok {H : Hp} {x : V} {w : V} : ∀ {e : D}, Dp K H x e → fl e = some w → x = w
  | .none, h, q => by cases h; exact Option.some.inj q
  | .bool _, h, q => by cases h; exact Option.some.inj q
  | .int _, h, q => by cases h; exact Option.some.inj q
  | .str _, h, q => by cases h; exact Option.some.inj q
theorem op_eqF {e f : D} {x y : V} (he : fl e = some x) (hf : fl f = some y) (h : scal x y = true) : OpD K C rEq (.d e) (.d f) (.d (.bool (decide (x = y)))) := fun S H x' y' s hx hy Q q => by
  have e1 := fl_ok hx he; have e2 := fl_ok hy hf
  subst e1 e2
  exact ⟨h, q _ S H (.refl s) (.bl _)⟩
theorem op_neF {e f : D} {x y : V} (he : fl e = some x) (hf : fl f = some y) (h : scal x y = true) : OpD K C rNe (.d e) (.d f) (.d (.bool (!decide (x = y)))) := fun S H x' y' s hx hy Q q => by
  have e1 := fl_ok hx he; have e2 := fl_ok hy hf
  subst e1 e2
  exact ⟨h, q _ S H (.refl s) (.bl _)⟩
theorem op_eqDd {e f : D} (h1 : SeqAt.shaped e = true) (h2 : SeqAt.shaped f = true) : OpD K C (rEqD K) (.d e) (.d f) (.d (.bool (PyData.eqv e f))) := fun S H x y s hx hy Q q =>
  ⟨e, f, dp_same s _ _ hx, dp_same s _ _ hy, h1, h2, q _ S H (.refl s) (.bl _)⟩
theorem op_neDd {e f : D} (h1 : SeqAt.shaped e = true) (h2 : SeqAt.shaped f = true) : OpD K C (rNeD K) (.d e) (.d f) (.d (.bool (!PyData.eqv e f))) := fun S H x y s hx hy Q q =>
  ⟨e, f, dp_same s _ _ hx, dp_same s _ _ hy, h1, h2, q _ S H (.refl s) (.bl _)⟩
theorem op_inDd {e : D} {ds : List D} (h1 : SeqAt.shaped e = true) (h2 : SeqAt.shaped (.list ds) = true) : OpD K C (rInD K) (.d e) (.d (.list ds)) (.d (.bool (ds.any fun z => PyData.eqv z e))) := fun S H x y s hx hy Q q =>
  ⟨e, ds, dp_same s _ _ hx, dp_same s _ _ hy, h1, h2, q _ S H (.refl s) (.bl _)⟩
theorem op_cat' {xs ys : List D} (h : xs.length + ys.length ≤ 100000) : OpD K C rCat (.l xs) (.l ys) (.l (xs ++ ys)) := fun S H x y s hx hy Q q => by
  obtain ⟨p, vs, rfl, h1, h2⟩ := hx
  obtain ⟨p', ws, rfl, h3, h4⟩ := hy
  refine ⟨p, p', vs, ws, rfl, rfl, s _ _ h1, s _ _ h3, by rw [dpAll_len h2, dpAll_len h4]; exact Nat.le_trans h (by decide), fun q' hq => ?_⟩
  have x2 := Ext.new (.lst (vs ++ ws)) s hq
  exact q _ _ _ x2 ⟨q', _, rfl, upd_same, dpAll_same x2.ss _ _ (dpAll_app h2 h4)⟩
theorem dpAll_rep {H : Hp} {vs : List V} {xs : List D} (h : DpAll K H vs xs) : ∀ n : Nat, DpAll K H (List.replicate n vs).flatten (List.replicate n xs).flatten
  | 0 => .nil
  | n + 1 => by
    rw [List.replicate_succ, List.replicate_succ, List.flatten_cons, List.flatten_cons]
    exact dpAll_app h (dpAll_rep h n)
theorem op_rep' {xs : List D} {k : Int} (h : xs.length ≤ 1000 ∧ 0 ≤ k ∧ k ≤ 10) : OpD K C rRep (.l xs) (.d (.int k)) (.l (List.replicate k.toNat xs).flatten) := fun S H x y s hx hy Q q => by
  obtain ⟨p, vs, rfl, h1, h2⟩ := hx
  cases hy
  refine ⟨p, k, vs, rfl, rfl, s _ _ h1, by omega, by omega, ?_, fun q' hq => ?_⟩
  · rw [dpAll_len h2]
    have : xs.length * k.toNat ≤ 1000 * 10 := Nat.mul_le_mul h.1 (by omega)
    exact Nat.le_trans this (by decide)
  · have x2 := Ext.new (.lst (List.replicate k.toNat vs).flatten) s hq
    exact q _ _ _ x2 ⟨q', _, rfl, upd_same, dpAll_same x2.ss _ _ (dpAll_rep h2 _)⟩
theorem op_repT' {xs : List D} {k : Int} (h : xs ≠ [] ∧ xs.length ≤ 1000 ∧ 2 ≤ k ∧ k ≤ 10) : OpD K C (rRepT K) (.d (.tuple xs)) (.d (.int k)) (.d (.tuple (List.replicate k.toNat xs).flatten)) := fun S H x y s hx hy Q q => by
  cases hy
  cases hx with
  | @tup p vs _ hs hd =>
    refine ⟨p, k, vs, rfl, rfl, seqT_same s hs, fun z => h.1 (by
      have := dpAll_len hd
      rw [z] at this
      exact List.length_eq_zero_iff.mp this.symm), h.2.2.1, by omega, by rw [dpAll_len hd]; exact h.2.1, fun q' hq => ?_⟩
    have x2 := Ext.new (.tup (List.replicate k.toNat vs).flatten) s hq
    exact q _ _ _ x2 (.tup (.inl (.inl upd_same)) (dpAll_same x2.ss _ _ (dpAll_rep hd _)))
theorem op_catT' {xs ys : List D} (h : xs.length + ys.length ≤ 100000) : OpD K C (rCatA K) (.d (.tuple xs)) (.d (.tuple ys)) (.d (.tuple (xs ++ ys))) := fun S H x y s hx hy Q q => by
  cases hx with
  | @tup p vs _ hs hd =>
    cases hy with
    | @tup p' ws _ hs' hd' =>
      refine ⟨p, p', vs, ws, rfl, rfl, seqT_same s hs, seqT_same s hs', by rw [dpAll_len hd, dpAll_len hd']; exact Nat.le_trans h (by decide), fun z => ?_, fun z z' => ?_, fun z z' q' hq => ?_⟩
      · subst z
        cases hd
        exact q _ S H (.refl s) (.tup hs' hd')
      · subst z'
        cases hd'
        exact q _ S H (.refl s) (by rw [List.append_nil]; exact .tup hs hd)
      · have x2 := Ext.new (.tup (vs ++ ws)) s hq
        exact q _ _ _ x2 (.tup (.inl (.inl upd_same)) (dpAll_same x2.ss _ _ (dpAll_app hd hd')))
theorem ix_T {ds : List D} {i : Int} {x : D} (h : atI ds i = some x) : OpD K C (rIxT K) (.d (.tuple ds)) (.d (.int i)) (.d x) := fun S H v w s hv hw Q q => by
  cases hw
  cases hv with
  | @tup p xs _ hs hd =>
    obtain ⟨j, h1, h2⟩ : ∃ j, ixN ds.length i = some j ∧ ds[j]? = some x := by
      unfold atI at h
      cases z : ixN ds.length i with
      | none => rw [z] at h; cases h
      | some j => rw [z] at h; exact ⟨j, rfl, h⟩
    obtain ⟨v, hv, hvx⟩ := dpAll_get hd h2
    refine ⟨p, xs, i, v, rfl, rfl, seqT_same s hs, ?_, q v S H (.refl s) hvx⟩
    unfold atI
    rw [dpAll_len hd, h1]
    exact hv
theorem ix_L {ds : List D} {i : Int} {x : D} (h : atI ds i = some x) : OpD K C (rIxL K) (.d (.list ds)) (.d (.int i)) (.d x) := fun S H v w s hv hw Q q => by
  cases hw
  cases hv with
  | @lst p xs _ hs hd =>
    obtain ⟨j, h1, h2⟩ : ∃ j, ixN ds.length i = some j ∧ ds[j]? = some x := by
      unfold atI at h
      cases z : ixN ds.length i with
      | none => rw [z] at h; cases h
      | some j => rw [z] at h; exact ⟨j, rfl, h⟩
    obtain ⟨v, hv, hvx⟩ := dpAll_get hd h2
    refine ⟨p, xs, i, v, rfl, rfl, s.seq hs, ?_, q v S H (.refl s) hvx⟩
    unfold atI
    rw [dpAll_len hd, h1]
    exact hv
theorem ix_t {ys : List Str} {i : Int} {x : Str} (h : atI ys i = some x) : OpD K C (rIxT K) (.t ys) (.d (.int i)) (.d (.str x)) := fun S H v w s hv hw Q q => by
  cases hw
  obtain ⟨p, rfl, o, ho, _, _⟩ := hv
  refine ⟨p, ys.map V.str, i, .str x, rfl, rfl, .inl (.inr ⟨o, s _ _ ho⟩), ?_, q _ S H (.refl s) (.str x)⟩
  unfold atI at h ⊢
  rw [List.length_map]
  cases z : ixN ys.length i with
  | none => rw [z] at h; cases h
  | some j =>
    rw [z] at h
    have h' : ys[j]? = some x := h
    show (ys.map V.str)[j]? = some (V.str x)
    rw [List.getElem?_map, h']
    rfl
end
end Dt
end
section
set_option Elab.async false
set_option linter.all false
set_option maxRecDepth 100000
namespace Dt
open PySem L2
/-! ### what is walked -/
section
variable (K : PySem.W.Frag) (C : Addr)
def JOk (S : Hp) (J : It) (xs : List D) : Prop := ∀ (i : Nat) (S' H' : Hp), Same S S' → Same S' H' →
  (∀ x, xs[i]? = some x → J.go i H' ∧ ∀ v H'', J.yld i H' v H'' → ∃ S'', Ext S' H' S'' H'' ∧ AV K C S'' v (.d x)) ∧ (xs.length ≤ i → J.stop i H')
def ItE (wi : TI) (ρ : List E) (xs : List D) : Prop := ∀ (S : Hp) (σ : L2.St) (H : Hp), Same S H → En K C S H σ ρ → ∀ R : It → Hp → Prop, (∀ J S' H', Ext S H S' H' → JOk K C S' J xs → R J H') → wi σ H R
/-- a target: what the slots hold behind it; nothing but the slots vs is stored -/
def GE (vs : List Nat) (g : TG) (a : A) (ρ ρ' : List E) : Prop := ∀ (S : Hp) (σ : L2.St) (H : Hp) (v : V), Same S H → En K C S H σ ρ → AV K C S v a → ∀ Q : L2.St → Hp → Prop,
  (∀ σ' S' H', Ext S H S' H' → En K C S' H' σ' ρ' → wipe σ' vs = wipe σ vs → Q σ' H') → g v σ H Q
def GEs (vs : List Nat) (g : TGs) (as : List D) (ρ ρ' : List E) : Prop := ∀ (S : Hp) (σ : L2.St) (H : Hp) (ws : List V), Same S H → En K C S H σ ρ → DpAll K S ws as → ∀ Q : L2.St → Hp → Prop,
  (∀ σ' S' H', Ext S H S' H' → En K C S' H' σ' ρ' → wipe σ' vs = wipe σ vs → Q σ' H') → g ws σ H Q
end
section
variable {K : PySem.W.Frag} {C : Addr} {ρ ρ' ρ1 : List E} {a b c : A} {ta tb tc te tl : TE} {t u : TT} {as bs : List A}
theorem seqL_same {H H' : Hp} (e : Same H H') {p : Addr} {xs : List V} (h : SqL K H p xs) : SqL K H' p xs := e.seq h
theorem it_tup {ds : List D} (h : EvE K C tl ρ (.d (.tuple ds))) : ItE K C (iTup K tl) ρ ds := fun S σ H s e R r =>
  h S σ H s e _ fun v S1 H1 x1 hv => by
    cases hv with
    | @tup p xs _ hs hd =>
      refine ⟨p, rfl, ⟨xs, seqT_same x1.sh hs⟩, r _ S1 H1 x1 fun i S' H' s1 s2 => ⟨fun x hx => ?_, fun hi => ⟨xs, seqT_same (s1.trans s2) hs, by rw [dpAll_len hd]; exact hi⟩⟩⟩
      obtain ⟨w, hw, hwx⟩ := dpAll_get hd hx
      refine ⟨⟨xs, w, seqT_same (s1.trans s2) hs, hw⟩, fun v H'' y => ?_⟩
      obtain ⟨rfl, hy⟩ := y
      have e1 := hy xs (seqT_same (s1.trans s2) hs)
      rw [hw] at e1
      cases e1
      exact ⟨S', .refl s2, dp_same s1 _ _ hwx⟩
theorem it_list {ds : List D} (h : EvE K C tl ρ (.d (.list ds))) : ItE K C (iList K tl) ρ ds := fun S σ H s e R r =>
  h S σ H s e _ fun v S1 H1 x1 hv => by
    cases hv with
    | @lst p xs _ hs hd =>
      refine ⟨p, rfl, ⟨xs, seqL_same x1.sh hs⟩, r _ S1 H1 x1 fun i S' H' s1 s2 => ⟨fun x hx => ?_, fun hi => ⟨xs, seqL_same (s1.trans s2) hs, by rw [dpAll_len hd]; exact hi⟩⟩⟩
      obtain ⟨w, hw, hwx⟩ := dpAll_get hd hx
      refine ⟨⟨xs, w, seqL_same (s1.trans s2) hs, hw⟩, fun v H'' y => ?_⟩
      obtain ⟨rfl, hy⟩ := y
      have e1 := hy xs (seqL_same (s1.trans s2) hs)
      rw [hw] at e1
      cases e1
      exact ⟨S', .refl s2, dp_same s1 _ _ hwx⟩
def rng (lo : Int) (n : Nat) : List D := (List.range n).map fun i => PyData.int (lo + (i : Nat))
theorem rng_get {lo : Int} {n i : Nat} {x : D} (h : (rng lo n)[i]? = some x) : i < n ∧ x = .int (lo + (i : Nat)) := by
  unfold rng at h
  rw [List.getElem?_map] at h
  by_cases hi : i < n
  · rw [List.getElem?_range hi] at h
    exact ⟨hi, (Option.some.inj h).symm⟩
  · rw [List.getElem?_eq_none (by rw [List.length_range]; omega)] at h
    cases h
theorem rng_len (lo : Int) (n : Nat) : (rng lo n).length = n := by unfold rng; rw [List.length_map, List.length_range]
theorem jok_rng {S : Hp} (lo : Int) (n : Nat) : JOk K C S (Itr lo n) (rng lo n) := fun i S' H' s1 s2 => by
  refine ⟨fun x hx => ?_, fun hi => by rw [rng_len] at hi; exact hi⟩
  obtain ⟨h1, rfl⟩ := rng_get hx
  refine ⟨h1, fun v H'' y => ?_⟩
  obtain ⟨rfl, rfl⟩ := y
  exact ⟨S', .refl s2, .int _⟩
theorem it_rng1 {ts : TA} {n : Int} (h : EvA K C ts ρ [.d (.int n)]) (h1 : -1000000 ≤ n) (h2 : n ≤ 1000000) : ItE K C (iRng1 ts) ρ (rng 0 n.toNat) := fun S σ H s e R r =>
  h S σ H s e _ fun vs S1 H1 x1 hv => by
    match vs, hv with
    | [v], hv =>
      cases hv.1
      exact ⟨n, rfl, by omega, by omega, r _ S1 H1 x1 (jok_rng 0 _)⟩
theorem it_rng2 {ts : TA} {lo n : Int} (h : EvA K C ts ρ [.d (.int lo), .d (.int n)]) (h0 : -1000000 ≤ lo ∧ lo ≤ 1000000) (h1 : -1000000 ≤ n) (h2 : n ≤ 1000000) : ItE K C (iRng2 ts) ρ (rng lo (n - lo).toNat) := fun S σ H s e R r =>
  h S σ H s e _ fun vs S1 H1 x1 hv => by
    match vs, hv with
    | [v, w], hv =>
      cases hv.1
      cases hv.2.1
      exact ⟨lo, n, rfl, ⟨by omega, by omega, by omega, by omega⟩, r _ S1 H1 x1 (jok_rng lo _)⟩
/-- (i, item) -/
def enu (ds : List D) : List D := ds.zipIdx.map fun p => PyData.tuple [.int (p.2 : Nat), p.1]
theorem enu_get {ds : List D} {i : Nat} {x : D} (h : (enu ds)[i]? = some x) : ∃ y, ds[i]? = some y ∧ x = .tuple [.int (i : Nat), y] := by
  unfold enu at h
  rw [List.getElem?_map, List.getElem?_zipIdx] at h
  cases q : ds[i]? with
  | none => rw [q] at h; cases h
  | some y =>
    rw [q] at h
    refine ⟨y, rfl, ?_⟩
    have := (Option.some.inj h).symm
    simpa using this
theorem enu_len (ds : List D) : (enu ds).length = ds.length := by unfold enu; simp
theorem it_enumT {ts : TA} {ds : List D} (h : EvA K C ts ρ [.d (.tuple ds)]) : ItE K C (En.iEnumT K ts) ρ (enu ds) := fun S σ H s e R r =>
  h S σ H s e _ fun vs S1 H1 x1 hv => by
    match vs, hv with
    | [v], hv =>
      cases hv.1 with
      | @tup p xs _ hs hd =>
        refine ⟨p, xs, rfl, seqT_same x1.sh hs, r _ S1 H1 x1 fun i S' H' s1 s2 => ⟨fun x hx => ?_, fun hi => ⟨by rw [dpAll_len hd]; rw [enu_len] at hi; exact hi, xs, seqT_same (s1.trans s2) hs, rfl⟩⟩⟩
        obtain ⟨y, hy, rfl⟩ := enu_get hx
        obtain ⟨w, hw, hwx⟩ := dpAll_get hd hy
        refine ⟨⟨(List.getElem?_eq_some_iff.mp hw).1, xs, seqT_same (s1.trans s2) hs, rfl⟩, fun v H'' yy => ?_⟩
        obtain ⟨T, w', rfl, nT, rfl, hz⟩ := yy
        have e1 := hz xs (seqT_same (s1.trans s2) hs)
        rw [hw] at e1
        cases e1
        have xn := Ext.new (.tup [.int (i : Nat), w]) s2 nT
        exact ⟨_, xn, .tup (.inl (.inl upd_same)) (.cons (.int _) (.cons (dp_same (s1.trans xn.ss) _ _ hwx) .nil))⟩
theorem it_str {z : Str} (h : EvE K C te ρ (.d (.str z))) : ItE K C (iStr te) ρ (z.cps.toList.map fun c => PyData.str ⟨#[c]⟩) := fun S σ H s e R r =>
  h S σ H s e _ fun v S1 H1 x1 hv => by
    cases hv
    refine ⟨z, rfl, r _ S1 H1 x1 fun i S' H' s1 s2 => ⟨fun x hx => ?_, fun hi => by rw [List.length_map, Array.length_toList] at hi; exact hi⟩⟩
    rw [List.getElem?_map, Array.getElem?_toList] at hx
    cases q : z.cps[i]? with
    | none => rw [q] at hx; cases hx
    | some c =>
      rw [q] at hx
      cases hx
      refine ⟨(Array.getElem?_eq_some_iff.mp q).1, fun v H'' y => ?_⟩
      obtain ⟨rfl, c', hc, rfl⟩ := y
      rw [q] at hc
      cases hc
      exact ⟨S', .refl s2, .str _⟩
/-! targets -/
theorem set_set_comm' {σ : L2.St} {i : Nat} {o : Option V} : ∀ {vs : List Nat}, i ∈ vs → wipe (σ.set i o) vs = wipe σ vs
  | [], h => absurd h (by simp)
  | v :: vs, h => by
    unfold wipe
    by_cases q : i ∈ vs
    · rw [set_set_comm' q]
    · have e : i = v := by
        rcases List.mem_cons.mp h with z | z
        · exact z
        · exact absurd z q
      subst e
      clear h
      have key : ∀ vs : List Nat, i ∉ vs → wipe (σ.set i o) vs = (wipe σ vs).set i o := by
        intro vs
        induction vs with
        | nil => intro _; rfl
        | cons w ws ih =>
          intro hn
          have h1 : i ≠ w := fun z => hn (by rw [z]; exact List.mem_cons_self)
          have h2 : i ∉ ws := fun z => hn (List.mem_cons_of_mem _ z)
          show (wipe (σ.set i o) ws).set w none = ((wipe σ ws).set w none).set i o
          rw [ih h2, List.set_comm _ _ h1]
      rw [key vs q, List.set_set]
theorem wipe_sub {σ : L2.St} {vs : List Nat} : ∀ {ws : List Nat}, (∀ i ∈ ws, i ∈ vs) → wipe (wipe σ ws) vs = wipe σ vs
  | [], _ => rfl
  | w :: ws, h => by
    show wipe ((wipe σ ws).set w none) vs = wipe σ vs
    rw [set_set_comm' (h w List.mem_cons_self), wipe_sub fun i hi => h i (List.mem_cons_of_mem _ hi)]
theorem ge_name {vs : List Nat} {i : Nat} (hi : i ∈ vs) : GE K C vs (gName i) a ρ (ρ.set i (.v a)) := fun S σ H v s e hv Q q =>
  q _ S H (.refl s) (e.set (e := .v a) (o := some v) ⟨v, rfl, hv⟩ i) (set_set_comm' hi)
theorem ge_tup {vs : List Nat} {n : Nat} {g : TGs} {ds : List D} (hl : ds.length = n) (h : GEs K C vs g ds ρ ρ') : GE K C vs (gTup K n g) (.d (.tuple ds)) ρ ρ' := fun S σ H v s e hv Q q => by
  cases hv with
  | @tup p xs _ hs hd => exact ⟨p, xs, rfl, seqT_same s hs, by rw [dpAll_len hd, hl], h S σ H xs s e hd Q q⟩
theorem ges_nil {vs : List Nat} : GEs K C vs gNil [] ρ ρ := fun S σ H ws s e hd Q q => by
  cases hd
  exact ⟨rfl, q σ S H (.refl s) e rfl⟩
theorem ges_cons {vs : List Nat} {g : TG} {gs : TGs} {x : D} {ds : List D} (h : GE K C vs g (.d x) ρ ρ1) (hr : GEs K C vs gs ds ρ1 ρ') : GEs K C vs (gCons g gs) (x :: ds) ρ ρ' := fun S σ H ws s e hd Q q => by
  cases hd with
  | cons h1 h2 => exact ⟨_, _, rfl, h S σ H _ s e h1 _ fun σ1 S1 H1 x1 e1 w1 => hr S1 σ1 H1 _ x1.sh e1 (dpAll_same x1.ss _ _ h2) Q fun σ2 S2 H2 x2 e2 w2 => q σ2 S2 H2 (x1.trans x2) e2 (w2.trans w1)⟩
/-! comprehensions -/
def wipeE (ρ : List E) : List Nat → List E
  | [] => ρ
  | v :: vs => (wipeE ρ vs).set v .any
theorem En.wipe {S H : Hp} {σ : L2.St} (e : En K C S H σ ρ) : ∀ vs : List Nat, En K C S H (wipe σ vs) (wipeE ρ vs)
  | [] => e
  | v :: vs => (En.wipe e vs).set (e := .any) (o := none) trivial v
theorem ev_lc {α : Type} {wi : TI} {g : TG} {vs : List Nat} (ys : List α) (enc : α → D) (f : α → D) (p : α → Bool) (hi : ItE K C wi ρ (ys.map enc)) (hl : ys.length ≤ 100000)
    (ht : ∀ y ∈ ys, ∃ ρ', GE K C vs g (.d (enc y)) (wipeE ρ vs) ρ' ∧ EvT K C t ρ' (p y) ∧ (p y = true → EvE K C te ρ' (.d (f y)))) : EvE K C (tLc wi g t te vs) ρ (.l ((ys.filter p).map f)) := fun S σ H s e Q q =>
  hi S σ H s e _ fun J S1 H1 x1 jok D hD => by
    have hS1 : S1 D = none := x1.sh.free hD
    refine ⟨fun i m H' => m = ys.length - i ∧ i ≤ ys.length ∧ ∃ S' acc, Ext S1 H1 S' H' ∧ S' D = none ∧ H' D = some (.lst acc) ∧ DpAll K S' acc (((ys.take i).filter p).map f), ⟨ys.length, by simp, Nat.zero_le _, S1, [], ?_, hS1, upd_same, .nil⟩, ?_⟩
    · refine ⟨Same.refl _, fun b x h => ?_, same_new hD, fun b _ h => h⟩
      rw [upd_ne (ne_of_none h hS1)]
      exact x1.sh b x h
    · rintro i m H' ⟨rfl, hi2, S', acc, x2, sD, hD', hacc⟩
      have hj := jok i S' H' x2.ss x2.sh
      by_cases hlt : i < ys.length
      · have hy : ys[i]? = some ys[i] := List.getElem?_eq_getElem hlt
        have hye : (ys.map enc)[i]? = some (enc ys[i]) := by rw [List.getElem?_map, hy]; rfl
        obtain ⟨hgo, hyl⟩ := hj.1 _ hye
        refine .inr ⟨hgo, fun H'' => (∃ S'' acc', Ext S1 H1 S'' H'' ∧ S'' D = none ∧ H'' D = some (.lst acc') ∧ DpAll K S'' acc' (((ys.take (i + 1)).filter p).map f)), fun H'' n => ⟨ys.length - (i + 1), by omega, rfl, hlt, n⟩, fun v H'' yv => ?_⟩
        obtain ⟨S2, x3, hv⟩ := hyl v H'' yv
        obtain ⟨ρ', hg, htt, hte⟩ := ht ys[i] (List.getElem_mem hlt)
        have e2 := (e.mono ((x1.trans x2).trans x3)).wipe vs
        refine hg S2 _ H'' v x3.sh e2 hv _ fun σ3 S3 H3 x4 e3 w3 => ⟨w3.trans (wipe_sub fun _ z => z), ?_⟩
        refine htt S3 σ3 H3 x4.sh e3 _ fun S4 H4 x5 => ?_
        have xx : Ext S1 H1 S4 H4 := ((x2.trans x3).trans x4).trans x5
        have h35 : Ext S' H' S4 H4 := (x3.trans x4).trans x5
        have hne : H' D ≠ none := by rw [hD']; simp
        have hD4 : H4 D = some (.lst acc) := h35.hh _ _ hD'
        have sD4 : S4 D = none := h35.fr D hne sD
        have hacc4 := dpAll_same h35.ss _ _ hacc
        have htk : ys.take (i + 1) = ys.take i ++ [ys[i]] := by rw [List.take_add_one, hy]; rfl
        cases hp : p ys[i] with
        | false =>
          show ∃ S'' acc', _
          refine ⟨S4, acc, xx, sD4, hD4, ?_⟩
          rw [htk, List.filter_append, List.map_append, List.filter_cons, if_neg (by rw [hp]; decide)]
          show DpAll K S4 acc (_ ++ [])
          rw [List.append_nil]
          exact hacc4
        | true =>
          show te σ3 H4 fun y H5 => ∃ acc', H5 D = some (.lst acc') ∧ acc'.length < sizeLine ∧ ∃ S'' acc'', _
          refine hte hp S4 σ3 H4 x5.sh (e3.mono x5) _ fun w S5 H5 x6 hw => ?_
          have h6 := h35.trans x6
          have hD5 := h6.hh _ _ hD'
          have sD5 := h6.fr D hne sD
          refine ⟨acc, hD5, ?_, S5, acc ++ [w], ?_, sD5, upd_same, ?_⟩
          · rw [dpAll_len hacc, List.length_map]
            have z := List.length_filter_le p (ys.take i)
            rw [List.length_take] at z
            have z2 : (100000 : Nat) < sizeLine := by decide
            omega
          · have x7 := xx.trans x6
            refine ⟨x7.ss, fun b x h => ?_, fun b x h => ?_, x7.fr⟩
            · rw [upd_ne (ne_of_none h sD5)]
              exact x7.sh b x h
            · rw [upd_ne (ne_of_none h hD)]
              exact x7.hh b x h
          · rw [htk, List.filter_append, List.map_append, List.filter_cons, if_pos hp]
            exact dpAll_app (dpAll_same x6.ss _ _ hacc4) (.cons hw .nil)
      · have e1 : ys.take i = ys := List.take_of_length_le (by omega)
        rw [e1] at hacc
        refine .inl ⟨hj.2 (by rw [List.length_map]; omega), q (.ref D) (upd S' D (.lst acc)) H' ?_ ⟨D, acc, rfl, upd_same, dpAll_same (same_new sD) _ _ hacc⟩⟩
        refine ⟨(x1.ss.trans x2.ss).trans (same_new sD), fun b x h => ?_, x1.hh.trans x2.hh, fun b h1 h2 => ?_⟩
        · by_cases z : b = D
          · rw [z, upd_same] at h
            rw [z, hD']
            exact h
          · rw [upd_ne z] at h
            exact x2.sh b x h
        · have nb : b ≠ D := fun z => by
            rw [z] at h1
            exact ne_same x1.hh h1 hD
          rw [upd_ne nb]
          exact (x1.trans x2).fr b h1 h2
end
end Dt
end
section
set_option Elab.async false
set_option linter.all false
set_option maxRecDepth 100000
namespace Dt
open PySem PySem.Spec PyProof.Rows L2
/-! ### what is new behind a statement: the lists W that the def owns may have changed -/
structure XO (W W' : List Addr) (S H S' H' : Hp) : Prop where
  ss : Same S S'
  sh : Same S' H'
  ne : ∀ b, H b ≠ none → H' b ≠ none
  fr : ∀ b, H b ≠ none → S b = none → b ∉ W → S' b = none
  kp : ∀ b o, H b = some o → b ∉ W → H' b = some o
  nw : ∀ p ∈ W', p ∈ W ∨ H p = none
theorem XO.of {W W' : List Addr} {S H S' H' : Hp} (x : Ext S H S' H') (h : ∀ p ∈ W', p ∈ W) : XO W W' S H S' H' :=
  ⟨x.ss, x.sh, fun _ h => ne_same x.hh h, fun b h1 h2 _ => x.fr b h1 h2, fun b o h _ => x.hh b o h, fun p hp => .inl (h p hp)⟩
theorem XO.trans {W W1 W2 : List Addr} {S H S1 H1 S2 H2 : Hp} (a : XO W W1 S H S1 H1) (b : XO W1 W2 S1 H1 S2 H2) : XO W W2 S H S2 H2 := by
  have out : ∀ c, H c ≠ none → c ∉ W → c ∉ W1 := fun c h1 h2 h3 => by
    rcases a.nw c h3 with z | z
    · exact h2 z
    · exact h1 z
  refine ⟨a.ss.trans b.ss, b.sh, fun c h => b.ne c (a.ne c h), fun c h1 h2 h3 => b.fr c (a.ne c h1) (a.fr c h1 h2 h3) (out c h1 h3), fun c o h1 h2 => b.kp c o (a.kp c o h1 h2) (out c (by rw [h1]; simp) h2), fun p hp => ?_⟩
  rcases b.nw p hp with z | z
  · exact a.nw p z
  · cases q : H p with
    | none => exact .inr rfl
    | some o => exact absurd z (a.ne p (by rw [q]; simp))
theorem XO.ext {S H S' H' : Hp} (x : XO [] [] S H S' H') : Ext S H S' H' :=
  ⟨x.ss, x.sh, fun b o h => x.kp b o h (by simp), fun b h1 h2 => x.fr b h1 h2 (by simp)⟩
theorem XO.sub {W W' W2 : List Addr} {S H S' H' : Hp} (x : XO W W' S H S' H') (h : ∀ p ∈ W2, p ∈ W') : XO W W2 S H S' H' := ⟨x.ss, x.sh, x.ne, x.fr, x.kp, fun p hp => x.nw p (h p hp)⟩
section
variable (K : PySem.W.Frag) (C : Addr)
/-- a statement: N what the names may hold behind it, R what may be handed back -/
def SX (t : TS) (ρ : List E) (N : List E → Prop) (R : A → List E → Prop) : Prop := ∀ (S : Hp) (σ : L2.St) (H : Hp), Same S H → En K C S H σ ρ → ∀ D : Ends,
  (∀ ρ' σ' S' H', N ρ' → XO (owns ρ) (owns ρ') S H S' H' → En K C S' H' σ' ρ' → D.nx σ' H') → (∀ v a ρ' σ' S' H', R a ρ' → XO (owns ρ) (owns ρ') S H S' H' → En K C S' H' σ' ρ' → AV K C S' v a → D.rt v H') → t D σ H
end
section
variable {K : PySem.W.Frag} {C : Addr} {ρ ρ' ρ1 : List E} {a b c : A} {ta tb tc te tl : TE} {t u : TT} {as bs : List A} {st su : TS} {N N' : List E → Prop} {R : A → List E → Prop}
theorem sx_seq (h : SX K C st ρ N' R) (k : ∀ ρ', N' ρ' → SX K C su ρ' N R) : SX K C (tSeq st su) ρ N R := fun S σ H s e D q r =>
  h S σ H s e { D with nx := su D } (fun ρ1 σ1 S1 H1 n x e1 => k ρ1 n S1 σ1 H1 x.sh e1 D (fun ρ2 σ2 S2 H2 n2 x2 e2 => q ρ2 σ2 S2 H2 n2 (x.trans x2) e2) fun v a ρr σr S2 H2 ra x2 er hv => r v a ρr σr S2 H2 ra (x.trans x2) er hv) r
theorem sx_seq1 (h : SX K C st ρ (· = ρ1) R) (k : SX K C su ρ1 N R) : SX K C (tSeq st su) ρ N R := sx_seq h fun ρ' e => by rw [e]; exact k
theorem sx_mono (h : SX K C st ρ N' R) (k : ∀ ρ', N' ρ' → N ρ') : SX K C st ρ N R := fun S σ H s e D q r => h S σ H s e D (fun ρ1 σ1 S1 H1 n => q ρ1 σ1 S1 H1 (k ρ1 n)) r
/-- forgetting ahead of a statement -/
theorem owns_weak : ∀ {ρ ρ' : List E}, Wk ρ ρ' → ∀ p ∈ owns ρ', p ∈ owns ρ
  | [], [], _, p, hp => hp
  | e :: r, e' :: r', w, p, hp => by
    have ih := owns_weak w.2
    rcases w.1 with z | z
    · rw [z] at hp
      have := ih p hp
      cases e with
      | any => exact this
      | v _ => exact this
      | own _ _ => exact List.mem_cons_of_mem _ this
    · rw [z] at hp
      cases e with
      | any => exact ih p hp
      | v _ => exact ih p hp
      | own q _ =>
        rcases List.mem_cons.mp hp with y | y
        · rw [y]; exact List.mem_cons_self
        · exact List.mem_cons_of_mem _ (ih p y)
  | [], _ :: _, w, _, _ => w.elim
  | _ :: _, [], w, _, _ => w.elim
theorem sx_weak (w : Wk ρ ρ1) (h : SX K C st ρ1 N R) : SX K C st ρ N R := fun S σ H s e D q r => by
  have x0 : XO (owns ρ) (owns ρ1) S H S H := XO.of (.refl s) (owns_weak w)
  exact h S σ H s (e.weak w) D (fun ρ2 σ2 S2 H2 n x2 e2 => q ρ2 σ2 S2 H2 n (x0.trans x2) e2) fun v a ρr σr S2 H2 ra x2 er hv => r v a ρr σr S2 H2 ra (x0.trans x2) er hv
theorem owns_set {e : E} (he : ∀ p, p ∈ owns [e] → False) : ∀ {ρ : List E} {i : Nat} (p : Addr), p ∈ owns (ρ.set i e) → p ∈ owns ρ
  | [], _, p, h => h
  | e' :: r, 0, p, h => by
    have h' : p ∈ owns (e :: r) := h
    have h2 : p ∈ owns r := by
      cases e with
      | any => exact h'
      | v _ => exact h'
      | own q xs => exact (he q (List.mem_cons_self)).elim
    cases e' with
    | any => exact h2
    | v _ => exact h2
    | own _ _ => exact List.mem_cons_of_mem _ h2
  | e' :: r, i + 1, p, h => by
    have h' : p ∈ owns (e' :: r.set i e) := h
    cases e' with
    | any => exact owns_set he (ρ := r) (i := i) p h'
    | v _ => exact owns_set he (ρ := r) (i := i) p h'
    | own q _ =>
      rcases List.mem_cons.mp h' with y | y
      · rw [y]; exact List.mem_cons_self
      · exact List.mem_cons_of_mem _ (owns_set he (ρ := r) (i := i) p y)
theorem owns_setv {i : Nat} {a : A} {ρ : List E} (p : Addr) (h : p ∈ owns (ρ.set i (.v a))) : p ∈ owns ρ := owns_set (fun p hp => by simp [owns] at hp) p h
theorem sx_set {i : Nat} (h : EvE K C te ρ a) : SX K C (tAsg te (gName i)) ρ (· = ρ.set i (.v a)) R := fun S σ H s e D q r =>
  h S σ H s e _ fun v S1 H1 x1 hv => q _ _ S1 H1 rfl (XO.of x1 fun p hp => owns_setv p hp) ((e.mono x1).set (e := .v a) (o := some v) ⟨v, rfl, hv⟩ i)
theorem sx_par {i j : Nat} {ts : TA} (h : EvA K C ts ρ [a, b]) : SX K C (tPar i j ts) ρ (· = (ρ.set i (.v a)).set j (.v b)) R := fun S σ H s e D q r =>
  h S σ H s e _ fun vs S1 H1 x1 hv => by
    match vs, hv with
    | [v, w], hv => exact ⟨v, w, rfl, q _ _ S1 H1 rfl (XO.of x1 fun p hp => owns_setv p (owns_setv p hp)) (((e.mono x1).set (e := .v a) (o := some v) ⟨v, rfl, hv.1⟩ i).set (e := .v b) (o := some w) ⟨w, rfl, hv.2.1⟩ j)⟩
theorem sx_asg {vs : List Nat} {g : TG} (h : EvE K C te ρ a) (hg : GE K C vs g a ρ ρ1) (ho : ∀ p ∈ owns ρ1, p ∈ owns ρ) : SX K C (tAsg te g) ρ (· = ρ1) R := fun S σ H s e D q r =>
  h S σ H s e _ fun v S1 H1 x1 hv => hg S1 σ H1 v x1.sh (e.mono x1) hv _ fun σ2 S2 H2 x2 e2 _ => q _ _ S2 H2 rfl (XO.of (x1.trans x2) ho) e2
theorem sx_drop (h : EvE K C te ρ a) : SX K C (tDrop te) ρ (· = ρ) R := fun S σ H s e D q r =>
  h S σ H s e _ fun v S1 H1 x1 hv => q _ _ S1 H1 rfl (XO.of x1 fun p hp => hp) (e.mono x1)
theorem sx_next : SX K C tNext ρ (· = ρ) R := fun S σ H s e D q r => q _ _ S H rfl (XO.of (.refl s) fun p hp => hp) e
theorem sx_ret (h : EvE K C te ρ a) (ra : R a ρ) : SX K C (tRet te) ρ N R := fun S σ H s e D q r =>
  h S σ H s e _ fun v S1 H1 x1 hv => r v a ρ σ S1 H1 ra (XO.of x1 fun p hp => hp) (e.mono x1) hv
theorem sx_if {x : Bool} (h : EvT K C t ρ x) (h1 : x = true → SX K C st ρ N R) (h2 : x = false → SX K C su ρ N R) : SX K C (tIfS t st su) ρ N R := fun S σ H s e D q r =>
  h S σ H s e _ fun S1 H1 x1 => by
    have x0 : XO (owns ρ) (owns ρ) S H S1 H1 := XO.of x1 fun p hp => hp
    cases x with
    | true =>
      show st D σ H1
      exact h1 rfl S1 σ H1 x1.sh (e.mono x1) D (fun ρ2 σ2 S2 H2 n x2 e2 => q ρ2 σ2 S2 H2 n (x0.trans x2) e2) fun v a ρr σr S2 H2 ra x2 er hv => r v a ρr σr S2 H2 ra (x0.trans x2) er hv
    | false =>
      show su D σ H1
      exact h2 rfl S1 σ H1 x1.sh (e.mono x1) D (fun ρ2 σ2 S2 H2 n x2 e2 => q ρ2 σ2 S2 H2 n (x0.trans x2) e2) fun v a ρr σr S2 H2 ra x2 er hv => r v a ρr σr S2 H2 ra (x0.trans x2) er hv
theorem sx_ifT (h : EvT K C t ρ true) (h1 : SX K C st ρ N R) : SX K C (tIfS t st su) ρ N R := sx_if h (fun _ => h1) (fun z => by cases z)
theorem sx_ifF (h : EvT K C t ρ false) (h1 : SX K C su ρ N R) : SX K C (tIfS t st su) ρ N R := sx_if h (fun z => by cases z) (fun _ => h1)
/-- x = [], the list the def's own from there on -/
theorem sx_own {i : Nat} (hi : i < ρ.length) (k : ∀ p, p ∉ owns ρ → N (ρ.set i (.own p []))) : SX K C (tAsg (tLst tNil) (gName i)) ρ N R := fun S σ H s e D q r => by
  refine ⟨Nat.zero_le _, fun p hp => ?_⟩
  have sp : S p = none := s.free hp
  have hno : p ∉ owns ρ := fun hm => by
    have key : ∀ {σ : L2.St} {ρ : List E}, En K C S H σ ρ → p ∈ owns ρ → False := by
      intro σ ρ
      induction ρ generalizing σ with
      | nil => intro _ h; simp [owns] at h
      | cons e' r ih =>
        intro en hm
        match σ, en with
        | o :: σ, en =>
          cases e' with
          | any => exact ih en.2 hm
          | v _ => exact ih en.2 hm
          | own q xs =>
            rcases List.mem_cons.mp hm with z | z
            · obtain ⟨_, _, vs, h3, _⟩ := en.1
              rw [← z, hp] at h3
              cases h3
            · exact ih en.2 z
    exact key e hm
  have x1 : Ext S H S (upd H p (.lst [])) := ⟨Same.refl _, fun b x h => by rw [upd_ne (ne_of_none h sp)]; exact s b x h, same_new hp, fun b _ h => h⟩
  refine q _ _ S (upd H p (.lst [])) (k p hno) ?_ ((e.mono x1).set (e := .own p []) (o := some (.ref p)) ⟨rfl, sp, [], upd_same, .nil⟩ i)
  refine ⟨x1.ss, x1.sh, fun b h => ne_same x1.hh h, fun b h1 h2 _ => h2, fun b o h _ => x1.hh b o h, fun b hb => ?_⟩
  by_cases z : b = p
  · rw [z]; exact .inr hp
  · have key : ∀ {ρ : List E} {i : Nat}, b ∈ owns (ρ.set i (.own p [])) → b ∈ owns ρ := by
      intro ρ
      induction ρ with
      | nil => intro i h; exact h
      | cons e' r ih =>
        intro i h
        cases i with
        | zero =>
          have h' : b ∈ p :: owns r := h
          rcases List.mem_cons.mp h' with y | y
          · exact absurd y z
          · cases e' with
            | any => exact y
            | v _ => exact y
            | own _ _ => exact List.mem_cons_of_mem _ y
        | succ i =>
          cases e' with
          | any => exact ih (i := i) h
          | v _ => exact ih (i := i) h
          | own q' _ =>
            rcases List.mem_cons.mp h with y | y
            · rw [y]; exact List.mem_cons_self
            · exact List.mem_cons_of_mem _ (ih (i := i) y)
    exact .inl (key hb)
theorem set_at {e : E} : ∀ {ρ : List E} {i : Nat} {e0 : E}, ρ[i]? = some e0 → (ρ.set i e)[i]? = some e
  | _ :: _, 0, _, _ => rfl
  | _ :: r, i + 1, _, h => set_at (ρ := r) (i := i) h
  | [], _, _, h => by simp at h
/-- a change of an own list -/
theorem own_upd {S H : Hp} {σ : L2.St} {i : Nat} {p : Addr} {xs xs' : List D} {vs' : List V} (s : Same S H) (e : En K C S H σ ρ) (hi : ρ[i]? = some (.own p xs)) (hu : ∀ (j : Nat) (xs2 : List D), ρ[j]? = some (.own p xs2) → j = i) (hv : DpAll K S vs' xs') :
    XO (owns ρ) (owns (ρ.set i (.own p xs'))) S H S (upd H p (.lst vs')) ∧ En K C S (upd H p (.lst vs')) σ (ρ.set i (.own p xs')) := by
  obtain ⟨o, ho, rfl, sp, vs, hp, _⟩ := e.get hi
  have hne : H p ≠ none := by rw [hp]; simp
  have hs : Same S (upd H p (.lst vs')) := fun b x h => by rw [upd_ne (ne_of_none h sp)]; exact s b x h
  have key : ∀ {σ : L2.St} {ρ : List E} {i : Nat}, En K C S H σ ρ → ρ[i]? = some (E.own p xs) → (∀ (j : Nat) (xs2 : List D), ρ[j]? = some (E.own p xs2) → j = i) → En K C S (upd H p (.lst vs')) σ (ρ.set i (.own p xs')) := by
    intro σ ρ
    induction ρ generalizing σ with
    | nil => intro i _ h; simp at h
    | cons e' r ih =>
      intro i en h hu
      match σ, en with
      | o :: σ, en =>
        have oth : ∀ {σ : L2.St} {ρ : List E}, En K C S H σ ρ → (∀ (j : Nat) (xs2 : List D), ρ[j]? ≠ some (E.own p xs2)) → En K C S (upd H p (.lst vs')) σ ρ := by
          intro σ ρ
          induction ρ generalizing σ with
          | nil => intro en _; match σ, en with | [], _ => trivial
          | cons e'' r' ih' =>
            intro en hn
            match σ, en with
            | o :: σ, en =>
              refine ⟨?_, ih' en.2 fun j xs2 h => hn (j + 1) xs2 h⟩
              cases e'' with
              | any => trivial
              | v a => exact en.1
              | own q ys =>
                obtain ⟨h1, h2, ws, h3, h4⟩ := en.1
                have nq : q ≠ p := fun z => hn 0 ys (by rw [z]; rfl)
                exact ⟨h1, h2, ws, by rw [upd_ne nq]; exact h3, h4⟩
        cases i with
        | zero =>
          have z := Option.some.inj h
          subst z
          obtain ⟨h1, h2, _⟩ := en.1
          exact ⟨⟨h1, h2, vs', upd_same, hv⟩, oth en.2 fun j xs2 h => by have := hu (j + 1) xs2 h; omega⟩
        | succ i =>
          refine ⟨?_, ih en.2 h fun j xs2 h => by have := hu (j + 1) xs2 h; omega⟩
          cases e' with
          | any => trivial
          | v a => exact en.1
          | own q ys =>
            obtain ⟨h1, h2, ws, h3, h4⟩ := en.1
            have nq : q ≠ p := fun z => by have := hu 0 ys (by rw [z]; rfl); omega
            exact ⟨h1, h2, ws, by rw [upd_ne nq]; exact h3, h4⟩
  have hown : ∀ b, b ∈ owns (ρ.set i (.own p xs')) → b ∈ owns ρ := by
    have k2 : ∀ {ρ : List E} {i : Nat}, ρ[i]? = some (E.own p xs) → owns (ρ.set i (.own p xs')) = owns ρ := by
      intro ρ
      induction ρ with
      | nil => intro i h; rfl
      | cons e' r ih =>
        intro i h
        cases i with
        | zero =>
          have z := Option.some.inj h
          subst z
          rfl
        | succ i =>
          have := ih (i := i) h
          cases e' with
          | any => exact this
          | v _ => exact this
          | own _ _ => show _ :: _ = _ :: _; rw [this]
    intro b hb
    rw [k2 hi] at hb
    exact hb
  refine ⟨⟨Same.refl _, hs, fun b h => ?_, fun b _ h _ => h, fun b o h hb => ?_, fun b hb => .inl (hown b hb)⟩, key e hi hu⟩
  · by_cases z : b = p
    · rw [z, upd_same]; simp
    · rw [upd_ne z]; exact h
  · have nb : b ≠ p := fun z => hb (by rw [z]; exact owns_mem (ρ := ρ) (i := i) hi)
    rw [upd_ne nb]
    exact h
/-- no list of the def's own is held twice -/
def Lone (ρ : List E) : Prop := (owns ρ).Nodup
theorem lone_at {p : Addr} {xs : List D} : ∀ {ρ : List E} {i : Nat}, Lone ρ → ρ[i]? = some (.own p xs) → ∀ (j : Nat) (xs2 : List D), ρ[j]? = some (.own p xs2) → j = i
  | [], i, _, h => by simp at h
  | e :: r, i, hl, h => fun j xs2 h2 => by
    have hr : Lone r := by
      unfold Lone at hl ⊢
      cases e with
      | any => exact hl
      | v _ => exact hl
      | own _ _ => exact (List.nodup_cons.mp hl).2
    cases i with
    | zero =>
      cases j with
      | zero => rfl
      | succ j =>
        have z := Option.some.inj h
        subst z
        have := (List.nodup_cons.mp hl).1
        exact absurd (owns_mem (ρ := r) (i := j) h2) this
    | succ i =>
      cases j with
      | zero =>
        have z := Option.some.inj h2
        subst z
        have := (List.nodup_cons.mp hl).1
        exact absurd (owns_mem (ρ := r) (i := i) h) this
      | succ j => rw [lone_at hr h j xs2 h2]
/-- x.append(e) -/
theorem sx_append {i : Nat} {p : Addr} {xs : List D} {x : D} (hi : ρ[i]? = some (.own p xs)) (hl : Lone ρ) (hx : xs.length ≤ 100000) (h : EvE K C te ρ (.d x)) :
    SX K C (tDrop (tBM K "list" rAppend (tVar i) (tCons te tNil))) ρ (· = ρ.set i (.own p (xs ++ [x]))) R := fun S σ H s e D q r => by
  obtain ⟨o, ho, rfl, sp, vs, hp, hd⟩ := e.get hi
  refine ⟨.ref p, ho, .inl ⟨rfl, vs, .inl (.inl hp)⟩, ?_⟩
  refine h S σ H s e _ fun v S1 H1 x1 hv => ?_
  have e1 := e.mono x1
  have hp1 := x1.hh _ _ hp
  refine ⟨p, vs, v, rfl, rfl, hp1, Nat.lt_of_le_of_lt (by rw [dpAll_len hd]; exact hx) (by decide), ?_⟩
  obtain ⟨x2, e2⟩ := own_upd (vs' := vs ++ [v]) (xs' := xs ++ [x]) x1.sh e1 hi (lone_at hl hi) (dpAll_app (dpAll_same x1.ss _ _ hd) (.cons hv .nil))
  exact q _ _ S1 _ rfl ((XO.of x1 fun p hp => hp).trans x2) e2
/-- x.extend(e) -/
theorem sx_extend {i : Nat} {p : Addr} {xs ys : List D} (hi : ρ[i]? = some (.own p xs)) (hl : Lone ρ) (hx : xs.length + ys.length ≤ 100000) (h : EvE K C te ρ (.l ys)) :
    SX K C (tDrop (tBM K "list" rExtend (tVar i) (tCons te tNil))) ρ (fun ρ' => ρ' = ρ.set i (.own p (xs ++ ys))) R := fun S σ H s e D q r => by
  obtain ⟨o, ho, rfl, sp, vs, hp, hd⟩ := e.get hi
  refine ⟨.ref p, ho, .inl ⟨rfl, vs, .inl (.inl hp)⟩, ?_⟩
  refine h S σ H s e _ fun v S1 H1 x1 hv => ?_
  have e1 := e.mono x1
  have hp1 := x1.hh _ _ hp
  obtain ⟨b, zs, rfl, hb, hz⟩ := hv
  refine ⟨p, b, vs, zs, rfl, rfl, hp1, x1.sh _ _ hb, by rw [dpAll_len hd, dpAll_len hz]; exact Nat.le_trans hx (by decide), ?_⟩
  obtain ⟨x2, e2⟩ := own_upd (vs' := vs ++ zs) (xs' := xs ++ ys) x1.sh e1 hi (lone_at hl hi) (dpAll_app (dpAll_same x1.ss _ _ hd) hz)
  exact q _ _ S1 _ rfl ((XO.of x1 fun p hp => hp).trans x2) e2
/-- the def hands its own list out -/
theorem sx_freeze {i : Nat} {p : Addr} {xs : List D} (hi : ρ[i]? = some (.own p xs)) (hl : Lone ρ) (h : SX K C st (ρ.set i (.v (.l xs))) N R) : SX K C st ρ N R := fun S σ H s e D q r => by
  obtain ⟨o, ho, rfl, sp, vs, hp, hd⟩ := e.get hi
  have hs : Same (upd S p (.lst vs)) H := fun b x hb => by
    by_cases z : b = p
    · rw [z, upd_same] at hb; rw [z, hp]; exact hb
    · rw [upd_ne z] at hb; exact s b x hb
  have ss : Same S (upd S p (.lst vs)) := same_new sp
  have key : ∀ {σ : L2.St} {ρ : List E} {i : Nat}, En K C S H σ ρ → ρ[i]? = some (E.own p xs) → (∀ (j : Nat) (xs2 : List PyData), ρ[j]? = some (E.own p xs2) → j = i) → En K C (upd S p (.lst vs)) H σ (ρ.set i (.v (.l xs))) := by
    have sl : ∀ {o : Option V} {e : E}, (∀ xs2, e ≠ .own p xs2) → SlE K C S H o e → SlE K C (upd S p (.lst vs)) H o e := by
      intro o e hn h
      cases e with
      | any => trivial
      | v a => obtain ⟨v, h1, h2⟩ := h; exact ⟨v, h1, h2.mono ss⟩
      | own q ys =>
        obtain ⟨h1, h2, ws, h3, h4⟩ := h
        have nq : q ≠ p := fun z => hn ys (by rw [z])
        exact ⟨h1, by rw [upd_ne nq]; exact h2, ws, h3, dpAll_same ss _ _ h4⟩
    have oth : ∀ {σ : L2.St} {ρ : List E}, En K C S H σ ρ → (∀ (j : Nat) (xs2 : List PyData), ρ[j]? ≠ some (E.own p xs2)) → En K C (upd S p (.lst vs)) H σ ρ := by
      intro σ ρ
      induction ρ generalizing σ with
      | nil => intro en _; match σ, en with | [], _ => trivial
      | cons e'' r' ih' =>
        intro en hn
        match σ, en with
        | o :: σ, en => exact ⟨sl (fun xs2 z => hn 0 xs2 (by rw [z]; rfl)) en.1, ih' en.2 fun j xs2 h => hn (j + 1) xs2 h⟩
    intro σ ρ
    induction ρ generalizing σ with
    | nil => intro i _ h; simp at h
    | cons e' r ih =>
      intro i en h hu
      match σ, en with
      | o :: σ, en =>
        cases i with
        | zero =>
          have z := Option.some.inj h
          subst z
          obtain ⟨h1, h2, ws, h3, h4⟩ := en.1
          have ew : ws = vs := by rw [hp] at h3; cases h3; rfl
          subst ew
          exact ⟨⟨.ref p, h1, p, ws, rfl, upd_same, dpAll_same ss _ _ h4⟩, oth en.2 fun j xs2 h => by have := hu (j + 1) xs2 h; omega⟩
        | succ i => exact ⟨sl (fun xs2 z => by have := hu 0 xs2 (by rw [z]; rfl); omega) en.1, ih en.2 h fun j xs2 h => by have := hu (j + 1) xs2 h; omega⟩
  have x0 : XO (owns ρ) (owns (ρ.set i (.v (.l xs)))) S H (upd S p (.lst vs)) H := by
    refine ⟨ss, hs, fun b h => h, fun b h1 h2 h3 => ?_, fun b o h _ => h, fun b hb => .inl (owns_setv b hb)⟩
    have nb : b ≠ p := fun z => h3 (by rw [z]; exact owns_mem (ρ := ρ) (i := i) hi)
    rw [upd_ne nb]
    exact h2
  exact h _ σ H hs (key e hi (lone_at hl hi)) D (fun ρ2 σ2 S2 H2 n x2 e2 => q ρ2 σ2 S2 H2 n (x0.trans x2) e2) fun v a ρr σr S2 H2 ra x2 er hv => r v a ρr σr S2 H2 ra (x0.trans x2) er hv
/-- for -/
theorem sx_for {wi : TI} {g : TG} {vs : List Nat} (xs : List D) (hi : ItE K C wi ρ xs) (I : Nat → List E → Prop) (h0 : I 0 ρ)
    (hs : ∀ i x ρi, xs[i]? = some x → I i ρi → ∃ ρ', GE K C vs g (.d x) ρi ρ' ∧ (∀ p ∈ owns ρ', p ∈ owns ρi) ∧ SX K C st ρ' (I (i + 1)) R) (hd : ∀ ρ', I xs.length ρ' → N ρ') : SX K C (tFor wi g st) ρ N R := fun S σ H s e D q r =>
  hi S σ H s e _ fun J S1 H1 x1 jok => by
    refine ⟨fun i m σ' H' => m = xs.length - i ∧ i ≤ xs.length ∧ ∃ ρi S', I i ρi ∧ XO (owns ρ) (owns ρi) S H S' H' ∧ Same S1 S' ∧ En K C S' H' σ' ρi, ⟨xs.length, by simp, Nat.zero_le _, ρ, S1, h0, XO.of x1 fun p hp => hp, Same.refl _, e.mono x1⟩, ?_⟩
    rintro i m σ' H' ⟨rfl, hi2, ρi, S', hI, x2, s2, e2⟩
    have hj := jok i S' H' s2 x2.sh
    by_cases hlt : i < xs.length
    · have hx : xs[i]? = some xs[i] := List.getElem?_eq_getElem hlt
      obtain ⟨hgo, hyl⟩ := hj.1 _ hx
      refine .inr ⟨hgo, fun σ2 H2 => ∃ ρ2 S2, I (i + 1) ρ2 ∧ XO (owns ρ) (owns ρ2) S H S2 H2 ∧ Same S1 S2 ∧ En K C S2 H2 σ2 ρ2, fun σ2 H2 n => ⟨xs.length - (i + 1), by omega, rfl, hlt, n⟩, fun v H'' yv => ?_⟩
      obtain ⟨S2, x3, hv⟩ := hyl v H'' yv
      obtain ⟨ρ', hg, ho, hb⟩ := hs i xs[i] ρi hx hI
      refine hg S2 σ' H'' v x3.sh (e2.mono x3) hv _ fun σ3 S3 H3 x4 e3 _ => ?_
      have x34 : XO (owns ρi) (owns ρ') S' H' S3 H3 := XO.of (x3.trans x4) ho
      have x24 := x2.trans x34
      exact hb S3 σ3 H3 x4.sh e3 _ (fun ρ5 σ5 S5 H5 n x5 e5 => ⟨ρ5, S5, n, x24.trans x5, (s2.trans (x3.ss.trans x4.ss)).trans x5.ss, e5⟩) fun v a ρr σr S5 H5 ra x5 er hv => r v a ρr σr S5 H5 ra (x24.trans x5) er hv
    · have ei : i = xs.length := by omega
      subst ei
      exact .inl ⟨hj.2 (Nat.le_refl _), q ρi σ' S' H' (hd ρi hI) x2 e2⟩
/-- while -/
theorem sx_while (I : Nat → List E → Prop) (m0 : Nat) (h0 : I m0 ρ)
    (hs : ∀ m ρi, I m ρi → ∃ b, EvT K C t ρi b ∧ (b = true → SX K C st ρi (fun ρ' => ∃ m', m' < m ∧ I m' ρ') R) ∧ (b = false → N ρi)) : SX K C (tWhile t st) ρ N R := fun S σ H s e D q r => by
  refine ⟨fun m σ' H' => ∃ ρi S', I m ρi ∧ XO (owns ρ) (owns ρi) S H S' H' ∧ En K C S' H' σ' ρi, ⟨m0, ρ, S, h0, XO.of (.refl s) fun p hp => hp, e⟩, ?_⟩
  rintro m σ' H' ⟨ρi, S', hI, x2, e2⟩
  obtain ⟨b, ht, hb, hf⟩ := hs m ρi hI
  refine ht S' σ' H' x2.sh e2 _ fun S3 H3 x3 => ?_
  have x23 : XO (owns ρ) (owns ρi) S H S3 H3 := x2.trans (XO.of x3 fun p hp => hp)
  cases b with
  | true =>
    refine (if_pos rfl : (if true = true then _ else _) = _) ▸ ⟨fun σ4 H4 => ∃ m', m' < m ∧ ∃ ρi S', I m' ρi ∧ XO (owns ρ) (owns ρi) S H S' H4 ∧ En K C S' H4 σ4 ρi, fun σ4 H4 h => h, ?_⟩
    exact hb rfl S3 σ' H3 x3.sh (e2.mono x3) _ (fun ρ5 σ5 S5 H5 n x5 e5 => by
      obtain ⟨m', hm, hI'⟩ := n
      exact ⟨m', hm, ρ5, S5, hI', x23.trans x5, e5⟩) fun v a ρr σr S5 H5 ra x5 er hv => r v a ρr σr S5 H5 ra (x23.trans x5) er hv
  | false =>
    show D.nx σ' H3
    exact q ρi σ' S3 H3 (hf rfl) x23 (e2.mono x3)
end
end Dt
end
section
set_option Elab.async false
set_option linter.all false
set_option maxRecDepth 100000
namespace Dt
open PySem PySem.Spec PyProof.Rows L2
/-! ### promises -/
/-- a def's promise told by data: m relates the arguments to what is handed back -/
def spD (K : PySem.W.Frag) (C : Addr) (m : List A → A → Prop) : Sp := fun vs H Q _ => ∃ (S : Hp) (as : List A) (a : A), Same S H ∧ AVs K C S vs as ∧ m as a ∧ ∀ v S' H', Ext S H S' H' → AV K C S' v a → Q v H'
def ini (n : Nat) (as : List A) : List E := as.map E.v ++ List.replicate (n - as.length) E.any
theorem owns_ini (n : Nat) : ∀ as : List A, owns (ini n as) = []
  | [] => by
    show owns (List.replicate n E.any) = []
    induction n with
    | zero => rfl
    | succ n ih => rw [List.replicate_succ]; exact ih
  | a :: as => by
    have key : ∀ (as : List A) (k : Nat), owns (as.map E.v ++ List.replicate k E.any) = [] := by
      intro as
      induction as with
      | nil => intro k; induction k with
        | zero => rfl
        | succ n ih => rw [List.replicate_succ]; exact ih
      | cons a as ih => intro k; exact ih k
    exact key _ _
section
variable {K : PySem.W.Frag} {C : Addr} {ρ ρ' ρ1 : List E} {a b c : A} {ta tb tc te tl : TE} {t u : TT} {as bs : List A} {st su : TS} {N N' : List E → Prop} {R : A → List E → Prop}
theorem en_start {S H : Hp} : ∀ {vs : List V} {as : List A} (k : Nat), AVs K C S vs as → En K C S H (vs.map some ++ List.replicate k none) (as.map E.v ++ List.replicate k E.any)
  | [], [], 0, _ => trivial
  | [], [], k + 1, h => by
    rw [List.replicate_succ, List.replicate_succ]
    exact ⟨trivial, en_start (vs := []) (as := []) k h⟩
  | v :: vs, a :: as, k, h => ⟨⟨v, rfl, h.1⟩, en_start k h.2⟩
  | [], _ :: _, _, h => h.elim
  | _ :: _, [], _, h => h.elim
theorem ev_call {m : List A → A → Prop} {ts : TA} (h : EvA K C ts ρ as) (hm : m as a) : EvE K C (tCall (spD K C m) [] E0 ts) ρ a := fun S σ H s e Q q =>
  h S σ H s e _ fun vs S1 H1 x1 hv => by
    rw [List.append_nil]
    exact ⟨S1, as, a, x1.sh, hv, hm, fun v S2 H2 x2 hv2 => q v S2 H2 (x1.trans x2) hv2⟩
/-- by keywords alone; gA puts the values in the parameters' order -/
theorem ev_callK {m : List A → A → Prop} {gV : List V → List V → List V} {ts : TA} {as' : List A} (h : EvA K C ts ρ as) (hg : ∀ S vs, AVs K C S vs as → AVs K C S (gV [] vs) as') (hm : m as' a) : EvE K C (tCallK (spD K C m) gV E0 tNil ts) ρ a := fun S σ H s e Q q =>
  h S σ H s e _ fun vs S1 H1 x1 hv => ⟨S1, as', a, x1.sh, hg _ _ hv, hm, fun v S2 H2 x2 hv2 => q v S2 H2 (x1.trans x2) hv2⟩
/-- the reading of a body keeps the promise -/
theorem sx_ends {m : List A → A → Prop} {st : TS} {N : List Str} (hb : ∀ as a, m as a → SX K C st (ini N.length as) (fun _ => a = .d .none) (fun z _ => z = a)) (vs : List V) (H : Hp) (Q : VK) (E : XK) (h : spD K C m vs H Q E) :
    st { nx := fun _ H' => Q .non H', rt := Q } (L2.start N vs) H := by
  obtain ⟨S, as, a, s, hv, hm, q⟩ := h
  have e : En K C S H (L2.start N vs) (ini N.length as) := by
    unfold L2.start ini
    rw [← hv.len]
    exact en_start _ hv
  have ow := owns_ini N.length as
  refine hb as a hm S _ H s e _ (fun ρ' σ' S' H' n x e' => ?_) fun v a' ρ' σ' S' H' ra x e' hv' => ?_
  · rw [ow] at x
    exact q .non S' H' (x.sub (W2 := []) (by simp)).ext (by rw [n]; exact .non)
  · rw [ow] at x
    rw [ra] at hv'
    exact q v S' H' (x.sub (W2 := []) (by simp)).ext hv'
theorem spD_len {m : List A → A → Prop} {n : Nat} (hl : ∀ as a, m as a → as.length = n) (vs : List V) (H : Hp) (Q : VK) (E : XK) (h : spD K C m vs H Q E) : vs.length = n := by
  obtain ⟨S, as, a, s, hv, hm, q⟩ := h
  rw [hv.len, hl as a hm]
end
section
variable {P : Program} {w : World} {K : PySem.W.Frag} {mg : Str → Option Value} {base : Heap} {C : Addr}
theorem okD {x qual : Str} {sm : Stmt} {f : Addr} {fd : FuncData} {N ps : List Str} {k : Nat} {m : List A → A → Prop} (F : Fun K x qual sm f fd) (Sc : FnScope N ps (defScope sm)) (hl : ∀ as a, m as a → as.length = ps.length)
    (hb : ∀ (cdv : Value) (A : Around) (outer : List Env) (s : Shared) (H : Hp) (E : XK), Room k (A.deeper (envOfC qual (defScope sm) s.heap.objs.size f cdv)) →
      ∃ t, PSs (cxOf CX0 P w K mg base N qual (defScope sm) f cdv A outer s H E).nox (defBody sm) t ∧ ∀ as a, m as a → SX K C t (ini N.length as) (fun _ => a = .d .none) (fun z _ => z = a)) :
    FnOk P w K mg base CX0 (k + 1) f fd ps (spD K C m) := by
  refine F.ok Sc (fun vs H Q E h => spD_len hl vs H Q E h) fun cdv A outer s H vs Q E hr h => ?_
  obtain ⟨t, h1, h2⟩ := hb cdv A outer s H E hr
  exact ⟨t, h1, sx_ends h2 vs H Q E h⟩
theorem okDG {x qual : Str} {sm : Stmt} {f : Addr} {fd : FuncData} {N ps : List Str} {k : Nat} {m : List A → A → Prop} (F : Fun K x qual sm f fd) (Sc : FnScope N ps (defScope sm)) (bi : Binds K fd ps []) (hl : ∀ as a, m as a → as.length = ps.length)
    (hb : ∀ (cdv : Value) (A : Around) (outer : List Env) (s : Shared) (H : Hp) (E : XK), A.guards = some [] → Room k (A.deeper (envOfC qual (defScope sm) s.heap.objs.size f cdv)) →
      ∃ t, PSs (cxOf CX0 P w K mg base N qual (defScope sm) f cdv A outer s H E).nox (defBody sm) t ∧ ∀ as a, m as a → SX K C t (ini N.length as) (fun _ => a = .d .none) (fun z _ => z = a)) :
    Gu.Quiet P w K mg base (k + 1) f (spD K C m) := Gu.quiet F Sc bi (fun h => spD_len hl _ _ _ _ h) fun calm hr h =>
  let ⟨t, h1, h2⟩ := hb _ _ _ _ _ _ calm hr
  ⟨t, h1, sx_ends h2 _ _ _ _ h⟩
end

/-! ### built-in calls -/
section
variable {K : PySem.W.Frag} {C : Addr} {ρ : List E} {a b c : A} {ta tb te : TE} {as bs : List A}
abbrev rLenQ (K : PySem.W.Frag) : List V → Hp → VK → Prop := fun xs H Q => ∃ p ys, xs = [.ref p] ∧ (SqL K H p ys ∨ SqT K H p ys) ∧ Q (.int ys.length) H
theorem cd_lenT {ds : List D} : CalD K C (rLenQ K) [.d (.tuple ds)] (.d (.int ds.length)) := fun S H vs s hv Q q => by
  match vs, hv with
  | [v], hv =>
    cases hv.1 with
    | @tup p xs _ hs hd => exact ⟨p, xs, rfl, .inr (seqT_same s hs), by rw [dpAll_len hd]; exact q _ S H (.refl s) (.int _)⟩
theorem cd_lenL {ds : List D} : CalD K C (rLenQ K) [.d (.list ds)] (.d (.int ds.length)) := fun S H vs s hv Q q => by
  match vs, hv with
  | [v], hv =>
    cases hv.1 with
    | @lst p xs _ hs hd => exact ⟨p, xs, rfl, .inl (s.seq hs), by rw [dpAll_len hd]; exact q _ S H (.refl s) (.int _)⟩
theorem cd_lenS {z : Str} (h : z.length ≤ 100000) : CalD K C (fun xs H Q => ∃ z, xs = [.str z] ∧ z.length ≤ sizeLine ∧ Q (.int z.length) H) [.d (.str z)] (.d (.int z.length)) := fun S H vs s hv Q q => by
  match vs, hv with
  | [v], hv =>
    cases hv.1
    exact ⟨z, rfl, Nat.le_trans h (by decide), q _ S H (.refl s) (.int _)⟩
theorem cd_int {i : Int} : CalD K C (fun xs H Q => (∃ i, xs = [.int i] ∧ Q (.int i) H) ∨ ∃ k, xs = [.bl k] ∧ Q (.int (if k then 1 else 0)) H) [.d (.int i)] (.d (.int i)) := fun S H vs s hv Q q => by
  match vs, hv with
  | [v], hv =>
    cases hv.1
    exact .inl ⟨i, rfl, q _ S H (.refl s) (.int _)⟩
theorem cd_abs {i : Int} : CalD K C (fun xs H Q => ∃ i, xs = [.int i] ∧ Q (.int (if i < 0 then -i else i)) H) [.d (.int i)] (.d (.int (if i < 0 then -i else i))) := fun S H vs s hv Q q => by
  match vs, hv with
  | [v], hv =>
    cases hv.1
    exact ⟨i, rfl, q _ S H (.refl s) (.int _)⟩
theorem cd_max2 {i j : Int} : CalD K C (fun xs H Q => ∃ i j, xs = [.int i, .int j] ∧ Q (.int (if j > i then j else i)) H) [.d (.int i), .d (.int j)] (.d (.int (if j > i then j else i))) := fun S H vs s hv Q q => by
  match vs, hv with
  | [v, w], hv =>
    cases hv.1
    cases hv.2.1
    exact ⟨i, j, rfl, q _ S H (.refl s) (.int _)⟩
theorem sq_ints {H S : Hp} (s : Same S H) {v : V} {ns : List Int} (h : Dp K S v (.list (ns.map PyData.int))) : ∃ p, v = .ref p ∧ SqL K H p (ns.map V.int) := by
  cases h with
  | @lst p xs _ hs hd => exact ⟨p, rfl, by rw [← dpAll_ints hd]; exact s.seq hs⟩
theorem sqT_ints {H S : Hp} (s : Same S H) {v : V} {ns : List Int} (h : Dp K S v (.tuple (ns.map PyData.int))) : ∃ p, v = .ref p ∧ SqT K H p (ns.map V.int) := by
  cases h with
  | @tup p xs _ hs hd => exact ⟨p, rfl, by rw [← dpAll_ints hd]; exact seqT_same s hs⟩
theorem cd_sum {ns : List Int} : CalD K C (rSum K) [.d (.list (ns.map .int))] (.d (.int ns.sum)) := fun S H vs s hv Q q => by
  match vs, hv with
  | [v], hv =>
    obtain ⟨p, rfl, h⟩ := sq_ints s hv.1
    exact ⟨p, ns, rfl, h, q _ S H (.refl s) (.int _)⟩
theorem cd_sumT {ns : List Int} : CalD K C (Ru.rSumT K) [.d (.tuple (ns.map .int))] (.d (.int ns.sum)) := fun S H vs s hv Q q => by
  match vs, hv with
  | [v], hv =>
    obtain ⟨p, rfl, h⟩ := sqT_ints s hv.1
    exact ⟨p, ns, rfl, h, q _ S H (.refl s) (.int _)⟩
theorem cd_min {ns : List Int} {m : Int} (h1 : m ∈ ns) (h2 : ∀ y ∈ ns, m ≤ y) : CalD K C (rMin K) [.d (.list (ns.map .int))] (.d (.int m)) := fun S H vs s hv Q q => by
  match vs, hv with
  | [v], hv =>
    obtain ⟨p, rfl, h⟩ := sq_ints s hv.1
    refine ⟨p, ns, rfl, h, List.length_pos_of_mem h1, fun m' h3 h4 => ?_⟩
    have e : m' = m := Int.le_antisymm (h4 m h1) (h2 m' h3)
    rw [e]
    exact q _ S H (.refl s) (.int _)
theorem cd_max {ns : List Int} {m : Int} (h1 : m ∈ ns) (h2 : ∀ y ∈ ns, y ≤ m) : CalD K C (rMax K) [.d (.list (ns.map .int))] (.d (.int m)) := fun S H vs s hv Q q => by
  match vs, hv with
  | [v], hv =>
    obtain ⟨p, rfl, h⟩ := sq_ints s hv.1
    refine ⟨p, ns, rfl, h, List.length_pos_of_mem h1, fun m' h3 h4 => ?_⟩
    have e : m' = m := Int.le_antisymm (h2 m' h3) (h4 m h1)
    rw [e]
    exact q _ S H (.refl s) (.int _)
theorem cd_all {bs : List Bool} : CalD K C (rAll K) [.d (.list (bs.map .bool))] (.d (.bool (bs.all id))) := fun S H vs s hv Q q => by
  match vs, hv with
  | [v], hv =>
    cases hv.1 with
    | @lst p xs _ hs hd => exact ⟨p, bs, rfl, by rw [← dpAll_bools hd]; exact s.seq hs, q _ S H (.refl s) (.bl _)⟩
theorem cd_any {bs : List Bool} : CalD K C (rAny K) [.d (.list (bs.map .bool))] (.d (.bool (bs.any id))) := fun S H vs s hv Q q => by
  match vs, hv with
  | [v], hv =>
    cases hv.1 with
    | @lst p xs _ hs hd => exact ⟨p, bs, rfl, by rw [← dpAll_bools hd]; exact s.seq hs, q _ S H (.refl s) (.bl _)⟩
theorem cd_tuple {ds : List D} : CalD K C (fun xs H Q => ∃ p ys, xs = [.ref p] ∧ ((SqL K H p ys ∧ ∀ l, H l = none → Q (.ref l) (upd H l (.tup ys))) ∨ (SqT K H p ys ∧ Q (.ref p) H))) [.d (.list ds)] (.d (.tuple ds)) := fun S H vs s hv Q q => by
  match vs, hv with
  | [v], hv =>
    cases hv.1 with
    | @lst p xs _ hs hd =>
      refine ⟨p, xs, rfl, .inl ⟨s.seq hs, fun l hl => ?_⟩⟩
      have x := Ext.new (.tup xs) s hl
      exact q _ _ _ x (.tup (.inl (.inl upd_same)) (dpAll_same x.ss _ _ hd))
theorem cd_tupleF {ys : List Str} : CalD K C (fun xs H Q => ∃ p ys, xs = [.ref p] ∧ SqL K H p ys ∧ ∀ (l : Addr) (o : Obj), H l = none → o.cls = .type "tuple" → o.dict = none → Q (.ref l) (upd H l (.frz o (.tup ys)))) [.d (.list (ys.map .str))] (.t ys) := fun S H vs s hv Q q => by
  match vs, hv with
  | [v], hv =>
    cases hv.1 with
    | @lst p xs _ hs hd =>
      refine ⟨p, xs, rfl, s.seq hs, fun l o hl h1 h2 => ?_⟩
      have x := Ext.new (.frz o (.tup xs)) s hl
      exact q _ _ _ x ⟨l, rfl, o, by rw [upd_same, dpAll_strs hd], h1, h2⟩
/-- the type of data -/
def tyD : D → String
  | .none => "NoneType"
  | .bool _ => "bool"
  | .int _ => "int"
  | .str _ => "str"
  | .list _ => "list"
  | .tuple _ => "tuple"
  | .dict _ => "dict"
theorem ty_ok {S H : Hp} (s : Same S H) {v : V} : ∀ {d : D}, Dp K S v d → TyX K H v (.type (tyD d))
  | .none, h => by cases h; exact .base .non
  | .bool _, h => by cases h; exact .base (.bl _)
  | .int _, h => by cases h; exact .base (.int _)
  | .str _, h => by cases h; exact .base (.str _)
  | .list _, h => by
    cases h with
    | lst hs _ =>
      rcases hs with (h | ⟨o, h⟩) | ⟨o, its, n, h1, h2, _⟩
      · exact .base (.lst (s _ _ h))
      · exact .base (.frz (s _ _ h))
      · exact .kList h1 h2
  | .tuple _, h => by
    cases h with
    | tup hs _ =>
      rcases hs with (h | ⟨o, h⟩) | ⟨o, its, n, h1, h2, _⟩
      · exact .base (.tup (s _ _ h))
      · exact .fTuple (s _ _ h)
      · exact .kTuple h1 h2
  | .dict _, h => by cases h
theorem ev_isi {d : D} {T : String} {b : Bool} (h : EvE K C te ρ (.d d)) (hk : kitB (tyD d) T = some b) : EvE K C (tCB (rIsi K) (tCons te (tCons (tC (.ty T)) tNil))) ρ (.d (.bool b)) := fun S σ H s e Q q =>
  h S σ H s e _ fun v S1 H1 x1 hv => ⟨v, .ty T, _, _, b, rfl, .ty T, ty_ok x1.sh hv, kit_ty hk, q _ S1 H1 x1 (.bl _)⟩
theorem ev_isC {x : D} (h : EvE K C te ρ (.c x)) : EvE K C (tCB (fun xs H Q => ∃ a dx fs, xs = [.ref a, .ref C] ∧ H a = some (.ins C dx fs) ∧ Q (.bl true) H) (tCons te (tCons (tC (.ref C)) tNil))) ρ (.d (.bool true)) := fun S σ H s e Q q =>
  h S σ H s e _ fun v S1 H1 x1 hv => by
    obtain ⟨a, dx, u, rfl, h1, h2⟩ := hv
    exact ⟨a, dx, _, rfl, x1.sh _ _ h1, q _ S1 H1 x1 (.bl _)⟩
theorem cd_repr {ds : List D} (h : (PyData.list ds).showable = true ∧ (PyData.list ds).hasDict = false ∧ (PyData.list ds).depth ≤ 50 ∧ (PyData.list ds).shown.length ≤ sizeLine) : CalD K C (Ru.rReprD K) [.d (.list ds)] (.d (.str (PyData.list ds).shown)) := fun S H vs s hv Q q => by
  match vs, hv with
  | [v], hv =>
    have hd := dp_same s _ _ hv.1
    cases hd with
    | @lst p xs _ hs hd => exact ⟨p, _, rfl, .lst hs hd, h.1, h.2.1, h.2.2.1, h.2.2.2, q _ S H (.refl s) (.str _)⟩
theorem cd_reprT {ds : List D} (h : (PyData.tuple ds).showable = true ∧ (PyData.tuple ds).hasDict = false ∧ (PyData.tuple ds).depth ≤ 50 ∧ (PyData.tuple ds).shown.length ≤ sizeLine) : CalD K C (Ru.rReprD K) [.d (.tuple ds)] (.d (.str (PyData.tuple ds).shown)) := fun S H vs s hv Q q => by
  match vs, hv with
  | [v], hv =>
    have hd := dp_same s _ _ hv.1
    cases hd with
    | @tup p xs _ hs hd => exact ⟨p, _, rfl, .tup hs hd, h.1, h.2.1, h.2.2.1, h.2.2.2, q _ S H (.refl s) (.str _)⟩
/-! properties, fields, len of a Counts object -/
theorem ev_prop {m : List A → A → Prop} {x : D} (h : EvE K C te ρ (.c x)) (hm : m [.c x] a) : EvE K C (tProp C (spD K C m) [] E0 te) ρ a := fun S σ H s e Q q =>
  h S σ H s e _ fun v S1 H1 x1 hv => by
    obtain ⟨p, dx, u, rfl, h1, h2⟩ := hv
    exact ⟨p, dx, _, rfl, x1.sh _ _ h1, S1, [.c x], a, x1.sh, ⟨⟨p, dx, u, rfl, h1, h2⟩, trivial⟩, hm, fun v S2 H2 x2 hv2 => q v S2 H2 (x1.trans x2) hv2⟩
theorem ev_held {x : D} (cl : Cls K C) (na : NoAttr K C "held") (h : EvE K C te ρ (.c x)) : EvE K C (tFld K te "held") ρ (.d x) := fun S σ H s e Q q =>
  h S σ H s e _ fun v S1 H1 x1 hv => by
    obtain ⟨p, dx, u, rfl, h1, h2⟩ := hv
    exact ⟨p, C, dx, _, u, rfl, x1.sh _ _ h1, cl, na, by simp [List.lookup], q u S1 H1 x1 h2⟩
theorem cd_lenO {m : List A → A → Prop} {x : D} {n : Int} (hm : m [.c x] (.d (.int n))) (h0 : 0 ≤ n) (h1 : n < 1000000) : CalD K C (Ru.rLenO C (spD K C m) E0) [.c x] (.d (.int n)) := fun S H vs s hv Q q => by
  match vs, hv with
  | [v], hv =>
    obtain ⟨p, dx, u, rfl, h2, h3⟩ := hv.1
    refine ⟨p, dx, _, rfl, s _ _ h2, S, [.c x], _, s, ⟨⟨p, dx, u, rfl, h2, h3⟩, trivial⟩, hm, fun v S2 H2 x2 hv2 => ?_⟩
    cases hv2
    exact ⟨n, rfl, h0, by omega, q _ S2 H2 x2 (.int n)⟩
/-! texts -/
theorem op_sign {c : Nat} {z : Str} : OpD K C (fun x y H Q => ∃ (c : Nat) (z : Str), x = .str ⟨#[c]⟩ ∧ y = .str z ∧ Q (.bl (decide (c ∈ z.cps.toList))) H) (.d (.str ⟨#[c]⟩)) (.d (.str z)) (.d (.bool (decide (c ∈ z.cps.toList)))) := fun S H x y s hx hy Q q => by
  cases hx
  cases hy
  exact ⟨c, z, rfl, rfl, q _ S H (.refl s) (.bl _)⟩
theorem op_leS {i j : Str} : OpD K C (fun x y H Q => ∃ i j, x = .str i ∧ y = .str j ∧ Q (.bl (!decide (j.cps.toList < i.cps.toList))) H) (.d (.str i)) (.d (.str j)) (.d (.bool (!decide (j.cps.toList < i.cps.toList)))) := fun S H x y s hx hy Q q => by
  cases hx
  cases hy
  exact ⟨i, j, rfl, rfl, q _ S H (.refl s) (.bl _)⟩
/-- x in, not in a tuple of texts -/
theorem op_inS {neg : Bool} {z : Str} {ys : List Str} : OpD K C (rIn K neg) (.d (.str z)) (.d (.tuple (ys.map .str))) (.d (.bool (if neg then !inV (.str z) (ys.map V.str) else inV (.str z) (ys.map V.str)))) := fun S H x y s hx hy Q q => by
  cases hx
  cases hy with
  | @tup p xs _ hs hd =>
    refine ⟨p, xs, rfl, .inr (seqT_same s hs), rfl, by rw [dpAll_strs hd]; exact flat_strs ys, ?_⟩
    rw [dpAll_strs hd]
    exact q _ S H (.refl s) (.bl _)
theorem op_inT {neg : Bool} {z : Str} {ys : List Str} : OpD K C (rIn K neg) (.d (.str z)) (.t ys) (.d (.bool (if neg then !inV (.str z) (ys.map V.str) else inV (.str z) (ys.map V.str)))) := fun S H x y s hx hy Q q => by
  cases hx
  obtain ⟨p, rfl, o, ho, _⟩ := hy
  exact ⟨p, ys.map V.str, rfl, .inr (.inl (.inr ⟨o, s _ _ ho⟩)), rfl, flat_strs ys, q _ S H (.refl s) (.bl _)⟩
/-- t.index(x) -/
theorem ev_tindex {z : Str} {ys : List Str} {j : Nat} (h : EvE K C ta ρ (.t ys)) (hz : EvE K C te ρ (.d (.str z))) (h1 : ys[j]? = some z) (h2 : ∀ m, m < j → ys[m]? ≠ some z) :
    EvE K C (Ru.tTM (fun x xs H Q => ∃ p, ∃ ys : List Str, ∃ z j, x = .ref p ∧ xs = [.str z] ∧ SqT K H p (ys.map V.str) ∧ ys[j]? = some z ∧ (∀ m, m < j → ys[m]? ≠ some z) ∧ Q (.int (j : Nat)) H) ta te) ρ (.d (.int j)) := fun S σ H s e Q q =>
  h S σ H s e _ fun v S1 H1 x1 hv => by
    obtain ⟨p, rfl, o, ho, h3, h4⟩ := hv
    refine ⟨⟨p, _, rfl, o, x1.sh _ _ ho, h3, h4⟩, hz S1 σ H1 x1.sh (e.mono x1) _ fun w S2 H2 x2 hw => ?_⟩
    cases hw
    exact ⟨p, ys, z, j, rfl, rfl, .inl (.inr ⟨o, x2.hh _ _ (x1.sh _ _ ho)⟩), h1, h2, q _ S2 H2 (x1.trans x2) (.int _)⟩
/-! slices of tuples -/
def cutD (xs : List D) (lo hi : Option Int) : List D := (xs.drop (HT.sIx xs.length 0 lo)).take (HT.sIx xs.length xs.length hi - HT.sIx xs.length 0 lo)
def EvO (K : PySem.W.Frag) (C : Addr) (t : TO) (ρ : List E) (o : Option Int) : Prop := ∀ (S : Hp) (σ : L2.St) (H : Hp), Same S H → En K C S H σ ρ → ∀ Q : Option Int → Hp → Prop, (∀ S' H', Ext S H S' H' → Q o H') → t σ H Q
theorem eo_no : EvO K C tNoPart ρ none := fun S σ H s e Q q => q S H (.refl s)
theorem eo_some {i : Int} (h : EvE K C te ρ (.d (.int i))) : EvO K C (tPart te) ρ (some i) := fun S σ H s e Q q =>
  h S σ H s e _ fun v S1 H1 x1 hv => by
    cases hv
    exact ⟨i, rfl, q S1 H1 x1⟩
theorem ev_slT {ds : List D} {tl th : TO} {lo hi : Option Int} (h : EvE K C te ρ (.d (.tuple ds))) (hl : EvO K C tl ρ lo) (hh : EvO K C th ρ hi) : EvE K C (tSl (rSlA K) te tl th) ρ (.d (.tuple (cutD ds lo hi))) := fun S σ H s e Q q =>
  h S σ H s e _ fun v S1 H1 x1 hv => hl S1 σ H1 x1.sh (e.mono x1) _ fun S2 H2 x2 => hh S2 σ H2 x2.sh (e.mono (x1.trans x2)) _ fun S3 H3 x3 => by
    have x23 := x2.trans x3
    cases hv with
    | @tup p xs _ hs hd =>
      have hlen := dpAll_len hd
      have hcut : DpAll K S1 (cutV xs lo hi) (cutD ds lo hi) := by
        unfold cutV cutD
        rw [hlen]
        exact dpAll_take _ (dpAll_drop _ hd)
      refine ⟨p, xs, rfl, seqT_same (x1.sh.trans x23.hh) hs, fun z => ?_, fun z l hl => ?_⟩
      · have e1 : cutD ds lo hi = ds := by
          unfold cutD
          rw [← hlen, z.1, z.2, List.drop_zero, Nat.sub_zero, hlen]
          exact List.take_length
        rw [e1] at q
        exact q _ S3 H3 (x1.trans x23) (dp_same x23.ss _ _ (.tup hs hd))
      · have x4 := Ext.new (.tup (cutV xs lo hi)) x3.sh hl
        exact q _ _ _ ((x1.trans x23).trans x4) (.tup (.inl (.inl upd_same)) (dpAll_same (x23.ss.trans x4.ss) _ _ hcut))
theorem cut_to {ds : List D} {k : Nat} (h : k ≤ ds.length) : cutD ds none (some (k : Int)) = ds.take k := by
  unfold cutD
  rw [HT.sIx_none, HT.sIx_nat, Nat.min_eq_left h, List.drop_zero, Nat.sub_zero]
theorem cut_from {ds : List D} {k : Nat} (h : k ≤ ds.length) : cutD ds (some (k : Int)) none = ds.drop k := by
  unfold cutD
  rw [HT.sIx_none, HT.sIx_nat, Nat.min_eq_left h]
  exact List.take_of_length_le (by rw [List.length_drop]; omega)
/-- list(range(a, b)) -/
theorem ev_listRg {i j : Int} (ha : EvE K C ta ρ (.d (.int i))) (hb : EvE K C tb ρ (.d (.int j))) (h0 : -1000000 ≤ i ∧ i ≤ 1000000) (h1 : -1000000 ≤ j ∧ j ≤ 1000000) : EvE K C (tLstRg (tRg2 ta tb)) ρ (.l (rng i (j - i).toNat)) := fun S σ H s e Q q =>
  ha S σ H s e _ fun x S1 H1 x1 hx => hb S1 σ H1 x1.sh (e.mono x1) _ fun y S2 H2 x2 hy => by
    cases hx
    cases hy
    refine ⟨i, j, rfl, rfl, ⟨by omega, by omega, by omega, by omega, by omega⟩, fun p hp => ?_⟩
    have x3 := Ext.new (.lst (rgV i j)) x2.sh hp
    refine q _ _ _ ((x1.trans x2).trans x3) ⟨p, _, rfl, upd_same, ?_⟩
    have e1 : rgV i j = ((List.range (j - i).toNat).map fun k => i + (k : Nat)).map V.int := by unfold rgV; rw [List.map_map]; rfl
    have e2 : rng i (j - i).toNat = ((List.range (j - i).toNat).map fun k => i + (k : Nat)).map PyData.int := by unfold rng; rw [List.map_map]; rfl
    rw [e1, e2]
    exact dpAll_of_ints _
end
end Dt
end
section
set_option Elab.async false
set_option linter.all false
set_option maxRecDepth 100000
namespace Dt
open PySem PySem.Spec PyProof.Rows L2
/-! ### sorting by a key, each key once -/
section
variable {α : Type} (key : α → Int)
def insK (x : α) : List α → List α
  | [] => [x]
  | y :: r => if key x < key y then x :: y :: r else if key x = key y then y :: r else y :: insK x r
def srtK : List α → List α
  | [] => []
  | x :: r => insK key x (srtK r)
theorem insK_mem (x : α) : ∀ (l : List α) (z : α), z ∈ insK key x l → z = x ∨ z ∈ l
  | [], z, h => .inl (List.mem_singleton.mp h)
  | y :: r, z, h => by
    unfold insK at h
    split at h
    · rcases List.mem_cons.mp h with q | q
      · exact .inl q
      · exact .inr q
    · split at h
      · exact .inr h
      · rcases List.mem_cons.mp h with q | q
        · exact .inr (by rw [q]; exact List.mem_cons_self)
        · rcases insK_mem x r z q with q | q
          · exact .inl q
          · exact .inr (List.mem_cons_of_mem _ q)
theorem insK_sub (x : α) : ∀ (l : List α) (z : α), z ∈ l → z ∈ insK key x l
  | [], z, h => by simp at h
  | y :: r, z, h => by
    unfold insK
    split
    · exact List.mem_cons_of_mem _ h
    · split
      · exact h
      · rcases List.mem_cons.mp h with q | q
        · rw [q]; exact List.mem_cons_self
        · exact List.mem_cons_of_mem _ (insK_sub x r z q)
theorem insK_has (x : α) : ∀ (l : List α), ∃ z ∈ insK key x l, key z = key x
  | [] => ⟨x, by simp [insK], rfl⟩
  | y :: r => by
    unfold insK
    split
    · exact ⟨x, List.mem_cons_self, rfl⟩
    · split
      · rename_i h
        exact ⟨y, List.mem_cons_self, h.symm⟩
      · obtain ⟨z, h1, h2⟩ := insK_has x r
        exact ⟨z, List.mem_cons_of_mem _ h1, h2⟩
theorem insK_pw (x : α) : ∀ (l : List α), l.Pairwise (fun a b => key a < key b) → (insK key x l).Pairwise (fun a b => key a < key b)
  | [], _ => List.pairwise_singleton _ _
  | y :: r, h => by
    have h' := List.pairwise_cons.mp h
    unfold insK
    split
    · rename_i q
      refine List.pairwise_cons.mpr ⟨fun z hz => ?_, h⟩
      rcases List.mem_cons.mp hz with e | e
      · rw [e]; exact q
      · exact Int.lt_trans q (h'.1 z e)
    · split
      · exact h
      · refine List.pairwise_cons.mpr ⟨fun z hz => ?_, insK_pw x r h'.2⟩
        rcases insK_mem key x r z hz with e | e
        · rw [e]; omega
        · exact h'.1 z e
theorem srtK_pw : ∀ l : List α, (srtK key l).Pairwise (fun a b => key a < key b)
  | [] => List.Pairwise.nil
  | x :: r => insK_pw key x _ (srtK_pw r)
theorem srtK_mem : ∀ (l : List α) (z : α), z ∈ srtK key l → z ∈ l
  | [], z, h => h
  | x :: r, z, h => by
    rcases insK_mem key x _ z h with e | e
    · rw [e]; exact List.mem_cons_self
    · exact List.mem_cons_of_mem _ (srtK_mem r z e)
theorem srtK_has : ∀ (l : List α) (y : α), y ∈ l → ∃ z ∈ srtK key l, key z = key y
  | x :: r, y, h => by
    rcases List.mem_cons.mp h with e | e
    · rw [e]; exact insK_has key x _
    · obtain ⟨z, h1, h2⟩ := srtK_has r y e
      exact ⟨z, insK_sub key x _ z h1, h2⟩
theorem mem_srtK {l : List α} (inj : ∀ x ∈ l, ∀ y ∈ l, key x = key y → x = y) {z : α} : z ∈ srtK key l ↔ z ∈ l := by
  refine ⟨srtK_mem key l z, fun h => ?_⟩
  obtain ⟨y, h1, h2⟩ := srtK_has key l z h
  rw [← inj y (srtK_mem key l y h1) z h h2]
  exact h1
theorem srtK_uniq : ∀ {xs ys : List α}, xs.Pairwise (fun a b => key a < key b) → ys.Pairwise (fun a b => key a < key b) → (∀ x ∈ xs, ∃ y ∈ ys, x = y) → (∀ y ∈ ys, ∃ x ∈ xs, y = x) → xs = ys
  | [], [], _, _, _, _ => rfl
  | [], y :: ys, _, _, _, h => by obtain ⟨x, h1, _⟩ := h y List.mem_cons_self; simp at h1
  | x :: xs, [], _, _, h, _ => by obtain ⟨x, h1, _⟩ := h x List.mem_cons_self; simp at h1
  | x :: xs, y :: ys, hx, hy, h1, h2 => by
    have hx' := List.pairwise_cons.mp hx
    have hy' := List.pairwise_cons.mp hy
    have e : x = y := by
      obtain ⟨y', a1, a2⟩ := h1 x List.mem_cons_self
      subst a2
      rcases List.mem_cons.mp a1 with q | q
      · exact q
      · obtain ⟨x', b1, b2⟩ := h2 y List.mem_cons_self
        subst b2
        rcases List.mem_cons.mp b1 with q' | q'
        · exact q'.symm
        · have := hy'.1 x q
          have := hx'.1 y q'
          omega
    subst e
    refine congrArg _ (srtK_uniq hx'.2 hy'.2 (fun z hz => ?_) fun z hz => ?_)
    · obtain ⟨y', a1, a2⟩ := h1 z (List.mem_cons_of_mem _ hz)
      subst a2
      rcases List.mem_cons.mp a1 with q | q
      · have := hx'.1 z hz
        rw [q] at this
        omega
      · exact ⟨z, q, rfl⟩
    · obtain ⟨y', a1, a2⟩ := h2 z (List.mem_cons_of_mem _ hz)
      subst a2
      rcases List.mem_cons.mp a1 with q | q
      · have := hy'.1 z hz
        rw [q] at this
        omega
      · exact ⟨z, q, rfl⟩
theorem srtK_len : ∀ l : List α, (srtK key l).length ≤ l.length
  | [] => Nat.le_refl _
  | x :: r => by
    have h : ∀ l : List α, (insK key x l).length ≤ l.length + 1 := by
      intro l
      induction l with
      | nil => simp [insK]
      | cons y r ih =>
        unfold insK
        split
        · simp
        · split
          · simp
          · simp only [List.length_cons]; omega
    have := h (srtK key r)
    have := srtK_len r
    show (insK key x (srtK key r)).length ≤ r.length + 1
    omega
end
/-- tuples of ints -/
def tI (ns : List Int) : D := .tuple (ns.map PyData.int)
theorem code_inj {B : Int} : ∀ {xs ys : List Int}, xs.length = ys.length → TS.Bd B xs → TS.Bd B ys → TS.code B xs = TS.code B ys → xs = ys
  | [], [], _, _, _, _ => rfl
  | [], _ :: _, h, _, _, _ => by simp at h
  | _ :: _, [], h, _, _, _ => by simp at h
  | x :: xs, y :: ys, h, hx, hy, e => by
    have hl : xs.length = ys.length := by simpa using h
    rcases Int.lt_trichotomy x y with c | c | c
    · have := TS.code_lt hl hx.tail hy.tail c
      omega
    · subst c
      have e2 : TS.code B xs = TS.code B ys := by
        have h1 : ¬ TS.code B xs < TS.code B ys := fun q => by have := (TS.code_same (d := x) hl).mpr q; omega
        have h2 : ¬ TS.code B ys < TS.code B xs := fun q => by have := (TS.code_same (d := x) hl.symm).mpr q; omega
        omega
      rw [code_inj hl hx.tail hy.tail e2]
    · have := TS.code_lt hl.symm hy.tail hx.tail c
      omega
section
variable {P : Program} {w : World} {K : PySem.W.Frag} {C : Addr} {ρ : List E} {a b c : A} {ta tb te : TE} {as bs : List A}
/-- sorted(set(xs)) of ints -/
theorem ev_sortI {ns : List Int} (h : EvE K C te ρ (.d (.list (ns.map .int))) ∨ EvE K C te ρ (.d (.tuple (ns.map .int)))) (hl : ns.length < 64) :
    EvE K C (tCB (rSortedSet w) (tCons (tCB (SeL.rSetI K w) (tCons te tNil)) tNil)) ρ (.l ((srtK id ns).map .int)) := fun S σ H s e Q q => by
  have fin : ∀ (S1 H1 : Hp) (p : Addr), Ext S H S1 H1 → (SqL K H1 p (ns.map V.int) ∨ SqT K H1 p (ns.map V.int)) → SeL.rSetI K w [.ref p] H1 fun x H2 => rSortedSet w [x] H2 Q := fun S1 H1 p x1 hp => by
    refine ⟨p, ns, rfl, hp, hl, fun p2 c hp2 hc => ?_⟩
    have sp2 : S1 p2 = none := x1.sh.free hp2
    refine ⟨p2, _, c, rfl, upd_same, by omega, fun ms p3 hm1 hm2 hm3 hp3 => ?_⟩
    have em : ms = srtK id ns := by
      refine srtK_uniq id hm1 (srtK_pw id ns) (fun x hx => ⟨x, ?_, rfl⟩) (fun y hy => ⟨y, ?_, rfl⟩)
      · exact (mem_srtK id (fun _ _ _ _ h => h)).mpr (of_decide_eq_true ((hm2 x).mp hx))
      · exact (hm2 y).mpr (decide_eq_true ((mem_srtK id (fun _ _ _ _ h => h)).mp hy))
    have n32 : p3 ≠ p2 := fun z => by rw [z, upd_same] at hp3; cases hp3
    have h13 : H1 p3 = none := by rw [upd_ne n32] at hp3; exact hp3
    have x2 : Ext S1 H1 S1 (upd H1 p2 (SetO w p2 (fun j => decide (j ∈ ns)) c)) := ⟨Same.refl _, fun b x hb => by rw [upd_ne (ne_of_none hb sp2)]; exact x1.sh b x hb, same_new hp2, fun _ _ h => h⟩
    have x3 := Ext.new (.lst (ms.map V.int)) x2.sh hp3
    refine q _ _ _ ((x1.trans x2).trans x3) ⟨p3, ms.map V.int, rfl, upd_same, ?_⟩
    rw [em]
    exact dpAll_of_ints _
  rcases h with h | h
  · exact h S σ H s e _ fun v S1 H1 x1 hv => by
      obtain ⟨p, rfl, hp⟩ := sq_ints x1.sh hv
      exact fin S1 H1 p x1 (.inl hp)
  · exact h S σ H s e _ fun v S1 H1 x1 hv => by
      obtain ⟨p, rfl, hp⟩ := sqT_ints x1.sh hv
      exact fin S1 H1 p x1 (.inr hp)
theorem rows_of {S : Hp} : ∀ {vs : List V} {rows : List (List Int)}, DpAll K S vs (rows.map tI) → ∃ ks : List (Addr × List Int), vs = (ks.map fun p => V.ref p.1) ∧ ks.map (·.2) = rows ∧ ∀ p ∈ ks, SqT K S p.1 (p.2.map V.int)
  | _, [], .nil => ⟨[], rfl, rfl, fun _ h => by simp at h⟩
  | _, r :: rows, .cons h1 h2 => by
    obtain ⟨ks, e1, e2, e3⟩ := rows_of h2
    obtain ⟨p, rfl, hp⟩ := sqT_ints (Same.refl S) h1
    refine ⟨(p, r) :: ks, by rw [e1]; rfl, by rw [← e2]; rfl, fun q hq => ?_⟩
    rcases List.mem_cons.mp hq with z | z
    · rw [z]; exact hp
    · exact e3 q z
theorem rows_to {S : Hp} : ∀ {ks : List (Addr × List Int)}, (∀ p ∈ ks, SqT K S p.1 (p.2.map V.int)) → DpAll K S (ks.map fun p => V.ref p.1) ((ks.map (·.2)).map tI)
  | [], _ => .nil
  | p :: ks, h => .cons (.tup (h p List.mem_cons_self) (dpAll_of_ints _)) (rows_to fun q hq => h q (List.mem_cons_of_mem _ hq))
/-- sorted(set(rows)), tuples of d ints from 0 to B - 1 -/
theorem ev_sortT {rows : List (List Int)} {dd : Nat} {B : Int} (h : EvE K C te ρ (.d (.list (rows.map tI)))) (hl : rows.length < 64) (hd : 1 ≤ dd) (hr : ∀ r ∈ rows, r.length = dd ∧ TS.Bd B r) :
    EvE K C (tCB (rSortedT K P w) (tCons (tCB (rSetOfT K P w) (tCons te tNil)) tNil)) ρ (.l ((srtK (TS.code B) rows).map tI)) := fun S σ H s e Q q =>
  h S σ H s e _ fun v S1 H1 x1 hv => by
    cases hv with
    | @lst p vs _ hs hd2 =>
      obtain ⟨ks, e1, e2, e3⟩ := rows_of hd2
      have kr : ∀ p ∈ ks, p.2.length = dd ∧ TS.Bd B p.2 := fun p hp => hr p.2 (by rw [← e2]; exact List.mem_map_of_mem hp)
      refine ⟨p, ks, rfl, by rw [← e1]; exact x1.sh.seq hs, fun p hp => seqT_same x1.sh (e3 p hp), by rw [← e2, List.length_map] at hl; exact hl, fun p2 L hp2 hL1 hL2 => ?_⟩
      have sp2 : S1 p2 = none := x1.sh.free hp2
      have x2 : Ext S1 H1 S1 (upd H1 p2 (SetTO P w p2 L)) := ⟨Same.refl _, fun b x hb => by rw [upd_ne (ne_of_none hb sp2)]; exact x1.sh b x hb, same_new hp2, fun _ _ h => h⟩
      refine ⟨p2, L, dd, B, rfl, upd_same, fun p hp => seqT_same x2.sh (e3 p (hL1 p hp)), hd, fun p hp => kr p (hL1 p hp), fun L' p3 hm1 hm2 _ hm3 hp3 => ?_⟩
      have hL'L : ∀ p ∈ L', p ∈ ks := fun p hp => hL1 p (hm1.mem_iff.mp hp)
      have em : L'.map (·.2) = srtK (TS.code B) rows := by
        have inj : ∀ x ∈ rows, ∀ y ∈ rows, TS.code B x = TS.code B y → x = y := fun x hx y hy => code_inj ((hr x hx).1.trans (hr y hy).1.symm) (hr x hx).2 (hr y hy).2
        have sub : ∀ x ∈ L'.map (·.2), x ∈ rows := fun x hx => by
          obtain ⟨p, h1, h2⟩ := List.mem_map.mp hx
          rw [← h2, ← e2]
          exact List.mem_map_of_mem (hL'L p h1)
        refine srtK_uniq (TS.code B) ?_ (srtK_pw _ rows) (fun x hx => ⟨x, (mem_srtK _ inj).mpr (sub x hx), rfl⟩) (fun y hy => ⟨y, ?_, rfl⟩)
        · have pw : (L'.map (·.2)).Pairwise (fun a b => TS.code B a ≤ TS.code B b) := List.pairwise_map.mpr hm3
          refine (List.Pairwise.and_mem.mp (pw.and hm2)).imp ?_
          rintro a b ⟨ha, hb, h1, h2⟩
          rcases Int.lt_or_eq_of_le h1 with z | z
          · exact z
          · exact absurd (inj a (sub a ha) b (sub b hb) z) h2
        · have hy2 := (mem_srtK _ inj).mp hy
          rw [← e2] at hy2
          obtain ⟨p, h1, h2⟩ := List.mem_map.mp hy2
          rw [← h2]
          obtain ⟨p', h3, h4⟩ := List.mem_map.mp (hL2 p h1)
          exact List.mem_map.mpr ⟨p', hm1.mem_iff.mpr h3, h4⟩
      have x3 := Ext.new (.lst (L'.map fun q => V.ref q.1)) x2.sh hp3
      refine q _ _ _ ((x1.trans x2).trans x3) ⟨p3, _, rfl, upd_same, ?_⟩
      rw [← em]
      exact dpAll_same x3.ss _ _ (rows_to fun p hp => e3 p (hL'L p hp))
/-- sorted(rows), the rows ascending already -/
theorem ev_sortU {rows : List (List Int)} {dd : Nat} {B : Int} (h : EvE K C te ρ (.d (.list (rows.map tI)))) (hl : rows.length < 64) (hr : ∀ r ∈ rows, r.length = dd ∧ TS.Bd B r) (ha : rows.Pairwise fun a b => TS.code B a < TS.code B b) :
    EvE K C (tCB (rSortU K dd B) (tCons te tNil)) ρ (.l (rows.map tI)) := fun S σ H s e Q q =>
  h S σ H s e _ fun v S1 H1 x1 hv => by
    cases hv with
    | @lst p vs _ hs hd2 =>
      have hlen := dpAll_len hd2
      rw [List.length_map] at hlen
      have rd : ∀ (i : Nat) (x : V), vs[i]? = some x → ∃ r, rows[i]? = some r ∧ TupI K H1 x r := fun i x hx => by
        obtain ⟨dx, h1, h2⟩ := dpAll_get' hd2 hx
        rw [List.getElem?_map] at h1
        cases z : rows[i]? with
        | none => rw [z] at h1; cases h1
        | some r =>
          rw [z] at h1
          have := Option.some.inj h1
          subst this
          obtain ⟨p, rfl, hp⟩ := sqT_ints x1.sh h2
          exact ⟨r, rfl, p, rfl, hp⟩
      have asc : ∀ (i j : Nat) (r r' : List Int), rows[i]? = some r → rows[j]? = some r' → TS.code B r ≤ TS.code B r' → i ≤ j := fun i j r r' h1 h2 h3 => by
        refine Nat.le_of_not_lt fun hji => ?_
        obtain ⟨hi, e1⟩ := List.getElem?_eq_some_iff.mp h1
        obtain ⟨hj, e2⟩ := List.getElem?_eq_some_iff.mp h2
        have := List.pairwise_iff_getElem.mp ha j i hj hi hji
        rw [e1, e2] at this
        omega
      refine ⟨p, vs, rfl, x1.sh.seq hs, by rw [hlen]; exact hl, fun x hx => ?_, fun ys p3 hm1 hm2 hp3 => ?_⟩
      · obtain ⟨i, hi, e1⟩ := List.getElem_of_mem hx
        obtain ⟨r, h1, h2⟩ := rd i x (by rw [List.getElem?_eq_getElem hi, e1])
        have hr' := hr r (List.mem_of_getElem? h1)
        exact ⟨r, h2, hr'.1, hr'.2⟩
      · have nd : ys.Nodup := by
          refine List.pairwise_iff_getElem.mpr fun i j hi hj hij e1 => ?_
          have hle := List.pairwise_iff_getElem.mp hm2 i j hi hj hij
          -- a value that stands twice in vs
          have two : ∃ (x : V) (a b : Nat), a < b ∧ vs[a]? = some x ∧ vs[b]? = some x := by
            refine Classical.byContradiction fun hn => ?_
            have nv : vs.Nodup := List.pairwise_iff_getElem.mpr fun a b h1 h2 hab z => hn ⟨vs[a], a, b, hab, List.getElem?_eq_getElem h1, by rw [z]; exact List.getElem?_eq_getElem h2⟩
            have ny := hm1.nodup_iff.mpr nv
            exact absurd e1 (List.pairwise_iff_getElem.mp ny i j hi hj hij)
          obtain ⟨x, a, b, hab, hxa, hxb⟩ := two
          obtain ⟨ra, h1, h2⟩ := rd a x hxa
          obtain ⟨rb, h3, h4⟩ := rd b x hxb
          -- it stands twice in ys
          have cnt : 2 ≤ ys.count x := by
            rw [hm1.count_eq]
            have hb' := (List.getElem?_eq_some_iff.mp hxb).1
            have e2 : vs = vs.take b ++ vs.drop b := (List.take_append_drop b vs).symm
            rw [e2, List.count_append]
            have m1 : x ∈ vs.take b := List.mem_of_getElem? (i := a) (by rw [List.getElem?_take_of_lt hab]; exact hxa)
            have m2 : x ∈ vs.drop b := List.mem_of_getElem? (i := 0) (by rw [List.getElem?_drop]; exact hxb)
            have := List.count_pos_iff.mpr m1
            have := List.count_pos_iff.mpr m2
            omega
          have sp : ∃ l1 l2 l3 : List V, ys = l1 ++ x :: (l2 ++ x :: l3) := by
            have m : x ∈ ys := List.count_pos_iff.mp (by omega)
            obtain ⟨l1, l2, e3⟩ := List.append_of_mem m
            rcases Classical.em (x ∈ l2) with z | z
            · obtain ⟨l3, l4, e4⟩ := List.append_of_mem z
              exact ⟨l1, l3, l4, by rw [e3, e4]⟩
            · rcases Classical.em (x ∈ l1) with z' | z'
              · obtain ⟨l3, l4, e4⟩ := List.append_of_mem z'
                exact ⟨l3, l4, l2, by rw [e3, e4]; simp⟩
              · rw [e3, List.count_append, List.count_cons_self, List.count_eq_zero_of_not_mem z', List.count_eq_zero_of_not_mem z] at cnt
                omega
          obtain ⟨l1, l2, l3, e3⟩ := sp
          rw [e3] at hm2
          have hh := ((List.pairwise_append.mp hm2).2.1)
          have hx := (List.pairwise_cons.mp hh).1 x (by simp)
          have := asc b a rb ra h3 h1 (hx rb ra h4 h2)
          omega
        have nv : vs.Nodup := hm1.nodup_iff.mp nd
        have eq : ys = vs := by
          have at_ : ∀ (x : V), x ∈ vs → ∃ i, vs[i]? = some x := fun x hx => by
            obtain ⟨i, hi, e1⟩ := List.getElem_of_mem hx
            exact ⟨i, by rw [List.getElem?_eq_getElem hi, e1]⟩
          have one : ∀ (i j : Nat) (x : V), vs[i]? = some x → vs[j]? = some x → i = j := fun i j x h1 h2 => nd_ix nv h1 h2
          refine List.Perm.eq_of_pairwise (le := fun (x y : V) => ∀ i j : Nat, vs[i]? = some x → vs[j]? = some y → i ≤ j) ?_ ?_ ?_ hm1
          · intro x y hx hy h1 h2
            obtain ⟨i, hi⟩ := at_ x (hm1.mem_iff.mp hx)
            obtain ⟨j, hj⟩ := at_ y hy
            have : i = j := Nat.le_antisymm (h1 i j hi hj) (h2 j i hj hi)
            subst this
            rw [hi] at hj
            exact Option.some.inj hj
          · refine hm2.imp ?_
            intro x y hxy i j hi hj
            obtain ⟨r, h1, h2⟩ := rd i x hi
            obtain ⟨r', h3, h4⟩ := rd j y hj
            exact asc i j r r' h1 h3 (hxy r r' h2 h4)
          · refine List.pairwise_iff_getElem.mpr fun a b h1 h2 hab i j hi hj => ?_
            have := one a i _ (List.getElem?_eq_getElem h1) hi
            have := one b j _ (List.getElem?_eq_getElem h2) hj
            omega
        subst eq
        have x3 := Ext.new (.lst ys) x1.sh hp3
        exact q _ _ _ (x1.trans x3) ⟨p3, _, rfl, upd_same, dpAll_same x3.ss _ _ hd2⟩
end
end Dt
end
section
set_option Elab.async false
set_option linter.all false
set_option maxRecDepth 100000
/-! The text by places; what the top leaves; what each def does, told by data. -/
namespace Dt
open PySem PySem.Spec PyProof.Rows L2
def topS (i : Nat) : Stmt := PySem.Challenge.pw_cornersure_k78_whole_seatings_of_members.main.body.getD i (.Pass ⟨0, 0, 0, 0⟩)
/-- what the top leaves: built-ins are built-ins still, the constants, the class -/
structure Txt (K : PySem.W.Frag) (mg : Str → Option Value) (C : Addr) : Prop where
  b_len : mg "len" = none
  b_isinstance : mg "isinstance" = none
  b_int : mg "int" = none
  b_bool : mg "bool" = none
  b_str : mg "str" = none
  b_tuple : mg "tuple" = none
  b_list : mg "list" = none
  b_set : mg "set" = none
  b_range : mg "range" = none
  b_enumerate : mg "enumerate" = none
  b_all : mg "all" = none
  b_any : mg "any" = none
  b_sum : mg "sum" = none
  b_min : mg "min" = none
  b_max : mg "max" = none
  b_abs : mg "abs" = none
  b_sorted : mg "sorted" = none
  b_repr : mg "repr" = none
  b_divmod : mg "divmod" = none
  gLETTERS : ∃ u, mg "LETTERS" = some u ∧ RelV (.str "abcdefghijklmnopqrstuvwxyz") u
  gLONGEST_NAME : ∃ u, mg "LONGEST_NAME" = some u ∧ RelV (.int 8) u
  gMOST_LENGTH : ∃ u, mg "MOST_LENGTH" = some u ∧ RelV (.int 1000) u
  gMOST_NAMES : ∃ u, mg "MOST_NAMES" = some u ∧ RelV (.int 5) u
  gMOST_SEATS : ∃ u, mg "MOST_SEATS" = some u ∧ RelV (.int 12) u
  gCounts : ∃ u, mg "Counts" = some u ∧ RelV (.ref C) u
  cl : Cls K C
  na : NoAttr K C "held"
  isC : C8.InsC K C
/-- WORDS: a written tuple at W -/
structure TxtW (K : PySem.W.Frag) (mg : Str → Option Value) (W : Addr) : Prop where
  g : ∃ u, mg "WORDS" = some u ∧ RelV (.ref W) u
  t : ∀ S : Hp, Dp K S (.ref W) (.tuple ([("whole" : Str), "odd"].map PyData.str))
/-- a property whose getter keeps a promise -/
structure PCal (P : Program) (w : World) (K : PySem.W.Frag) (mg : Str → Option Value) (base : Heap) (k : Nat) (C : Addr) (f : Str) (sp : Sp) : Prop where
  ex : ∃ (p g : Addr) (fd : FuncData) (ps : List Str), Cls K C ∧ PropOf K C f p g ∧ FnOk P w K mg base CX0 k g fd ps sp ∧ Binds K fd ps []
theorem pe_pc {X : Cx} {k j : Nat} {C : Addr} {f : Str} {sp : Sp} {e : Expr} {ta : TE} {pos : Pos} (c : PCal X.prog X.w X.K X.mg X.base k C f sp) (hr : Room j X.A) (hk : k + 1 ≤ j) (he : PE X e ta)
    (hab : attributeBase e f X.env (eval e X.env) = eval e X.env) : PE X (.Attribute e f pos) (tProp C sp [] E0 ta) := by
  obtain ⟨p, g, fd, ps, h1, h2, h3, h4⟩ := c.ex
  exact pe_prop he h1 h2 h3 (hr.mono hk) h4 .nil pass0 hab
/-- len of an object whose class's def keeps a promise -/
structure LCal (P : Program) (w : World) (K : PySem.W.Frag) (mg : Str → Option Value) (base : Heap) (k : Nat) (C : Addr) (sp : Sp) : Prop where
  ex : ∃ (f : Addr) (fd : FuncData) (ps : List Str), PySem.W.findIn K (.ref C) "__len__" = some (some (.ref f)) ∧ PySem.W.isFn K (.ref f) = true ∧ FnOk P w K mg base CX0 k f fd ps sp ∧ Binds K fd ps []
theorem LCal.rule {X : Cx} {k j : Nat} {C : Addr} {sp : Sp} (c : LCal X.prog X.w X.K X.mg X.base k C sp) (hr : Room j X.A) (hk : k + 1 ≤ j) : CallR X (.builtin "len") (Ru.rLenO C sp E0) := by
  obtain ⟨f, fd, ps, h1, h2, h3, h4⟩ := c.ex
  exact Ru.call_lenO h1 h2 h3 h4 (hr.mono hk) pass0
/-- a def called by keywords alone -/
structure KCal (P : Program) (w : World) (K : PySem.W.Frag) (mg : Str → Option Value) (base : Heap) (k : Nat) (x : Str) (ks : List Str) (gV : List V → List V → List V) (sp : Sp) : Prop where
  ex : ∃ (f : Addr) (fd : FuncData) (ps : List Str) (g : List Value → List Value → List Value), FnOk P w K mg base CX0 k f fd ps sp ∧ mg x = some (.ref f) ∧ PySem.W.keepIn K (.ref f) = true ∧ KBinds K fd ps ks g gV
theorem pe_kc {X : Cx} {k j : Nat} {x : Str} {ks : List Str} {gV : List V → List V → List V} {sp : Sp} {kws : List Keyword} {tk : TA} {p pos : Pos} (c : KCal X.prog X.w X.K X.mg X.base k x ks gV sp) (hr : Room j X.A) (hk : k ≤ j) (hg : Gl X x) (hkw : PK X kws tk) (db : (x == ("__debug__" : Str)) = false := by decide)
    (form : (backToKw pos (keywordEach kws X.env)).all (·.1.isSome) = true ∧ (backToKw pos (keywordEach kws X.env)).filterMap (·.1) = ks ∧ ((backTo pos (starEach [] X.env)).any (·.1) || (backToKw pos (keywordEach kws X.env)).any (·.1.isNone)) = false := by exact ⟨by rfl, by rfl, by rfl⟩) :
    PE X (.Call (.Name x p) [] kws pos) (tCallK sp gV E0 tNil tk) :=
  let ⟨_, _, _, _, h1, h2, h3, h4⟩ := c.ex
  Ru.pe_keys h1 (hr.mono hk) hg h2 h3 h4 pass0 hkw db form
/-- a def whose promise holds where no repr is under way -/
structure GCal (P : Program) (w : World) (K : PySem.W.Frag) (mg : Str → Option Value) (base : Heap) (k : Nat) (x : Str) (sp : Sp) : Prop where
  ex : ∃ f : Addr, Gu.Quiet P w K mg base k f sp ∧ mg x = some (.ref f) ∧ PySem.W.keepIn K (.ref f) = true
theorem pe_gcal {X : Cx} {k j : Nat} {x : Str} {sp : Sp} {e : Expr} {es : List Expr} {t : TA} {p pos : Pos} (c : GCal X.prog X.w X.K X.mg X.base k x sp) (hgd : X.A.guards = some []) (hr : Room j X.A) (hk : k ≤ j) (hg : Gl X x) (ha : PA X (e :: es) t) (db : (x == ("__debug__" : Str)) = false := by decide)
    (plain : starEach (e :: es) X.env = (false, eval e X.env) :: starEach es X.env ∧ (backTo pos (starEach es X.env)).any (·.1) = false := by exact ⟨by rfl, by rfl⟩) : PE X (.Call (.Name x p) (e :: es) [] pos) (tCall sp [] E0 t) :=
  let ⟨_, h1, h2, h3⟩ := c.ex
  Gu.pe_quiet (h1.more hk) hgd hr hg h2 h3 ha db plain
theorem hu65 {A : Around} {k : Nat} (hr : Room k A) : A.units + 65 < cLine := by have := hr.un; omega

theorem filter_tt {α : Type} (l : List α) : l.filter (fun _ => true) = l := List.filter_eq_self.mpr fun _ _ => rfl
theorem map_cst {α : Type} (l : List α) (b : Bool) : l.map (fun _ => PyData.bool b) = (l.map fun _ => b).map PyData.bool := by rw [List.map_map]; rfl
theorem k_ii : kitB "int" "int" = some true := by decide +kernel
theorem k_ib : kitB "int" "bool" = some false := by decide +kernel
theorem k_ss : kitB "str" "str" = some true := by decide +kernel
theorem k_tt : kitB "tuple" "tuple" = some true := by decide +kernel
/-! ### data of the program -/
/-- a name, its LOW, its HIGH -/
abbrev Part := Str × Int × Int
abbrev Poll := List Part
def dPart (p : Part) : D := .tuple [.str p.1, .tuple [.int p.2.1, .int p.2.2]]
def dPoll (p : Poll) : D := .tuple (p.map dPart)
/-- seats -/
def ci (l : List Nat) : List Int := l.map fun (n : Nat) => (n : Int)
def dN (l : List Nat) : D := tI (ci l)
def wd (b : Bool) : Str := if b then "whole" else "odd"
def names5 : List Str := ["a", "b", "cd", "elm", "z"]
def OkPart (p : Part) : Prop := p.1 ∈ names5 ∧ 0 ≤ p.2.1 ∧ p.2.1 ≤ p.2.2 ∧ p.2.2 ≤ 1000
structure OkPoll (p : Poll) : Prop where
  len2 : 2 ≤ p.length
  len4 : p.length ≤ 4
  part : ∀ q ∈ p, OkPart q
  asc : p.Pairwise fun a b => a.1.cps.toList < b.1.cps.toList
def dvI (b : Bool) (k : Int) : Int := if b then k else 2 * k - 1
def lo (p : Poll) (i : Nat) : Int := (p.getD i ("", 0, 0)).2.1
def hi (p : Poll) (i : Nat) : Int := (p.getD i ("", 0, 0)).2.2
def nm (p : Poll) (i : Nat) : Str := (p.getD i ("", 0, 0)).1
def st (s : List Nat) (i : Nat) : Nat := s.getD i 0
/-- small enough to be multiplied -/
def Sm (i : Int) : Prop := -(2 ^ 64) < i ∧ i < 2 ^ 64
end Dt
end
section
set_option Elab.async false
set_option linter.all false
set_option maxRecDepth 100000
namespace Dt
open PySem PySem.Spec PyProof.Rows L2
section
variable {K : PySem.W.Frag} {C : Addr} {ρ ρ' ρ1 : List E} {a b c : A} {ta tb tc te tl : TE} {t u : TT} {as bs : List A} {st su : TS} {N N' : List E → Prop} {R : A → List E → Prop} {wi : TI}
theorem it_is {xs ys : List D} (h : ItE K C wi ρ xs) (e : xs = ys) : ItE K C wi ρ ys := e ▸ h
theorem wk_refl : ∀ ρ : List E, Wk ρ ρ
  | [] => trivial
  | _ :: r => ⟨.inr rfl, wk_refl r⟩
/-- forgetting behind a statement -/
theorem sx_forget (h : SX K C st ρ N' R) (k : ∀ ρ', N' ρ' → ∃ ρ2, Wk ρ' ρ2 ∧ N ρ2) : SX K C st ρ N R := fun S σ H s e D q r =>
  h S σ H s e D (fun ρ1 σ1 S1 H1 n x e1 => by
    obtain ⟨ρ2, w, n2⟩ := k ρ1 n
    exact q ρ2 σ1 S1 H1 n2 (x.sub (owns_weak w)) (e1.weak w)) r
theorem sx_to (h : SX K C st ρ (· = ρ1) R) (w : Wk ρ1 ρ') : SX K C st ρ (fun r => Wk r ρ') R := sx_mono h fun r e => by rw [e]; exact w
/-- for, the slots known at each round -/
theorem sx_forF {g : TG} {vs : List Nat} (xs : List D) (f : Nat → List E) (hi : ItE K C wi ρ xs) (h0 : ρ = f 0)
    (hs : ∀ i x, xs[i]? = some x → ∃ ρ', GE K C vs g (.d x) (f i) ρ' ∧ (∀ p ∈ owns ρ', p ∈ owns (f i)) ∧ SX K C st ρ' (fun r => Wk r (f (i + 1))) R) : SX K C (tFor wi g st) ρ (· = f xs.length) R := by
  refine sx_for (vs := vs) xs hi (fun i ρi => ρi = f i) h0 (fun i x ρi hx e => ?_) (fun ρ' e => e)
  obtain ⟨ρ', h1, h2, h3⟩ := hs i x hx
  subst e
  exact ⟨ρ', h1, h2, sx_forget h3 fun r w => ⟨_, w, rfl⟩⟩
theorem sx_forP {g : TG} {vs : List Nat} (xs : List D) (f : Nat → List E) (Pr : Nat → Prop) (hi : ItE K C wi ρ xs) (h0 : ρ = f 0) (hp0 : Pr 0)
    (hs : ∀ i x, xs[i]? = some x → Pr i → ∃ ρ', GE K C vs g (.d x) (f i) ρ' ∧ (∀ p ∈ owns ρ', p ∈ owns (f i)) ∧ SX K C st ρ' (fun r => Wk r (f (i + 1)) ∧ Pr (i + 1)) R) : SX K C (tFor wi g st) ρ (fun r => r = f xs.length ∧ Pr xs.length) R := by
  refine sx_for (vs := vs) xs hi (fun i ρi => ρi = f i ∧ Pr i) ⟨h0, hp0⟩ (fun i x ρi hx e => ?_) (fun ρ' e => e)
  obtain ⟨e, pr⟩ := e
  obtain ⟨ρ', h1, h2, h3⟩ := hs i x hx pr
  subst e
  exact ⟨ρ', h1, h2, sx_forget h3 fun r w => ⟨_, w.1, rfl, w.2⟩⟩
theorem sx_toP {Pr : Prop} (h : SX K C st ρ (· = ρ1) R) (w : Wk ρ1 ρ') (pr : Pr) : SX K C st ρ (fun r => Wk r ρ' ∧ Pr) R := sx_mono h fun r e => by rw [e]; exact ⟨w, pr⟩
/-- .. to its end, or back out of it -/
theorem sx_seqW (h : SX K C st ρ (fun r => Wk r ρ1) R) (k : SX K C su ρ1 N R) : SX K C (tSeq st su) ρ N R := sx_seq1 (sx_forget h fun r w => ⟨ρ1, w, rfl⟩) k
def isNn : D → Bool
  | .none => true
  | _ => false
theorem isNn_ok {S : Hp} {x : V} : ∀ {d : D}, Dp K S x d → decide (x = V.non) = isNn d
  | .none, h => by cases h; rfl
  | .bool _, h => by cases h; rfl
  | .int _, h => by cases h; rfl
  | .str _, h => by cases h; rfl
  | .list _, h => by cases h; rfl
  | .tuple _, h => by cases h; rfl
  | .dict _, h => by cases h
theorem op_isN' {d : D} : OpD K C (fun x y H Q => y = .non ∧ Q (.bl (decide (x = .non))) H) (.d d) (.d .none) (.d (.bool (isNn d))) := fun S H x y s hx hy Q q => by
  cases hy
  exact ⟨rfl, by rw [isNn_ok hx]; exact q _ S H (.refl s) (.bl _)⟩
theorem op_notN' {d : D} : OpD K C (fun x y H Q => y = .non ∧ Q (.bl (!decide (x = .non))) H) (.d d) (.d .none) (.d (.bool (!isNn d))) := fun S H x y s hx hy Q q => by
  cases hy
  exact ⟨rfl, by rw [isNn_ok hx]; exact q _ S H (.refl s) (.bl _)⟩
theorem un_neg' {i : Int} : UnD K C (rU fun i => .int (-i)) (.d (.int i)) (.d (.int (-i))) := fun S H x s hx Q q => by
  cases hx
  exact ⟨i, rfl, q _ S H (.refl s) (.int _)⟩
theorem ev_words {W : Addr} (t : ∀ S : Hp, Dp K S (.ref W) (.tuple ([("whole" : Str), "odd"].map PyData.str))) : EvE K C (tC (.ref W)) ρ (.d (.tuple ([("whole" : Str), "odd"].map PyData.str))) := fun S σ H s e Q q => q _ S H (.refl s) (t S)
/-! an object made -/
def spInit (K : PySem.W.Frag) (C : Addr) : Sp := fun vs H Q _ => ∃ (S : Hp) (x dx : Addr) (v : V) (p : Poll), vs = [.ref x, v] ∧ Same S H ∧ S x = none ∧ H x = some (.ins C dx []) ∧ AV K C S v (.d (dPoll p)) ∧ OkPoll p ∧
  ∀ S1 H1, Ext S H S1 H1 → Q .non (upd H1 x (.ins C dx [("held", v)]))
theorem ev_make {p : Poll} (h : EvE K C te ρ (.d (dPoll p))) (hp : OkPoll p) : EvE K C (tMake C (spInit K C) [] E0 (tCons te tNil)) ρ (.c (dPoll p)) := fun S σ H s e Q q =>
  h S σ H s e _ fun v S1 H1 x1 hv => fun x dx hx hdx hne => by
    have sx : S1 x = none := x1.sh.free hx
    have sdx : S1 dx = none := x1.sh.free hdx
    have sx2 : upd S1 dx (.own x) x = none := by rw [upd_ne hne.symm]; exact sx
    have ss2 : Same S1 (upd S1 dx (.own x)) := same_new sdx
    have sh2 : Same (upd S1 dx (.own x)) (upd (upd H1 dx (.own x)) x (.ins C dx [])) := fun b o hb => by
      have nb : b ≠ x := ne_of_none hb sx2
      rw [upd_ne nb]
      by_cases z : b = dx
      · rw [z, upd_same] at hb ⊢; exact hb
      · rw [upd_ne z] at hb ⊢; exact x1.sh b o hb
    refine ⟨upd S1 dx (.own x), x, dx, v, p, rfl, sh2, sx2, upd_same, hv.mono ss2, hp, fun S3 H3 x3 => ⟨rfl, ?_⟩⟩
    have hx3 : H3 x = some (.ins C dx []) := x3.hh _ _ upd_same
    have s3 : S3 x = none := x3.fr x (by rw [upd_same]; simp) sx2
    refine q _ (upd S3 x (.ins C dx [("held", v)])) _ ?_ ⟨x, dx, v, rfl, upd_same, ?_⟩
    · refine ⟨((x1.ss.trans ss2).trans x3.ss).trans (same_new s3), fun b o hb => ?_, fun b o hb => ?_, fun b h1 h2 => ?_⟩
      · by_cases z : b = x
        · rw [z, upd_same] at hb ⊢; exact hb
        · rw [upd_ne z] at hb ⊢; exact x3.sh b o hb
      · have hb1 := x1.hh b o hb
        have nb : b ≠ x := ne_of_none hb1 hx
        have nd : b ≠ dx := ne_of_none hb1 hdx
        rw [upd_ne nb]
        exact x3.hh b o (by rw [upd_ne nb, upd_ne nd]; exact hb1)
      · have hb1 := ne_same x1.hh h1
        have nb : b ≠ x := fun z => by rw [z] at hb1; exact hb1 hx
        have nd : b ≠ dx := fun z => by rw [z] at hb1; exact hb1 hdx
        rw [upd_ne nb]
        exact x3.fr b (by rw [upd_ne nb, upd_ne nd]; exact hb1) (by rw [upd_ne nd]; exact x1.fr b h1 h2)
    · exact dp_same ((ss2.trans x3.ss).trans (same_new s3)) _ _ hv
end
/-- a tuple target in a block -/
theorem pg_tupB {X : Cx} {scope : Scope} {es : List Expr} {k : Nat} {pos : Pos} {t : TGs}
    (h : ∀ (s : Shared) (H : Hp) (C : Addr) (cl : List (Str × Addr)) (fp : List Addr), PGs (X.blk s H scope (compEnvC scope cl C X.env) fp) es t)
    (hn : ∀ (s : Shared) (H : Hp) (C : Addr) (cl : List (Str × Addr)) (fp : List Addr), (assignEach es (X.blk s H scope (compEnvC scope cl C X.env) fp).env).length = 2 := by intro _ _ _ _ _; rfl)
    (hst : ∀ (s : Shared) (H : Hp) (C : Addr) (cl : List (Str × Addr)) (fp : List Addr), (assignEach es (X.blk s H scope (compEnvC scope cl C X.env) fp).env).findIdx? (·.1) = none := by intro _ _ _ _ _; rfl) (hc : X.calm = true := by rfl) :
    ∀ (s : Shared) (H : Hp) (C : Addr) (cl : List (Str × Addr)) (fp : List Addr), PG (X.blk s H scope (compEnvC scope cl C X.env) fp) (.Tuple es k pos) (gTup X.K 2 t) := fun s H C cl fp =>
  pg_tup (X := X.blk s H scope (compEnvC scope cl C X.env) fp) hc (h s H C cl fp) (hn s H C cl fp) (hst s H C cl fp)
/-! the rules that name the fragment, for use in a block -/
section
variable {X : Cx} {K : PySem.W.Frag}
theorem ix_tupK (h : X.K = K) : IxR X (rIxT K) := h ▸ ix_tup
theorem mt_tup_indexK (h : X.K = K) : MtR X "tuple.index" (fun x xs H Q => ∃ p, ∃ ys : List Str, ∃ z j, x = .ref p ∧ xs = [.str z] ∧ SqT K H p (ys.map V.str) ∧ ys[j]? = some z ∧ (∀ m, m < j → ys[m]? ≠ some z) ∧ Q (.int (j : Nat)) H) := h ▸ mt_tup_index
theorem pi_listK {l tg : Expr} {tl : TE} (h : X.K = K) (hl : PE X l tl) : PI X tg l (iList K tl) := h ▸ pi_list hl
theorem pi_tupK {l tg : Expr} {tl : TE} (h : X.K = K) (hl : PE X l tl) : PI X tg l (iTup K tl) := h ▸ pi_tup hl
theorem cr_minK (h : X.K = K) (hc : X.calm = true) : CallR X (.builtin "min") (rMin K) := h ▸ cr_min hc
theorem ix_listK (h : X.K = K) : IxR X (rIxL K) := h ▸ ix_list
theorem op_catAK (h : X.K = K) : OpR X (binaryOp .Add) (rCatA K) := h ▸ op_catA
theorem op_repTK (h : X.K = K) : OpR X (binaryOp .Mult) (rRepT K) := h ▸ op_repT
theorem sl_tupAK (h : X.K = K) : SlR X (rSlA K) := h ▸ sl_tupA
theorem op_inDK (h : X.K = K) (hu : X.A.units + 65 < cLine) : OpR X (compareOp .In) (rInD K) := h ▸ op_inD hu
theorem op_eqDK (h : X.K = K) (hu : X.A.units + 64 < cLine) : OpR X (compareOp .Eq) (rEqD K) := h ▸ op_eqD hu
theorem op_neDK (h : X.K = K) (hu : X.A.units + 64 < cLine) : OpR X (compareOp .NotEq) (rNeD K) := h ▸ op_neD hu
theorem call_isiK (h : X.K = K) : CallR X (.builtin "isinstance") (rIsi K) := h ▸ call_isi
theorem pa_starK {e : Expr} {es : List Expr} {p : Pos} {te : TE} {t : TA} (h : X.K = K) (he : PE X e te) (hr : PA X es t) (hs : starEach (.Starred e p :: es) X.env = (true, eval e X.env) :: starEach es X.env := by rfl) : PA X (.Starred e p :: es) (StX.tStar K te t) := h ▸ StX.pa_star he hr hs
end
/-! ### data of the program -/
abbrev dAt (p : Poll) (i : Nat) : D := .tuple [.str (nm p i), .tuple [.int (lo p i), .int (hi p i)]]
theorem atP {p : Poll} {i : Nat} (h : i < p.length) : atI (p.map dPart) (i : Int) = some (dAt p i) := by
  refine atI_nat ?_
  have e : p.getD i (("" : Str), (0 : Int), (0 : Int)) = p[i] := by rw [List.getD_eq_getElem?_getD, List.getElem?_eq_getElem h, Option.getD_some]
  rw [List.getElem?_map, List.getElem?_eq_getElem h]
  show some (dPart p[i]) = _
  unfold dAt nm lo hi
  rw [e]
  rfl
theorem atS {s : List Nat} {i : Nat} (h : i < s.length) : atI ((ci s).map PyData.int) (i : Int) = some (.int (st s i : Nat)) := by
  refine atI_nat ?_
  unfold ci st
  rw [List.getElem?_map, List.getElem?_map, List.getElem?_eq_getElem h, List.getD_eq_getElem?_getD, List.getElem?_eq_getElem h]
  rfl
theorem atI_some {α : Type} {xs : List α} {i : Nat} {x : α} (h : atI xs (i : Int) = some x) : xs[i]? = some x := by
  unfold atI at h
  cases z : ixN xs.length (i : Int) with
  | none => rw [z] at h; cases h
  | some j =>
    rw [z] at h
    have h' : xs[j]? = some x := h
    by_cases hi : i < xs.length
    · have e : atI xs (i : Int) = some xs[i] := atI_nat (List.getElem?_eq_getElem hi)
      unfold atI at e
      rw [z] at e
      have e' : xs[j]? = some xs[i] := e
      rw [List.getElem?_eq_getElem hi, ← e', h']
    · unfold ixN at z
      simp at z
      omega
theorem enuP_get {p : Poll} {i : Nat} {x : D} (h : (enu (p.map dPart))[i]? = some x) : i < p.length ∧ x = .tuple [.int (i : Nat), dAt p i] := by
  obtain ⟨y, hy, rfl⟩ := enu_get h
  have hi : i < p.length := by
    have := (List.getElem?_eq_some_iff.mp hy).1
    rw [List.length_map] at this
    exact this
  have := atI_some (atP hi)
  rw [this] at hy
  cases hy
  exact ⟨hi, rfl⟩
theorem enu_map {α : Type} (l : List α) (f : α → D) (g : Nat → D) (h : ∀ i (hi : i < l.length), f l[i] = g i) : enu (l.map f) = (List.range l.length).map fun i => PyData.tuple [.int (i : Nat), g i] := by
  refine List.ext_getElem? fun i => ?_
  unfold enu
  rw [List.getElem?_map, List.getElem?_zipIdx, List.getElem?_map, List.getElem?_map]
  by_cases hi : i < l.length
  · rw [List.getElem?_eq_getElem hi, List.getElem?_range hi]
    simp [h i hi]
  · rw [List.getElem?_eq_none (by omega), List.getElem?_eq_none (by rw [List.length_range]; omega)]
    rfl
theorem enu_poll (p : Poll) : enu (p.map dPart) = (List.range p.length).map fun i => PyData.tuple [.int (i : Nat), dAt p i] := by
  refine enu_map p dPart (dAt p) fun i hi => ?_
  have := atI_some (atP hi)
  rw [List.getElem?_map, List.getElem?_eq_getElem hi] at this
  exact Option.some.inj this
theorem enu_seats (s : List Nat) : enu ((ci s).map PyData.int) = (List.range s.length).map fun i => PyData.tuple [.int (i : Nat), .int (st s i : Nat)] := by
  have e : (ci s).map PyData.int = s.map fun n => PyData.int ((n : Nat) : Int) := by unfold ci; rw [List.map_map]; rfl
  rw [e]
  refine enu_map s _ _ fun i hi => ?_
  unfold st
  rw [List.getD_eq_getElem?_getD, List.getElem?_eq_getElem hi]
  rfl
theorem lohi {p : Poll} (hp : OkPoll p) (i : Nat) : 0 ≤ lo p i ∧ lo p i ≤ hi p i ∧ hi p i ≤ 1000 := by
  unfold lo hi
  by_cases h : i < p.length
  · have e : p.getD i (("" : Str), (0 : Int), (0 : Int)) = p[i] := by rw [List.getD_eq_getElem?_getD, List.getElem?_eq_getElem h, Option.getD_some]
    rw [e]
    exact (hp.part p[i] (List.getElem_mem h)).2
  · have e : p.getD i (("" : Str), (0 : Int), (0 : Int)) = (("" : Str), (0 : Int), (0 : Int)) := by rw [List.getD_eq_getElem?_getD, List.getElem?_eq_none (by omega), Option.getD_none]
    rw [e]
    exact ⟨Int.le_refl _, Int.le_refl _, by decide⟩
/-- a seating of the poll -/
structure OkS (p : Poll) (s : List Nat) : Prop where
  len : s.length = p.length
  pos : 1 ≤ s.sum
  le : s.sum ≤ 12
theorem mem_le_sum : ∀ {s : List Nat} {n : Nat}, n ∈ s → n ≤ s.sum
  | x :: r, n, h => by
    rw [List.sum_cons]
    rcases List.mem_cons.mp h with e | e
    · omega
    · have := mem_le_sum e
      omega
theorem st_le (s : List Nat) (i : Nat) : st s i ≤ s.sum := by
  unfold st
  by_cases h : i < s.length
  · rw [List.getD_eq_getElem?_getD, List.getElem?_eq_getElem h]
    exact mem_le_sum (List.getElem_mem h)
  · rw [List.getD_eq_getElem?_getD, List.getElem?_eq_none (by omega)]
    exact Nat.zero_le _
theorem some_pos : ∀ {s : List Nat}, 1 ≤ s.sum → ∃ i, i < s.length ∧ 0 < st s i
  | [], h => by simp at h
  | x :: r, h => by
    by_cases hx : 0 < x
    · exact ⟨0, by simp, hx⟩
    · rw [List.sum_cons] at h
      obtain ⟨i, h1, h2⟩ := some_pos (s := r) (by omega)
      exact ⟨i + 1, by simp only [List.length_cons]; omega, h2⟩
theorem dv_le (b : Bool) (k : Nat) (h : k ≤ 1000) : -(2 ^ 64) < Ap.dv b k ∧ Ap.dv b k < 2 ^ 64 := by
  unfold Ap.dv
  have e : (2 : Int) ^ 64 = 18446744073709551616 := by decide
  split <;> omega
theorem sm_lo {p : Poll} (hp : OkPoll p) (i : Nat) : Sm (lo p i) := by
  have := lohi hp i
  have e : (2 : Int) ^ 64 = 18446744073709551616 := by decide
  unfold Sm
  omega
theorem sm_hi {p : Poll} (hp : OkPoll p) (i : Nat) : Sm (hi p i) := by
  have := lohi hp i
  have e : (2 : Int) ^ 64 = 18446744073709551616 := by decide
  unfold Sm
  omega
theorem ci_sum : ∀ s : List Nat, (ci s).sum = (s.sum : Nat)
  | [] => rfl
  | x :: r => by
    have := ci_sum r
    unfold ci at this ⊢
    rw [List.map_cons, List.sum_cons, List.sum_cons, this]
    omega
theorem neI (a b : Nat) : (!decide (V.int (a : Int) = V.int (b : Int))) = decide (a ≠ b) := by
  by_cases h : a = b
  · subst h; simp
  · rw [decide_eq_false (show ¬ V.int (a : Int) = V.int (b : Int) from fun z => h (by injection z with z; omega)), decide_eq_true h]; rfl
theorem map_get {α : Type} {l : List α} {f : α → D} {i : Nat} {x : D} (h : (l.map f)[i]? = some x) : ∃ a, l[i]? = some a ∧ x = f a := by
  rw [List.getElem?_map] at h
  cases z : l[i]? with
  | none => rw [z] at h; cases h
  | some a => rw [z] at h; exact ⟨a, rfl, (Option.some.inj h).symm⟩
theorem map_comp {α β γ : Type} (l : List α) (f : α → β) (g : β → γ) : l.map (fun x => g (f x)) = (l.map f).map g := by rw [List.map_map]; rfl
theorem ea_is {ρ : List E} {K : PySem.W.Frag} {C : Addr} {t : TA} {as bs : List A} (h : EvA K C t ρ as) (e : as = bs) : EvA K C t ρ bs := e ▸ h
theorem flatMap_len {α β : Type} (g : α → List β) (B : Nat) : ∀ l : List α, (∀ x ∈ l, (g x).length ≤ B) → (l.flatMap g).length ≤ l.length * B
  | [], _ => by simp
  | x :: r, h => by
    rw [List.flatMap_cons, List.length_append, List.length_cons, Nat.succ_mul]
    have h1 := h x List.mem_cons_self
    have h2 := flatMap_len g B r fun y hy => h y (List.mem_cons_of_mem _ hy)
    omega
theorem st_get {s : List Nat} {k : Nat} (h : k < s.length) : st s k = s[k] := by
  unfold st
  rw [List.getD_eq_getElem?_getD, List.getElem?_eq_getElem h]
  rfl
theorem nm_get {p : Poll} {k : Nat} (h : k < p.length) : (p.map (·.1))[k]? = some (nm p k) := by
  unfold nm
  rw [List.getElem?_map, List.getD_eq_getElem?_getD, List.getElem?_eq_getElem h]
  rfl
theorem nm_ne {p : Poll} (hp : OkPoll p) {j k : Nat} (hk : k < p.length) (h : j < k) : (p.map (·.1))[j]? ≠ some (nm p k) := fun e => by
  have e1 := nm_get (p := p) (k := j) (by omega)
  rw [e] at e1
  have e2 : nm p j = nm p k := (Option.some.inj e1).symm
  have hlt := List.pairwise_iff_getElem.mp hp.asc j k (by omega) hk h
  have a1 : p[j].1 = nm p j := by unfold nm; rw [List.getD_eq_getElem?_getD, List.getElem?_eq_getElem (by omega)]; rfl
  have a2 : p[k].1 = nm p k := by unfold nm; rw [List.getD_eq_getElem?_getD, List.getElem?_eq_getElem hk]; rfl
  rw [a1, a2, e2] at hlt
  exact absurd hlt (List.lt_irrefl _)
/-! ### mirrors -/
/-- all rows of n + 1 whole numbers that sum up to T -/
def en : Nat → Nat → List (List Nat)
  | 0, T => [[T]]
  | n + 1, T => (List.range (T + 1)).flatMap fun f => (en n (T - f)).map fun r => f :: r
theorem mem_en : ∀ {n T : Nat} {s : List Nat}, s ∈ en n T ↔ s.length = n + 1 ∧ s.sum = T
  | 0, T, s => by
    unfold en
    rw [List.mem_singleton]
    constructor
    · rintro rfl; simp
    · rintro ⟨h1, h2⟩
      match s, h1 with
      | [x], _ => simp at h2; rw [h2]
  | n + 1, T, s => by
    unfold en
    rw [List.mem_flatMap]
    constructor
    · rintro ⟨f, hf, h⟩
      obtain ⟨r, hr, rfl⟩ := List.mem_map.mp h
      have := mem_en.mp hr
      have hf' := List.mem_range.mp hf
      rw [List.length_cons, List.sum_cons]
      omega
    · rintro ⟨h1, h2⟩
      match s, h1 with
      | f :: r, h1 =>
        rw [List.length_cons] at h1
        rw [List.sum_cons] at h2
        exact ⟨f, List.mem_range.mpr (by omega), List.mem_map.mpr ⟨r, mem_en.mpr ⟨by omega, by omega⟩, rfl⟩⟩
theorem en_len : ∀ n, n < 4 → ∀ T, T < 13 → (en n T).length ≤ 1000 := by decide +kernel
def gnF (p : Poll) (b : Bool) (s : List Nat) : Nat → Nat
  | 0 => 0
  | i + 1 => if lo p (gnF p b s i) * Ap.dv b (st s i + 1) < lo p i * Ap.dv b (st s (gnF p b s i) + 1) then i else gnF p b s i
theorem gnF_lt (p : Poll) (b : Bool) (s : List Nat) {n : Nat} (hn : 0 < n) : ∀ i, i ≤ n → gnF p b s i < n
  | 0, _ => hn
  | i + 1, h => by
    unfold gnF
    split
    · omega
    · exact gnF_lt p b s hn i (by omega)
def somes (s : List Nat) : List Nat := (List.range s.length).filter fun i => decide (0 < st s i)
def llS (p : Poll) (b : Bool) (s : List Nat) (f a : Nat) : Nat := if hi p a * Ap.dv b (st s f) < hi p f * Ap.dv b (st s a) then a else f
def llF (p : Poll) (b : Bool) (s : List Nat) : Nat := (somes s).foldl (llS p b s) ((somes s).getD 0 0)
theorem mem_somes {s : List Nat} {i : Nat} : i ∈ somes s ↔ i < s.length ∧ 0 < st s i := by
  unfold somes
  rw [List.mem_filter, List.mem_range, decide_eq_true_iff]
theorem somes_ne {s : List Nat} (h : 1 ≤ s.sum) : somes s ≠ [] := fun e => by
  obtain ⟨i, h1, h2⟩ := some_pos h
  have := mem_somes.mpr ⟨h1, h2⟩
  rw [e] at this
  cases this
theorem llS_mem {p : Poll} {b : Bool} {s : List Nat} : ∀ (l : List Nat) (f : Nat), (∀ i ∈ l, i ∈ somes s) → f ∈ somes s → l.foldl (llS p b s) f ∈ somes s
  | [], f, _, h => h
  | a :: l, f, hl, h => by
    rw [List.foldl_cons]
    refine llS_mem l _ (fun i hi => hl i (List.mem_cons_of_mem _ hi)) ?_
    unfold llS
    split
    · exact hl a List.mem_cons_self
    · exact h
theorem ll0_mem {s : List Nat} (h : 1 ≤ s.sum) : (somes s).getD 0 0 ∈ somes s := by
  cases e : somes s with
  | nil => exact absurd e (somes_ne h)
  | cons a l => exact List.mem_cons_self
theorem llF_mem {p : Poll} {b : Bool} {s : List Nat} (h : 1 ≤ s.sum) : llF p b s ∈ somes s := llS_mem _ _ (fun _ h => h) (ll0_mem h)
def comesB (p : Poll) (b : Bool) (s : List Nat) : Bool := !decide (hi p (llF p b s) * Ap.dv b (st s (gnF p b s p.length) + 1) < lo p (gnF p b s p.length) * Ap.dv b (st s (llF p b s)))
/-- the last seat of k, with its low count, is held against all others -/
def sureAt (p : Poll) (b : Bool) (s : List Nat) (k : Nat) : Bool := !(decide (0 < st s k) && (((List.range p.length).filter fun o => decide (o ≠ k)).any fun o => decide (lo p k * Ap.dv b (st s o + 1) < hi p o * Ap.dv b (st s k))))
def sureB (p : Poll) (b : Bool) (s : List Nat) : Bool := (List.range p.length).all (sureAt p b s)
def knownB (p : Poll) (b : Bool) (T : Nat) : List (List Nat) := (en (p.length - 1) T).filter (comesB p b)
theorem knownS {p : Poll} {T : Nat} {s : List Nat} (hp : OkPoll p) (h1 : 1 ≤ T) (h2 : T ≤ 12) (h : s ∈ en (p.length - 1) T) : OkS p s := by
  have := mem_en.mp h
  have := hp.len2
  exact ⟨by omega, by omega, by omega⟩
def prTop (p : Poll) (b : Bool) (s : List Nat) : Nat := (lo p (gnF p b s p.length)).toNat
def prBot (p : Poll) (b : Bool) (s : List Nat) : Nat := (Ap.dv b (st s (gnF p b s p.length) + 1)).toNat
def priceD (p : Poll) (b : Bool) (s : List Nat) : D := if comesB p b s then tI [((prTop p b s / Nat.gcd (prTop p b s) (prBot p b s) : Nat) : Int), ((prBot p b s / Nat.gcd (prTop p b s) (prBot p b s) : Nat) : Int)] else .none
def barD (p : Poll) (b : Bool) (s : List Nat) : D := if comesB p b s then .none else .tuple [.str (nm p (llF p b s)), .str (nm p (gnF p b s p.length))]
end Dt
end
section
set_option Elab.async false
set_option linter.all false
set_option maxRecDepth 100000
set_option maxHeartbeats 4000000
namespace Dt
open PySem PySem.Spec PyProof.Rows L2
def m_is_whole (as : List A) (a : A) : Prop := ∃ i : Int, as = [.d (.int i)] ∧ a = .d (.bool true)
def m_is_integer (as : List A) (a : A) : Prop := ∃ i lo hi : Int, as = [.d (.int i), .d (.int lo), .d (.int hi)] ∧ a = .d (.bool (decide (lo ≤ i) && decide (i ≤ hi)))
def m_is_name (as : List A) (a : A) : Prop := ∃ s : Str, as = [.d (.str s)] ∧ s ∈ names5 ∧ a = .d (.bool true)
def m_common (as : List A) (a : A) : Prop := ∃ x y : Nat, as = [.d (.int x), .d (.int y)] ∧ a = .d (.int (Nat.gcd x y : Nat))
def m_lowest (as : List A) (a : A) : Prop := ∃ x y : Nat, as = [.d (.int x), .d (.int y)] ∧ 0 < y ∧ y < 1000000 ∧ a = .d (tI [((x / Nat.gcd x y : Nat) : Int), ((y / Nat.gcd x y : Nat) : Int)])
def m_is_length (as : List A) (a : A) : Prop := ∃ x y : Int, as = [.d (.tuple [.int x, .int y])] ∧ 0 ≤ x ∧ x ≤ y ∧ y ≤ 1000 ∧ a = .d (.bool true)
def m_is_part (as : List A) (a : A) : Prop := ∃ p : Part, as = [.d (dPart p)] ∧ OkPart p ∧ a = .d (.bool true)
def m_check_parts (as : List A) (a : A) : Prop := ∃ p : Poll, as = [.d (dPoll p)] ∧ OkPoll p ∧ a = .d .none
section
variable {P : Program} {w : World} {K : PySem.W.Frag} {mg : Str → Option Value} {base : Heap} {C : Addr}
theorem ok_is_whole {f : Addr} {fd : FuncData} (F : L2.Fun K "is_whole" "is_whole" (topS 13) f fd) (T : Txt K mg C)  :
    FnOk P w K mg base CX0 1 f fd ["value"] (spD K C m_is_whole) := by
  have sc : FnScope ["value"] ["value"] (defScope (topS 13)) := C8.fnScope_by (by decide +kernel)
  have nd := sc.nd
  refine okD F sc (fun as a h => by obtain ⟨i, rfl, rfl⟩ := h; rfl) fun cdv A outer s H E hr => ⟨_, (pss_one (ps_ret (pe_and (pe_callB call_isi (by rfl) T.b_isinstance (by decide +kernel) (pa_cons (pv 0) (pa_cons (pe_bltn (v := .ty "int") (u := .type "int") (by rfl) T.b_int (by decide +kernel) rfl) pa_nil))) (pe_one (pe_not (pe_callB call_isi (by rfl) T.b_isinstance (by decide +kernel) (pa_cons (pv 0) (pa_cons (pe_bltn (v := .ty "bool") (u := .type "bool") (by rfl) T.b_bool (by decide +kernel) rfl) pa_nil)))))))), fun as a h => ?_⟩
  obtain ⟨i, rfl, rfl⟩ := h
  exact sx_ret (ev_andV (ev_isi (ev_var rfl) k_ii) fun _ => (ev_notV (ev_isi (ev_var rfl) k_ib))) rfl
theorem ok_is_integer {f : Addr} {fd : FuncData} (F : L2.Fun K "is_integer" "is_integer" (topS 14) f fd) (T : Txt K mg C) (c_is_whole : C8.Cal P w K mg base 1 "is_whole" (spD K C m_is_whole) []) :
    FnOk P w K mg base CX0 2 f fd ["value", "least", "greatest"] (spD K C m_is_integer) := by
  have sc : FnScope ["value", "least", "greatest"] ["value", "least", "greatest"] (defScope (topS 14)) := C8.fnScope_by (by decide +kernel)
  have nd := sc.nd
  refine okD F sc (fun as a h => by obtain ⟨i, lo, hi, rfl, rfl⟩ := h; rfl) fun cdv A outer s H E hr => ⟨_, (pss_one (ps_ret (pe_and (C8.pe_c c_is_whole hr (by decide) (by rfl) (pa_cons (pv 0) pa_nil)) (pe_one (pe_chain op_le op_le (pv 1) (pv 0) (pv 2)))))), fun as a h => ?_⟩
  obtain ⟨i, lo, hi, rfl, rfl⟩ := h
  exact sx_ret (ev_andV (ev_call (ea_cons (ev_var rfl) ea_nil) ⟨i, rfl, rfl⟩) fun _ => (ev_chain (ev_var rfl) (ev_var rfl) op_b0 (ev_var rfl) op_b0)) (by rw [Bool.true_and])
theorem ok_is_name {f : Addr} {fd : FuncData} (F : L2.Fun K "is_name" "is_name" (topS 15) f fd) (T : Txt K mg C)  :
    FnOk P w K mg base CX0 1 f fd ["value"] (spD K C m_is_name) := by
  have sc : FnScope ["value", "sign"] ["value"] (defScope (topS 15)) := C8.fnScope_by (by decide +kernel)
  have nd := sc.nd
  refine okD F sc (fun as a h => by obtain ⟨s, rfl, hs, rfl⟩ := h; rfl) fun cdv A outer s H E hr => ⟨_, (pss_one (ps_ret (pe_and (pe_callB call_isi (by rfl) T.b_isinstance (by decide +kernel) (pa_cons (pv 0) (pa_cons (pe_bltn (v := .ty "str") (u := .type "str") (by rfl) T.b_str (by decide +kernel) rfl) pa_nil))) (pe_and (pe_chain op_le op_le pe_int (pe_callB call_len_str (by rfl) T.b_len (by decide +kernel) (pa_cons (pv 0) pa_nil)) (C8.pe_gc (by rfl) T.gLONGEST_NAME)) (pe_one (pe_callB (cr_all rfl) (by rfl) T.b_all (by decide +kernel) (pa_cons (pe_lc (own := [("sign", 1)]) rfl nd (pi_str (pv 0)) (blkOk_by (N := ["value", "sign"]) (sc := defScope (topS 15)) (by decide +kernel)) (fun _ _ _ _ _ => (pg_name (i := 1) nd rfl (Or.inl rfl))) (fun _ _ _ _ _ => pts_nil) (fun _ _ _ _ _ => (pe_cmpR op_in_sign (pv 1) (C8.pe_gc (by rfl) T.gLETTERS) rfl))) pa_nil))))))), fun as a h => ?_⟩
  obtain ⟨s, rfl, hs, rfl⟩ := h
  have hn : 1 ≤ s.length ∧ s.length ≤ 8 ∧ (∀ c ∈ s.cps.toList, c ∈ ("abcdefghijklmnopqrstuvwxyz" : Str).cps.toList) := by
    have h : ∀ s ∈ names5, 1 ≤ s.length ∧ s.length ≤ 8 ∧ (∀ c ∈ s.cps.toList, c ∈ ("abcdefghijklmnopqrstuvwxyz" : Str).cps.toList) := by decide +kernel
    exact h s hs
  obtain ⟨h1, h2, h3⟩ := hn
  refine sx_ret (ev_is (ev_andV (ev_isi (ev_var rfl) k_ss) fun _ => (ev_andV (ev_chain ev_int (ev_cb (ea_cons (ev_var rfl) ea_nil) (cd_lenS (by omega))) op_b0 ev_int op_b0) fun _ =>
    (ev_cb (ea_cons (ev_l (xs := (s.cps.toList.map fun _ => true).map .bool) (ev_is (ev_lc s.cps.toList (fun c => PyData.str ⟨#[c]⟩) (fun _ => .bool true) (fun _ => true) (it_str (ev_var rfl)) (by rw [Array.length_toList]; show s.length ≤ 100000; omega)
      fun y hy => ⟨_, (ge_name (by decide)), et_yes, fun hp => (ev_is (ev_op (ev_var rfl) ev_str op_sign) (by rw [decide_eq_true (h3 y hy)]))⟩) (by rw [filter_tt, map_cst]))) ea_nil) cd_all))) ?_) rfl
  have e1 : ((s.cps.toList.map fun _ => true).all id) = true := by rw [List.all_map]; exact List.all_eq_true.mpr fun _ _ => rfl
  rw [e1, decide_eq_true (show (1 : Int) ≤ (s.length : Nat) by omega), decide_eq_true (show ((s.length : Nat) : Int) ≤ 8 by omega)]
  rfl
theorem ok_common {f : Addr} {fd : FuncData} (F : L2.Fun K "common" "common" (topS 16) f fd) (T : Txt K mg C)  :
    FnOk P w K mg base CX0 1 f fd ["one", "other"] (spD K C m_common) := by
  have sc : FnScope ["one", "other"] ["one", "other"] (defScope (topS 16)) := C8.fnScope_by (by decide +kernel)
  have nd := sc.nd
  refine okD F sc (fun as a h => by obtain ⟨x0, y0, rfl, rfl⟩ := h; rfl) fun cdv A outer s H E hr => ⟨_, (pss_cons (ps_while PassesOwn.never (pt_cmpR op_gt (pv 1) pe_int (nomark _)) (pss_one (ps_par (i := 0) (j := 1) rfl nd rfl rfl (by decide) rfl rfl (pa_cons (pv 1) (pa_cons (pe_op op_mod (pv 0) (pv 1)) pa_nil)) (by rfl))))
      (pss_one (ps_ret (pv 0)))), fun as a h => ?_⟩
  obtain ⟨x0, y0, rfl, rfl⟩ := h
  refine sx_seq1 (ρ1 := [.v (.d (.int (Nat.gcd x0 y0 : Nat))), .v (.d (.int 0))]) (sx_while (fun m ρi => ∃ x y : Nat, ρi = [.v (.d (.int x)), .v (.d (.int y))] ∧ Nat.gcd x y = Nat.gcd x0 y0 ∧ m = y) y0 ⟨x0, y0, rfl, rfl, rfl⟩ ?_) (sx_ret (ev_var rfl) rfl)
  rintro m _ ⟨x, y, rfl, hg, hm⟩
  have hm' : y = m := hm.symm
  subst hm'
  refine ⟨_, et_test (ev_op (ev_var rfl) ev_int op_b0), fun h => ?_, fun h => ?_⟩
  · have hy : 0 < y := by have := of_decide_eq_true h; omega
    refine sx_mono (sx_par (ea_cons (ev_var rfl) (ea_cons (ev_op (ev_var rfl) (ev_var rfl) (op_i (by show (0 : Int) < y; omega))) ea_nil))) ?_
    rintro _ rfl
    refine ⟨x % y, Nat.mod_lt _ hy, y, x % y, by rw [Int.natCast_emod]; rfl, ?_, rfl⟩
    rw [← hg, Nat.gcd_comm x y, Nat.gcd_rec y x, Nat.gcd_comm]
  · have hy : y = 0 := by have := of_decide_eq_false h; omega
    subst hy
    rw [← hg, Nat.gcd_zero_right]
    rfl
theorem ok_lowest {f : Addr} {fd : FuncData} (F : L2.Fun K "lowest" "lowest" (topS 17) f fd) (T : Txt K mg C) (c_common : C8.Cal P w K mg base 1 "common" (spD K C m_common) []) :
    FnOk P w K mg base CX0 2 f fd ["top", "bottom"] (spD K C m_lowest) := by
  have sc : FnScope ["top", "bottom", "shared"] ["top", "bottom"] (defScope (topS 17)) := C8.fnScope_by (by decide +kernel)
  have nd := sc.nd
  refine okD F sc (fun as a h => by obtain ⟨x, y, rfl, hy, hy2, rfl⟩ := h; rfl) fun cdv A outer s H E hr => ⟨_, (pss_cons (ps_set (i := 2) nd rfl (Or.inl rfl) (C8.pe_c c_common hr (by decide) (by rfl) (pa_cons (pe_callB call_abs (by rfl) T.b_abs (by decide +kernel) (pa_cons (pv 0) pa_nil)) (pa_cons (pv 1) pa_nil))))
      (pss_one (ps_ret (pe_tup (pa_cons (pe_op op_fdivN (pv 0) (pv 2)) (pa_cons (pe_op op_fdivN (pv 1) (pv 2)) pa_nil)))))), fun as a h => ?_⟩
  obtain ⟨x, y, rfl, hy, hy2, rfl⟩ := h
  have ha : (if (x : Int) < 0 then -(x : Int) else x) = (x : Int) := if_neg (by omega)
  have hg : 0 < Nat.gcd x y := Nat.gcd_pos_of_pos_right _ hy
  have hg2 : Nat.gcd x y ≤ y := Nat.gcd_le_right _ hy
  refine sx_seq1 (sx_set (ev_call (ea_cons (ev_cb (ea_cons (ev_var rfl) ea_nil) cd_abs) (ea_cons (ev_var rfl) ea_nil)) ⟨x, y, by rw [ha], rfl⟩)) ?_
  have hd : ∀ z : Nat, (z : Int).fdiv (Nat.gcd x y : Nat) = ((z / Nat.gcd x y : Nat) : Int) := fun z => by
    rw [Int.fdiv_eq_ediv_of_nonneg _ (by omega), Int.natCast_ediv]
  refine sx_ret (ev_is (ev_tup (ds := [_, _]) (ea_cons (ev_op (ev_var rfl) (ev_var rfl) (op_i ⟨by omega, by rw [Int.natAbs_natCast]; omega⟩)) (ea_cons (ev_op (ev_var rfl) (ev_var rfl) (op_i ⟨by omega, by rw [Int.natAbs_natCast]; omega⟩)) ea_nil)) (by simp)) ?_) rfl
  rw [hd, hd]
  rfl
theorem ok_is_length {f : Addr} {fd : FuncData} (F : L2.Fun K "is_length" "is_length" (topS 23) f fd) (T : Txt K mg C) (c_is_integer : C8.Cal P w K mg base 2 "is_integer" (spD K C m_is_integer) []) :
    FnOk P w K mg base CX0 3 f fd ["value"] (spD K C m_is_length) := by
  have sc : FnScope ["value", "end"] ["value"] (defScope (topS 23)) := C8.fnScope_by (by decide +kernel)
  have nd := sc.nd
  refine okD F sc (fun as a h => by obtain ⟨x, y, rfl, h0, h1, h2, rfl⟩ := h; rfl) fun cdv A outer s H E hr => ⟨_, (pss_cons (ps_if (PW.pt (pw_or (pt_not (pt_val (pe_callB call_isi (by rfl) T.b_isinstance (by decide +kernel) (pa_cons (pv 0) (pa_cons (pe_bltn (v := .ty "tuple") (u := .type "tuple") (by rfl) T.b_tuple (by decide +kernel) rfl) pa_nil))))) (pw_or (pt_cmpR op_ne (pe_callB call_len_seq (by rfl) T.b_len (by decide +kernel) (pa_cons (pv 0) pa_nil)) pe_int (nomark _)) (pw_or1 (pt_not (pt_val (pe_callB (cr_all rfl) (by rfl) T.b_all (by decide +kernel) (pa_cons (pe_lc (own := [("end", 1)]) rfl nd (pi_tup (pv 0)) (blkOk_by (N := ["value", "end"]) (sc := defScope (topS 23)) (by decide +kernel)) (fun _ _ _ _ _ => (pg_name (i := 1) nd rfl (Or.inl rfl))) (fun _ _ _ _ _ => pts_nil) (fun _ _ _ _ _ => (C8.pe_c c_is_integer hr (by decide) (by rfl) (pa_cons (pv 1) (pa_cons pe_int (pa_cons (C8.pe_gc (by rfl) T.gMOST_LENGTH) pa_nil)))))) pa_nil)))))))) (pss_one (ps_ret pe_bl)) pss_nil)
      (pss_one (ps_ret (pe_cmpR op_le (pe_ix ix_tup (pv 0) pe_int (fun _ _ => rfl)) (pe_ix ix_tup (pv 0) pe_int (fun _ _ => rfl)) (nomark _))))), fun as a h => ?_⟩
  obtain ⟨x, y, rfl, h0, h1, h2, rfl⟩ := h
  refine sx_seq1 (sx_ifF (et_is (et_or (et_not (et_B (ev_isi (ev_var rfl) k_tt))) fun _ => (et_or (et_test (ev_op (ev_cb (ea_cons (ev_var rfl) ea_nil) cd_lenT) ev_int (op_neF rfl rfl rfl))) fun _ => (et_not (et_B (ev_cb (ea_cons
    (ev_l (xs := ([x, y].map fun _ => true).map .bool) (ev_is (ev_lc [x, y] PyData.int (fun _ => .bool true) (fun _ => true) (it_tup (ev_var rfl)) (by simp) fun z hz => ⟨_, (ge_name (by decide)), et_yes, fun hp => (ev_call (ea_cons (ev_var rfl) (ea_cons ev_int (ea_cons ev_int ea_nil))) ⟨_, _, _, rfl, ?_⟩)⟩) (by rw [filter_tt, map_cst]))) ea_nil) cd_all))))) rfl) sx_next)
      (sx_ret (ev_is (ev_op (ev_op (ev_var rfl) ev_int (ix_T rfl)) (ev_op (ev_var rfl) ev_int (ix_T rfl)) op_b0) (by rw [decide_eq_true h1])) rfl)
  have hz2 : 0 ≤ z ∧ z ≤ 1000 := by
    rcases List.mem_cons.mp hz with e | e
    · omega
    · have := List.mem_singleton.mp e
      omega
  rw [decide_eq_true hz2.1, decide_eq_true hz2.2]
  rfl
theorem ok_is_part {f : Addr} {fd : FuncData} (F : L2.Fun K "is_part" "is_part" (topS 27) f fd) (T : Txt K mg C) (c_is_length : C8.Cal P w K mg base 3 "is_length" (spD K C m_is_length) []) (c_is_name : C8.Cal P w K mg base 1 "is_name" (spD K C m_is_name) []) :
    FnOk P w K mg base CX0 4 f fd ["value"] (spD K C m_is_part) := by
  have sc : FnScope ["value"] ["value"] (defScope (topS 27)) := C8.fnScope_by (by decide +kernel)
  have nd := sc.nd
  refine okD F sc (fun as a h => by obtain ⟨p, rfl, ⟨h1, h2, h3, h4⟩, rfl⟩ := h; rfl) fun cdv A outer s H E hr => ⟨_, (pss_one (ps_ret (pe_and (pe_callB call_isi (by rfl) T.b_isinstance (by decide +kernel) (pa_cons (pv 0) (pa_cons (pe_bltn (v := .ty "tuple") (u := .type "tuple") (by rfl) T.b_tuple (by decide +kernel) rfl) pa_nil))) (pe_and (pe_cmpR op_eq (pe_callB call_len_seq (by rfl) T.b_len (by decide +kernel) (pa_cons (pv 0) pa_nil)) pe_int (nomark _)) (pe_and (C8.pe_c c_is_name hr (by decide) (by rfl) (pa_cons (pe_ix ix_tup (pv 0) pe_int (fun _ _ => rfl)) pa_nil)) (pe_one (C8.pe_c c_is_length hr (by decide) (by rfl) (pa_cons (pe_ix ix_tup (pv 0) pe_int (fun _ _ => rfl)) pa_nil)))))))), fun as a h => ?_⟩
  obtain ⟨p, rfl, ⟨h1, h2, h3, h4⟩, rfl⟩ := h
  exact sx_ret (ev_andV (ev_isi (ev_var rfl) k_tt) fun _ => (ev_andV (ev_op (ev_cb (ea_cons (ev_var rfl) ea_nil) cd_lenT) ev_int (op_eqF rfl rfl rfl)) fun _ => (ev_andV (ev_call (ea_cons (ev_op (ev_var rfl) ev_int (ix_T rfl)) ea_nil) ⟨_, rfl, h1, rfl⟩) fun _ =>
    (ev_call (ea_cons (ev_op (ev_var rfl) ev_int (ix_T rfl)) ea_nil) ⟨_, _, rfl, h2, h3, h4, rfl⟩)))) rfl
theorem ok_check_parts {f : Addr} {fd : FuncData} (F : L2.Fun K "check_parts" "check_parts" (topS 28) f fd) (T : Txt K mg C) (c_is_part : C8.Cal P w K mg base 4 "is_part" (spD K C m_is_part) []) :
    FnOk P w K mg base CX0 5 f fd ["parts"] (spD K C m_check_parts) := by
  have sc : FnScope ["parts", "index", "value"] ["parts"] (defScope (topS 28)) := C8.fnScope_by (by decide +kernel)
  have nd := sc.nd
  refine okD F sc (fun as a h => by obtain ⟨p, rfl, hp, rfl⟩ := h; rfl) fun cdv A outer s H E hr => ⟨_, (pss_cons (ps_if (PW.pt (pw_or (pt_not (pt_val (pe_callB call_isi (by rfl) T.b_isinstance (by decide +kernel) (pa_cons (pv 0) (pa_cons (pe_bltn (v := .ty "tuple") (u := .type "tuple") (by rfl) T.b_tuple (by decide +kernel) rfl) pa_nil))))) (pw_or1 (pt_cmpR op_lt (pe_callB call_len_seq (by rfl) T.b_len (by decide +kernel) (pa_cons (pv 0) pa_nil)) pe_int (nomark _))))) (pss_one ps_never) pss_nil)
      (pss_one (ps_for PassesOwn.never rfl (En.pi_enumT (by rfl) T.b_enumerate (pa_cons (pv 0) pa_nil)) (pg_tup rfl (pgs_cons (pg_name (i := 1) nd rfl (Or.inl rfl)) (pgs_cons (pg_name (i := 2) nd rfl (Or.inl rfl)) pgs_nil))) (pss_one (ps_if (PW.pt (pw_or (pt_cmpR op_eq (pv 1) (C8.pe_gc (by rfl) T.gMOST_NAMES) (nomark _)) (pw_or (pt_not (pt_val (C8.pe_c c_is_part hr (by decide) (by rfl) (pa_cons (pv 2) pa_nil)))) (pw_or1 (PW.pt (pw_and (pt_cmpR op_gt (pv 1) pe_int (nomark _)) (pw_and1 (pt_cmpR op_le_str (pe_ix ix_tup (pv 2) pe_int (fun _ _ => rfl)) (pe_ix ix_tup (pe_ix ix_tup (pv 0) (pe_op op_sub (pv 1) pe_int) (fun _ _ => rfl)) pe_int (fun _ _ => rfl)) (nomark _))))))))) (pss_one ps_never) pss_nil))))), fun as a h => ?_⟩
  obtain ⟨p, rfl, hp, rfl⟩ := h
  have hlen : (p.map dPart).length = p.length := List.length_map _
  have l2 := hp.len2
  have l4 := hp.len4
  refine sx_seq1 (sx_ifF (et_is (et_or (et_not (et_B (ev_isi (ev_var rfl) k_tt))) fun _ => (et_test (ev_op (ev_cb (ea_cons (ev_var rfl) ea_nil) cd_lenT) ev_int op_b0))) ?_) sx_next) ?_
  · rw [decide_eq_false (by rw [hlen]; omega)]
    rfl
  refine sx_for (vs := List.range 40) (enu (p.map dPart)) (it_enumT (ea_cons (ev_var rfl) ea_nil)) (fun i ρi => ∃ e1 e2, ρi = [.v (.d (dPoll p)), e1, e2] ∧ owns ρi = []) ⟨.any, .any, rfl, rfl⟩ (fun i x ρi hx hI => ?_) (fun ρ' _ => rfl)
  obtain ⟨e1, e2, rfl, ho⟩ := hI
  obtain ⟨y, hy, rfl⟩ := enu_get hx
  rw [List.getElem?_map] at hy
  have hi : i < p.length := by
    refine Nat.lt_of_not_le fun h => ?_
    rw [List.getElem?_eq_none h] at hy
    cases hy
  rw [List.getElem?_eq_getElem hi] at hy
  have hy := (Option.some.inj hy).symm
  subst hy
  have hq := hp.part p[i] (List.getElem_mem hi)
  refine ⟨[.v (.d (dPoll p)), .v (.d (.int (i : Nat))), .v (.d (dPart p[i]))], ge_tup rfl (ges_cons (ge_name (by decide)) (ges_cons (ge_name (by decide)) ges_nil)), fun _ h => by simp [owns] at h, ?_⟩
  refine sx_ifF (et_is (et_or (et_test (ev_op (ev_var rfl) ev_int (op_eqF rfl rfl rfl))) fun _ => (et_or (et_not (et_B (ev_call (ea_cons (ev_var rfl) ea_nil) ⟨_, rfl, hq, rfl⟩))) fun _ => (et_and (et_test (ev_op (ev_var rfl) ev_int op_b0)) fun h => (et_test (ev_op (ev_op (ev_var rfl) ev_int (ix_T rfl)) (ev_op (ev_op (ev_var rfl) (ev_op (ev_var rfl) ev_int op_i0) (ix_T (x := dPart p[i - 1]) ?_)) ev_int (ix_T rfl)) op_leS))))) ?_) (sx_mono sx_next ?_)
  · have h' : 0 < i := by have := of_decide_eq_true h; omega
    have e : ((i : Int) - 1) = ((i - 1 : Nat) : Int) := by omega
    rw [e]
    exact atI_nat (by rw [List.getElem?_map, List.getElem?_eq_getElem (by omega)]; rfl)
  · have n1 : ¬ (V.int (i : Int) = V.int 5) := fun z => by injection z with z; omega
    rw [decide_eq_false n1]
    by_cases h' : 0 < i
    · have hlt := List.pairwise_iff_getElem.mp hp.asc (i - 1) i (by omega) hi (by omega)
      rw [decide_eq_true hlt]
      simp
    · rw [decide_eq_false (show ¬ (0 : Int) < i by omega)]
      rfl
  · rintro _ rfl
    exact ⟨_, _, rfl, rfl⟩
end
end Dt
end
section
set_option Elab.async false
set_option linter.all false
set_option maxRecDepth 100000
set_option maxHeartbeats 4000000
namespace Dt
open PySem PySem.Spec PyProof.Rows L2
def m_Cparts (as : List A) (a : A) : Prop := ∃ x : D, as = [.c x] ∧ a = .d x
def m_Cnames (as : List A) (a : A) : Prop := ∃ p : Poll, as = [.c (dPoll p)] ∧ OkPoll p ∧ a = .t (p.map (·.1))
def m_Clen (as : List A) (a : A) : Prop := ∃ p : Poll, as = [.c (dPoll p)] ∧ a = .d (.int p.length)
def m_check_counts (as : List A) (a : A) : Prop := ∃ p : Poll, as = [.c (dPoll p)] ∧ a = .d .none
def m_check_word (as : List A) (a : A) : Prop := ∃ b : Bool, as = [.d (.str (wd b))] ∧ a = .d .none
def m_check_seats (as : List A) (a : A) : Prop := ∃ i : Int, as = [.d (.int i)] ∧ 1 ≤ i ∧ i ≤ 12 ∧ a = .d .none
def m_is_seating (as : List A) (a : A) : Prop := ∃ (p : Poll) (s : List Nat), as = [.c (dPoll p), .d (dN s)] ∧ OkPoll p ∧ OkS p s ∧ a = .d (.bool true)
def m_check_seating (as : List A) (a : A) : Prop := ∃ (p : Poll) (b : Bool) (s : List Nat), as = [.c (dPoll p), .d (.str (wd b)), .d (dN s)] ∧ OkPoll p ∧ OkS p s ∧ a = .d .none
def m_divisor (as : List A) (a : A) : Prop := ∃ (b : Bool) (k : Nat), as = [.d (.str (wd b)), .d (.int k)] ∧ a = .d (.int (Ap.dv b k))
def m_is_less (as : List A) (a : A) : Prop := ∃ x y z u : Int, as = [.d (tI [x, y]), .d (tI [z, u])] ∧ Sm x ∧ Sm z ∧ a = .d (.bool (decide (x * u < z * y)))
def m_next_worth (as : List A) (a : A) : Prop := ∃ (b : Bool) (c : Int) (k : Nat), as = [.d (.str (wd b)), .d (.int c), .d (.int k)] ∧ a = .d (tI [c, Ap.dv b (k + 1)])
def m_last_worth (as : List A) (a : A) : Prop := ∃ (b : Bool) (c : Int) (k : Nat), as = [.d (.str (wd b)), .d (.int c), .d (.int k)] ∧ a = .d (tI [c, Ap.dv b k])
/-- a def of the poll, the kind and a seating -/
def m3 (F : Poll → Bool → List Nat → D) (as : List A) (a : A) : Prop := ∃ (p : Poll) (b : Bool) (s : List Nat), as = [.c (dPoll p), .d (.str (wd b)), .d (dN s)] ∧ OkPoll p ∧ OkS p s ∧ a = .d (F p b s)
def m_greatest_next := m3 fun p b s => .int (gnF p b s p.length : Nat)
def m_least_last := m3 fun p b s => .int (llF p b s : Nat)
def m_worths_of := m3 fun p b s => .tuple [tI [lo p (gnF p b s p.length), Ap.dv b (st s (gnF p b s p.length) + 1)], tI [hi p (llF p b s), Ap.dv b (st s (llF p b s))]]
def m_comes := m3 fun p b s => .bool (comesB p b s)
def m_is_sure := m3 fun p b s => .bool (sureB p b s)
section
variable {P : Program} {w : World} {K : PySem.W.Frag} {mg : Str → Option Value} {base : Heap} {C W : Addr}
theorem ok_Cparts {f : Addr} {fd : FuncData} (F : L2.Fun K "parts" "Counts.parts" (inClass (topS 31) 2) f fd) (T : Txt K mg C)  :
    FnOk P w K mg base CX0 1 f fd ["self"] (spD K C m_Cparts) := by
  have sc : FnScope ["self"] ["self"] (defScope (inClass (topS 31) 2)) := C8.fnScope_by (by decide +kernel)
  have nd := sc.nd
  refine okD F sc (fun as a h => by obtain ⟨x, rfl, rfl⟩ := h; rfl) fun cdv A outer s H E hr => ⟨_, (pss_one (ps_ret (pe_fld (pv 0) rfl))), fun as a h => ?_⟩
  obtain ⟨x, rfl, rfl⟩ := h
  exact sx_ret (ev_held T.cl T.na (ev_var rfl)) rfl
theorem ok_Cnames {f : Addr} {fd : FuncData} (F : L2.Fun K "names" "Counts.names" (inClass (topS 31) 3) f fd) (T : Txt K mg C)  :
    FnOk P w K mg base CX0 1 f fd ["self"] (spD K C m_Cnames) := by
  have sc : FnScope ["self", "name", "stretch"] ["self"] (defScope (inClass (topS 31) 3)) := C8.fnScope_by (by decide +kernel)
  have nd := sc.nd
  refine okD F sc (fun as a h => by obtain ⟨p, rfl, hp, rfl⟩ := h; rfl) fun cdv A outer s H E hr => ⟨_, (pss_one (ps_ret (pe_callTy Ru.call_tupleF (by rfl) T.b_tuple (by decide +kernel) (pa_cons (pe_lc (own := [("name", 1), ("stretch", 2)]) rfl nd (pi_tup (pe_fld (pv 0) rfl)) (blkOk_by (N := ["self", "name", "stretch"]) (sc := defScope (inClass (topS 31) 3)) (by decide +kernel)) (pg_tupB fun _ _ _ _ _ => (pgs_cons (pg_name (i := 1) nd rfl (Or.inl rfl)) (pgs_cons (pg_name (i := 2) nd rfl (Or.inl rfl)) pgs_nil))) (fun _ _ _ _ _ => pts_nil) (fun _ _ _ _ _ => (pv 1))) pa_nil)))), fun as a h => ?_⟩
  obtain ⟨p, rfl, hp, rfl⟩ := h
  refine sx_ret (ev_cb (ea_cons (ev_l (xs := (p.map (·.1)).map .str) (ev_is (ev_lc p dPart (fun q => .str q.1) (fun _ => true) (it_tup (ev_held T.cl T.na (ev_var rfl))) (by have := hp.len4; omega)
    fun y hy => ⟨_, (ge_tup rfl (ges_cons (ge_name (by decide)) (ges_cons (ge_name (by decide)) ges_nil))), et_yes, fun hp => (ev_var rfl)⟩) (by rw [filter_tt, List.map_map]; rfl))) ea_nil) cd_tupleF) rfl
theorem ok_Clen {f : Addr} {fd : FuncData} (F : L2.Fun K "__len__" "Counts.__len__" (inClass (topS 31) 5) f fd) (T : Txt K mg C)  :
    FnOk P w K mg base CX0 1 f fd ["self"] (spD K C m_Clen) := by
  have sc : FnScope ["self"] ["self"] (defScope (inClass (topS 31) 5)) := C8.fnScope_by (by decide +kernel)
  have nd := sc.nd
  refine okD F sc (fun as a h => by obtain ⟨p, rfl, rfl⟩ := h; rfl) fun cdv A outer s H E hr => ⟨_, (pss_one (ps_ret (pe_callB call_len_seq (by rfl) T.b_len (by decide +kernel) (pa_cons (pe_fld (pv 0) rfl) pa_nil)))), fun as a h => ?_⟩
  obtain ⟨p, rfl, rfl⟩ := h
  exact sx_ret (ev_is (ev_cb (ea_cons (ev_held T.cl T.na (ev_var rfl)) ea_nil) cd_lenT) (by rw [List.length_map])) rfl
theorem ok_check_counts {f : Addr} {fd : FuncData} (F : L2.Fun K "check_counts" "check_counts" (topS 32) f fd) (T : Txt K mg C)  :
    FnOk P w K mg base CX0 1 f fd ["value"] (spD K C m_check_counts) := by
  have sc : FnScope ["value"] ["value"] (defScope (topS 32)) := C8.fnScope_by (by decide +kernel)
  have nd := sc.nd
  refine okD F sc (fun as a h => by obtain ⟨p, rfl, rfl⟩ := h; rfl) fun cdv A outer s H E hr => ⟨_, (pss_one (ps_if (pt_not (pt_val (pe_callB (C8.call_isC T.isC) (by rfl) T.b_isinstance (by decide +kernel) (pa_cons (pv 0) (pa_cons (C8.pe_gc (by rfl) T.gCounts) pa_nil))))) (pss_one ps_never) pss_nil)), fun as a h => ?_⟩
  obtain ⟨p, rfl, rfl⟩ := h
  exact sx_mono (sx_ifF (et_is (et_not (et_B (ev_isC (ev_var rfl)))) rfl) sx_next) fun _ _ => rfl
theorem ok_check_word {f : Addr} {fd : FuncData} (F : L2.Fun K "check_word" "check_word" (topS 33) f fd) (T : Txt K mg C)  {W : Addr} (TW : TxtW K mg W) :
    FnOk P w K mg base CX0 1 f fd ["value"] (spD K C m_check_word) := by
  have sc : FnScope ["value"] ["value"] (defScope (topS 33)) := C8.fnScope_by (by decide +kernel)
  have nd := sc.nd
  refine okD F sc (fun as a h => by obtain ⟨b, rfl, rfl⟩ := h; rfl) fun cdv A outer s H E hr => ⟨_, (pss_one (ps_if (PW.pt (pw_or (pt_not (pt_val (pe_callB call_isi (by rfl) T.b_isinstance (by decide +kernel) (pa_cons (pv 0) (pa_cons (pe_bltn (v := .ty "str") (u := .type "str") (by rfl) T.b_str (by decide +kernel) rfl) pa_nil))))) (pw_or1 (pt_cmpR op_notIn_seq (pv 0) (C8.pe_gc (by rfl) TW.g) (by rfl))))) (pss_one ps_never) pss_nil)), fun as a h => ?_⟩
  obtain ⟨b, rfl, rfl⟩ := h
  refine sx_mono (sx_ifF (et_is (et_or (et_not (et_B (ev_isi (ev_var rfl) k_ss))) fun _ => (et_test (ev_op (ev_var rfl) (ev_words TW.t) op_inS))) ?_) sx_next) fun _ _ => rfl
  cases b <;> rfl
theorem ok_check_seats {f : Addr} {fd : FuncData} (F : L2.Fun K "check_seats" "check_seats" (topS 34) f fd) (T : Txt K mg C) (c_is_integer : C8.Cal P w K mg base 2 "is_integer" (spD K C m_is_integer) []) :
    FnOk P w K mg base CX0 3 f fd ["value"] (spD K C m_check_seats) := by
  have sc : FnScope ["value"] ["value"] (defScope (topS 34)) := C8.fnScope_by (by decide +kernel)
  have nd := sc.nd
  refine okD F sc (fun as a h => by obtain ⟨i, rfl, h1, h2, rfl⟩ := h; rfl) fun cdv A outer s H E hr => ⟨_, (pss_one (ps_if (pt_not (pt_val (C8.pe_c c_is_integer hr (by decide) (by rfl) (pa_cons (pv 0) (pa_cons pe_int (pa_cons (C8.pe_gc (by rfl) T.gMOST_SEATS) pa_nil)))))) (pss_one ps_never) pss_nil)), fun as a h => ?_⟩
  obtain ⟨i, rfl, h1, h2, rfl⟩ := h
  refine sx_mono (sx_ifF (et_is (et_not (et_B (ev_call (ea_cons (ev_var rfl) (ea_cons ev_int (ea_cons ev_int ea_nil))) ⟨_, _, _, rfl, rfl⟩))) ?_) sx_next) fun _ _ => rfl
  rw [decide_eq_true h1, decide_eq_true h2]
  rfl
theorem ok_is_seating {f : Addr} {fd : FuncData} (F : L2.Fun K "is_seating" "is_seating" (topS 35) f fd) (T : Txt K mg C) (c_C__len__ : LCal P w K mg base 1 C (spD K C m_Clen)) (c_is_integer : C8.Cal P w K mg base 2 "is_integer" (spD K C m_is_integer) []) :
    FnOk P w K mg base CX0 3 f fd ["counts", "value"] (spD K C m_is_seating) := by
  have sc : FnScope ["counts", "value", "number"] ["counts", "value"] (defScope (topS 35)) := C8.fnScope_by (by decide +kernel)
  have nd := sc.nd
  refine okD F sc (fun as a h => by obtain ⟨p, s, rfl, hp, hs, rfl⟩ := h; rfl) fun cdv A outer s H E hr => ⟨_, (pss_cons (ps_if (PW.pt (pw_or (pt_not (pt_val (pe_callB call_isi (by rfl) T.b_isinstance (by decide +kernel) (pa_cons (pv 1) (pa_cons (pe_bltn (v := .ty "tuple") (u := .type "tuple") (by rfl) T.b_tuple (by decide +kernel) rfl) pa_nil))))) (pw_or1 (pt_cmpR op_ne (pe_callB call_len_seq (by rfl) T.b_len (by decide +kernel) (pa_cons (pv 1) pa_nil)) (pe_callB (c_C__len__.rule hr (by decide)) (by rfl) T.b_len (by decide +kernel) (pa_cons (pv 0) pa_nil)) (nomark _))))) (pss_one (ps_ret pe_bl)) pss_nil)
      (pss_one (ps_ret (pe_and (pe_callB (cr_all rfl) (by rfl) T.b_all (by decide +kernel) (pa_cons (pe_lc (own := [("number", 2)]) rfl nd (pi_tup (pv 1)) (blkOk_by (N := ["counts", "value", "number"]) (sc := defScope (topS 35)) (by decide +kernel)) (fun _ _ _ _ _ => (pg_name (i := 2) nd rfl (Or.inl rfl))) (fun _ _ _ _ _ => pts_nil) (fun _ _ _ _ _ => (C8.pe_c c_is_integer hr (by decide) (by rfl) (pa_cons (pv 2) (pa_cons pe_int (pa_cons (C8.pe_gc (by rfl) T.gMOST_SEATS) pa_nil)))))) pa_nil)) (pe_one (pe_chain op_le op_le pe_int (pe_callB (Ru.cr_sumT rfl) (by rfl) T.b_sum (by decide +kernel) (pa_cons (pv 1) pa_nil)) (C8.pe_gc (by rfl) T.gMOST_SEATS))))))), fun as a h => ?_⟩
  obtain ⟨p, s, rfl, hp, hs, rfl⟩ := h
  have l4 := hp.len4
  refine sx_seq1 (sx_ifF (et_is (et_or (et_not (et_B (ev_isi (ev_var rfl) k_tt))) fun _ => (et_test (ev_op (ev_cb (ea_cons (ev_var rfl) ea_nil) cd_lenT) (ev_cb (ea_cons (ev_var rfl) ea_nil) (cd_lenO (n := (p.length : Nat)) ⟨p, rfl, rfl⟩ (by omega) (by omega))) (op_neF rfl rfl rfl)))) ?_) sx_next)
      (sx_ret (ev_is (ev_andV (ev_cb (ea_cons (ev_l (xs := ((ci s).map fun _ => true).map .bool) (ev_is (ev_lc (ci s) PyData.int (fun _ => .bool true) (fun _ => true) (it_tup (ev_var rfl)) (by unfold ci; rw [List.length_map, hs.len]; omega)
        fun y hy => ⟨_, (ge_name (by decide)), et_yes, fun hp => (ev_call (ea_cons (ev_var rfl) (ea_cons ev_int (ea_cons ev_int ea_nil))) ⟨_, _, _, rfl, ?_⟩)⟩) (by rw [filter_tt, map_cst]))) ea_nil) cd_all) fun _ => (ev_chain ev_int (ev_cb (ea_cons (ev_var rfl) ea_nil) cd_sumT) op_b0 ev_int op_b0)) ?_) rfl)
  · have e : ((ci s).map PyData.int).length = p.length := by unfold ci; rw [List.length_map, List.length_map, hs.len]
    rw [e]
    simp
  · obtain ⟨n, hn, rfl⟩ := List.mem_map.mp hy
    have := mem_le_sum hn
    have := hs.le
    rw [decide_eq_true (show (0 : Int) ≤ (n : Int) by omega), decide_eq_true (show (n : Int) ≤ 12 by omega)]
    rfl
  · have e1 : (((ci s).map fun _ => true).all id) = true := by rw [List.all_map]; exact List.all_eq_true.mpr fun _ _ => rfl
    have := hs.le
    have := hs.pos
    rw [e1, ci_sum, decide_eq_true (show (1 : Int) ≤ (s.sum : Nat) by omega), decide_eq_true (show ((s.sum : Nat) : Int) ≤ 12 by omega)]
    rfl
theorem ok_check_seating {f : Addr} {fd : FuncData} (F : L2.Fun K "check_seating" "check_seating" (topS 36) f fd) (T : Txt K mg C) (c_check_counts : C8.Cal P w K mg base 1 "check_counts" (spD K C m_check_counts) []) (c_check_word : C8.Cal P w K mg base 1 "check_word" (spD K C m_check_word) []) (c_is_seating : C8.Cal P w K mg base 3 "is_seating" (spD K C m_is_seating) []) :
    FnOk P w K mg base CX0 4 f fd ["counts", "word", "seating"] (spD K C m_check_seating) := by
  have sc : FnScope ["counts", "word", "seating"] ["counts", "word", "seating"] (defScope (topS 36)) := C8.fnScope_by (by decide +kernel)
  have nd := sc.nd
  refine okD F sc (fun as a h => by obtain ⟨p, b, s, rfl, hp, hs, rfl⟩ := h; rfl) fun cdv A outer s H E hr => ⟨_, (pss_cons (ps_expr (C8.pe_c c_check_counts hr (by decide) (by rfl) (pa_cons (pv 0) pa_nil)))
      (pss_cons (ps_expr (C8.pe_c c_check_word hr (by decide) (by rfl) (pa_cons (pv 1) pa_nil)))
      (pss_one (ps_if (pt_not (pt_val (C8.pe_c c_is_seating hr (by decide) (by rfl) (pa_cons (pv 0) (pa_cons (pv 2) pa_nil))))) (pss_one ps_never) pss_nil)))), fun as a h => ?_⟩
  obtain ⟨p, b, s, rfl, hp, hs, rfl⟩ := h
  exact sx_seq1 (sx_drop (ev_call (ea_cons (ev_var rfl) ea_nil) ⟨p, rfl, rfl⟩))
      (sx_seq1 (sx_drop (ev_call (ea_cons (ev_var rfl) ea_nil) ⟨b, rfl, rfl⟩))
      (sx_mono (sx_ifF (et_is (et_not (et_B (ev_call (ea_cons (ev_var rfl) (ea_cons (ev_var rfl) ea_nil)) ⟨p, s, rfl, hp, hs, rfl⟩))) rfl) sx_next) fun _ _ => rfl))
theorem ok_divisor {f : Addr} {fd : FuncData} (F : L2.Fun K "divisor" "divisor" (topS 37) f fd) (T : Txt K mg C)  :
    FnOk P w K mg base CX0 1 f fd ["word", "place"] (spD K C m_divisor) := by
  have sc : FnScope ["word", "place"] ["word", "place"] (defScope (topS 37)) := C8.fnScope_by (by decide +kernel)
  have nd := sc.nd
  refine okD F sc (fun as a h => by obtain ⟨b, k, rfl, rfl⟩ := h; rfl) fun cdv A outer s H E hr => ⟨_, (pss_one (ps_ret (pe_ifExp (pt_cmpR op_eq (pv 0) pe_str (nomark _)) (pv 1) (pe_op op_sub (pe_op op_mul pe_int (pv 1)) pe_int)))), fun as a h => ?_⟩
  obtain ⟨b, k, rfl, rfl⟩ := h
  cases b with
  | true => exact sx_ret (ev_ifE (et_is (et_test (ev_op (ev_var rfl) ev_str (op_eqF rfl rfl rfl))) (by decide)) (ev_var rfl)) rfl
  | false => exact sx_ret (ev_elE (et_is (et_test (ev_op (ev_var rfl) ev_str (op_eqF rfl rfl rfl))) (by decide)) (ev_op (ev_op ev_int (ev_var rfl) (op_i (.inl (by decide)))) ev_int op_i0)) rfl
theorem ok_is_less {f : Addr} {fd : FuncData} (F : L2.Fun K "is_less" "is_less" (topS 38) f fd) (T : Txt K mg C)  :
    FnOk P w K mg base CX0 1 f fd ["one", "two"] (spD K C m_is_less) := by
  have sc : FnScope ["one", "two"] ["one", "two"] (defScope (topS 38)) := C8.fnScope_by (by decide +kernel)
  have nd := sc.nd
  refine okD F sc (fun as a h => by obtain ⟨x, y, z, u, rfl, h1, h2, rfl⟩ := h; rfl) fun cdv A outer s H E hr => ⟨_, (pss_one (ps_ret (pe_cmpR op_lt (pe_op op_mul (pe_ix ix_tup (pv 0) pe_int (fun _ _ => rfl)) (pe_ix ix_tup (pv 1) pe_int (fun _ _ => rfl))) (pe_op op_mul (pe_ix ix_tup (pv 1) pe_int (fun _ _ => rfl)) (pe_ix ix_tup (pv 0) pe_int (fun _ _ => rfl))) (nomark _)))), fun as a h => ?_⟩
  obtain ⟨x, y, z, u, rfl, h1, h2, rfl⟩ := h
  exact sx_ret (ev_op (ev_op (ev_op (ev_var rfl) ev_int (ix_T rfl)) (ev_op (ev_var rfl) ev_int (ix_T rfl)) (op_i (.inl h1))) (ev_op (ev_op (ev_var rfl) ev_int (ix_T rfl)) (ev_op (ev_var rfl) ev_int (ix_T rfl)) (op_i (.inl h2))) op_b0) rfl
theorem ok_next_worth {f : Addr} {fd : FuncData} (F : L2.Fun K "next_worth" "next_worth" (topS 39) f fd) (T : Txt K mg C) (c_divisor : C8.Cal P w K mg base 1 "divisor" (spD K C m_divisor) []) :
    FnOk P w K mg base CX0 2 f fd ["word", "count", "many"] (spD K C m_next_worth) := by
  have sc : FnScope ["word", "count", "many"] ["word", "count", "many"] (defScope (topS 39)) := C8.fnScope_by (by decide +kernel)
  have nd := sc.nd
  refine okD F sc (fun as a h => by obtain ⟨b, c, k, rfl, rfl⟩ := h; rfl) fun cdv A outer s H E hr => ⟨_, (pss_one (ps_ret (pe_tup (pa_cons (pv 1) (pa_cons (C8.pe_c c_divisor hr (by decide) (by rfl) (pa_cons (pv 0) (pa_cons (pe_op op_add (pv 2) pe_int) pa_nil))) pa_nil))))), fun as a h => ?_⟩
  obtain ⟨b, c, k, rfl, rfl⟩ := h
  exact sx_ret (ev_tup (ds := [_, _]) (ea_cons (ev_var rfl) (ea_cons (ev_call (ea_cons (ev_var rfl) (ea_cons (ev_op (ev_var rfl) ev_int op_i0) ea_nil)) ⟨b, k + 1, rfl, rfl⟩) ea_nil)) (by simp)) rfl
theorem ok_last_worth {f : Addr} {fd : FuncData} (F : L2.Fun K "last_worth" "last_worth" (topS 40) f fd) (T : Txt K mg C) (c_divisor : C8.Cal P w K mg base 1 "divisor" (spD K C m_divisor) []) :
    FnOk P w K mg base CX0 2 f fd ["word", "count", "many"] (spD K C m_last_worth) := by
  have sc : FnScope ["word", "count", "many"] ["word", "count", "many"] (defScope (topS 40)) := C8.fnScope_by (by decide +kernel)
  have nd := sc.nd
  refine okD F sc (fun as a h => by obtain ⟨b, c, k, rfl, rfl⟩ := h; rfl) fun cdv A outer s H E hr => ⟨_, (pss_one (ps_ret (pe_tup (pa_cons (pv 1) (pa_cons (C8.pe_c c_divisor hr (by decide) (by rfl) (pa_cons (pv 0) (pa_cons (pv 2) pa_nil))) pa_nil))))), fun as a h => ?_⟩
  obtain ⟨b, c, k, rfl, rfl⟩ := h
  exact sx_ret (ev_tup (ds := [_, _]) (ea_cons (ev_var rfl) (ea_cons (ev_call (ea_cons (ev_var rfl) (ea_cons (ev_var rfl) ea_nil)) ⟨b, k, rfl, rfl⟩) ea_nil)) (by simp)) rfl
theorem ok_greatest_next {f : Addr} {fd : FuncData} (F : L2.Fun K "greatest_next" "greatest_next" (topS 41) f fd) (T : Txt K mg C) (c_Cparts : PCal P w K mg base 1 C "parts" (spD K C m_Cparts)) (c_next_worth : C8.Cal P w K mg base 2 "next_worth" (spD K C m_next_worth) []) (c_is_less : C8.Cal P w K mg base 1 "is_less" (spD K C m_is_less) []) :
    FnOk P w K mg base CX0 3 f fd ["counts", "word", "seating"] (spD K C m_greatest_next) := by
  have sc : FnScope ["counts", "word", "seating", "found", "at", "name", "low", "high", "here"] ["counts", "word", "seating"] (defScope (topS 41)) := C8.fnScope_by (by decide +kernel)
  have nd := sc.nd
  refine okD F sc (fun as a h => by obtain ⟨p, b, s, rfl, hp, hs, rfl⟩ := h; rfl) fun cdv A outer s H E hr => ⟨_, (pss_cons (ps_set (i := 3) nd rfl (Or.inl rfl) pe_int)
      (pss_cons (ps_for PassesOwn.never rfl (En.pi_enumT (by rfl) T.b_enumerate (pa_cons (pe_pc c_Cparts hr (by decide) (pv 0) rfl) pa_nil)) (pg_tup rfl (pgs_cons (pg_name (i := 4) nd rfl (Or.inl rfl)) (pgs_cons (pg_tup rfl (pgs_cons (pg_name (i := 5) nd rfl (Or.inl rfl)) (pgs_cons (pg_tup rfl (pgs_cons (pg_name (i := 6) nd rfl (Or.inl rfl)) (pgs_cons (pg_name (i := 7) nd rfl (Or.inl rfl)) pgs_nil))) pgs_nil))) pgs_nil))) (pss_cons (ps_set (i := 8) nd rfl (Or.inl rfl) (C8.pe_c c_next_worth hr (by decide) (by rfl) (pa_cons (pv 1) (pa_cons (pe_ix ix_tup (pe_ix ix_tup (pe_ix ix_tup (pe_pc c_Cparts hr (by decide) (pv 0) rfl) (pv 3) (fun _ _ => rfl)) pe_int (fun _ _ => rfl)) pe_int (fun _ _ => rfl)) (pa_cons (pe_ix ix_tup (pv 2) (pv 3) (fun _ _ => rfl)) pa_nil)))))
      (pss_one (ps_if (pt_val (C8.pe_c c_is_less hr (by decide) (by rfl) (pa_cons (pv 8) (pa_cons (C8.pe_c c_next_worth hr (by decide) (by rfl) (pa_cons (pv 1) (pa_cons (pv 6) (pa_cons (pe_ix ix_tup (pv 2) (pv 4) (fun _ _ => rfl)) pa_nil)))) pa_nil)))) (pss_one (ps_set (i := 3) nd rfl (Or.inl rfl) (pv 4))) pss_nil))))
      (pss_one (ps_ret (pv 3))))), fun as a h => ?_⟩
  obtain ⟨p, b, s, rfl, hp, hs, rfl⟩ := h
  have l2 := hp.len2
  have ls := hs.len
  refine sx_seq1 (sx_set ev_int) (sx_seq1 (sx_forF (vs := List.range 40) _ (fun i => [.v (.c (dPoll p)), .v (.d (.str (wd b))), .v (.d (dN s)), .v (.d (.int (gnF p b s i : Nat))), .any, .any, .any, .any, .any])
    (it_enumT (ea_cons (ev_prop (ev_var rfl) ⟨_, rfl, rfl⟩) ea_nil)) rfl fun i x hx => ?_) (sx_ret (ev_is (ev_var rfl) (by rw [enu_len, List.length_map])) rfl))
  obtain ⟨hi, rfl⟩ := enuP_get hx
  have hf := gnF_lt p b s (n := p.length) (by omega) i (by omega)
  refine ⟨_, (ge_tup rfl (ges_cons (ge_name (by decide)) (ges_cons (ge_tup rfl (ges_cons (ge_name (by decide)) (ges_cons (ge_tup rfl (ges_cons (ge_name (by decide)) (ges_cons (ge_name (by decide)) ges_nil))) ges_nil))) ges_nil))), fun _ h => h, ?_⟩
  refine sx_seq1 (sx_set (ev_call (ea_cons (ev_var rfl) (ea_cons (ev_op (ev_op (ev_op (ev_prop (ev_var rfl) ⟨_, rfl, rfl⟩) (ev_var rfl) (ix_T (atP hf))) ev_int (ix_T rfl)) ev_int (ix_T rfl)) (ea_cons (ev_op (ev_var rfl) (ev_var rfl) (ix_T (atS (by omega)))) ea_nil))) ⟨b, _, _, rfl, rfl⟩))
      (sx_if (et_B (ev_call (ea_cons (ev_var rfl) (ea_cons (ev_call (ea_cons (ev_var rfl) (ea_cons (ev_var rfl) (ea_cons (ev_op (ev_var rfl) (ev_var rfl) (ix_T (atS (by omega)))) ea_nil))) ⟨b, _, _, rfl, rfl⟩) ea_nil)) ⟨_, _, _, _, rfl, sm_lo hp _, sm_lo hp _, rfl⟩)) (fun h => sx_to (sx_set (ev_var rfl)) ?_) (fun h => sx_to sx_next ?_))
  · have e : gnF p b s (i + 1) = i := if_pos (of_decide_eq_true h)
    show Wk _ [_, _, _, .v (.d (.int (gnF p b s (i + 1) : Nat))), _, _, _, _, _]
    rw [e]
    exact ⟨.inr rfl, .inr rfl, .inr rfl, .inr rfl, .inl rfl, .inl rfl, .inl rfl, .inl rfl, .inl rfl, trivial⟩
  · have e : gnF p b s (i + 1) = gnF p b s i := if_neg (of_decide_eq_false h)
    show Wk _ [_, _, _, .v (.d (.int (gnF p b s (i + 1) : Nat))), _, _, _, _, _]
    rw [e]
    exact ⟨.inr rfl, .inr rfl, .inr rfl, .inr rfl, .inl rfl, .inl rfl, .inl rfl, .inl rfl, .inl rfl, trivial⟩
theorem ok_least_last {f : Addr} {fd : FuncData} (F : L2.Fun K "least_last" "least_last" (topS 42) f fd) (T : Txt K mg C) (c_last_worth : C8.Cal P w K mg base 2 "last_worth" (spD K C m_last_worth) []) (c_Cparts : PCal P w K mg base 1 C "parts" (spD K C m_Cparts)) (c_is_less : C8.Cal P w K mg base 1 "is_less" (spD K C m_is_less) []) :
    FnOk P w K mg base CX0 3 f fd ["counts", "word", "seating"] (spD K C m_least_last) := by
  have sc : FnScope ["counts", "word", "seating", "at", "some", "found", "here", "many"] ["counts", "word", "seating"] (defScope (topS 42)) := C8.fnScope_by (by decide +kernel)
  have nd := sc.nd
  refine okD F sc (fun as a h => by obtain ⟨p, b, s, rfl, hp, hs, rfl⟩ := h; rfl) fun cdv A outer s H E hr => ⟨_, (pss_cons (ps_setLc (i := 4) (own := [("at", 3), ("many", 7)]) rfl nd rfl rfl (sw_true rfl rfl rfl (by decide +kernel)) (En.pi_enumT (by rfl) T.b_enumerate (pa_cons (pv 2) pa_nil)) (blkOk_by (N := ["counts", "word", "seating", "at", "some", "found", "here", "many"]) (sc := defScope (topS 42)) (by decide +kernel)) (pg_tupB fun _ _ _ _ _ => (pgs_cons (pg_name (i := 3) nd rfl (Or.inl rfl)) (pgs_cons (pg_name (i := 7) nd rfl (Or.inl rfl)) pgs_nil))) (fun _ _ _ _ _ => (pts_one (pt_cmpR op_gt (pv 7) pe_int (nomark _)))) (fun _ _ _ _ _ => (pv 3)))
      (pss_cons (ps_set (i := 5) nd rfl (Or.inl rfl) (pe_ix ix_list (pv 4) pe_int (fun _ _ => rfl)))
      (pss_cons (ps_for PassesOwn.never rfl (pi_list (pv 4)) (pg_name (i := 3) nd rfl (Or.inl rfl)) (pss_cons (ps_set (i := 6) nd rfl (Or.inl rfl) (C8.pe_c c_last_worth hr (by decide) (by rfl) (pa_cons (pv 1) (pa_cons (pe_ix ix_tup (pe_ix ix_tup (pe_ix ix_tup (pe_pc c_Cparts hr (by decide) (pv 0) rfl) (pv 5) (fun _ _ => rfl)) pe_int (fun _ _ => rfl)) pe_int (fun _ _ => rfl)) (pa_cons (pe_ix ix_tup (pv 2) (pv 5) (fun _ _ => rfl)) pa_nil)))))
      (pss_one (ps_if (pt_val (C8.pe_c c_is_less hr (by decide) (by rfl) (pa_cons (C8.pe_c c_last_worth hr (by decide) (by rfl) (pa_cons (pv 1) (pa_cons (pe_ix ix_tup (pe_ix ix_tup (pe_ix ix_tup (pe_pc c_Cparts hr (by decide) (pv 0) rfl) (pv 3) (fun _ _ => rfl)) pe_int (fun _ _ => rfl)) pe_int (fun _ _ => rfl)) (pa_cons (pe_ix ix_tup (pv 2) (pv 3) (fun _ _ => rfl)) pa_nil)))) (pa_cons (pv 6) pa_nil)))) (pss_one (ps_set (i := 5) nd rfl (Or.inl rfl) (pv 3))) pss_nil))))
      (pss_one (ps_ret (pv 5)))))), fun as a h => ?_⟩
  obtain ⟨p, b, s, rfl, hp, hs, rfl⟩ := h
  have l4 := hp.len4
  have ls := hs.len
  have h0m := ll0_mem hs.pos
  refine sx_seq1 (sx_set (ev_lc (List.range s.length) (fun i => PyData.tuple [.int (i : Nat), .int (st s i : Nat)]) (fun i => .int (i : Nat)) (fun i => decide (0 < st s i)) (it_is (it_enumT (ea_cons (ev_var rfl) ea_nil)) (enu_seats s)) (by rw [List.length_range]; omega)
      fun y hy => ⟨_, (ge_tup rfl (ges_cons (ge_name (by decide)) (ges_cons (ge_name (by decide)) ges_nil))), et_is (et_test (ev_op (ev_var rfl) ev_int op_b0)) (decide_eq_decide.mpr ?_), fun hp => (ev_var rfl)⟩))
      (sx_seq1 (sx_set (ev_op (ev_l (ev_var rfl)) ev_int (ix_L (x := .int ((somes s).getD 0 0 : Nat)) (atI_nat (j := 0) ?_))))
      (sx_seq1 (sx_forF (vs := List.range 40) _ (fun i => [.v (.c (dPoll p)), .v (.d (.str (wd b))), .v (.d (dN s)), .any, .v (.l ((somes s).map fun i => PyData.int (i : Nat))), .v (.d (.int (((somes s).take i).foldl (llS p b s) ((somes s).getD 0 0) : Nat))), .any, .any])
        (it_list (ev_l (ev_var rfl))) rfl fun i x hx => ?_) (sx_ret (ev_is (ev_var rfl) ?_) rfl)))
  · omega
  · rw [List.getElem?_map]
    show (somes s)[0]?.map _ = _
    cases e : somes s with
    | nil => exact absurd e (somes_ne hs.pos)
    | cons a l => rfl
  · obtain ⟨a, ha', rfl⟩ := map_get hx
    have ha : (somes s)[i]? = some a := ha'
    have ham : a ∈ somes s := List.mem_of_getElem? ha
    have ha2 := mem_somes.mp ham
    have hfm : ((somes s).take i).foldl (llS p b s) ((somes s).getD 0 0) ∈ somes s := llS_mem _ _ (fun _ h => List.mem_of_mem_take h) h0m
    have hf2 := mem_somes.mp hfm
    refine ⟨_, ge_name (by decide), fun _ h => h, ?_⟩
    have e0 : (somes s).take (i + 1) = (somes s).take i ++ [a] := by rw [List.take_add_one, ha]; rfl
    refine sx_seq1 (sx_set (ev_call (ea_cons (ev_var rfl) (ea_cons (ev_op (ev_op (ev_op (ev_prop (ev_var rfl) ⟨_, rfl, rfl⟩) (ev_var rfl) (ix_T (atP (by omega)))) ev_int (ix_T rfl)) ev_int (ix_T rfl)) (ea_cons (ev_op (ev_var rfl) (ev_var rfl) (ix_T (atS hf2.1))) ea_nil))) ⟨b, _, _, rfl, rfl⟩))
      (sx_if (et_B (ev_call (ea_cons (ev_call (ea_cons (ev_var rfl) (ea_cons (ev_op (ev_op (ev_op (ev_prop (ev_var rfl) ⟨_, rfl, rfl⟩) (ev_var rfl) (ix_T (atP (by omega)))) ev_int (ix_T rfl)) ev_int (ix_T rfl)) (ea_cons (ev_op (ev_var rfl) (ev_var rfl) (ix_T (atS ha2.1))) ea_nil))) ⟨b, _, _, rfl, rfl⟩) (ea_cons (ev_var rfl) ea_nil)) ⟨_, _, _, _, rfl, sm_hi hp _, sm_hi hp _, rfl⟩)) (fun h => sx_to (sx_set (ev_var rfl)) ?_) (fun h => sx_to sx_next ?_))
    · have e : ((somes s).take (i + 1)).foldl (llS p b s) ((somes s).getD 0 0) = a := by rw [e0, List.foldl_append]; exact if_pos (of_decide_eq_true h)
      show Wk _ [_, _, _, _, _, .v (.d (.int (((somes s).take (i + 1)).foldl (llS p b s) ((somes s).getD 0 0) : Nat))), _, _]
      rw [e]
      exact ⟨.inr rfl, .inr rfl, .inr rfl, .inl rfl, .inr rfl, .inr rfl, .inl rfl, .inl rfl, trivial⟩
    · have e : ((somes s).take (i + 1)).foldl (llS p b s) ((somes s).getD 0 0) = ((somes s).take i).foldl (llS p b s) ((somes s).getD 0 0) := by rw [e0, List.foldl_append]; exact if_neg (of_decide_eq_false h)
      show Wk _ [_, _, _, _, _, .v (.d (.int (((somes s).take (i + 1)).foldl (llS p b s) ((somes s).getD 0 0) : Nat))), _, _]
      rw [e]
      exact ⟨.inr rfl, .inr rfl, .inr rfl, .inl rfl, .inr rfl, .inr rfl, .inl rfl, .inl rfl, trivial⟩
  · show Dt.A.d (.int (((somes s).take ((somes s).map fun i => PyData.int (i : Nat)).length).foldl (llS p b s) ((somes s).getD 0 0) : Nat)) = _
    rw [List.length_map, List.take_length]
    rfl
theorem ok_worths_of {f : Addr} {fd : FuncData} (F : L2.Fun K "worths_of" "worths_of" (topS 43) f fd) (T : Txt K mg C) (c_least_last : C8.Cal P w K mg base 3 "least_last" (spD K C m_least_last) []) (c_greatest_next : C8.Cal P w K mg base 3 "greatest_next" (spD K C m_greatest_next) []) (c_Cparts : PCal P w K mg base 1 C "parts" (spD K C m_Cparts)) (c_last_worth : C8.Cal P w K mg base 2 "last_worth" (spD K C m_last_worth) []) (c_next_worth : C8.Cal P w K mg base 2 "next_worth" (spD K C m_next_worth) []) :
    FnOk P w K mg base CX0 4 f fd ["counts", "word", "seating"] (spD K C m_worths_of) := by
  have sc : FnScope ["counts", "word", "seating", "ahead", "behind", "low", "high"] ["counts", "word", "seating"] (defScope (topS 43)) := C8.fnScope_by (by decide +kernel)
  have nd := sc.nd
  refine okD F sc (fun as a h => by obtain ⟨p, b, s, rfl, hp, hs, rfl⟩ := h; rfl) fun cdv A outer s H E hr => ⟨_, (pss_cons (ps_par (i := 3) (j := 4) rfl nd rfl rfl (by decide) rfl rfl (pa_cons (C8.pe_c c_greatest_next hr (by decide) (by rfl) (pa_cons (pv 0) (pa_cons (pv 1) (pa_cons (pv 2) pa_nil)))) (pa_cons (C8.pe_c c_least_last hr (by decide) (by rfl) (pa_cons (pv 0) (pa_cons (pv 1) (pa_cons (pv 2) pa_nil)))) pa_nil)) (by rfl))
      (pss_cons (ps_par (i := 5) (j := 6) rfl nd rfl rfl (by decide) rfl rfl (pa_cons (pe_ix ix_tup (pe_ix ix_tup (pe_ix ix_tup (pe_pc c_Cparts hr (by decide) (pv 0) rfl) (pv 3) (fun _ _ => rfl)) pe_int (fun _ _ => rfl)) pe_int (fun _ _ => rfl)) (pa_cons (pe_ix ix_tup (pe_ix ix_tup (pe_ix ix_tup (pe_pc c_Cparts hr (by decide) (pv 0) rfl) (pv 4) (fun _ _ => rfl)) pe_int (fun _ _ => rfl)) pe_int (fun _ _ => rfl)) pa_nil)) (by rfl))
      (pss_one (ps_ret (pe_tup (pa_cons (C8.pe_c c_next_worth hr (by decide) (by rfl) (pa_cons (pv 1) (pa_cons (pv 5) (pa_cons (pe_ix ix_tup (pv 2) (pv 3) (fun _ _ => rfl)) pa_nil)))) (pa_cons (C8.pe_c c_last_worth hr (by decide) (by rfl) (pa_cons (pv 1) (pa_cons (pv 6) (pa_cons (pe_ix ix_tup (pv 2) (pv 4) (fun _ _ => rfl)) pa_nil)))) pa_nil))))))), fun as a h => ?_⟩
  obtain ⟨p, b, s, rfl, hp, hs, rfl⟩ := h
  have l2 := hp.len2
  have ls := hs.len
  have hg := gnF_lt p b s (n := p.length) (by omega) p.length (Nat.le_refl _)
  have hl := (mem_somes.mp (llF_mem (p := p) (b := b) hs.pos)).1
  exact sx_seq1 (sx_par (ea_cons (ev_call (ea_cons (ev_var rfl) (ea_cons (ev_var rfl) (ea_cons (ev_var rfl) ea_nil))) ⟨p, b, s, rfl, hp, hs, rfl⟩) (ea_cons (ev_call (ea_cons (ev_var rfl) (ea_cons (ev_var rfl) (ea_cons (ev_var rfl) ea_nil))) ⟨p, b, s, rfl, hp, hs, rfl⟩) ea_nil)))
      (sx_seq1 (sx_par (ea_cons (ev_op (ev_op (ev_op (ev_prop (ev_var rfl) ⟨_, rfl, rfl⟩) (ev_var rfl) (ix_T (atP hg))) ev_int (ix_T rfl)) ev_int (ix_T rfl)) (ea_cons (ev_op (ev_op (ev_op (ev_prop (ev_var rfl) ⟨_, rfl, rfl⟩) (ev_var rfl) (ix_T (atP (by omega)))) ev_int (ix_T rfl)) ev_int (ix_T rfl)) ea_nil)))
      (sx_ret (ev_tup (ds := [_, _]) (ea_cons (ev_call (ea_cons (ev_var rfl) (ea_cons (ev_var rfl) (ea_cons (ev_op (ev_var rfl) (ev_var rfl) (ix_T (atS (by omega)))) ea_nil))) ⟨b, _, _, rfl, rfl⟩) (ea_cons (ev_call (ea_cons (ev_var rfl) (ea_cons (ev_var rfl) (ea_cons (ev_op (ev_var rfl) (ev_var rfl) (ix_T (atS hl))) ea_nil))) ⟨b, _, _, rfl, rfl⟩) ea_nil)) (by simp)) rfl))
theorem ok_comes {f : Addr} {fd : FuncData} (F : L2.Fun K "comes" "comes" (topS 44) f fd) (T : Txt K mg C) (c_worths_of : C8.Cal P w K mg base 4 "worths_of" (spD K C m_worths_of) []) (c_is_less : C8.Cal P w K mg base 1 "is_less" (spD K C m_is_less) []) :
    FnOk P w K mg base CX0 5 f fd ["counts", "word", "seating"] (spD K C m_comes) := by
  have sc : FnScope ["counts", "word", "seating", "most", "least"] ["counts", "word", "seating"] (defScope (topS 44)) := C8.fnScope_by (by decide +kernel)
  have nd := sc.nd
  refine okD F sc (fun as a h => by obtain ⟨p, b, s, rfl, hp, hs, rfl⟩ := h; rfl) fun cdv A outer s H E hr => ⟨_, (pss_cons (ps_asg (C8.pe_c c_worths_of hr (by decide) (by rfl) (pa_cons (pv 0) (pa_cons (pv 1) (pa_cons (pv 2) pa_nil)))) (pg_tup rfl (pgs_cons (pg_name (i := 3) nd rfl (Or.inl rfl)) (pgs_cons (pg_name (i := 4) nd rfl (Or.inl rfl)) pgs_nil))))
      (pss_one (ps_ret (pe_not (C8.pe_c c_is_less hr (by decide) (by rfl) (pa_cons (pv 4) (pa_cons (pv 3) pa_nil))))))), fun as a h => ?_⟩
  obtain ⟨p, b, s, rfl, hp, hs, rfl⟩ := h
  exact sx_seq1 (sx_asg (vs := List.range 40) (ev_call (ea_cons (ev_var rfl) (ea_cons (ev_var rfl) (ea_cons (ev_var rfl) ea_nil))) ⟨p, b, s, rfl, hp, hs, rfl⟩) (ge_tup rfl (ges_cons (ge_name (by decide)) (ges_cons (ge_name (by decide)) ges_nil))) (fun _ h => h))
      (sx_ret (ev_notV (ev_call (ea_cons (ev_var rfl) (ea_cons (ev_var rfl) ea_nil)) ⟨_, _, _, _, rfl, sm_hi hp _, sm_lo hp _, rfl⟩)) rfl)
theorem ok_is_sure {f : Addr} {fd : FuncData} (F : L2.Fun K "is_sure" "is_sure" (topS 45) f fd) (T : Txt K mg C) (c_Cparts : PCal P w K mg base 1 C "parts" (spD K C m_Cparts)) (c_last_worth : C8.Cal P w K mg base 2 "last_worth" (spD K C m_last_worth) []) (c_is_less : C8.Cal P w K mg base 1 "is_less" (spD K C m_is_less) []) (c_next_worth : C8.Cal P w K mg base 2 "next_worth" (spD K C m_next_worth) []) :
    FnOk P w K mg base CX0 3 f fd ["counts", "word", "seating"] (spD K C m_is_sure) := by
  have sc : FnScope ["counts", "word", "seating", "at", "name", "low", "high", "others", "own", "other", "part", "top"] ["counts", "word", "seating"] (defScope (topS 45)) := C8.fnScope_by (by decide +kernel)
  have nd := sc.nd
  refine okD F sc (fun as a h => by obtain ⟨p, b, s, rfl, hp, hs, rfl⟩ := h; rfl) fun cdv A outer s H E hr => ⟨_, (pss_cons (ps_for PassesOwn.never rfl (En.pi_enumT (by rfl) T.b_enumerate (pa_cons (pe_pc c_Cparts hr (by decide) (pv 0) rfl) pa_nil)) (pg_tup rfl (pgs_cons (pg_name (i := 3) nd rfl (Or.inr rfl)) (pgs_cons (pg_tup rfl (pgs_cons (pg_name (i := 4) nd rfl (Or.inl rfl)) (pgs_cons (pg_tup rfl (pgs_cons (pg_name (i := 5) nd rfl (Or.inl rfl)) (pgs_cons (pg_name (i := 6) nd rfl (Or.inl rfl)) pgs_nil))) pgs_nil))) pgs_nil))) (pss_cons (ps_setLc (i := 7) (own := [("other", 9), ("part", 10)]) rfl nd rfl rfl (sw_true rfl rfl rfl (by decide +kernel)) (En.pi_enumT (by rfl) T.b_enumerate (pa_cons (pe_pc c_Cparts hr (by decide) (pv 0) rfl) pa_nil)) (blkOk_by (N := ["counts", "word", "seating", "at", "name", "low", "high", "others", "own", "other", "part", "top"]) (sc := defScope (topS 45)) (by decide +kernel)) (pg_tupB fun _ _ _ _ _ => (pgs_cons (pg_name (i := 9) nd rfl (Or.inl rfl)) (pgs_cons (pg_name (i := 10) nd rfl (Or.inl rfl)) pgs_nil))) (fun _ _ _ _ _ => (pts_one (pt_cmpR op_ne (pv 9) (pv 3) (nomark _)))) (fun _ _ _ _ _ => (pe_tup (pa_cons (pv 9) (pa_cons (pe_ix (ix_tupK (K := K) rfl) (pe_ix (ix_tupK (K := K) rfl) (pv 10) pe_int (fun _ _ => rfl)) pe_int (fun _ _ => rfl)) pa_nil)))))
      (pss_one (ps_if (pt_cmpR op_gt (pe_ix ix_tup (pv 2) (pv 3) (fun _ _ => rfl)) pe_int (nomark _)) (pss_cons (ps_set (i := 8) nd rfl (Or.inr rfl) (C8.pe_c c_last_worth hr (by decide) (by rfl) (pa_cons (pv 1) (pa_cons (pv 5) (pa_cons (pe_ix ix_tup (pv 2) (pv 3) (fun _ _ => rfl)) pa_nil)))))
      (pss_one (ps_if (pt_val (pe_callB (cr_any rfl) (by rfl) T.b_any (by decide +kernel) (pa_cons (pe_lc (own := [("other", 9), ("top", 11)]) rfl nd (pi_list (pv 7)) (blkOk_by (N := ["counts", "word", "seating", "at", "name", "low", "high", "others", "own", "other", "part", "top"]) (sc := defScope (topS 45)) (by decide +kernel)) (pg_tupB fun _ _ _ _ _ => (pgs_cons (pg_name (i := 9) nd rfl (Or.inl rfl)) (pgs_cons (pg_name (i := 11) nd rfl (Or.inl rfl)) pgs_nil))) (fun _ _ _ _ _ => pts_nil) (fun _ _ _ _ _ => (C8.pe_c c_is_less hr (by decide) (by rfl) (pa_cons (pv 8) (pa_cons (C8.pe_c c_next_worth hr (by decide) (by rfl) (pa_cons (pv 1) (pa_cons (pv 11) (pa_cons (pe_ix (ix_tupK (K := K) rfl) (pv 2) (pv 9) (fun _ _ => rfl)) pa_nil)))) pa_nil))))) pa_nil))) (pss_one (ps_ret pe_bl)) pss_nil))) pss_nil))))
      (pss_one (ps_ret pe_bl))), fun as a h => ?_⟩
  obtain ⟨p, b, s, rfl, hp, hs, rfl⟩ := h
  have l4 := hp.len4
  have ls := hs.len
  refine sx_seq (sx_forP (vs := List.range 40) _ (fun i => [.v (.c (dPoll p)), .v (.d (.str (wd b))), .v (.d (dN s)), .any, .any, .any, .any, .any, .any, .any, .any, .any]) (fun i => ∀ k, k < i → sureAt p b s k = true)
    (it_enumT (ea_cons (ev_prop (ev_var rfl) ⟨_, rfl, rfl⟩) ea_nil)) rfl (fun k h => absurd h (Nat.not_lt_zero _)) fun i x hx pr => ?_) ?_
  · obtain ⟨hi, rfl⟩ := enuP_get hx
    refine ⟨_, (ge_tup rfl (ges_cons (ge_name (by decide)) (ges_cons (ge_tup rfl (ges_cons (ge_name (by decide)) (ges_cons (ge_tup rfl (ges_cons (ge_name (by decide)) (ges_cons (ge_name (by decide)) ges_nil))) ges_nil))) ges_nil))), fun _ h => h, ?_⟩
    refine sx_seq1 (sx_set (ev_lc (List.range p.length) (fun i => PyData.tuple [.int (i : Nat), dAt p i]) (fun o => .tuple [.int (o : Nat), .int (Dt.hi p o)]) (fun o => decide (o ≠ i)) (it_is (it_enumT (ea_cons (ev_prop (ev_var rfl) ⟨_, rfl, rfl⟩) ea_nil)) (enu_poll p)) (by rw [List.length_range]; omega)
        fun y hy => ⟨_, (ge_tup rfl (ges_cons (ge_name (by decide)) (ges_cons (ge_name (by decide)) ges_nil))), et_is (et_test (ev_op (ev_var rfl) (ev_var rfl) (op_neF rfl rfl rfl))) (neI _ _), fun hp => (ev_tup (ds := [_, _]) (ea_cons (ev_var rfl) (ea_cons (ev_op (ev_op (ev_var rfl) ev_int (ix_T rfl)) ev_int (ix_T rfl)) ea_nil)) (by simp))⟩))
      (sx_if (et_test (ev_op (ev_op (ev_var rfl) (ev_var rfl) (ix_T (atS (by omega)))) ev_int op_b0)) (fun h => (sx_seq1 (sx_set (ev_call (ea_cons (ev_var rfl) (ea_cons (ev_var rfl) (ea_cons (ev_op (ev_var rfl) (ev_var rfl) (ix_T (atS (by omega)))) ea_nil))) ⟨b, _, _, rfl, rfl⟩))
      (sx_if (et_B (ev_cb (ea_cons (ev_l (xs := (((List.range p.length).filter fun o => decide (o ≠ i)).map fun o => decide (lo p i * Ap.dv b (st s o + 1) < Dt.hi p o * Ap.dv b (st s i))).map .bool) (ev_is (ev_lc ((List.range p.length).filter fun o => decide (o ≠ i)) (fun o => .tuple [.int (o : Nat), .int (Dt.hi p o)]) (fun o => .bool (decide (lo p i * Ap.dv b (st s o + 1) < Dt.hi p o * Ap.dv b (st s i)))) (fun _ => true) (it_list (ev_l (ev_var rfl))) (by have := List.length_filter_le (fun o => decide (o ≠ i)) (List.range p.length); rw [List.length_range] at this; omega)
        fun y hy => ⟨_, (ge_tup rfl (ges_cons (ge_name (by decide)) (ges_cons (ge_name (by decide)) ges_nil))), et_yes, fun hp' => (ev_call (ea_cons (ev_var rfl) (ea_cons (ev_call (ea_cons (ev_var rfl) (ea_cons (ev_var rfl) (ea_cons (ev_op (ev_var rfl) (ev_var rfl) (ix_T (atS ?_))) ea_nil))) ⟨b, _, _, rfl, rfl⟩) ea_nil)) ⟨_, _, _, _, rfl, sm_lo hp _, sm_hi hp _, rfl⟩)⟩) (by rw [filter_tt, List.map_map]; rfl))) ea_nil) cd_any)) (fun h2 => (sx_ret ev_bl ?_)) (fun h2 => sx_toP sx_next ⟨.inr rfl, .inr rfl, .inr rfl, .inl rfl, .inl rfl, .inl rfl, .inl rfl, .inl rfl, .inl rfl, .inl rfl, .inl rfl, .inl rfl, trivial⟩ ?_)))) (fun h => sx_toP sx_next ⟨.inr rfl, .inr rfl, .inr rfl, .inl rfl, .inl rfl, .inl rfl, .inl rfl, .inl rfl, .inl rfl, .inl rfl, .inl rfl, .inl rfl, trivial⟩ ?_))
    · have := List.mem_range.mp (List.mem_filter.mp hy).1
      omega
    · have e : sureAt p b s i = false := by
        unfold sureAt
        rw [decide_eq_true (show 0 < st s i by have := of_decide_eq_true h; omega), Bool.true_and]
        rw [List.any_map] at h2
        have h2' : (((List.range p.length).filter fun o => decide (o ≠ i)).any fun o => decide (lo p i * Ap.dv b (st s o + 1) < Dt.hi p o * Ap.dv b (st s i))) = true := h2
        rw [h2']
        rfl
      have : sureB p b s = false := by
        unfold sureB
        exact Bool.eq_false_iff.mpr fun z => by
          have := List.all_eq_true.mp z i (List.mem_range.mpr hi)
          rw [e] at this
          cases this
      show Dt.A.d (.bool false) = Dt.A.d (.bool (sureB p b s))
      rw [this]
    · intro k hk
      by_cases hki : k = i
      · subst hki
        unfold sureAt
        rw [List.any_map] at h2
        have h2' : (((List.range p.length).filter fun o => decide (o ≠ k)).any fun o => decide (lo p k * Ap.dv b (st s o + 1) < Dt.hi p o * Ap.dv b (st s k))) = false := h2
        rw [h2', Bool.and_false]
        rfl
      · exact pr k (by omega)
    · intro k hk
      by_cases hki : k = i
      · subst hki
        unfold sureAt
        rw [decide_eq_false (show ¬ 0 < st s k by have := of_decide_eq_false h; omega), Bool.false_and]
        rfl
      · exact pr k (by omega)
  · rintro _ ⟨rfl, pr⟩
    have : sureB p b s = true := by
      unfold sureB
      exact List.all_eq_true.mpr fun k hk => pr k (by rw [enu_len, List.length_map]; exact List.mem_range.mp hk)
    exact sx_ret ev_bl (by show Dt.A.d (.bool true) = Dt.A.d (.bool (sureB p b s)); rw [this])
theorem ok_Cinit {f : Addr} {fd : FuncData} (F : L2.Fun K "__init__" "Counts.__init__" (inClass (topS 31) 0) f fd) (T : Txt K mg C) (c_check_parts : C8.Cal P w K mg base 5 "check_parts" (spD K C m_check_parts) []) :
    FnOk P w K mg base CX0 6 f fd ["self", "parts"] (spInit K C) := by
  have sc : FnScope ["self", "parts"] ["self", "parts"] (defScope (inClass (topS 31) 0)) := C8.fnScope_by (by decide +kernel)
  have nd := sc.nd
  refine F.ok sc (fun vs H Q E h => by obtain ⟨_, _, _, _, _, rfl, _⟩ := h; rfl) fun cdv A outer s H vs Q E hr h => ⟨_, (pss_cons (ps_expr (C8.pe_c c_check_parts hr (by decide) (by rfl) (pa_cons (pv 1) pa_nil)))
      (pss_one (ps_fld (pv 0) (pv 1) rfl))), ?_⟩
  obtain ⟨S, x, dx, v, p, rfl, s, sx, hx, hv, hp, q⟩ := h
  refine ev_call (ρ := [.any, .v (.d (dPoll p))]) (ea_cons (ev_var (i := 1) rfl) ea_nil) ⟨p, rfl, hp, rfl⟩ S [some (.ref x), some v] H s ⟨trivial, ⟨v, rfl, hv⟩, trivial⟩ _ fun v1 S1 H1 x1 _ => ?_
  exact ⟨_, rfl, _, rfl, x, C, dx, [], rfl, x1.hh _ _ hx, T.cl, T.na, by decide, q S1 H1 x1⟩
end
end Dt
end
section
set_option Elab.async false
set_option linter.all false
set_option maxRecDepth 100000
set_option maxHeartbeats 4000000
namespace Dt
open PySem PySem.Spec PyProof.Rows L2
def m_so (n : Nat) (as : List A) (a : A) : Prop := ∃ T : Nat, as = [.d (.int (n + 1 : Nat)), .d (.int T)] ∧ T ≤ 12 ∧ a = .l ((en n T).map dN)
def m_seatings_of (as : List A) (a : A) : Prop := ∃ n : Nat, n ≤ 3 ∧ m_so n as a
/-- a def of the poll, the number of seats and the kind -/
def m3k (F : Poll → Bool → Nat → A) (as : List A) (a : A) : Prop := ∃ (p : Poll) (b : Bool) (T : Nat), as = [.c (dPoll p), .d (.int T), .d (.str (wd b))] ∧ OkPoll p ∧ 1 ≤ T ∧ T ≤ 12 ∧ a = F p b T
def m_known_seatings := m3k fun p b T => .l ((knownB p b T).map dN)
def m_seatings := m3k fun p b T => .d (.tuple ((knownB p b T).map dN))
def m_can_come := m3 fun p b s => .bool (comesB p b s)
def m_surely_comes := m3 fun p b s => .bool (sureB p b s)
def m_price := m3 priceD
def m_barring_names := m3 barD
/-- mn, mx: the least, the greatest number of k in the known seatings -/
def IsMin (p : Poll) (b : Bool) (T k mn : Nat) : Prop := mn ∈ (knownB p b T).map (fun s => st s k) ∧ ∀ s ∈ knownB p b T, mn ≤ st s k
def IsMax (p : Poll) (b : Bool) (T k mx : Nat) : Prop := mx ∈ (knownB p b T).map (fun s => st s k) ∧ ∀ s ∈ knownB p b T, st s k ≤ mx
def m_span (as : List A) (a : A) : Prop := ∃ (p : Poll) (b : Bool) (T k mn mx : Nat), as = [.c (dPoll p), .d (.int T), .d (.str (wd b)), .d (.str (nm p k))] ∧ OkPoll p ∧ 1 ≤ T ∧ T ≤ 12 ∧ k < p.length ∧ IsMin p b T k mn ∧ IsMax p b T k mx ∧ a = .d (tI [(mn : Int), (mx : Int)])
def m_sure_seats (as : List A) (a : A) : Prop := ∃ (p : Poll) (b : Bool) (T : Nat) (mn : Nat → Nat), as = [.c (dPoll p), .d (.int T), .d (.str (wd b))] ∧ OkPoll p ∧ 1 ≤ T ∧ T ≤ 12 ∧ (∀ k, k < p.length → IsMin p b T k (mn k)) ∧ a = .d (.int (((List.range p.length).map fun k => (mn k : Int)).sum))
theorem lone1 (q : Addr) : ([q] : List Addr).Nodup := by simp
def scOut : Scope := { kind := .function, names := [((".0" : Str), .local), ("at", .cell), ("min", .globalImplicit), ("known", .cell)], isGenerator := false, isCoroutine := false, more := [] }
def scIn : Scope := { kind := .function, names := [((".0" : Str), .local), ("seating", .local), ("at", .free)], isGenerator := false, isCoroutine := false, more := [] }
theorem inV_of {z : Str} {ys : List Str} (h : z ∈ ys) : inV (.str z) (ys.map V.str) = true := by
  unfold inV
  rw [List.any_map]
  refine List.any_eq_true.mpr ⟨z, h, ?_⟩
  show eqV (.str z) (.str z) = true
  unfold eqV
  simp
section
variable {P : Program} {w : World} {K : PySem.W.Frag} {mg : Str → Option Value} {base : Heap} {C W : Addr}
theorem so_0 {f : Addr} {fd : FuncData} (F : L2.Fun K "seatings_of" "seatings_of" (topS 46) f fd) (T : Txt K mg C) : FnOk P w K mg base CX0 1 f fd ["many", "seats"] (spD K C (m_so 0)) := by
  have sc : FnScope ["many", "seats", "found", "first", "rest"] ["many", "seats"] (defScope (topS 46)) := C8.fnScope_by (by decide +kernel)
  have nd := sc.nd
  refine okD F sc (fun as a h => by obtain ⟨T, rfl, h, rfl⟩ := h; rfl) fun cdv A outer s H E hr => ⟨_, (pss_cons (ps_if (pt_cmpR op_eq (pv 0) pe_int (nomark _)) (pss_one (ps_ret (pe_lst (pa_cons (pe_tup (pa_cons (pv 1) pa_nil)) pa_nil)))) pss_nil) pss_never), fun as a h => ?_⟩
  obtain ⟨T, rfl, hT, rfl⟩ := h
  exact sx_seq (N' := fun _ => False) (sx_ifT (et_is (et_test (ev_op (ev_var rfl) ev_int (op_eqF rfl rfl rfl))) (by decide)) (sx_ret (ev_lst (ds := [dN [T]]) (ea_cons (ev_tup (ds := [.int T]) (ea_cons (ev_var rfl) ea_nil) (by simp)) ea_nil) (by simp)) rfl)) fun _ h => h.elim
theorem so_s {n : Nat} (hn : n ≤ 2) {f : Addr} {fd : FuncData} (F : L2.Fun K "seatings_of" "seatings_of" (topS 46) f fd) (T : Txt K mg C) (c_seatings_of : C8.Cal P w K mg base (n + 1) "seatings_of" (spD K C (m_so n)) []) :
    FnOk P w K mg base CX0 (n + 2) f fd ["many", "seats"] (spD K C (m_so (n + 1))) := by
  have sc : FnScope ["many", "seats", "found", "first", "rest"] ["many", "seats"] (defScope (topS 46)) := C8.fnScope_by (by decide +kernel)
  have nd := sc.nd
  refine okD F sc (fun as a h => by obtain ⟨T, rfl, h, rfl⟩ := h; rfl) fun cdv A outer s H E hr => ⟨_, (pss_cons (ps_if (pt_cmpR op_eq (pv 0) pe_int (nomark _)) (pss_one (ps_ret (pe_lst (pa_cons (pe_tup (pa_cons (pv 1) pa_nil)) pa_nil)))) pss_nil)
      (pss_cons (ps_set (i := 2) nd rfl (Or.inl rfl) (pe_lst pa_nil))
      (pss_cons (ps_for PassesOwn.never rfl (pi_range1 rfl T.b_range (pa_cons (pe_op op_add (pv 1) pe_int) pa_nil)) (pg_name (i := 3) nd rfl (Or.inr rfl)) (pss_one (ps_expr (pe_bm PySem.F.plainAttrs_list PySem.F.slot_list_extend PySem.F.type_list_extend mt_extend (pv 2) (pa_cons (pe_lc (own := [("rest", 4)]) rfl nd (pi_list (C8.pe_c c_seatings_of hr (Nat.le_refl _) (by rfl) (pa_cons (pe_op op_sub (pv 0) pe_int) (pa_cons (pe_op op_sub (pv 1) (pv 3)) pa_nil)))) (blkOk_by (N := ["many", "seats", "found", "first", "rest"]) (sc := defScope (topS 46)) (by decide +kernel)) (fun _ _ _ _ _ => (pg_name (i := 4) nd rfl (Or.inl rfl))) (fun _ _ _ _ _ => pts_nil) (fun _ _ _ _ _ => (pe_tup (pa_cons (pv 3) ((pa_starK (K := K) rfl) (pv 4) pa_nil))))) pa_nil)))))
      (pss_one (ps_ret (pv 2)))))), fun as a h => ?_⟩
  obtain ⟨T, rfl, hT, rfl⟩ := h
  refine sx_seq1 (sx_ifF (et_is (et_test (ev_op (ev_var rfl) ev_int (op_eqF rfl rfl rfl))) (decide_eq_false (fun z => by injection z with z; omega))) sx_next) ?_
  refine sx_seq (sx_own (N := fun r => ∃ q, r = [.v (.d (.int (n + 1 + 1 : Nat))), .v (.d (.int T)), .own q [], .any, .any]) (by show 2 < 5; decide) fun q hq => ⟨q, rfl⟩) ?_
  rintro _ ⟨q, rfl⟩
  have e0 : ((T : Int) + 1).toNat = T + 1 := by omega
  have eN : ∀ i : Nat, i ≤ T + 1 → (((List.range i).flatMap fun f => (en n (T - f)).map fun r => f :: r).map dN).length ≤ 13000 := fun i hi => by
    rw [List.length_map]
    have h1 := flatMap_len (fun f => (en n (T - f)).map fun r => f :: r) 1000 (List.range i) fun x hx => by
      rw [List.length_map]
      exact en_len n (by omega) (T - x) (by omega)
    rw [List.length_range] at h1
    omega
  refine sx_seq1 (sx_forF (vs := List.range 40) (rng 0 ((T : Int) + 1).toNat) (fun i => [.v (.d (.int (n + 1 + 1 : Nat))), .v (.d (.int T)), .own q (((List.range i).flatMap fun f => (en n (T - f)).map fun r => f :: r).map dN), .any, .any])
    (it_rng1 (ea_cons (ev_op (ev_var rfl) ev_int op_i0) ea_nil) (by omega) (by omega)) rfl fun i x hx => ?_) ?_
  · obtain ⟨hi, rfl⟩ := rng_get hx
    rw [e0] at hi
    have hl := en_len n (by omega) (T - i) (by omega)
    refine ⟨_, ge_name (by decide), fun p h => h, ?_⟩
    refine sx_to (sx_extend (ys := ((en n (T - i)).map fun r => i :: r).map dN) rfl (lone1 _) ?_ (ev_is (ev_lc (en n (T - i)) dN (fun r => dN (i :: r)) (fun _ => true) (it_list (ev_l (ev_call (ea_cons (ev_op (ev_var rfl) ev_int op_i0) (ea_cons (ev_op (ev_var rfl) (ev_var rfl) op_i0) ea_nil)) ⟨T - i, ?_, by omega, rfl⟩))) (by omega)
      fun y hy => ⟨_, (ge_name (by decide)), et_yes, fun hp => (ev_is (ev_tup (ds := .int i :: (ci y).map .int) (ea_is (ea_cons (ev_var rfl) (ea_starT (ev_var rfl) ea_nil)) ?_) ?_) rfl)⟩) ?_)) ?_
    · have h1 := eN i (by omega)
      have h2 : (((en n (T - i)).map fun r => i :: r).map dN).length = (en n (T - i)).length := by rw [List.length_map, List.length_map]
      omega
    · have e1 : ((n + 1 + 1 : Nat) : Int) - 1 = ((n + 1 : Nat) : Int) := by omega
      have e2 : (T : Int) - (0 + (i : Int)) = ((T - i : Nat) : Int) := by omega
      rw [e1, e2]
    · rw [List.append_nil, List.map_cons, Int.zero_add]
    · have := (mem_en.mp hy).1
      unfold ci
      rw [List.length_cons, List.length_map, List.length_map]
      omega
    · rw [filter_tt, List.map_map]
      rfl
    · have e3 : (((List.range (i + 1)).flatMap fun f => (en n (T - f)).map fun r => f :: r).map dN) = (((List.range i).flatMap fun f => (en n (T - f)).map fun r => f :: r).map dN) ++ ((en n (T - i)).map fun r => i :: r).map dN := by
        rw [List.range_succ, List.flatMap_append, List.map_append]
        simp
      show Wk _ [_, _, .own q (((List.range (i + 1)).flatMap fun f => (en n (T - f)).map fun r => f :: r).map dN), _, _]
      rw [e3]
      exact ⟨.inr rfl, .inr rfl, .inr rfl, .inl rfl, .inl rfl, trivial⟩
  · refine sx_freeze (i := 2) rfl (lone1 _) (sx_ret (ev_var rfl) ?_)
    rw [rng_len, e0]
    rfl
theorem ok_seatings_of {f : Addr} {fd : FuncData} (F : L2.Fun K "seatings_of" "seatings_of" (topS 46) f fd) (T : Txt K mg C) (hm : mg "seatings_of" = some (.ref f)) (hb : Binds K fd ["many", "seats"] []) : FnOk P w K mg base CX0 5 f fd ["many", "seats"] (spD K C m_seatings_of) := by
  have key : ∀ n, n ≤ 3 → FnOk P w K mg base CX0 (n + 1) f fd ["many", "seats"] (spD K C (m_so n)) := by
    intro n
    induction n with
    | zero => exact fun _ => so_0 F T
    | succ n ih => exact fun hn => so_s (by omega) F T ⟨f, fd, _, [], ih (by omega), hm, F.kp, hb, .nil⟩
  refine ⟨fun vs H Q E h => ?_, fun A outer s H args us vs Q E hr he hbi hv hs => ?_⟩
  · obtain ⟨S, as, a, s, hv, ⟨n, hn, hm⟩, q⟩ := h
    exact (key n hn).len vs H Q E ⟨S, as, a, s, hv, hm, q⟩
  · obtain ⟨S, as, a, s, hv', ⟨n, hn, hm⟩, q⟩ := hs
    exact ((key n hn).mono (by omega)).run A outer _ H args us vs Q E hr he hbi hv ⟨S, as, a, s, hv', hm, q⟩
theorem ok_known_seatings {f : Addr} {fd : FuncData} (F : L2.Fun K "known_seatings" "known_seatings" (topS 47) f fd) (T : Txt K mg C) (c_check_counts : C8.Cal P w K mg base 1 "check_counts" (spD K C m_check_counts) []) (c_check_seats : C8.Cal P w K mg base 3 "check_seats" (spD K C m_check_seats) []) (c_check_word : C8.Cal P w K mg base 1 "check_word" (spD K C m_check_word) []) (c_seatings_of : C8.Cal P w K mg base 5 "seatings_of" (spD K C m_seatings_of) []) (c_C__len__ : LCal P w K mg base 1 C (spD K C m_Clen)) (c_comes : C8.Cal P w K mg base 5 "comes" (spD K C m_comes) []) :
    FnOk P w K mg base CX0 6 f fd ["counts", "seats", "word"] (spD K C m_known_seatings) := by
  have sc : FnScope ["counts", "seats", "word", "seating"] ["counts", "seats", "word"] (defScope (topS 47)) := C8.fnScope_by (by decide +kernel)
  have nd := sc.nd
  refine okD F sc (fun as a h => by obtain ⟨p, b, T, rfl, hp, h1, h2, rfl⟩ := h; rfl) fun cdv A outer s H E hr => ⟨_, (pss_cons (ps_expr (C8.pe_c c_check_counts hr (by decide) (by rfl) (pa_cons (pv 0) pa_nil)))
      (pss_cons (ps_expr (C8.pe_c c_check_seats hr (by decide) (by rfl) (pa_cons (pv 1) pa_nil)))
      (pss_cons (ps_expr (C8.pe_c c_check_word hr (by decide) (by rfl) (pa_cons (pv 2) pa_nil)))
      (pss_one (ps_ret (pe_lc (own := [("seating", 3)]) rfl nd (pi_list (C8.pe_c c_seatings_of hr (by decide) (by rfl) (pa_cons (pe_callB (c_C__len__.rule hr (by decide)) (by rfl) T.b_len (by decide +kernel) (pa_cons (pv 0) pa_nil)) (pa_cons (pv 1) pa_nil)))) (blkOk_by (N := ["counts", "seats", "word", "seating"]) (sc := defScope (topS 47)) (by decide +kernel)) (fun _ _ _ _ _ => (pg_name (i := 3) nd rfl (Or.inl rfl))) (fun _ _ _ _ _ => (pts_one (pt_val (C8.pe_c c_comes hr (by decide) (by rfl) (pa_cons (pv 0) (pa_cons (pv 2) (pa_cons (pv 3) pa_nil))))))) (fun _ _ _ _ _ => (pv 3)))))))), fun as a h => ?_⟩
  obtain ⟨p, b, T, rfl, hp, h1, h2, rfl⟩ := h
  have l2 := hp.len2
  have l4 := hp.len4
  exact sx_seq1 (sx_drop (ev_call (ea_cons (ev_var rfl) ea_nil) ⟨p, rfl, rfl⟩))
      (sx_seq1 (sx_drop (ev_call (ea_cons (ev_var rfl) ea_nil) ⟨T, rfl, by omega, by omega, rfl⟩))
      (sx_seq1 (sx_drop (ev_call (ea_cons (ev_var rfl) ea_nil) ⟨b, rfl, rfl⟩))
      (sx_ret (ev_is (ev_lc (en (p.length - 1) T) dN dN (comesB p b) (it_list (ev_l (ev_call (ea_cons (ev_cb (ea_cons (ev_var rfl) ea_nil) (cd_lenO (n := (p.length : Nat)) ⟨p, rfl, rfl⟩ (by omega) (by omega))) (ea_cons (ev_var rfl) ea_nil)) ⟨p.length - 1, by omega, T, by rw [show p.length - 1 + 1 = p.length by omega], h2, rfl⟩))) (by have := en_len (p.length - 1) (by omega) T (by omega); omega)
        fun y hy => ⟨_, (ge_name (by decide)), (et_B (ev_call (ea_cons (ev_var rfl) (ea_cons (ev_var rfl) (ea_cons (ev_var rfl) ea_nil))) ⟨p, b, y, rfl, hp, knownS hp h1 h2 hy, rfl⟩)), fun hp => (ev_var rfl)⟩) rfl) rfl)))
theorem ok_seatings {f : Addr} {fd : FuncData} (F : L2.Fun K "seatings" "seatings" (topS 48) f fd) (T : Txt K mg C) (c_known_seatings : C8.Cal P w K mg base 6 "known_seatings" (spD K C m_known_seatings) []) :
    FnOk P w K mg base CX0 7 f fd ["counts", "seats", "word"] (spD K C m_seatings) := by
  have sc : FnScope ["counts", "seats", "word"] ["counts", "seats", "word"] (defScope (topS 48)) := C8.fnScope_by (by decide +kernel)
  have nd := sc.nd
  refine okD F sc (fun as a h => by obtain ⟨p, b, T, rfl, hp, h1, h2, rfl⟩ := h; rfl) fun cdv A outer s H E hr => ⟨_, (pss_one (ps_ret (pe_callTy call_tuple_of (by rfl) T.b_tuple (by decide +kernel) (pa_cons (C8.pe_c c_known_seatings hr (by decide) (by rfl) (pa_cons (pv 0) (pa_cons (pv 1) (pa_cons (pv 2) pa_nil)))) pa_nil)))), fun as a h => ?_⟩
  obtain ⟨p, b, T, rfl, hp, h1, h2, rfl⟩ := h
  exact sx_ret (ev_cb (ea_cons (ev_l (ev_call (ea_cons (ev_var rfl) (ea_cons (ev_var rfl) (ea_cons (ev_var rfl) ea_nil))) ⟨p, b, T, rfl, hp, h1, h2, rfl⟩)) ea_nil) cd_tuple) rfl
theorem ok_can_come {f : Addr} {fd : FuncData} (F : L2.Fun K "can_come" "can_come" (topS 49) f fd) (T : Txt K mg C) (c_check_seating : C8.Cal P w K mg base 4 "check_seating" (spD K C m_check_seating) []) (c_comes : C8.Cal P w K mg base 5 "comes" (spD K C m_comes) []) :
    FnOk P w K mg base CX0 6 f fd ["counts", "word", "seating"] (spD K C m_can_come) := by
  have sc : FnScope ["counts", "word", "seating"] ["counts", "word", "seating"] (defScope (topS 49)) := C8.fnScope_by (by decide +kernel)
  have nd := sc.nd
  refine okD F sc (fun as a h => by obtain ⟨p, b, s, rfl, hp, hs, rfl⟩ := h; rfl) fun cdv A outer s H E hr => ⟨_, (pss_cons (ps_expr (C8.pe_c c_check_seating hr (by decide) (by rfl) (pa_cons (pv 0) (pa_cons (pv 1) (pa_cons (pv 2) pa_nil)))))
      (pss_one (ps_ret (C8.pe_c c_comes hr (by decide) (by rfl) (pa_cons (pv 0) (pa_cons (pv 1) (pa_cons (pv 2) pa_nil))))))), fun as a h => ?_⟩
  obtain ⟨p, b, s, rfl, hp, hs, rfl⟩ := h
  exact sx_seq1 (sx_drop (ev_call (ea_cons (ev_var rfl) (ea_cons (ev_var rfl) (ea_cons (ev_var rfl) ea_nil))) ⟨p, b, s, rfl, hp, hs, rfl⟩))
      (sx_ret (ev_call (ea_cons (ev_var rfl) (ea_cons (ev_var rfl) (ea_cons (ev_var rfl) ea_nil))) ⟨p, b, s, rfl, hp, hs, rfl⟩) rfl)
theorem ok_surely_comes {f : Addr} {fd : FuncData} (F : L2.Fun K "surely_comes" "surely_comes" (topS 50) f fd) (T : Txt K mg C) (c_check_seating : C8.Cal P w K mg base 4 "check_seating" (spD K C m_check_seating) []) (c_is_sure : C8.Cal P w K mg base 3 "is_sure" (spD K C m_is_sure) []) :
    FnOk P w K mg base CX0 5 f fd ["counts", "word", "seating"] (spD K C m_surely_comes) := by
  have sc : FnScope ["counts", "word", "seating"] ["counts", "word", "seating"] (defScope (topS 50)) := C8.fnScope_by (by decide +kernel)
  have nd := sc.nd
  refine okD F sc (fun as a h => by obtain ⟨p, b, s, rfl, hp, hs, rfl⟩ := h; rfl) fun cdv A outer s H E hr => ⟨_, (pss_cons (ps_expr (C8.pe_c c_check_seating hr (by decide) (by rfl) (pa_cons (pv 0) (pa_cons (pv 1) (pa_cons (pv 2) pa_nil)))))
      (pss_one (ps_ret (C8.pe_c c_is_sure hr (by decide) (by rfl) (pa_cons (pv 0) (pa_cons (pv 1) (pa_cons (pv 2) pa_nil))))))), fun as a h => ?_⟩
  obtain ⟨p, b, s, rfl, hp, hs, rfl⟩ := h
  exact sx_seq1 (sx_drop (ev_call (ea_cons (ev_var rfl) (ea_cons (ev_var rfl) (ea_cons (ev_var rfl) ea_nil))) ⟨p, b, s, rfl, hp, hs, rfl⟩))
      (sx_ret (ev_call (ea_cons (ev_var rfl) (ea_cons (ev_var rfl) (ea_cons (ev_var rfl) ea_nil))) ⟨p, b, s, rfl, hp, hs, rfl⟩) rfl)
theorem ok_price {f : Addr} {fd : FuncData} (F : L2.Fun K "price" "price" (topS 51) f fd) (T : Txt K mg C) (c_check_seating : C8.Cal P w K mg base 4 "check_seating" (spD K C m_check_seating) []) (c_worths_of : C8.Cal P w K mg base 4 "worths_of" (spD K C m_worths_of) []) (c_is_less : C8.Cal P w K mg base 1 "is_less" (spD K C m_is_less) []) (c_lowest : C8.Cal P w K mg base 2 "lowest" (spD K C m_lowest) []) :
    FnOk P w K mg base CX0 5 f fd ["counts", "word", "seating"] (spD K C m_price) := by
  have sc : FnScope ["counts", "word", "seating", "most", "least"] ["counts", "word", "seating"] (defScope (topS 51)) := C8.fnScope_by (by decide +kernel)
  have nd := sc.nd
  refine okD F sc (fun as a h => by obtain ⟨p, b, s, rfl, hp, hs, rfl⟩ := h; rfl) fun cdv A outer s H E hr => ⟨_, (pss_cons (ps_expr (C8.pe_c c_check_seating hr (by decide) (by rfl) (pa_cons (pv 0) (pa_cons (pv 1) (pa_cons (pv 2) pa_nil)))))
      (pss_cons (ps_asg (C8.pe_c c_worths_of hr (by decide) (by rfl) (pa_cons (pv 0) (pa_cons (pv 1) (pa_cons (pv 2) pa_nil)))) (pg_tup rfl (pgs_cons (pg_name (i := 3) nd rfl (Or.inl rfl)) (pgs_cons (pg_name (i := 4) nd rfl (Or.inl rfl)) pgs_nil))))
      (pss_one (ps_ret (pe_ifExp (pt_val (C8.pe_c c_is_less hr (by decide) (by rfl) (pa_cons (pv 4) (pa_cons (pv 3) pa_nil)))) pe_non (C8.pe_c c_lowest hr (by decide) (by rfl) (pa_cons (pe_ix ix_tup (pv 3) pe_int (fun _ _ => rfl)) (pa_cons (pe_ix ix_tup (pv 3) pe_int (fun _ _ => rfl)) pa_nil)))))))), fun as a h => ?_⟩
  obtain ⟨p, b, s, rfl, hp, hs, rfl⟩ := h
  have hg := lohi hp (gnF p b s p.length)
  have e1 : lo p (gnF p b s p.length) = ((prTop p b s : Nat) : Int) := by unfold prTop; omega
  have h3 := dv_le b (st s (gnF p b s p.length) + 1) (by have := st_le s (gnF p b s p.length); have := hs.le; omega)
  have h4 := Ap.dv_pos b (st s (gnF p b s p.length) + 1) (by omega)
  have e2 : Ap.dv b (st s (gnF p b s p.length) + 1) = ((prBot p b s : Nat) : Int) := by unfold prBot; omega
  have hb : 0 < prBot p b s ∧ prBot p b s < 1000000 := by
    have := st_le s (gnF p b s p.length)
    have := hs.le
    unfold prBot Ap.dv
    split <;> omega
  refine sx_seq1 (sx_drop (ev_call (ea_cons (ev_var rfl) (ea_cons (ev_var rfl) (ea_cons (ev_var rfl) ea_nil))) ⟨p, b, s, rfl, hp, hs, rfl⟩))
      (sx_seq1 (sx_asg (vs := List.range 40) (ev_call (ea_cons (ev_var rfl) (ea_cons (ev_var rfl) (ea_cons (ev_var rfl) ea_nil))) ⟨p, b, s, rfl, hp, hs, rfl⟩) (ge_tup rfl (ges_cons (ge_name (by decide)) (ges_cons (ge_name (by decide)) ges_nil))) (fun _ h => h))
      (sx_ret (a := .d (priceD p b s)) (ev_if (et_B (ev_call (ea_cons (ev_var rfl) (ea_cons (ev_var rfl) ea_nil)) ⟨_, _, _, _, rfl, sm_hi hp _, sm_lo hp _, rfl⟩)) (fun h => ev_is ev_non ?_) (fun h => (ev_call (ea_cons (ev_op (ev_var rfl) ev_int (ix_T rfl)) (ea_cons (ev_op (ev_var rfl) ev_int (ix_T rfl)) ea_nil)) ⟨prTop p b s, prBot p b s, by rw [e1, e2], hb.1, hb.2, ?_⟩))) rfl))
  · unfold priceD comesB
    rw [h]
    rfl
  · unfold priceD comesB
    rw [h]
    rfl
theorem ok_barring_names {f : Addr} {fd : FuncData} (F : L2.Fun K "barring_names" "barring_names" (topS 52) f fd) (T : Txt K mg C) (c_check_seating : C8.Cal P w K mg base 4 "check_seating" (spD K C m_check_seating) []) (c_comes : C8.Cal P w K mg base 5 "comes" (spD K C m_comes) []) (c_Cnames : PCal P w K mg base 1 C "names" (spD K C m_Cnames)) (c_greatest_next : C8.Cal P w K mg base 3 "greatest_next" (spD K C m_greatest_next) []) (c_least_last : C8.Cal P w K mg base 3 "least_last" (spD K C m_least_last) []) :
    FnOk P w K mg base CX0 6 f fd ["counts", "word", "seating"] (spD K C m_barring_names) := by
  have sc : FnScope ["counts", "word", "seating"] ["counts", "word", "seating"] (defScope (topS 52)) := C8.fnScope_by (by decide +kernel)
  have nd := sc.nd
  refine okD F sc (fun as a h => by obtain ⟨p, b, s, rfl, hp, hs, rfl⟩ := h; rfl) fun cdv A outer s H E hr => ⟨_, (pss_cons (ps_expr (C8.pe_c c_check_seating hr (by decide) (by rfl) (pa_cons (pv 0) (pa_cons (pv 1) (pa_cons (pv 2) pa_nil)))))
      (pss_cons (ps_if (pt_val (C8.pe_c c_comes hr (by decide) (by rfl) (pa_cons (pv 0) (pa_cons (pv 1) (pa_cons (pv 2) pa_nil))))) (pss_one (ps_ret pe_non)) pss_nil)
      (pss_one (ps_ret (pe_tup (pa_cons (pe_ix ix_tup (pe_pc c_Cnames hr (by decide) (pv 0) rfl) (C8.pe_c c_least_last hr (by decide) (by rfl) (pa_cons (pv 0) (pa_cons (pv 1) (pa_cons (pv 2) pa_nil)))) (fun _ _ => rfl)) (pa_cons (pe_ix ix_tup (pe_pc c_Cnames hr (by decide) (pv 0) rfl) (C8.pe_c c_greatest_next hr (by decide) (by rfl) (pa_cons (pv 0) (pa_cons (pv 1) (pa_cons (pv 2) pa_nil)))) (fun _ _ => rfl)) pa_nil))))))), fun as a h => ?_⟩
  obtain ⟨p, b, s, rfl, hp, hs, rfl⟩ := h
  have l2 := hp.len2
  have ls := hs.len
  have hg := gnF_lt p b s (n := p.length) (by omega) p.length (Nat.le_refl _)
  have hl := (mem_somes.mp (llF_mem (p := p) (b := b) hs.pos)).1
  refine sx_seq1 (sx_drop (ev_call (ea_cons (ev_var rfl) (ea_cons (ev_var rfl) (ea_cons (ev_var rfl) ea_nil))) ⟨p, b, s, rfl, hp, hs, rfl⟩))
      (sx_seq (N' := fun r => r = [.v (.c (dPoll p)), .v (.d (.str (wd b))), .v (.d (dN s))] ∧ comesB p b s = false) (sx_if (et_B (ev_call (ea_cons (ev_var rfl) (ea_cons (ev_var rfl) (ea_cons (ev_var rfl) ea_nil))) ⟨p, b, s, rfl, hp, hs, rfl⟩)) (fun h => (sx_ret ev_non ?_)) (fun h => sx_mono sx_next fun r e => ⟨e, h⟩)) ?_)
  · show Dt.A.d .none = .d (barD p b s)
    unfold barD
    rw [h]
    rfl
  · rintro _ ⟨rfl, h⟩
    refine sx_ret (ev_tup (ds := [_, _]) (ea_cons (ev_op (ev_prop (ev_var rfl) ⟨p, rfl, hp, rfl⟩) (ev_call (ea_cons (ev_var rfl) (ea_cons (ev_var rfl) (ea_cons (ev_var rfl) ea_nil))) ⟨p, b, s, rfl, hp, hs, rfl⟩) (ix_t (atI_nat (nm_get (by omega))))) (ea_cons (ev_op (ev_prop (ev_var rfl) ⟨p, rfl, hp, rfl⟩) (ev_call (ea_cons (ev_var rfl) (ea_cons (ev_var rfl) (ea_cons (ev_var rfl) ea_nil))) ⟨p, b, s, rfl, hp, hs, rfl⟩) (ix_t (atI_nat (nm_get hg)))) ea_nil)) (by simp)) ?_
    show _ = Dt.A.d (barD p b s)
    unfold barD
    rw [h]
    rfl
theorem ok_span {f : Addr} {fd : FuncData} (F : L2.Fun K "span" "span" (topS 53) f fd) (T : Txt K mg C) (c_known_seatings : C8.Cal P w K mg base 6 "known_seatings" (spD K C m_known_seatings) []) (c_Cnames : PCal P w K mg base 1 C "names" (spD K C m_Cnames)) :
    FnOk P w K mg base CX0 7 f fd ["counts", "seats", "word", "name"] (spD K C m_span) := by
  have sc : FnScope ["counts", "seats", "word", "name", "known", "own", "seating"] ["counts", "seats", "word", "name"] (defScope (topS 53)) := C8.fnScope_by (by decide +kernel)
  have nd := sc.nd
  refine okD F sc (fun as a h => by obtain ⟨p, b, T, k, mn, mx, rfl, hp, h1, h2, hk, hmn, hmx, rfl⟩ := h; rfl) fun cdv A outer s H E hr => ⟨_, (pss_cons (ps_set (i := 4) nd rfl (Or.inl rfl) (C8.pe_c c_known_seatings hr (by decide) (by rfl) (pa_cons (pv 0) (pa_cons (pv 1) (pa_cons (pv 2) pa_nil)))))
      (pss_cons (ps_if (PW.pt (pw_or (pt_not (pt_val (pe_callB call_isi (by rfl) T.b_isinstance (by decide +kernel) (pa_cons (pv 3) (pa_cons (pe_bltn (v := .ty "str") (u := .type "str") (by rfl) T.b_str (by decide +kernel) rfl) pa_nil))))) (pw_or1 (pt_cmpR op_notIn_seq (pv 3) (pe_pc c_Cnames hr (by decide) (pv 0) rfl) (by rfl))))) (pss_one ps_never) pss_nil)
      (pss_cons (ps_setLc (i := 5) (own := [("seating", 6)]) rfl nd rfl rfl (sw_true rfl rfl rfl (by decide +kernel)) (pi_list (pv 4)) (blkOk_by (N := ["counts", "seats", "word", "name", "known", "own", "seating"]) (sc := defScope (topS 53)) (by decide +kernel)) (fun _ _ _ _ _ => (pg_name (i := 6) nd rfl (Or.inl rfl))) (fun _ _ _ _ _ => pts_nil) (fun _ _ _ _ _ => (pe_ix (ix_tupK (K := K) rfl) (pv 6) (Ru.pe_tm PySem.F.plainAttrs_tuple PySem.F.slot_tuple_index PySem.F.type_tuple_index (mt_tup_indexK (K := K) rfl) (pe_pc c_Cnames hr (by decide) (pv 0) rfl) (pv 3)) (fun _ _ => rfl))))
      (pss_one (ps_ret (pe_tup (pa_cons (pe_callB (cr_min rfl) (by rfl) T.b_min (by decide +kernel) (pa_cons (pv 5) pa_nil)) (pa_cons (pe_callB (cr_max rfl) (by rfl) T.b_max (by decide +kernel) (pa_cons (pv 5) pa_nil)) pa_nil)))))))), fun as a h => ?_⟩
  obtain ⟨p, b, T, k, mn, mx, rfl, hp, h1, h2, hk, hmn, hmx, rfl⟩ := h
  have l2 := hp.len2
  have l4 := hp.len4
  have hS : ∀ s ∈ knownB p b T, OkS p s := fun s hs => knownS hp h1 h2 (List.mem_filter.mp hs).1
  have hlen : (knownB p b T).length ≤ 1000 := Nat.le_trans (List.length_filter_le _ _) (en_len (p.length - 1) (by omega) T (by omega))
  refine sx_seq1 (sx_set (ev_call (ea_cons (ev_var rfl) (ea_cons (ev_var rfl) (ea_cons (ev_var rfl) ea_nil))) ⟨p, b, T, rfl, hp, h1, h2, rfl⟩))
      (sx_seq1 (sx_ifF (et_is (et_or (et_not (et_B (ev_isi (ev_var rfl) k_ss))) fun _ => (et_test (ev_op (ev_var rfl) (ev_prop (ev_var rfl) ⟨p, rfl, hp, rfl⟩) op_inT))) ?_) sx_next)
      (sx_seq1 (sx_set (ev_is (ev_lc (knownB p b T) dN (fun s => .int (st s k : Nat)) (fun _ => true) (it_list (ev_l (ev_var rfl))) (by omega)
        fun y hy => ⟨_, (ge_name (by decide)), et_yes, fun hp' => (ev_op (ev_var rfl) (ev_tindex (ev_prop (ev_var rfl) ⟨p, rfl, hp, rfl⟩) (ev_var rfl) (nm_get hk) (fun m hm => nm_ne hp hk hm)) (ix_T (atS (by have := (hS y hy).len; omega))))⟩) (b := .l (((knownB p b T).map fun s => ((st s k : Nat) : Int)).map .int)) ?_))
      (sx_ret (ev_tup (ds := [_, _]) (ea_cons (ev_cb (ea_cons (ev_l (ev_var rfl)) ea_nil) (cd_min (m := mn) ?_ ?_)) (ea_cons (ev_cb (ea_cons (ev_l (ev_var rfl)) ea_nil) (cd_max (m := mx) ?_ ?_)) ea_nil)) (by simp)) rfl)))
  · rw [inV_of (List.mem_of_getElem? (nm_get hk))]
    rfl
  · rw [filter_tt, List.map_map]
    rfl
  · obtain ⟨s, hs, e⟩ := List.mem_map.mp hmn.1
    exact List.mem_map.mpr ⟨s, hs, by rw [e]⟩
  · intro y hy
    obtain ⟨s, hs, rfl⟩ := List.mem_map.mp hy
    have := hmn.2 s hs
    omega
  · obtain ⟨s, hs, e⟩ := List.mem_map.mp hmx.1
    exact List.mem_map.mpr ⟨s, hs, by rw [e]⟩
  · intro y hy
    obtain ⟨s, hs, rfl⟩ := List.mem_map.mp hy
    have := hmx.2 s hs
    omega
theorem ok_sure_seats {f : Addr} {fd : FuncData} (F : L2.Fun K "sure_seats" "sure_seats" (topS 54) f fd) (T : Txt K mg C) (c_known_seatings : C8.Cal P w K mg base 6 "known_seatings" (spD K C m_known_seatings) []) (c_C__len__ : LCal P w K mg base 1 C (spD K C m_Clen)) :
    FnOk P w K mg base CX0 7 f fd ["counts", "seats", "word"] (spD K C m_sure_seats) := by
  have sc : FnScope ["counts", "seats", "word", "known", "at", "seating"] ["counts", "seats", "word"] (defScope (topS 54)) := C8.fnScope_by (by decide +kernel)
  have nd := sc.nd
  refine okD F sc (fun as a h => by obtain ⟨p, b, T, mn, rfl, hp, h1, h2, hmn, rfl⟩ := h; rfl) fun cdv A outer s H E hr => ⟨_, (pss_cons (ps_set (i := 3) nd rfl (Or.inr rfl) (C8.pe_c c_known_seatings hr (by decide) (by rfl) (pa_cons (pv 0) (pa_cons (pv 1) (pa_cons (pv 2) pa_nil)))))
      (pss_one (ps_ret (pe_callB (cr_sum rfl) (by rfl) T.b_sum (by decide +kernel) (pa_cons (pe_lc (own := [("at", 4)]) rfl nd (pi_range1 rfl T.b_range (pa_cons (pe_callB (c_C__len__.rule hr (by decide)) (by rfl) T.b_len (by decide +kernel) (pa_cons (pv 0) pa_nil)) pa_nil)) (blkOk_by (N := ["counts", "seats", "word", "known", "at", "seating"]) (sc := defScope (topS 54)) (by decide +kernel)) (fun _ _ _ _ _ => (pg_name (i := 4) nd rfl (Or.inr rfl))) (fun _ _ _ _ _ => pts_nil) (fun _ _ _ _ _ => (pe_callB ((cr_minK (K := K) rfl) rfl) (by rfl) T.b_min (by decide +kernel) (pa_cons (pe_lc (own := [("seating", 5)]) rfl nd ((pi_listK (K := K) rfl) (pv 3)) (blkOk_by (N := ["counts", "seats", "word", "known", "at", "seating"]) (sc := scOut) (scope := scIn) (own := [("seating", 5)]) (by decide +kernel)) (fun _ _ _ _ _ => (pg_name (i := 5) nd rfl (Or.inl rfl))) (fun _ _ _ _ _ => pts_nil) (fun _ _ _ _ _ => (pe_ix (ix_tupK (K := K) rfl) (pv 5) (pv 4) (fun _ _ => rfl)))) pa_nil)))) pa_nil))))), fun as a h => ?_⟩
  obtain ⟨p, b, T, mn, rfl, hp, h1, h2, hmn, rfl⟩ := h
  have l2 := hp.len2
  have l4 := hp.len4
  have hS : ∀ s ∈ knownB p b T, OkS p s := fun s hs => knownS hp h1 h2 (List.mem_filter.mp hs).1
  have hlen : (knownB p b T).length ≤ 1000 := Nat.le_trans (List.length_filter_le _ _) (en_len (p.length - 1) (by omega) T (by omega))
  have er : rng 0 ((p.length : Nat) : Int).toNat = (List.range p.length).map fun i => PyData.int (i : Nat) := by
    unfold rng
    rw [Int.toNat_natCast]
    exact List.map_congr_left fun i _ => by rw [Int.zero_add]
  refine sx_seq1 (sx_set (ev_call (ea_cons (ev_var rfl) (ea_cons (ev_var rfl) (ea_cons (ev_var rfl) ea_nil))) ⟨p, b, T, rfl, hp, h1, h2, rfl⟩))
      (sx_ret (ev_cb (ea_cons (ev_l (ev_is (ev_lc (List.range p.length) (fun i => PyData.int (i : Nat)) (fun k => .int (mn k : Nat)) (fun _ => true) (it_is (it_rng1 (ea_cons (ev_cb (ea_cons (ev_var rfl) ea_nil) (cd_lenO (n := (p.length : Nat)) ⟨p, rfl, rfl⟩ (by omega) (by omega))) ea_nil) (by omega) (by omega)) er) (by rw [List.length_range]; omega)
        fun k hk => ⟨_, (ge_name (by decide)), et_yes, fun _ => (ev_cb (ea_cons (ev_l (ev_is (ev_lc (knownB p b T) dN (fun s => .int (st s k : Nat)) (fun _ => true) (it_list (ev_l (ev_var rfl))) (by omega) fun y hy => ⟨_, (ge_name (by decide)), et_yes, fun hp' => (ev_op (ev_var rfl) (ev_var rfl) (ix_T (atS (by have := (hS y hy).len; have := List.mem_range.mp hk; omega))))⟩)
          (b := .l (((knownB p b T).map fun s => ((st s k : Nat) : Int)).map .int)) ?_)) ea_nil) (cd_min ?_ ?_))⟩) (b := .l (((List.range p.length).map fun k => ((mn k : Nat) : Int)).map .int)) ?_)) ea_nil) cd_sum) rfl)
  · rw [filter_tt, List.map_map]
    rfl
  · obtain ⟨s, hs, e⟩ := List.mem_map.mp (hmn k (List.mem_range.mp hk)).1
    exact List.mem_map.mpr ⟨s, hs, by rw [e]⟩
  · intro y hy
    obtain ⟨s, hs, rfl⟩ := List.mem_map.mp hy
    have := (hmn k (List.mem_range.mp hk)).2 s hs
    omega
  · rw [filter_tt, List.map_map]
    rfl
end
end Dt
end
section
set_option Elab.async false
set_option linter.all false
set_option maxRecDepth 100000
namespace Dt
open PySem PySem.Spec PyProof.Rows L2
/-! ### data without bools: equality as of data -/
def okd : Nat → D → Bool
  | _, .none => true
  | _, .int _ => true
  | _, .str x => PyData.strOk x
  | n + 1, .list xs => xs.all (okd n)
  | n + 1, .tuple xs => xs.all (okd n)
  | _, _ => false
theorem layAll : ∀ (n : Nat) (xs : List D), (∀ x ∈ xs, x.canLay0 = true ∧ x.depth ≤ n) → PyData.canLayAll0 xs = true ∧ PyData.depthAll xs ≤ n
  | n, [], _ => ⟨by simp only [PyData.canLayAll0], by simp only [PyData.depthAll]; omega⟩
  | n, x :: xs, h => by
    obtain ⟨h1, h2⟩ := h x List.mem_cons_self
    obtain ⟨h3, h4⟩ := layAll n xs fun y hy => h y (List.mem_cons_of_mem _ hy)
    refine ⟨by simp only [PyData.canLayAll0, h1, h3, Bool.and_self], ?_⟩
    simp only [PyData.depthAll]
    omega
theorem okd_lay : ∀ (n : Nat) (x : D), okd n x = true → x.canLay0 = true ∧ x.depth ≤ n
  | _, .none, _ => ⟨by simp only [PyData.canLay0], by simp only [PyData.depth]; omega⟩
  | _, .int _, _ => ⟨by simp only [PyData.canLay0], by simp only [PyData.depth]; omega⟩
  | n, .str x, h => by
    have h' : PyData.strOk x = true := by cases n <;> exact h
    exact ⟨by simp only [PyData.canLay0, h'], by simp only [PyData.depth]; omega⟩
  | n + 1, .list xs, h => by
    have h' : xs.all (okd n) = true := h
    obtain ⟨h1, h2⟩ := layAll n xs fun x hx => okd_lay n x (List.all_eq_true.mp h' x hx)
    exact ⟨by simp only [PyData.canLay0, h1], by simp only [PyData.depth]; omega⟩
  | n + 1, .tuple xs, h => by
    have h' : xs.all (okd n) = true := h
    obtain ⟨h1, h2⟩ := layAll n xs fun x hx => okd_lay n x (List.all_eq_true.mp h' x hx)
    exact ⟨by simp only [PyData.canLay0, h1], by simp only [PyData.depth]; omega⟩
  | 0, .list _, h => by cases h
  | 0, .tuple _, h => by cases h
  | 0, .bool _, h => by cases h
  | _ + 1, .bool _, h => by cases h
  | 0, .dict _, h => by cases h
  | _ + 1, .dict _, h => by cases h
theorem okd_sh {n : Nat} {x : D} (h : okd n x = true) (hn : n ≤ 64) : SeqAt.shaped x = true := by
  obtain ⟨h1, h2⟩ := okd_lay n x h
  unfold SeqAt.shaped
  rw [h1, decide_eq_true (show x.depth ≤ 64 by omega)]
  rfl
theorem eqvAll_iff (n : Nat) (ih : ∀ x y : D, okd n x = true → okd n y = true → (PyData.eqv x y = true ↔ x = y)) : ∀ (xs ys : List D), xs.all (okd n) = true → ys.all (okd n) = true → (PyData.eqvAll xs ys = true ↔ xs = ys)
  | [], [], _, _ => by simp [PyData.eqvAll]
  | [], _ :: _, _, _ => by simp [PyData.eqvAll]
  | _ :: _, [], _, _ => by simp [PyData.eqvAll]
  | x :: xs, y :: ys, h1, h2 => by
    rw [List.all_cons, Bool.and_eq_true] at h1 h2
    have a := ih x y h1.1 h2.1
    have b := eqvAll_iff n ih xs ys h1.2 h2.2
    simp only [PyData.eqvAll, Bool.and_eq_true, a, b, List.cons.injEq]
theorem okd_eqv : ∀ (n : Nat) (x y : D), okd n x = true → okd n y = true → (PyData.eqv x y = true ↔ x = y) := by
  intro n
  induction n with
  | zero =>
    intro x y h1 h2
    cases x <;> cases y <;> first
      | (simp only [okd] at h1; exact absurd h1 (by decide))
      | (simp only [okd] at h2; exact absurd h2 (by decide))
      | (simp [PyData.eqv]; done)
  | succ n ih =>
    intro x y h1 h2
    cases x <;> cases y <;> first
      | (simp only [okd] at h1; exact absurd h1 (by decide))
      | (simp only [okd] at h2; exact absurd h2 (by decide))
      | (simp [PyData.eqv]; done)
      | (rename_i xs ys
         have a := eqvAll_iff n ih xs ys h1 h2
         simp only [PyData.eqv, a, PyData.list.injEq, PyData.tuple.injEq])
theorem eqv_t {n : Nat} {x y : D} (h : okd n x = true) (e : x = y) : PyData.eqv x y = true := (okd_eqv n x y h (e ▸ h)).mpr e
theorem eqv_f {n : Nat} {x y : D} (h1 : okd n x = true) (h2 : okd n y = true) (e : x ≠ y) : PyData.eqv x y = false := Bool.eq_false_iff.mpr fun z => e ((okd_eqv n x y h1 h2).mp z)
theorem okd_tI (n : Nat) (ns : List Int) : okd (n + 1) (tI ns) = true := by
  show (ns.map PyData.int).all (okd n) = true
  rw [List.all_map]
  exact List.all_eq_true.mpr fun i _ => by cases n <;> rfl
theorem okd_l (n : Nat) {xs : List D} (h : ∀ x ∈ xs, okd n x = true) : okd (n + 1) (.list xs) = true := List.all_eq_true.mpr h
theorem okd_t (n : Nat) {xs : List D} (h : ∀ x ∈ xs, okd n x = true) : okd (n + 1) (.tuple xs) = true := List.all_eq_true.mpr h
theorem okd_rows (n : Nat) {α : Type} (rows : List α) (f : α → List Int) : okd (n + 2) (.list (rows.map fun r => tI (f r))) = true := okd_l (n + 1) fun x hx => by
  obtain ⟨r, _, rfl⟩ := List.mem_map.mp hx
  exact okd_tI n _
theorem tI_inj {xs ys : List Int} (h : tI xs = tI ys) : xs = ys := by
  unfold tI at h
  have h2 := PyData.tuple.inj h
  exact (List.map_inj_right (fun _ _ e => PyData.int.inj e)).mp h2
theorem ci_inj {s t : List Nat} (h : ci s = ci t) : s = t := by
  unfold ci at h
  exact (List.map_inj_right (fun _ _ e => Int.ofNat.inj e)).mp h
theorem dN_inj {s t : List Nat} (h : dN s = dN t) : s = t := ci_inj (tI_inj h)
theorem okd_N (n : Nat) (s : List Nat) : okd (n + 1) (dN s) = true := okd_tI n _
/-- s in rows -/
theorem any_rows {rows : List (List Nat)} {s : List Nat} : ((rows.map dN).any fun z => PyData.eqv z (dN s)) = decide (s ∈ rows) := by
  rw [List.any_map]
  by_cases h : s ∈ rows
  · rw [decide_eq_true h]
    exact List.any_eq_true.mpr ⟨s, h, eqv_t (okd_N 0 s) rfl⟩
  · rw [decide_eq_false h]
    refine Bool.eq_false_iff.mpr fun z => ?_
    obtain ⟨t, h1, h2⟩ := List.any_eq_true.mp z
    have := dN_inj ((okd_eqv 1 (dN t) (dN s) (okd_N 0 t) (okd_N 0 s)).mp h2)
    exact h (this ▸ h1)
/-! ### walks, lengths -/
theorem rng_N (n : Nat) : rng 0 ((n : Nat) : Int).toNat = (List.range n).map fun i => PyData.int (i : Nat) := by
  unfold rng
  rw [Int.toNat_natCast]
  exact List.map_congr_left fun i _ => by rw [Int.zero_add]
theorem rangeD_get {n i : Nat} {x : D} (h : ((List.range n).map fun i => PyData.int (i : Nat))[i]? = some x) : i < n ∧ x = .int (i : Nat) := by
  obtain ⟨a, ha, rfl⟩ := map_get h
  obtain ⟨h1, h2⟩ := List.getElem?_eq_some_iff.mp ha
  rw [List.length_range] at h1
  rw [List.getElem_range] at h2
  subst h2
  exact ⟨h1, rfl⟩
theorem rangeD_len (n : Nat) : ((List.range n).map fun i => PyData.int (i : Nat)).length = n := by rw [List.length_map, List.length_range]
/-- ints, in a tuple or a list -/
def dNum (l : Bool) (xs : List Int) : D := if l then .list (xs.map .int) else .tuple (xs.map .int)
section
variable {K : PySem.W.Frag} {C : Addr} {ρ : List E} {te ta : TE} {ts : TA}
theorem it_rngN {n : Nat} (h : EvA K C ts ρ [.d (.int n)]) (hn : n ≤ 1000000) : ItE K C (iRng1 ts) ρ ((List.range n).map fun i => PyData.int (i : Nat)) := it_is (it_rng1 h (by omega) (by omega)) (rng_N n)
theorem ev_lenN {s : List Nat} (h : EvE K C te ρ (.d (dN s))) : EvE K C (tCB (rLenQ K) (tCons te tNil)) ρ (.d (.int (s.length : Nat))) := by
  refine ev_is (ev_cb (ea_cons h ea_nil) cd_lenT) ?_
  unfold ci
  rw [List.length_map, List.length_map]
theorem ev_lenP {p : Poll} (h : EvE K C te ρ (.d (dPoll p))) : EvE K C (tCB (rLenQ K) (tCons te tNil)) ρ (.d (.int (p.length : Nat))) := by
  refine ev_is (ev_cb (ea_cons h ea_nil) cd_lenT) ?_
  rw [List.length_map]
theorem ev_lenA {l : Bool} {xs : List Int} (h : EvE K C te ρ (.d (dNum l xs))) : EvE K C (tCB (rLenQ K) (tCons te tNil)) ρ (.d (.int (xs.length : Nat))) := by
  cases l with
  | true =>
    refine ev_is (ev_cb (ea_cons h ea_nil) cd_lenL) ?_
    rw [List.length_map]
  | false =>
    refine ev_is (ev_cb (ea_cons h ea_nil) cd_lenT) ?_
    rw [List.length_map]
def rIxA (K : PySem.W.Frag) : R2 := fun x y H Q => rIxT K x y H Q ∨ rIxL K x y H Q
theorem ix_any {X : Cx} : IxR X (rIxA X.K) := fun a b pins s σ H x y v u Q I rx ry h hs => h.elim (fun q => ix_tup a b pins s σ H x y v u Q I rx ry q hs) fun q => ix_list a b pins s σ H x y v u Q I rx ry q hs
theorem ix_anyK {X : Cx} (h : X.K = K) : IxR X (rIxA K) := h ▸ ix_any
theorem ix_A {l : Bool} {xs : List Int} {i : Int} {x : D} (h : atI (xs.map PyData.int) i = some x) : OpD K C (rIxA K) (.d (dNum l xs)) (.d (.int i)) (.d x) := by
  cases l with
  | true => exact fun S H v w s hv hw Q q => .inr (ix_L h S H v w s hv hw Q q)
  | false => exact fun S H v w s hv hw Q q => .inl (ix_T h S H v w s hv hw Q q)
end
theorem atX {xs : List Int} {j : Nat} (h : j < xs.length) : atI (xs.map PyData.int) (j : Int) = some (.int (xs.getD j 0)) := by
  refine atI_nat ?_
  rw [List.getElem?_map, List.getElem?_eq_getElem h, List.getD_eq_getElem?_getD, List.getElem?_eq_getElem h]
  rfl
theorem cutD_len (xs : List D) (lo hi : Option Int) : (cutD xs lo hi).length ≤ xs.length := by
  unfold cutD
  rw [List.length_take, List.length_drop]
  omega
/-! ### mirrors -/
def fstB (xs : List Int) (b : Bool) (row : List Nat) (k : Nat) : Bool := (List.range row.length).all fun j => !decide (xs.getD k 0 * Ap.dv b (st row j + 1) < xs.getD j 0 * Ap.dv b (st row k + 1))
def bump (row : List Nat) (k : Nat) : List Nat := row.take k ++ [st row k + 1] ++ row.drop (k + 1)
def keyN (r : List Nat) : Int := TS.code 64 (ci r)
def wide (xs : List Int) (b : Bool) (row : List Nat) : List (List Nat) := ((List.range row.length).filter (fstB xs b row)).map (bump row)
def gRows (xs : List Int) (b : Bool) : Nat → List (List Nat)
  | 0 => [List.replicate xs.length 0]
  | t + 1 => srtK keyN ((gRows xs b t).flatMap (wide xs b))
theorem bump_len {row : List Nat} {k : Nat} (h : k < row.length) : (bump row k).length = row.length := by
  unfold bump
  simp only [List.length_append, List.length_take, List.length_drop, List.length_cons, List.length_nil]
  omega
theorem sum_split (row : List Nat) (k : Nat) (h : k < row.length) : row.sum = (row.take k).sum + st row k + (row.drop (k + 1)).sum := by
  have e1 : row = row.take k ++ row.drop k := (List.take_append_drop k row).symm
  have e2 : row.drop k = st row k :: row.drop (k + 1) := by
    rw [st_get h]
    exact List.drop_eq_getElem_cons h
  have e3 : row.sum = (row.take k ++ row.drop k).sum := congrArg List.sum e1
  rw [e3, List.sum_append, e2, List.sum_cons]
  omega
theorem bump_sum {row : List Nat} {k : Nat} (h : k < row.length) : (bump row k).sum = row.sum + 1 := by
  rw [sum_split row k h]
  unfold bump
  rw [List.sum_append, List.sum_append, List.sum_cons, List.sum_nil]
  omega
theorem wide_of {xs : List Int} {b : Bool} {row r : List Nat} (h : r ∈ wide xs b row) : r.length = row.length ∧ r.sum = row.sum + 1 := by
  unfold wide at h
  obtain ⟨k, hk, rfl⟩ := List.mem_map.mp h
  have := List.mem_range.mp (List.mem_filter.mp hk).1
  exact ⟨bump_len this, bump_sum this⟩
theorem sum_rep0 : ∀ n : Nat, (List.replicate n 0).sum = 0
  | 0 => rfl
  | n + 1 => by rw [List.replicate_succ, List.sum_cons, sum_rep0 n]
theorem gRows_of {xs : List Int} {b : Bool} : ∀ {t : Nat} {r : List Nat}, r ∈ gRows xs b t → r.length = xs.length ∧ r.sum = t
  | 0, r, h => by
    have e : r = List.replicate xs.length 0 := List.mem_singleton.mp h
    rw [e]
    exact ⟨List.length_replicate, sum_rep0 _⟩
  | t + 1, r, h => by
    obtain ⟨row, h1, h2⟩ := List.mem_flatMap.mp (srtK_mem keyN _ r h)
    have a := gRows_of h1
    have c := wide_of h2
    omega
theorem wide_len (xs : List Int) (b : Bool) (row : List Nat) : (wide xs b row).length ≤ row.length := by
  unfold wide
  rw [List.length_map]
  have := List.length_filter_le (fstB xs b row) (List.range row.length)
  rw [List.length_range] at this
  exact this
theorem gRows_len (xs : List Int) (b : Bool) : ∀ t : Nat, (gRows xs b t).length ≤ xs.length ^ t ∧ ((gRows xs b t).flatMap (wide xs b)).length ≤ xs.length ^ (t + 1)
  | t => by
    have key : ∀ t, (gRows xs b t).length ≤ xs.length ^ t → ((gRows xs b t).flatMap (wide xs b)).length ≤ xs.length ^ (t + 1) := fun t h => by
      have h1 := flatMap_len (wide xs b) xs.length (gRows xs b t) fun r hr => by
        have := wide_len xs b r
        have := (gRows_of hr).1
        omega
      rw [Nat.pow_succ]
      exact Nat.le_trans h1 (Nat.mul_le_mul_right _ h)
    have all : ∀ t, (gRows xs b t).length ≤ xs.length ^ t := by
      intro t
      induction t with
      | zero => simp [gRows]
      | succ t ih => exact Nat.le_trans (srtK_len keyN _) (key t ih)
    exact ⟨all t, key t (all t)⟩
theorem srtK_map {α β : Type} (f : α → β) (key : β → Int) : ∀ l : List α, srtK key (l.map f) = (srtK (fun a => key (f a)) l).map f
  | [] => rfl
  | x :: r => by
    have ins : ∀ l : List α, insK key (f x) (l.map f) = (insK (fun a => key (f a)) x l).map f := by
      intro l
      induction l with
      | nil => rfl
      | cons y l ih =>
        rw [List.map_cons]
        unfold insK
        rw [ih]
        split
        · rfl
        · split
          · rfl
          · rfl
    show insK key (f x) (srtK key (r.map f)) = _
    rw [srtK_map f key r, ins]
    rfl
theorem bd64 {r : List Nat} (h : r.sum ≤ 63) : TS.Bd 64 (ci r) := by
  intro x hx
  obtain ⟨n, hn, rfl⟩ := List.mem_map.mp hx
  have := mem_le_sum hn
  omega
/-- all ends -/
def endS (acc : List (List Int)) (q : Part) : List (List Int) := acc.flatMap fun row => (srtK id [q.2.1, q.2.2]).map fun e => row ++ [e]
def ends (p : Poll) : List (List Int) := p.foldl endS [[]]
theorem endS_len (acc : List (List Int)) (q : Part) : (endS acc q).length ≤ acc.length * 2 := by
  unfold endS
  refine flatMap_len _ 2 acc fun row _ => ?_
  rw [List.length_map]
  exact srtK_len id [q.2.1, q.2.2]
theorem endsF_len : ∀ (p : Poll) (acc : List (List Int)), (p.foldl endS acc).length ≤ acc.length * 2 ^ p.length
  | [], acc => by simp
  | q :: p, acc => by
    rw [List.foldl_cons, List.length_cons, Nat.pow_succ]
    have h1 := endsF_len p (endS acc q)
    have h2 := endS_len acc q
    have h3 := Nat.mul_le_mul_right (2 ^ p.length) h2
    have e : acc.length * 2 * 2 ^ p.length = acc.length * (2 ^ p.length * 2) := by rw [Nat.mul_assoc, Nat.mul_comm 2]
    omega
theorem endsF_row : ∀ (p : Poll) (acc : List (List Int)) (m : Nat), (∀ r ∈ acc, r.length = m) → ∀ r ∈ p.foldl endS acc, r.length = m + p.length
  | [], acc, m, h, r, hr => h r hr
  | q :: p, acc, m, h, r, hr => by
    rw [List.foldl_cons] at hr
    have := endsF_row p (endS acc q) (m + 1) (fun z hz => by
      obtain ⟨row, h1, h2⟩ := List.mem_flatMap.mp hz
      obtain ⟨e, _, rfl⟩ := List.mem_map.mp h2
      rw [List.length_append, h row h1]
      rfl) r hr
    rw [List.length_cons]
    omega
/-- bad pairs -/
def bdC (p : Poll) (b : Bool) (s : List Nat) (sure : Bool) (k j : Nat) : Bool := decide (0 < st s k) && (decide (j ≠ k) && decide ((if sure then lo p k else hi p k) * Ap.dv b (st s j + 1) < (if sure then hi p j else lo p j) * Ap.dv b (max 1 (st s k))))
def badR (p : Poll) (b : Bool) (s : List Nat) (sure : Bool) (k m : Nat) : List (Nat × Nat) := ((List.range m).filter (bdC p b s sure k)).map fun j => (k, j)
def badL (p : Poll) (b : Bool) (s : List Nat) (sure : Bool) : List (Nat × Nat) := (List.range s.length).flatMap fun k => badR p b s sure k s.length
def dPr (q : Nat × Nat) : D := tI [(q.1 : Int), (q.2 : Int)]
/-- shares -/
def shS (n T k : Nat) (row : List Nat) : List (List Nat) := (List.range (T - row.sum + 1 - (if k + 1 = n then T - row.sum else 0))).map fun e => row ++ [(if k + 1 = n then T - row.sum else 0) + e]
def shF (n T : Nat) : Nat → List (List Nat)
  | 0 => [[]]
  | k + 1 => (shF n T k).flatMap (shS n T k)
def ascB : List (List Nat) → Bool
  | [] => true
  | x :: r => r.all (fun y => decide (keyN x < keyN y)) && ascB r
theorem ascB_pw : ∀ {l : List (List Nat)}, ascB l = true → l.Pairwise (fun a b => keyN a < keyN b)
  | [], _ => List.Pairwise.nil
  | x :: r, h => by
    unfold ascB at h
    rw [Bool.and_eq_true] at h
    exact List.pairwise_cons.mpr ⟨fun y hy => of_decide_eq_true (List.all_eq_true.mp h.1 y hy), ascB_pw h.2⟩
def shOk (n T : Nat) : Bool := decide (shF n T n = en (n - 1) T) && (decide ((en (n - 1) T).length < 64) && (((List.range n).all fun k => decide ((shF n T k).length ≤ 100) && (shF n T k).all fun r => decide (r.sum ≤ T) && decide (r.length = k)) && ascB (en (n - 1) T)))
theorem sh_ok : ∀ n, n < 5 → ∀ T, T < 5 → 2 ≤ n → 1 ≤ T → n + T ≤ 6 → shOk n T = true := by decide +kernel
theorem sh_all {n T : Nat} (h0 : n ≤ 4) (h1 : 2 ≤ n) (h2 : 1 ≤ T) (h3 : n + T ≤ 6) : shF n T n = en (n - 1) T ∧ (en (n - 1) T).length < 64 ∧ (∀ k, k < n → (shF n T k).length ≤ 100 ∧ ∀ r ∈ shF n T k, r.sum ≤ T ∧ r.length = k) ∧ (en (n - 1) T).Pairwise (fun a b => keyN a < keyN b) := by
  have h := sh_ok n (by omega) T (by omega) h1 h2 h3
  unfold shOk at h
  rw [Bool.and_eq_true, Bool.and_eq_true, Bool.and_eq_true] at h
  obtain ⟨a1, a2, a3, a4⟩ := h
  refine ⟨of_decide_eq_true a1, of_decide_eq_true a2, fun k hk => ?_, ascB_pw a4⟩
  have := List.all_eq_true.mp a3 k (List.mem_range.mpr hk)
  rw [Bool.and_eq_true] at this
  refine ⟨of_decide_eq_true this.1, fun r hr => ?_⟩
  have := List.all_eq_true.mp this.2 r hr
  rw [Bool.and_eq_true] at this
  exact ⟨of_decide_eq_true this.1, of_decide_eq_true this.2⟩
end Dt
end
section
set_option Elab.async false
set_option linter.all false
set_option maxRecDepth 100000
set_option maxHeartbeats 4000000
namespace Dt
open PySem PySem.Spec PyProof.Rows L2
def m_law_step (as : List A) (a : A) : Prop := ∃ (b : Bool) (k : Nat), as = [.d (.str (wd b)), .d (.int k)] ∧ a = .d (.int (Ap.dv b k))
def m_law_low (as : List A) (a : A) : Prop := ∃ x y : Nat, as = [.d (.int x), .d (.int y)] ∧ 0 < y ∧ y < 1000000 ∧ a = .d (tI [((x / Nat.gcd x y : Nat) : Int), ((y / Nat.gcd x y : Nat) : Int)])
def m_law_is_first (as : List A) (a : A) : Prop := ∃ (l : Bool) (xs : List Int) (b : Bool) (row : List Nat) (k : Nat), as = [.d (dNum l xs), .d (.str (wd b)), .d (dN row), .d (.int k)] ∧ row.length = xs.length ∧ k < xs.length ∧ xs.length ≤ 4 ∧ row.sum ≤ 100 ∧ a = .d (.bool (fstB xs b row k))
def m_law_bad_pairs (as : List A) (a : A) : Prop := ∃ (p : Poll) (b : Bool) (s : List Nat) (sure : Bool), as = [.d (dPoll p), .d (.str (wd b)), .d (dN s), .d (.bool sure)] ∧ OkPoll p ∧ OkS p s ∧ a = .l ((badL p b s sure).map dPr)
def m_law_price_due (as : List A) (a : A) : Prop := ∃ (p : Poll) (b : Bool) (s : List Nat) (x y : Nat), as = [.d (dPoll p), .d (.str (wd b)), .d (dN s), .d (tI [(x : Int), (y : Int)])] ∧ OkPoll p ∧ OkS p s ∧ 0 < y ∧ y < 1000000 ∧ Nat.gcd x y = 1 ∧
  (∀ k, k < p.length → lo p k * (y : Int) ≤ (x : Int) * Ap.dv b (st s k + 1)) ∧ (∀ k, k < p.length → 0 < st s k → (x : Int) * Ap.dv b (st s k) ≤ hi p k * (y : Int)) ∧ a = .d (.bool true)
def m_law_given (as : List A) (a : A) : Prop := ∃ (l : Bool) (xs : List Int) (b : Bool) (T : Nat), as = [.d (dNum l xs), .d (.str (wd b)), .d (.int T)] ∧ 2 ≤ xs.length ∧ xs.length ≤ 4 ∧ T ≤ 12 ∧ xs.length ^ T < 64 ∧ a = .l ((gRows xs b T).map dN)
def m_law_all_ends (as : List A) (a : A) : Prop := ∃ p : Poll, as = [.d (dPoll p)] ∧ OkPoll p ∧ a = .l ((ends p).map tI)
def m_sh (n : Nat) (as : List A) (a : A) : Prop := ∃ T : Nat, as = [.d (.int n), .d (.int T)] ∧ n ≤ 4 ∧ 2 ≤ n ∧ 1 ≤ T ∧ n + T ≤ 6 ∧ a = .l ((en (n - 1) T).map dN)
def m_law_shares (as : List A) (a : A) : Prop := ∃ n, m_sh n as a
section
variable {P : Program} {w : World} {K : PySem.W.Frag} {mg : Str → Option Value} {base : Heap} {C W : Addr}
theorem ok_law_step {f : Addr} {fd : FuncData} (F : L2.Fun K "_law_step" "_law_step" (topS 61) f fd) (T : Txt K mg C)  :
    FnOk P w K mg base CX0 1 f fd ["_law_kind_now", "_law_k"] (spD K C m_law_step) := by
  have sc : FnScope ["_law_kind_now", "_law_k"] ["_law_kind_now", "_law_k"] (defScope (topS 61)) := C8.fnScope_by (by decide +kernel)
  have nd := sc.nd
  refine okD F sc (fun as a h => by obtain ⟨b, k, rfl, rfl⟩ := h; rfl) fun cdv A outer s H E hr => ⟨_, (pss_one (ps_ret (pe_ifExp (pt_cmpR op_eq (pv 0) pe_str (nomark _)) (pv 1) (pe_op op_sub (pe_op op_mul pe_int (pv 1)) pe_int)))), fun as a h => ?_⟩
  obtain ⟨b, k, rfl, rfl⟩ := h
  cases b with
  | true => exact sx_ret (ev_ifE (et_is (et_test (ev_op (ev_var rfl) ev_str (op_eqF rfl rfl rfl))) (by decide)) (ev_var rfl)) rfl
  | false => exact sx_ret (ev_elE (et_is (et_test (ev_op (ev_var rfl) ev_str (op_eqF rfl rfl rfl))) (by decide)) (ev_op (ev_op ev_int (ev_var rfl) (op_i (.inl (by decide)))) ev_int op_i0)) rfl
theorem ok_law_low {f : Addr} {fd : FuncData} (F : L2.Fun K "_law_low" "_law_low" (topS 59) f fd) (T : Txt K mg C)  :
    FnOk P w K mg base CX0 1 f fd ["_law_top", "_law_bottom"] (spD K C m_law_low) := by
  have sc : FnScope ["_law_top", "_law_bottom", "_law_one_here", "_law_two"] ["_law_top", "_law_bottom"] (defScope (topS 59)) := C8.fnScope_by (by decide +kernel)
  have nd := sc.nd
  refine okD F sc (fun as a h => by obtain ⟨x0, y0, rfl, hy, hy2, rfl⟩ := h; rfl) fun cdv A outer s H E hr => ⟨_, (pss_cons (ps_par (i := 2) (j := 3) rfl nd rfl rfl (by decide) rfl rfl (pa_cons (pe_callB call_abs (by rfl) T.b_abs (by decide +kernel) (pa_cons (pv 0) pa_nil)) (pa_cons (pv 1) pa_nil)) (by rfl))
      (pss_cons (ps_while PassesOwn.never (pt_cmpR op_gt (pv 3) pe_int (nomark _)) (pss_one (ps_par (i := 2) (j := 3) rfl nd rfl rfl (by decide) rfl rfl (pa_cons (pv 3) (pa_cons (pe_op op_mod (pe_callTy call_int1 (by rfl) T.b_int (by decide +kernel) (pa_cons (pv 2) pa_nil)) (pv 3)) pa_nil)) (by rfl))))
      (pss_one (ps_ret (pe_tup (pa_cons (pe_op op_fdivN (pv 0) (pv 2)) (pa_cons (pe_op op_fdivN (pv 1) (pv 2)) pa_nil))))))), fun as a h => ?_⟩
  obtain ⟨x0, y0, rfl, hy, hy2, rfl⟩ := h
  have ha : (if (x0 : Int) < 0 then -(x0 : Int) else x0) = (x0 : Int) := if_neg (by omega)
  have hg : 0 < Nat.gcd x0 y0 := Nat.gcd_pos_of_pos_right _ hy
  have hg2 : Nat.gcd x0 y0 ≤ y0 := Nat.gcd_le_right _ hy
  have hd : ∀ z : Nat, (z : Int).fdiv (Nat.gcd x0 y0 : Nat) = ((z / Nat.gcd x0 y0 : Nat) : Int) := fun z => by
    rw [Int.fdiv_eq_ediv_of_nonneg _ (by omega), Int.natCast_ediv]
  refine sx_seq1 (sx_par (ea_cons (ev_cb (ea_cons (ev_var rfl) ea_nil) cd_abs) (ea_cons (ev_var rfl) ea_nil))) ?_
  rw [ha]
  refine sx_seq1 (ρ1 := [.v (.d (.int x0)), .v (.d (.int y0)), .v (.d (.int (Nat.gcd x0 y0 : Nat))), .v (.d (.int 0))]) (sx_while (fun m ρi => ∃ x y : Nat, ρi = [.v (.d (.int x0)), .v (.d (.int y0)), .v (.d (.int x)), .v (.d (.int y))] ∧ Nat.gcd x y = Nat.gcd x0 y0 ∧ y < 1000000 ∧ m = y) y0 ⟨x0, y0, rfl, rfl, hy2, rfl⟩ ?_)
    (sx_ret (ev_is (ev_tup (ds := [_, _]) (ea_cons (ev_op (ev_var rfl) (ev_var rfl) (op_i ⟨by omega, by rw [Int.natAbs_natCast]; omega⟩)) (ea_cons (ev_op (ev_var rfl) (ev_var rfl) (op_i ⟨by omega, by rw [Int.natAbs_natCast]; omega⟩)) ea_nil)) (by simp)) (by rw [hd, hd]; rfl)) rfl)
  rintro m _ ⟨x, y, rfl, hg, hyb, hm⟩
  have hm' : y = m := hm.symm
  subst hm'
  refine ⟨_, et_test (ev_op (ev_var rfl) ev_int op_b0), fun h => ?_, fun h => ?_⟩
  · have hy : 0 < y := by have := of_decide_eq_true h; omega
    refine sx_mono (sx_par (ea_cons (ev_var rfl) (ea_cons (ev_op (ev_cb (ea_cons (ev_var rfl) ea_nil) cd_int) (ev_var rfl) (op_i (by show (0 : Int) < y; omega))) ea_nil))) ?_
    rintro _ rfl
    have := Nat.mod_lt x hy
    refine ⟨x % y, this, y, x % y, by rw [Int.natCast_emod]; rfl, ?_, by omega, rfl⟩
    rw [← hg, Nat.gcd_comm x y, Nat.gcd_rec y x, Nat.gcd_comm]
  · have hy : y = 0 := by have := of_decide_eq_false h; omega
    subst hy
    rw [← hg, Nat.gcd_zero_right]
    rfl
theorem ok_law_is_first {f : Addr} {fd : FuncData} (F : L2.Fun K "_law_is_first" "_law_is_first" (topS 66) f fd) (T : Txt K mg C) (c_law_step : C8.Cal P w K mg base 1 "_law_step" (spD K C m_law_step) []) :
    FnOk P w K mg base CX0 2 f fd ["_law_numbers", "_law_kind_now", "_law_row", "_law_k"] (spD K C m_law_is_first) := by
  have sc : FnScope ["_law_numbers", "_law_kind_now", "_law_row", "_law_k", "_law_own", "_law_j"] ["_law_numbers", "_law_kind_now", "_law_row", "_law_k"] (defScope (topS 66)) := C8.fnScope_by (by decide +kernel)
  have nd := sc.nd
  refine okD F sc (fun as a h => by obtain ⟨l, xs, b, row, k, rfl, hl, hk, h4, hs, rfl⟩ := h; rfl) fun cdv A outer s H E hr => ⟨_, (pss_cons (ps_set (i := 4) nd rfl (Or.inl rfl) (C8.pe_c c_law_step hr (by decide) (by rfl) (pa_cons (pv 1) (pa_cons (pe_op op_add (pe_ix ix_tup (pv 2) (pv 3) (fun _ _ => rfl)) pe_int) pa_nil))))
      (pss_cons (ps_for PassesOwn.never rfl (pi_range1 rfl T.b_range (pa_cons (pe_callB call_len_seq (by rfl) T.b_len (by decide +kernel) (pa_cons (pv 2) pa_nil)) pa_nil)) (pg_name (i := 5) nd rfl (Or.inl rfl)) (pss_one (ps_if (pt_cmpR op_gt (pe_op op_mul (pe_ix ix_any (pv 0) (pv 5) (fun _ _ => rfl)) (pv 4)) (pe_op op_mul (pe_ix ix_any (pv 0) (pv 3) (fun _ _ => rfl)) (C8.pe_c c_law_step hr (by decide) (by rfl) (pa_cons (pv 1) (pa_cons (pe_op op_add (pe_ix ix_tup (pv 2) (pv 5) (fun _ _ => rfl)) pe_int) pa_nil)))) (nomark _)) (pss_one (ps_ret pe_bl)) pss_nil)))
      (pss_one (ps_ret pe_bl)))), fun as a h => ?_⟩
  obtain ⟨l, xs, b, row, k, rfl, hl, hk, h4, hs, rfl⟩ := h
  refine sx_seq1 (sx_set (ev_call (ea_cons (ev_var rfl) (ea_cons (ev_op (ev_op (ev_var rfl) (ev_var rfl) (ix_T (atS (by omega)))) ev_int op_i0) ea_nil)) ⟨b, st row k + 1, rfl, rfl⟩)) ?_
  refine sx_seq (sx_forP (vs := List.range 40) _ (fun i => [.v (.d (dNum l xs)), .v (.d (.str (wd b))), .v (.d (dN row)), .v (.d (.int k)), .v (.d (.int (Ap.dv b (st row k + 1)))), .any]) (fun i => ∀ j, j < i → (!decide (xs.getD k 0 * Ap.dv b (st row j + 1) < xs.getD j 0 * Ap.dv b (st row k + 1))) = true)
    (it_rngN (ea_cons (ev_lenN (ev_var rfl)) ea_nil) (by omega)) rfl (fun j h => absurd h (Nat.not_lt_zero _)) fun i x hx pr => ?_) ?_
  · obtain ⟨hi, rfl⟩ := rangeD_get hx
    have d1 := dv_le b (st row k + 1) (by have := st_le row k; omega)
    have d2 := dv_le b (st row i + 1) (by have := st_le row i; omega)
    refine ⟨_, ge_name (by decide), fun _ h => h, ?_⟩
    refine sx_if (et_test (ev_op (ev_op (ev_op (ev_var rfl) (ev_var rfl) (ix_A (atX (by omega)))) (ev_var rfl) (op_i (.inr d1))) (ev_op (ev_op (ev_var rfl) (ev_var rfl) (ix_A (atX hk))) (ev_call (ea_cons (ev_var rfl) (ea_cons (ev_op (ev_op (ev_var rfl) (ev_var rfl) (ix_T (atS hi))) ev_int op_i0) ea_nil)) ⟨b, st row i + 1, rfl, rfl⟩) (op_i (.inr d2))) op_b0)) (fun h => sx_ret ev_bl ?_) (fun h => sx_toP sx_next ⟨.inr rfl, .inr rfl, .inr rfl, .inr rfl, .inr rfl, .inl rfl, trivial⟩ ?_)
    · have e : fstB xs b row k = false := Bool.eq_false_iff.mpr fun z => by
        have := List.all_eq_true.mp z i (List.mem_range.mpr hi)
        have h' : decide (xs.getD k 0 * Ap.dv b (st row i + 1) < xs.getD i 0 * Ap.dv b (st row k + 1)) = true := h
        rw [h'] at this
        cases this
      rw [e]
    · intro j hj
      by_cases hji : j = i
      · subst hji
        have h' : decide (xs.getD k 0 * Ap.dv b (st row j + 1) < xs.getD j 0 * Ap.dv b (st row k + 1)) = false := h
        rw [h']
        rfl
      · exact pr j (by omega)
  · rintro _ ⟨rfl, pr⟩
    have e : fstB xs b row k = true := List.all_eq_true.mpr fun j hj => pr j (by rw [rangeD_len]; exact List.mem_range.mp hj)
    exact sx_ret ev_bl (by rw [e])
theorem ok_law_bad_pairs {f : Addr} {fd : FuncData} (F : L2.Fun K "_law_bad_pairs" "_law_bad_pairs" (topS 63) f fd) (T : Txt K mg C) (c_law_step : C8.Cal P w K mg base 1 "_law_step" (spD K C m_law_step) []) :
    FnOk P w K mg base CX0 2 f fd ["_law_poll_now", "_law_kind_now", "_law_lot", "_law_is_sure"] (spD K C m_law_bad_pairs) := by
  have sc : FnScope ["_law_poll_now", "_law_kind_now", "_law_lot", "_law_is_sure", "_law_found", "_law_k", "_law_j", "_law_last", "_law_next_now", "_law_one_here", "_law_two"] ["_law_poll_now", "_law_kind_now", "_law_lot", "_law_is_sure"] (defScope (topS 63)) := C8.fnScope_by (by decide +kernel)
  have nd := sc.nd
  refine okD F sc (fun as a h => by obtain ⟨p, b, s, sure, rfl, hp, hs, rfl⟩ := h; rfl) fun cdv A outer s H E hr => ⟨_, (pss_cons (ps_set (i := 4) nd rfl (Or.inl rfl) (pe_lst pa_nil))
      (pss_cons (ps_for PassesOwn.never rfl (pi_range1 rfl T.b_range (pa_cons (pe_callB call_len_seq (by rfl) T.b_len (by decide +kernel) (pa_cons (pv 2) pa_nil)) pa_nil)) (pg_name (i := 5) nd rfl (Or.inl rfl)) (pss_one (ps_for PassesOwn.never rfl (pi_range1 rfl T.b_range (pa_cons (pe_callB call_len_seq (by rfl) T.b_len (by decide +kernel) (pa_cons (pv 2) pa_nil)) pa_nil)) (pg_name (i := 6) nd rfl (Or.inl rfl)) (pss_cons (ps_par (i := 7) (j := 8) rfl nd rfl rfl (by decide) rfl rfl (pa_cons (C8.pe_c c_law_step hr (by decide) (by rfl) (pa_cons (pv 1) (pa_cons (pe_callB (call_max2 rfl) (by rfl) T.b_max (by decide +kernel) (pa_cons pe_int (pa_cons (pe_ix ix_tup (pv 2) (pv 5) (fun _ _ => rfl)) pa_nil))) pa_nil))) (pa_cons (C8.pe_c c_law_step hr (by decide) (by rfl) (pa_cons (pv 1) (pa_cons (pe_op op_add (pe_ix ix_tup (pv 2) (pv 6) (fun _ _ => rfl)) pe_int) pa_nil))) pa_nil)) (by rfl))
      (pss_cons (ps_par (i := 9) (j := 10) rfl nd rfl rfl (by decide) rfl rfl (pa_cons (pe_ix ix_tup (pe_ix ix_tup (pe_ix ix_tup (pv 0) (pv 5) (fun _ _ => rfl)) pe_int (fun _ _ => rfl)) (pe_ifExp (pt_val (pv 3)) pe_int pe_int) (fun _ _ => rfl)) (pa_cons (pe_ix ix_tup (pe_ix ix_tup (pe_ix ix_tup (pv 0) (pv 6) (fun _ _ => rfl)) pe_int (fun _ _ => rfl)) (pe_ifExp (pt_val (pv 3)) pe_int pe_int) (fun _ _ => rfl)) pa_nil)) (by rfl))
      (pss_one (ps_if (PW.pt (pw_and (pt_cmpR op_gt (pe_ix ix_tup (pv 2) (pv 5) (fun _ _ => rfl)) pe_int (nomark _)) (pw_and (pt_cmpR op_ne (pv 6) (pv 5) (nomark _)) (pw_and1 (pt_cmpR op_lt (pe_op op_mul (pv 9) (pv 8)) (pe_op op_mul (pv 10) (pv 7)) (nomark _)))))) (pss_one (ps_expr (pe_bm PySem.F.plainAttrs_list PySem.F.slot_list_append PySem.F.type_list_append mt_append (pv 4) (pa_cons (pe_tup (pa_cons (pv 5) (pa_cons (pv 6) pa_nil))) pa_nil)))) pss_nil)))))))
      (pss_one (ps_ret (pv 4))))), fun as a h => ?_⟩
  obtain ⟨p, b, s, sure, rfl, hp, hs, rfl⟩ := h
  have l4 := hp.len4
  have ls := hs.len
  have hle := hs.le
  refine sx_seq (sx_own (N := fun r => ∃ q, r = [.v (.d (dPoll p)), .v (.d (.str (wd b))), .v (.d (dN s)), .v (.d (.bool sure)), .own q [], .any, .any, .any, .any, .any, .any]) (by show 4 < 11; decide) fun q hq => ⟨q, rfl⟩) ?_
  rintro _ ⟨q, rfl⟩
  have bl : ∀ k m, m ≤ 4 → (badR p b s sure k m).length ≤ 4 := fun k m hm => by
    unfold badR
    rw [List.length_map]
    have := List.length_filter_le (bdC p b s sure k) (List.range m)
    rw [List.length_range] at this
    omega
  have bL : ∀ i, i ≤ 4 → ((List.range i).flatMap fun k => badR p b s sure k s.length).length ≤ 16 := fun i hi => by
    have := flatMap_len (fun k => badR p b s sure k s.length) 4 (List.range i) fun k _ => bl k s.length (by omega)
    rw [List.length_range] at this
    omega
  refine sx_seq1 (sx_forF (vs := List.range 40) _ (fun i => [.v (.d (dPoll p)), .v (.d (.str (wd b))), .v (.d (dN s)), .v (.d (.bool sure)), .own q (((List.range i).flatMap fun k => badR p b s sure k s.length).map dPr), .any, .any, .any, .any, .any, .any])
    (it_rngN (ea_cons (ev_lenN (ev_var rfl)) ea_nil) (by omega)) rfl fun i x hx => ?_) ?_
  · obtain ⟨hi, rfl⟩ := rangeD_get hx
    refine ⟨_, ge_name (by decide), fun _ h => h, ?_⟩
    refine sx_to (sx_forF (vs := List.range 40) _ (fun j => [.v (.d (dPoll p)), .v (.d (.str (wd b))), .v (.d (dN s)), .v (.d (.bool sure)), .own q ((((List.range i).flatMap fun k => badR p b s sure k s.length) ++ badR p b s sure i j).map dPr), .v (.d (.int i)), .any, .any, .any, .any, .any])
      (it_rngN (ea_cons (ev_lenN (ev_var rfl)) ea_nil) (by omega)) ?_ fun j x hx => ?_) ?_
    · have e : badR p b s sure i 0 = [] := rfl
      show _ = [_, _, _, _, Dt.E.own q ((((List.range i).flatMap fun k => badR p b s sure k s.length) ++ badR p b s sure i 0).map dPr), _, _, _, _, _, _]
      rw [e, List.append_nil]
      rfl
    · obtain ⟨hj, rfl⟩ := rangeD_get hx
      refine ⟨_, ge_name (by decide), fun _ h => h, ?_⟩
      have d1 := dv_le b (max 1 (st s i)) (by have := st_le s i; omega)
      have d2 := dv_le b (st s j + 1) (by have := st_le s j; omega)
      have em : (if ((st s i : Nat) : Int) > 1 then ((st s i : Nat) : Int) else 1) = ((max 1 (st s i) : Nat) : Int) := by split <;> omega
      have ex : ∀ c : Nat, ∀ v : Bool, atI [PyData.int (lo p c), PyData.int (Dt.hi p c)] (if v then 0 else 1) = some (.int (if v then lo p c else Dt.hi p c)) := fun c v => by cases v <;> rfl
      have ey : ∀ c : Nat, ∀ v : Bool, atI [PyData.int (lo p c), PyData.int (Dt.hi p c)] (if v then 1 else 0) = some (.int (if v then Dt.hi p c else lo p c)) := fun c v => by cases v <;> rfl
      have i1 : ∀ {ρ : List Dt.E} {x : Int} {y : Int} {tb : TE}, EvE K C tb ρ (.d (.bool sure)) → EvE K C (tIf (tB tb) (tC (.int x)) (tC (.int y))) ρ (.d (.int (if sure then x else y))) := fun h => by
        cases sure with
        | true => exact ev_ifE (et_B h) ev_int
        | false => exact ev_elE (et_B h) ev_int
      refine sx_seq1 (sx_par (ea_cons (ev_call (ea_cons (ev_var rfl) (ea_cons (ev_is (ev_cb (ea_cons ev_int (ea_cons (ev_op (ev_var rfl) (ev_var rfl) (ix_T (atS hi))) ea_nil)) cd_max2) (by rw [em])) ea_nil)) ⟨b, max 1 (st s i), rfl, rfl⟩) (ea_cons (ev_call (ea_cons (ev_var rfl) (ea_cons (ev_op (ev_op (ev_var rfl) (ev_var rfl) (ix_T (atS hj))) ev_int op_i0) ea_nil)) ⟨b, st s j + 1, rfl, rfl⟩) ea_nil)))
        (sx_seq1 (sx_par (ea_cons (ev_op (ev_op (ev_op (ev_var rfl) (ev_var rfl) (ix_T (atP (by omega)))) ev_int (ix_T rfl)) (i1 (ev_var rfl)) (ix_T (ex i sure))) (ea_cons (ev_op (ev_op (ev_op (ev_var rfl) (ev_var rfl) (ix_T (atP (by omega)))) ev_int (ix_T rfl)) (i1 (ev_var rfl)) (ix_T (ey j sure))) ea_nil)))
        (sx_if (x := bdC p b s sure i j) (et_is (et_and (et_test (ev_op (ev_op (ev_var rfl) (ev_var rfl) (ix_T (atS hi))) ev_int op_b0)) fun _ => (et_and (et_test (ev_op (ev_var rfl) (ev_var rfl) (op_neF rfl rfl rfl))) fun _ => (et_test (ev_op (ev_op (ev_var rfl) (ev_var rfl) (op_i (.inr d2))) (ev_op (ev_var rfl) (ev_var rfl) (op_i (.inr d1))) op_b0)))) ?_)
          (fun h => sx_to (sx_append (x := dPr (i, j)) rfl (lone1 _) ?_ (ev_tup (ds := [_, _]) (ea_cons (ev_var rfl) (ea_cons (ev_var rfl) ea_nil)) (by simp))) ?_) (fun h => sx_to sx_next ?_)))
      · unfold bdC
        rw [neI, decide_eq_decide.mpr (show ((st s i : Nat) : Int) > 0 ↔ 0 < st s i by omega)]
      · rw [List.length_map, List.length_append]
        have := bl i j (by omega)
        have := bL i (by omega)
        omega
      · have e : badR p b s sure i (j + 1) = badR p b s sure i j ++ [(i, j)] := by
          unfold badR
          rw [List.range_succ, List.filter_append, List.map_append, List.filter_cons, if_pos h]
          rfl
        show Wk _ [_, _, _, _, Dt.E.own q ((((List.range i).flatMap fun k => badR p b s sure k s.length) ++ badR p b s sure i (j + 1)).map dPr), _, _, _, _, _, _]
        rw [e, ← List.append_assoc, List.map_append (l₁ := _ ++ _)]
        exact ⟨.inr rfl, .inr rfl, .inr rfl, .inr rfl, .inr rfl, .inr rfl, .inl rfl, .inl rfl, .inl rfl, .inl rfl, .inl rfl, trivial⟩
      · have e : badR p b s sure i (j + 1) = badR p b s sure i j := by
          unfold badR
          rw [List.range_succ, List.filter_append, List.map_append, List.filter_cons, if_neg (by rw [h]; decide)]
          simp
        show Wk _ [_, _, _, _, Dt.E.own q ((((List.range i).flatMap fun k => badR p b s sure k s.length) ++ badR p b s sure i (j + 1)).map dPr), _, _, _, _, _, _]
        rw [e]
        exact ⟨.inr rfl, .inr rfl, .inr rfl, .inr rfl, .inr rfl, .inr rfl, .inl rfl, .inl rfl, .inl rfl, .inl rfl, .inl rfl, trivial⟩
    · have e : ((List.range (i + 1)).flatMap fun k => badR p b s sure k s.length) = ((List.range i).flatMap fun k => badR p b s sure k s.length) ++ badR p b s sure i s.length := by
        rw [List.range_succ, List.flatMap_append]
        simp
      show Wk _ [_, _, _, _, Dt.E.own q (((List.range (i + 1)).flatMap fun k => badR p b s sure k s.length).map dPr), _, _, _, _, _, _]
      rw [e, rangeD_len]
      exact ⟨.inr rfl, .inr rfl, .inr rfl, .inr rfl, .inr rfl, .inl rfl, .inl rfl, .inl rfl, .inl rfl, .inl rfl, .inl rfl, trivial⟩
  · refine sx_freeze (i := 4) rfl (lone1 _) (sx_ret (ev_var rfl) ?_)
    rw [rangeD_len]
    rfl
theorem ok_law_price_due {f : Addr} {fd : FuncData} (F : L2.Fun K "_law_price_due" "_law_price_due" (topS 64) f fd) (T : Txt K mg C) (c_law_low : C8.Cal P w K mg base 1 "_law_low" (spD K C m_law_low) []) (c_law_step : C8.Cal P w K mg base 1 "_law_step" (spD K C m_law_step) []) :
    FnOk P w K mg base CX0 2 f fd ["_law_poll_now", "_law_kind_now", "_law_lot", "_law_cost_now"] (spD K C m_law_price_due) := by
  have sc : FnScope ["_law_poll_now", "_law_kind_now", "_law_lot", "_law_cost_now", "_law_k", "_law_dim", "_law_high", "_law_each"] ["_law_poll_now", "_law_kind_now", "_law_lot", "_law_cost_now"] (defScope (topS 64)) := C8.fnScope_by (by decide +kernel)
  have nd := sc.nd
  refine okD F sc (fun as a h => by obtain ⟨p, b, s, x, y, rfl, hp, hs, hy, hy2, hg, h1, h2, rfl⟩ := h; rfl) fun cdv A outer s H E hr => ⟨_, (pss_cons (ps_if (PW.pt (pw_or (pt_not (pt_val (pe_callB call_isi (by rfl) T.b_isinstance (by decide +kernel) (pa_cons (pv 3) (pa_cons (pe_bltn (v := .ty "tuple") (u := .type "tuple") (by rfl) T.b_tuple (by decide +kernel) rfl) pa_nil))))) (pw_or (pt_cmpR op_ne (pe_callB call_len_seq (by rfl) T.b_len (by decide +kernel) (pa_cons (pv 3) pa_nil)) pe_int (nomark _)) (pw_or1 (pt_not (pt_val (pe_callB (cr_all rfl) (by rfl) T.b_all (by decide +kernel) (pa_cons (pe_lc (own := [("_law_each", 7)]) rfl nd (pi_tup (pv 3)) (blkOk_by (N := ["_law_poll_now", "_law_kind_now", "_law_lot", "_law_cost_now", "_law_k", "_law_dim", "_law_high", "_law_each"]) (sc := defScope (topS 64)) (by decide +kernel)) (fun _ _ _ _ _ => (pg_name (i := 7) nd rfl (Or.inl rfl))) (fun _ _ _ _ _ => pts_nil) (fun _ _ _ _ _ => (pe_callB (call_isiK (K := K) rfl) (by rfl) T.b_isinstance (by decide +kernel) (pa_cons (pv 7) (pa_cons (pe_bltn (v := .ty "int") (u := .type "int") (by rfl) T.b_int (by decide +kernel) rfl) pa_nil))))) pa_nil)))))))) (pss_one (ps_ret pe_bl)) pss_nil)
      (pss_cons (ps_if (PW.pt (pw_or (pt_cmpR op_lt (pe_ix ix_tup (pv 3) pe_int (fun _ _ => rfl)) pe_int (nomark _)) (pw_or (pt_cmpR op_lt (pe_ix ix_tup (pv 3) pe_int (fun _ _ => rfl)) pe_int (nomark _)) (pw_or1 (pt_cmpR (op_neD (hr.units)) (C8.pe_c c_law_low hr (by decide) (by rfl) (pa_cons (pe_ix ix_tup (pv 3) pe_int (fun _ _ => rfl)) (pa_cons (pe_ix ix_tup (pv 3) pe_int (fun _ _ => rfl)) pa_nil))) (pv 3) (nomark _)))))) (pss_one (ps_ret pe_bl)) pss_nil)
      (pss_cons (ps_for PassesOwn.never rfl (pi_range1 rfl T.b_range (pa_cons (pe_callB call_len_seq (by rfl) T.b_len (by decide +kernel) (pa_cons (pv 2) pa_nil)) pa_nil)) (pg_name (i := 4) nd rfl (Or.inl rfl)) (pss_cons (ps_asg (pe_ix ix_tup (pe_ix ix_tup (pv 0) (pv 4) (fun _ _ => rfl)) pe_int (fun _ _ => rfl)) (pg_tup rfl (pgs_cons (pg_name (i := 5) nd rfl (Or.inl rfl)) (pgs_cons (pg_name (i := 6) nd rfl (Or.inl rfl)) pgs_nil))))
      (pss_cons (ps_if (pt_cmpR op_gt (pe_op op_mul (pv 5) (pe_ix ix_tup (pv 3) pe_int (fun _ _ => rfl))) (pe_op op_mul (pe_ix ix_tup (pv 3) pe_int (fun _ _ => rfl)) (C8.pe_c c_law_step hr (by decide) (by rfl) (pa_cons (pv 1) (pa_cons (pe_op op_add (pe_ix ix_tup (pv 2) (pv 4) (fun _ _ => rfl)) pe_int) pa_nil)))) (nomark _)) (pss_one (ps_ret pe_bl)) pss_nil)
      (pss_one (ps_if (PW.pt (pw_and (pt_cmpR op_gt (pe_ix ix_tup (pv 2) (pv 4) (fun _ _ => rfl)) pe_int (nomark _)) (pw_and1 (pt_cmpR op_lt (pe_op op_mul (pv 6) (pe_ix ix_tup (pv 3) pe_int (fun _ _ => rfl))) (pe_op op_mul (pe_ix ix_tup (pv 3) pe_int (fun _ _ => rfl)) (C8.pe_c c_law_step hr (by decide) (by rfl) (pa_cons (pv 1) (pa_cons (pe_ix ix_tup (pv 2) (pv 4) (fun _ _ => rfl)) pa_nil)))) (nomark _))))) (pss_one (ps_ret pe_bl)) pss_nil)))))
      (pss_one (ps_ret pe_bl))))), fun as a h => ?_⟩
  obtain ⟨p, b, s, x, y, rfl, hp, hs, hy, hy2, hg, h1, h2, rfl⟩ := h
  have l4 := hp.len4
  have ls := hs.len
  have hle := hs.le
  refine sx_seq1 (sx_ifF (et_is (et_or (et_not (et_B (ev_isi (ev_var rfl) k_tt))) fun _ => (et_or (et_test (ev_op (ev_cb (ea_cons (ev_var rfl) ea_nil) cd_lenT) ev_int (op_neF rfl rfl rfl))) fun _ => (et_not (et_B (ev_cb (ea_cons
    (ev_l (xs := ([(x : Int), (y : Int)].map fun _ => true).map .bool) (ev_is (ev_lc [(x : Int), (y : Int)] PyData.int (fun _ => .bool true) (fun _ => true) (it_tup (ev_var rfl)) (by simp) fun z hz => ⟨_, (ge_name (by decide)), et_yes, fun hp => (ev_isi (ev_var rfl) k_ii)⟩) (by rw [filter_tt, map_cst]))) ea_nil) cd_all))))) rfl) sx_next) ?_
  refine sx_seq1 (sx_ifF (et_is (et_or (et_test (ev_op (ev_op (ev_var rfl) ev_int (ix_T rfl)) ev_int op_b0)) fun _ => (et_or (et_test (ev_op (ev_op (ev_var rfl) ev_int (ix_T rfl)) ev_int op_b0)) fun _ => (et_test (ev_op (ev_call (ea_cons (ev_op (ev_var rfl) ev_int (ix_T rfl)) (ea_cons (ev_op (ev_var rfl) ev_int (ix_T rfl)) ea_nil)) ⟨x, y, rfl, hy, hy2, rfl⟩) (ev_var rfl) (op_neDd (okd_sh (okd_tI 0 _) (by decide)) (okd_sh (okd_tI 0 _) (by decide))))))) ?_) sx_next) ?_
  · have e : PyData.eqv (tI [((x / Nat.gcd x y : Nat) : Int), ((y / Nat.gcd x y : Nat) : Int)]) (tI [(x : Int), (y : Int)]) = true := eqv_t (okd_tI 0 _) (by rw [hg, Nat.div_one, Nat.div_one])
    rw [e, decide_eq_false (show ¬ ((y : Int) < 1) by omega), decide_eq_false (show ¬ ((x : Int) < 0) by omega)]
    rfl
  refine sx_seq (sx_forP (vs := List.range 40) _ (fun i => [.v (.d (dPoll p)), .v (.d (.str (wd b))), .v (.d (dN s)), .v (.d (tI [(x : Int), (y : Int)])), .any, .any, .any, .any]) (fun i => True)
    (it_rngN (ea_cons (ev_lenN (ev_var rfl)) ea_nil) (by omega)) rfl trivial fun i z hx pr => ?_) ?_
  · obtain ⟨hi, rfl⟩ := rangeD_get hx
    refine ⟨_, ge_name (by decide), fun _ h => h, ?_⟩
    have d1 := dv_le b (st s i) (by have := st_le s i; omega)
    have d2 := dv_le b (st s i + 1) (by have := st_le s i; omega)
    have a1 := h1 i (by omega)
    have a2 := h2 i (by omega)
    refine sx_seq1 (sx_asg (vs := List.range 40) (ev_op (ev_op (ev_var rfl) (ev_var rfl) (ix_T (atP (by omega)))) ev_int (ix_T rfl)) (ge_tup rfl (ges_cons (ge_name (by decide)) (ges_cons (ge_name (by decide)) ges_nil))) (fun _ h => h))
      (sx_seq1 (sx_ifF (et_is (et_test (ev_op (ev_op (ev_var rfl) (ev_op (ev_var rfl) ev_int (ix_T rfl)) (op_i (.inl (sm_lo hp _)))) (ev_op (ev_op (ev_var rfl) ev_int (ix_T rfl)) (ev_call (ea_cons (ev_var rfl) (ea_cons (ev_op (ev_op (ev_var rfl) (ev_var rfl) (ix_T (atS hi))) ev_int op_i0) ea_nil)) ⟨b, st s i + 1, rfl, rfl⟩) (op_i (.inr d2))) op_b0)) (decide_eq_false ?_)) sx_next)
      (sx_toP (sx_ifF (et_is (et_and (et_test (ev_op (ev_op (ev_var rfl) (ev_var rfl) (ix_T (atS hi))) ev_int op_b0)) fun hq => (et_is (et_test (ev_op (ev_op (ev_var rfl) (ev_op (ev_var rfl) ev_int (ix_T rfl)) (op_i (.inl (sm_hi hp _)))) (ev_op (ev_op (ev_var rfl) ev_int (ix_T rfl)) (ev_call (ea_cons (ev_var rfl) (ea_cons (ev_op (ev_var rfl) (ev_var rfl) (ix_T (atS hi))) ea_nil)) ⟨b, st s i, rfl, rfl⟩) (op_i (.inr d1))) op_b0)) (decide_eq_false ?_))) (Bool.and_false _)) sx_next) ⟨.inr rfl, .inr rfl, .inr rfl, .inr rfl, .inl rfl, .inl rfl, .inl rfl, .inl rfl, trivial⟩ trivial))
    · omega
    · have := of_decide_eq_true hq
      have := a2 (by omega)
      omega
  · rintro _ ⟨rfl, _⟩
    exact sx_ret ev_bl rfl
theorem ok_law_given {f : Addr} {fd : FuncData} (F : L2.Fun K "_law_given" "_law_given" (topS 65) f fd) (T : Txt K mg C) (c_law_is_first : C8.Cal P w K mg base 2 "_law_is_first" (spD K C m_law_is_first) []) :
    FnOk P w K mg base CX0 3 f fd ["_law_numbers", "_law_kind_now", "_law_total"] (spD K C m_law_given) := by
  have sc : FnScope ["_law_numbers", "_law_kind_now", "_law_total", "_law_found", "_law_turn", "_law_wider", "_law_row", "_law_best", "_law_k"] ["_law_numbers", "_law_kind_now", "_law_total"] (defScope (topS 65)) := C8.fnScope_by (by decide +kernel)
  have nd := sc.nd
  refine okD F sc (fun as a h => by obtain ⟨l, xs, b, T, rfl, h2, h4, hT, hp, rfl⟩ := h; rfl) fun cdv A outer s H E hr => ⟨_, (pss_cons (ps_set (i := 3) nd rfl (Or.inl rfl) (pe_lst (pa_cons (pe_op op_repT (pe_tup (pa_cons pe_int pa_nil)) (pe_callB call_len_seq (by rfl) T.b_len (by decide +kernel) (pa_cons (pv 0) pa_nil))) pa_nil)))
      (pss_cons (ps_for PassesOwn.never rfl (pi_range1 rfl T.b_range (pa_cons (pv 2) pa_nil)) (pg_name (i := 4) nd rfl (Or.inl rfl)) (pss_cons (ps_set (i := 5) nd rfl (Or.inl rfl) (pe_lst pa_nil))
      (pss_cons (ps_for PassesOwn.never rfl (pi_list (pv 3)) (pg_name (i := 6) nd rfl (Or.inr rfl)) (pss_cons (ps_setLc (i := 7) (own := [("_law_k", 8)]) rfl nd rfl rfl (sw_true rfl rfl rfl (by decide +kernel)) (pi_range1 rfl T.b_range (pa_cons (pe_callB call_len_seq (by rfl) T.b_len (by decide +kernel) (pa_cons (pv 6) pa_nil)) pa_nil)) (blkOk_by (N := ["_law_numbers", "_law_kind_now", "_law_total", "_law_found", "_law_turn", "_law_wider", "_law_row", "_law_best", "_law_k"]) (sc := defScope (topS 65)) (by decide +kernel)) (fun _ _ _ _ _ => (pg_name (i := 8) nd rfl (Or.inl rfl))) (fun _ _ _ _ _ => (pts_one (pt_val (C8.pe_c c_law_is_first hr (by decide) (by rfl) (pa_cons (pv 0) (pa_cons (pv 1) (pa_cons (pv 6) (pa_cons (pv 8) pa_nil)))))))) (fun _ _ _ _ _ => (pv 8)))
      (pss_one (ps_set (i := 5) nd rfl (Or.inl rfl) (pe_op op_cat (pv 5) (pe_lc (own := [("_law_k", 8)]) rfl nd (pi_list (pv 7)) (blkOk_by (N := ["_law_numbers", "_law_kind_now", "_law_total", "_law_found", "_law_turn", "_law_wider", "_law_row", "_law_best", "_law_k"]) (sc := defScope (topS 65)) (by decide +kernel)) (fun _ _ _ _ _ => (pg_name (i := 8) nd rfl (Or.inl rfl))) (fun _ _ _ _ _ => pts_nil) (fun _ _ _ _ _ => (pe_op (op_catAK (K := K) rfl) (pe_op (op_catAK (K := K) rfl) (pe_slice (sl_tupAK (K := K) rfl) (pv 6) po_none (po_some (pv 8))) (pe_tup (pa_cons (pe_op op_add (pe_ix (ix_tupK (K := K) rfl) (pv 6) (pv 8) (fun _ _ => rfl)) pe_int) pa_nil))) (pe_slice (sl_tupAK (K := K) rfl) (pv 6) (po_some (pe_op op_add (pv 8) pe_int)) po_none)))))))))
      (pss_one (ps_set (i := 3) nd rfl (Or.inl rfl) (pe_callB (cr_sortedT rfl) (by rfl) T.b_sorted (by decide +kernel) (pa_cons (pe_callTy (cr_setOfT rfl (hr.units)) (by rfl) T.b_set (by decide +kernel) (pa_cons (pv 5) pa_nil)) pa_nil)))))))
      (pss_one (ps_ret (pv 3))))), fun as a h => ?_⟩
  obtain ⟨l, xs, b, T, rfl, h2, h4, hT, hp, rfl⟩ := h
  have e0 : (List.replicate ((xs.length : Nat) : Int).toNat [PyData.int 0]).flatten = (ci (List.replicate xs.length 0)).map .int := by
    rw [Int.toNat_natCast]
    unfold ci
    rw [List.map_replicate, List.map_replicate]
    have : ∀ n : Nat, (List.replicate n [PyData.int 0]).flatten = List.replicate n (PyData.int ((0 : Nat) : Int)) := by
      intro n
      induction n with
      | zero => rfl
      | succ n ih => rw [List.replicate_succ, List.flatten_cons, ih, List.replicate_succ]; rfl
    exact this _
  have gl : ∀ t, t ≤ T → (gRows xs b t).length < 64 := fun t ht => Nat.lt_of_le_of_lt (gRows_len xs b t).1 (Nat.lt_of_le_of_lt (Nat.pow_le_pow_right (by omega) ht) hp)
  have gw : ∀ t, t < T → ((gRows xs b t).flatMap (wide xs b)).length < 64 := fun t ht => Nat.lt_of_le_of_lt (gRows_len xs b t).2 (Nat.lt_of_le_of_lt (Nat.pow_le_pow_right (by omega) ht) hp)
  refine sx_seq1 (sx_set (ev_lst (ds := [dN (List.replicate xs.length 0)]) (ea_cons (ev_is (ev_op (ev_tup (ds := [.int 0]) (ea_cons ev_int ea_nil) (by simp)) (ev_lenA (ev_var rfl)) (op_repT' ⟨by simp, by simp, by omega, by omega⟩)) (by rw [e0]; rfl)) ea_nil) (by simp))) ?_
  refine sx_seq1 (sx_forF (vs := List.range 40) _ (fun t => [.v (.d (dNum l xs)), .v (.d (.str (wd b))), .v (.d (.int T)), .v (.l ((gRows xs b t).map dN)), .any, .any, .any, .any, .any])
    (it_rngN (ea_cons (ev_var rfl) ea_nil) (by omega)) rfl fun t x hx => ?_) (sx_ret (ev_var rfl) (by rw [rangeD_len]))
  obtain ⟨ht, rfl⟩ := rangeD_get hx
  refine ⟨_, ge_name (by decide), fun _ h => h, ?_⟩
  refine sx_seq1 (sx_set (ev_lst (ds := []) ea_nil (by simp))) ?_
  refine sx_seq1 (sx_forF (vs := List.range 40) _ (fun i => [.v (.d (dNum l xs)), .v (.d (.str (wd b))), .v (.d (.int T)), .v (.l ((gRows xs b t).map dN)), .v (.d (.int t)), .v (.l ((((gRows xs b t).take i).flatMap (wide xs b)).map dN)), .any, .any, .any])
    (it_list (ev_l (ev_var rfl))) rfl fun i x hx => ?_) ?_
  · obtain ⟨row, hrow, rfl⟩ := map_get hx
    obtain ⟨hrl, hrs⟩ := gRows_of (List.mem_of_getElem? hrow)
    refine ⟨_, ge_name (by decide), fun _ h => h, ?_⟩
    have hw := wide_len xs b row
    have htk := gw t ht
    have hsub : (((gRows xs b t).take i).flatMap (wide xs b)).length ≤ 300 := by
      have := flatMap_len (wide xs b) 4 ((gRows xs b t).take i) fun r hr => by
        have := wide_len xs b r
        have := (gRows_of (List.mem_of_mem_take hr)).1
        omega
      have h3 := gl t (by omega)
      rw [List.length_take] at this
      omega
    refine sx_seq1 (sx_set (ev_lc (List.range row.length) (fun i => PyData.int (i : Nat)) (fun k => PyData.int (k : Nat)) (fstB xs b row) (it_rngN (ea_cons (ev_lenN (ev_var rfl)) ea_nil) (by omega)) (by rw [List.length_range]; omega)
      fun k hk => ⟨_, (ge_name (by decide)), (et_B (ev_call (ea_cons (ev_var rfl) (ea_cons (ev_var rfl) (ea_cons (ev_var rfl) (ea_cons (ev_var rfl) ea_nil)))) ⟨l, xs, b, row, k, rfl, hrl, by have := List.mem_range.mp hk; omega, h4, by omega, rfl⟩)), fun hp => (ev_var rfl)⟩)) ?_
    refine sx_to (sx_set (ev_op (ev_var rfl) (ev_is (ev_lc ((List.range row.length).filter (fstB xs b row)) (fun k => PyData.int (k : Nat)) (fun k => dN (bump row k)) (fun _ => true) (it_list (ev_l (ev_var rfl))) (by have := List.length_filter_le (fstB xs b row) (List.range row.length); rw [List.length_range] at this; omega)
      fun k hk => ⟨_, (ge_name (by decide)), et_yes, fun hp => ev_is (ev_op (ev_op (ev_slT (ev_var rfl) eo_no (eo_some (ev_var rfl))) (ev_tup (ds := [.int ((st row k + 1 : Nat) : Int)]) (ea_cons (ev_op (ev_op (ev_var rfl) (ev_var rfl) (ix_T (atS ?_))) ev_int op_i0) ea_nil) (by simp)) (op_catT' ?_)) (ev_slT (ev_var rfl) (eo_some (ev_op (ev_var rfl) ev_int op_i0)) eo_no) (op_catT' ?_)) ?_⟩) (b := .l ((wide xs b row).map dN)) ?_) (op_cat' ?_))) ?_
    · exact List.mem_range.mp (List.mem_filter.mp hk).1
    · have := cutD_len ((ci row).map PyData.int) none (some (k : Int))
      have e : ((ci row).map PyData.int).length = row.length := by unfold ci; rw [List.length_map, List.length_map]
      simp only [List.length_cons, List.length_nil]
      omega
    · have a1 := cutD_len ((ci row).map PyData.int) none (some (k : Int))
      have a2 := cutD_len ((ci row).map PyData.int) (some ((k : Int) + 1)) none
      have e : ((ci row).map PyData.int).length = row.length := by unfold ci; rw [List.length_map, List.length_map]
      simp only [List.length_cons, List.length_nil, List.length_append]
      omega
    · have hk' := List.mem_range.mp (List.mem_filter.mp hk).1
      have e : ((ci row).map PyData.int).length = row.length := by unfold ci; rw [List.length_map, List.length_map]
      have c1 := cut_to (ds := (ci row).map PyData.int) (k := k) (by omega)
      have c2 := cut_from (ds := (ci row).map PyData.int) (k := k + 1) (by omega)
      have ek : ((k + 1 : Nat) : Int) = (k : Int) + 1 := by omega
      rw [ek] at c2
      rw [c1, c2]
      unfold dN tI bump ci
      simp only [List.map_append, List.map_take, List.map_drop, List.map_cons, List.map_nil, List.map_map]
    · rw [filter_tt]
      unfold wide
      rw [List.map_map]
      rfl
    · rw [List.length_map, List.length_map]
      omega
    · have e : ((gRows xs b t).take (i + 1)).flatMap (wide xs b) = ((gRows xs b t).take i).flatMap (wide xs b) ++ wide xs b row := by
        rw [List.take_add_one, hrow, List.flatMap_append]
        simp
      show Wk _ [_, _, _, _, _, Dt.E.v (.l ((((gRows xs b t).take (i + 1)).flatMap (wide xs b)).map dN)), _, _, _]
      rw [e, List.map_append]
      exact ⟨.inr rfl, .inr rfl, .inr rfl, .inr rfl, .inr rfl, .inr rfl, .inl rfl, .inl rfl, .inl rfl, trivial⟩
  · rw [List.length_map, List.take_length]
    have er : ((gRows xs b t).flatMap (wide xs b)).map dN = (((gRows xs b t).flatMap (wide xs b)).map ci).map tI := by rw [List.map_map]; rfl
    refine sx_to (sx_set (ev_is (ev_sortT (B := 64) (dd := xs.length) (rows := ((gRows xs b t).flatMap (wide xs b)).map ci) (ev_is (ev_l (ev_var rfl)) (by rw [er])) (by rw [List.length_map]; exact gw t ht) (by omega) fun r hr => ?_) (b := .l ((gRows xs b (t + 1)).map dN)) ?_)) ⟨.inr rfl, .inr rfl, .inr rfl, .inr rfl, .inl rfl, .inl rfl, .inl rfl, .inl rfl, .inl rfl, trivial⟩
    · obtain ⟨r', hr', rfl⟩ := List.mem_map.mp hr
      obtain ⟨row, h5, h6⟩ := List.mem_flatMap.mp hr'
      have := gRows_of h5
      have := wide_of h6
      exact ⟨by unfold ci; rw [List.length_map]; omega, bd64 (by omega)⟩
    · rw [srtK_map]
      show Dt.A.l _ = .l ((srtK keyN ((gRows xs b t).flatMap (wide xs b))).map dN)
      rw [List.map_map]
      rfl
theorem ok_law_all_ends {f : Addr} {fd : FuncData} (F : L2.Fun K "_law_all_ends" "_law_all_ends" (topS 67) f fd) (T : Txt K mg C)  :
    FnOk P w K mg base CX0 1 f fd ["_law_poll_now"] (spD K C m_law_all_ends) := by
  have sc : FnScope ["_law_poll_now", "_law_found", "_law_word_now", "_law_both", "_law_wider", "_law_row", "_law_each"] ["_law_poll_now"] (defScope (topS 67)) := C8.fnScope_by (by decide +kernel)
  have nd := sc.nd
  refine okD F sc (fun as a h => by obtain ⟨p, rfl, hp, rfl⟩ := h; rfl) fun cdv A outer s H E hr => ⟨_, (pss_cons (ps_set (i := 1) nd rfl (Or.inl rfl) (pe_lst (pa_cons (pe_tup pa_nil) pa_nil)))
      (pss_cons (ps_for PassesOwn.never rfl (pi_tup (pv 0)) (pg_tup rfl (pgs_cons (pg_name (i := 2) nd rfl (Or.inl rfl)) (pgs_cons (pg_name (i := 3) nd rfl (Or.inl rfl)) pgs_nil))) (pss_cons (ps_set (i := 4) nd rfl (Or.inl rfl) (pe_lst pa_nil))
      (pss_cons (ps_for PassesOwn.never rfl (pi_list (pv 1)) (pg_name (i := 5) nd rfl (Or.inr rfl)) (pss_one (ps_set (i := 4) nd rfl (Or.inl rfl) (pe_op op_cat (pv 4) (pe_lc (own := [("_law_each", 6)]) rfl nd (pi_list (pe_callB (cr_sortedSet rfl) (by rfl) T.b_sorted (by decide +kernel) (pa_cons (pe_callTy (SeL.cr_setI rfl) (by rfl) T.b_set (by decide +kernel) (pa_cons (pv 3) pa_nil)) pa_nil))) (blkOk_by (N := ["_law_poll_now", "_law_found", "_law_word_now", "_law_both", "_law_wider", "_law_row", "_law_each"]) (sc := defScope (topS 67)) (by decide +kernel)) (fun _ _ _ _ _ => (pg_name (i := 6) nd rfl (Or.inl rfl))) (fun _ _ _ _ _ => pts_nil) (fun _ _ _ _ _ => (pe_op (op_catAK (K := K) rfl) (pv 5) (pe_tup (pa_cons (pv 6) pa_nil)))))))))
      (pss_one (ps_set (i := 1) nd rfl (Or.inl rfl) (pv 4))))))
      (pss_one (ps_ret (pv 1))))), fun as a h => ?_⟩
  obtain ⟨p, rfl, hp, rfl⟩ := h
  have l4 := hp.len4
  have el : ∀ i, i ≤ 4 → ((p.take i).foldl endS [[]]).length ≤ 16 := fun i hi => by
    have := endsF_len (p.take i) [[]]
    have h2 : 2 ^ (p.take i).length ≤ 2 ^ 4 := Nat.pow_le_pow_right (by decide) (by rw [List.length_take]; omega)
    simp only [List.length_cons, List.length_nil] at this
    omega
  refine sx_seq1 (sx_set (ev_lst (ds := [tI []]) (ea_cons (ev_tup (ds := []) ea_nil (by simp)) ea_nil) (by simp))) ?_
  refine sx_seq1 (sx_forF (vs := List.range 40) _ (fun i => [.v (.d (dPoll p)), .v (.l (((p.take i).foldl endS [[]]).map tI)), .any, .any, .any, .any, .any])
    (it_tup (ev_var rfl)) rfl fun i x hx => ?_) (sx_ret (ev_var rfl) (by rw [List.length_map, List.take_length]; rfl))
  obtain ⟨q, hq, rfl⟩ := map_get hx
  have hi : i < p.length := (List.getElem?_eq_some_iff.mp hq).1
  refine ⟨_, (ge_tup rfl (ges_cons (ge_name (by decide)) (ges_cons (ge_name (by decide)) ges_nil))), fun _ h => h, ?_⟩
  have e1 : (p.take (i + 1)).foldl endS [[]] = endS ((p.take i).foldl endS [[]]) q := by
    rw [List.take_add_one, hq, List.foldl_append]
    rfl
  generalize hacc : (p.take i).foldl endS [[]] = acc at e1
  have hal : acc.length ≤ 16 := by rw [← hacc]; exact el i (by omega)
  have har : ∀ r ∈ acc, r.length ≤ 4 := fun r hr => by
    rw [← hacc] at hr
    have := endsF_row (p.take i) [[]] 0 (fun r hr => by rw [List.mem_singleton.mp hr]; rfl) r hr
    rw [List.length_take] at this
    omega
  refine sx_seq1 (sx_set (ev_lst (ds := []) ea_nil (by simp))) ?_
  refine sx_seq1 (sx_forF (vs := List.range 40) _ (fun j => [.v (.d (dPoll p)), .v (.l (acc.map tI)), .v (.d (.str q.1)), .v (.d (tI [q.2.1, q.2.2])), .v (.l ((endS (acc.take j) q).map tI)), .any, .any])
    (it_list (ev_l (ev_var rfl))) rfl fun j x hx => ?_) ?_
  · obtain ⟨row, hrow, rfl⟩ := map_get hx
    have hr4 := har row (List.mem_of_getElem? hrow)
    refine ⟨_, ge_name (by decide), fun _ h => h, ?_⟩
    have sl := srtK_len id [q.2.1, q.2.2]
    have hl := endS_len (acc.take j) q
    rw [List.length_take] at hl
    simp only [List.length_cons, List.length_nil] at sl
    refine sx_to (sx_set (ev_op (ev_var rfl) (ev_is (ev_lc (srtK id [q.2.1, q.2.2]) PyData.int (fun e => tI (row ++ [e])) (fun _ => true) (it_list (ev_l (ev_sortI (ns := [q.2.1, q.2.2]) (.inr (ev_var rfl)) (by simp)))) (by omega)
      fun e he => ⟨_, (ge_name (by decide)), et_yes, fun hp => ev_is (ev_op (ev_var rfl) (ev_tup (ds := [.int e]) (ea_cons (ev_var rfl) ea_nil) (by simp)) (op_catT' ?_)) ?_⟩) (b := .l (((srtK id [q.2.1, q.2.2]).map fun e => row ++ [e]).map tI)) ?_) (op_cat' ?_))) ?_
    · rw [List.length_map]
      simp only [List.length_cons, List.length_nil]
      omega
    · unfold tI
      rw [List.map_append]
      rfl
    · rw [filter_tt, List.map_map]
      rfl
    · rw [List.length_map, List.length_map, List.length_map]
      omega
    · have e : endS (acc.take (j + 1)) q = endS (acc.take j) q ++ (srtK id [q.2.1, q.2.2]).map fun e => row ++ [e] := by
        unfold endS
        rw [List.take_add_one, hrow, List.flatMap_append]
        simp
      show Wk _ [_, _, _, _, Dt.E.v (.l ((endS (acc.take (j + 1)) q).map tI)), _, _]
      rw [e, List.map_append]
      exact ⟨.inr rfl, .inr rfl, .inr rfl, .inr rfl, .inr rfl, .inl rfl, .inl rfl, trivial⟩
  · rw [List.length_map, List.take_length]
    refine sx_to (sx_set (ev_var rfl)) ?_
    show Wk _ [_, Dt.E.v (.l (((p.take (i + 1)).foldl endS [[]]).map tI)), _, _, _, _, _]
    rw [e1]
    exact ⟨.inr rfl, .inr rfl, .inl rfl, .inl rfl, .inl rfl, .inl rfl, .inl rfl, trivial⟩
theorem sh_d {dd : Nat} (hdd : 1 ≤ dd) {f : Addr} {fd : FuncData} (F : L2.Fun K "_law_shares" "_law_shares" (topS 62) f fd) (T : Txt K mg C) : FnOk P w K mg base CX0 1 f fd ["_law_many", "_law_total"] (spD K C (m_sh dd)) := by
  have sc : FnScope ["_law_many", "_law_total", "_law_found", "_law_k", "_law_wider", "_law_row", "_law_left", "_law_first", "_law_each"] ["_law_many", "_law_total"] (defScope (topS 62)) := C8.fnScope_by (by decide +kernel)
  have nd := sc.nd
  refine okD F sc (fun as a h => by obtain ⟨T, rfl, h⟩ := h; rfl) fun cdv A outer s H E hr => ⟨_, (pss_cons (ps_set (i := 2) nd rfl (Or.inl rfl) (pe_lst (pa_cons (pe_tup pa_nil) pa_nil)))
      (pss_cons (ps_for PassesOwn.never rfl (pi_range1 rfl T.b_range (pa_cons (pv 0) pa_nil)) (pg_name (i := 3) nd rfl (Or.inl rfl)) (pss_cons (ps_set (i := 4) nd rfl (Or.inl rfl) (pe_lst pa_nil))
      (pss_cons (ps_for PassesOwn.never rfl (pi_list (pv 2)) (pg_name (i := 5) nd rfl (Or.inr rfl)) (pss_cons (ps_set (i := 6) nd rfl (Or.inl rfl) (pe_op op_sub (pv 1) (pe_callB (Ru.cr_sumT rfl) (by rfl) T.b_sum (by decide +kernel) (pa_cons (pv 5) pa_nil))))
      (pss_cons (ps_set (i := 7) nd rfl (Or.inl rfl) (pe_ifExp (pt_cmpR op_eq (pv 3) (pe_op op_sub (pv 0) pe_int) (nomark _)) (pv 6) pe_int))
      (pss_one (ps_set (i := 4) nd rfl (Or.inl rfl) (pe_op op_cat (pv 4) (pe_lc (own := [("_law_each", 8)]) rfl nd (pi_range2 rfl T.b_range (pa_cons (pv 7) (pa_cons (pe_op op_add (pv 6) pe_int) pa_nil))) (blkOk_by (N := ["_law_many", "_law_total", "_law_found", "_law_k", "_law_wider", "_law_row", "_law_left", "_law_first", "_law_each"]) (sc := defScope (topS 62)) (by decide +kernel)) (fun _ _ _ _ _ => (pg_name (i := 8) nd rfl (Or.inl rfl))) (fun _ _ _ _ _ => pts_nil) (fun _ _ _ _ _ => (pe_op (op_catAK (K := K) rfl) (pv 5) (pe_tup (pa_cons (pv 8) pa_nil)))))))))))
      (pss_one (ps_set (i := 2) nd rfl (Or.inl rfl) (pv 4))))))
      (pss_one (ps_ret (pe_callB (cr_sortT (d := dd) (B := 64) hdd) (by rfl) T.b_sorted (by decide +kernel) (pa_cons (pv 2) pa_nil)))))), fun as a h => ?_⟩
  obtain ⟨T, rfl, h4, h2, h1, h6, rfl⟩ := h
  obtain ⟨s1, s2, s3, s4⟩ := sh_all h4 h2 h1 h6
  refine sx_seq1 (sx_set (ev_lst (ds := [dN []]) (ea_cons (ev_tup (ds := []) ea_nil (by simp)) ea_nil) (by simp))) ?_
  refine sx_seq1 (sx_forF (vs := List.range 40) _ (fun k => [.v (.d (.int dd)), .v (.d (.int T)), .v (.l ((shF dd T k).map dN)), .any, .any, .any, .any, .any, .any])
    (it_rngN (ea_cons (ev_var rfl) ea_nil) (by omega)) rfl fun k x hx => ?_) ?_
  · obtain ⟨hk, rfl⟩ := rangeD_get hx
    obtain ⟨hl, hrows⟩ := s3 k hk
    refine ⟨_, ge_name (by decide), fun _ h => h, ?_⟩
    refine sx_seq1 (sx_set (ev_lst (ds := []) ea_nil (by simp))) ?_
    refine sx_seq1 (sx_forF (vs := List.range 40) _ (fun j => [.v (.d (.int dd)), .v (.d (.int T)), .v (.l ((shF dd T k).map dN)), .v (.d (.int k)), .v (.l ((((shF dd T k).take j).flatMap (shS dd T k)).map dN)), .any, .any, .any, .any])
      (it_list (ev_l (ev_var rfl))) rfl fun j x hx => ?_) ?_
    · obtain ⟨row, hrow, rfl⟩ := map_get hx
      obtain ⟨hrs, hrl⟩ := hrows row (List.mem_of_getElem? hrow)
      refine ⟨_, ge_name (by decide), fun _ h => h, ?_⟩
      have ef : (if k + 1 = dd then T - row.sum else 0) ≤ T - row.sum := by split <;> omega
      have i1 : ∀ {ρ : List Dt.E} {ta tk tn : TE}, EvE K C tk ρ (.d (.int k)) → EvE K C tn ρ (.d (.int ((dd : Int) - 1))) → EvE K C ta ρ (.d (.int ((T - row.sum : Nat) : Int))) → EvE K C (tIf (tTest (tOp rEq tk tn)) ta (tC (.int 0))) ρ (.d (.int ((if k + 1 = dd then T - row.sum else 0 : Nat) : Int))) := fun h1 h2 h3 => by
        by_cases h : k + 1 = dd
        · rw [if_pos h]
          exact ev_ifE (et_is (et_test (ev_op h1 h2 (op_eqF rfl rfl rfl))) (decide_eq_true (congrArg V.int (by omega)))) h3
        · rw [if_neg h]
          exact ev_elE (et_is (et_test (ev_op h1 h2 (op_eqF rfl rfl rfl))) (decide_eq_false fun z => by injection z with z; omega)) ev_int
      have el : (((T : Int) - (ci row).sum)) = ((T - row.sum : Nat) : Int) := by rw [ci_sum]; omega
      generalize hF : (if k + 1 = dd then T - row.sum else 0) = fi at ef i1
      have er : rng ((fi : Nat) : Int) (((T - row.sum : Nat) : Int) + 1 - ((fi : Nat) : Int)).toNat = ((List.range (T - row.sum + 1 - fi)).map fun e => fi + e).map fun e => PyData.int ((e : Nat) : Int) := by
        unfold rng
        rw [List.map_map, show (((T - row.sum : Nat) : Int) + 1 - ((fi : Nat) : Int)).toNat = T - row.sum + 1 - fi by omega]
        exact List.map_congr_left fun i _ => by show PyData.int _ = PyData.int _; congr 1
      have esh : shS dd T k row = ((List.range (T - row.sum + 1 - fi)).map fun e => fi + e).map fun e => row ++ [e] := by
        unfold shS
        rw [hF, List.map_map]
        rfl
      have hsub : (((shF dd T k).take j).flatMap (shS dd T k)).length ≤ 1000 := by
        have := flatMap_len (shS dd T k) 6 ((shF dd T k).take j) fun r hr => by
          unfold shS
          rw [List.length_map, List.length_range]
          omega
        rw [List.length_take] at this
        omega
      refine sx_seq1 (sx_set (ev_is (ev_op (ev_var rfl) (ev_cb (ea_cons (ev_var rfl) ea_nil) cd_sumT) op_i0) (b := .d (.int ((T - row.sum : Nat) : Int))) (by rw [el])))
        (sx_seq1 (sx_set (i1 (ev_var rfl) (ev_op (ev_var rfl) ev_int op_i0) (ev_var rfl)))
        (sx_to (sx_set (ev_op (ev_var rfl) (ev_is (ev_lc ((List.range (T - row.sum + 1 - fi)).map fun e => fi + e) (fun e => PyData.int ((e : Nat) : Int)) (fun e => dN (row ++ [e])) (fun _ => true) (it_is (it_rng2 (ea_cons (ev_var rfl) (ea_cons (ev_op (ev_var rfl) ev_int op_i0) ea_nil)) (by omega) (by omega) (by omega)) er) (by rw [List.length_map, List.length_range]; omega)
          fun e he => ⟨_, (ge_name (by decide)), et_yes, fun hp => ev_is (ev_op (ev_var rfl) (ev_tup (ds := [.int (e : Nat)]) (ea_cons (ev_var rfl) ea_nil) (by simp)) (op_catT' ?_)) ?_⟩) (b := .l ((shS dd T k row).map dN)) ?_) (op_cat' ?_))) ?_))
      · unfold ci
        rw [List.length_map, List.length_map]
        simp only [List.length_cons, List.length_nil]
        omega
      · unfold dN tI ci
        rw [List.map_append, List.map_append]
        rfl
      · rw [filter_tt, esh]
        simp only [List.map_map]
        rfl
      · rw [List.length_map, List.length_map, esh, List.length_map, List.length_map, List.length_range]
        omega
      · have e : ((shF dd T k).take (j + 1)).flatMap (shS dd T k) = ((shF dd T k).take j).flatMap (shS dd T k) ++ shS dd T k row := by
          rw [List.take_add_one, hrow, List.flatMap_append]
          simp
        show Wk _ [_, _, _, _, Dt.E.v (.l ((((shF dd T k).take (j + 1)).flatMap (shS dd T k)).map dN)), _, _, _, _]
        rw [e, List.map_append]
        exact ⟨.inr rfl, .inr rfl, .inr rfl, .inr rfl, .inr rfl, .inl rfl, .inl rfl, .inl rfl, .inl rfl, trivial⟩
    · rw [List.length_map, List.take_length]
      exact sx_to (sx_set (ev_var rfl)) ⟨.inr rfl, .inr rfl, .inr rfl, .inl rfl, .inl rfl, .inl rfl, .inl rfl, .inl rfl, .inl rfl, trivial⟩
  · rw [rangeD_len, s1]
    have er : (en (dd - 1) T).map dN = ((en (dd - 1) T).map ci).map tI := by rw [List.map_map]; rfl
    refine sx_ret (ev_is (ev_sortU (B := 64) (dd := dd) (rows := (en (dd - 1) T).map ci) (ev_is (ev_l (ev_var rfl)) (by rw [er])) (by rw [List.length_map]; exact s2) (fun r hr => ?_) ?_) (by rw [← er])) rfl
    · obtain ⟨r', hr', rfl⟩ := List.mem_map.mp hr
      have := mem_en.mp hr'
      exact ⟨by unfold ci; rw [List.length_map]; omega, bd64 (by omega)⟩
    · exact List.pairwise_map.mpr s4
theorem ok_law_shares {f : Addr} {fd : FuncData} (F : L2.Fun K "_law_shares" "_law_shares" (topS 62) f fd) (T : Txt K mg C) : FnOk P w K mg base CX0 1 f fd ["_law_many", "_law_total"] (spD K C m_law_shares) := by
  refine ⟨fun vs H Q E h => ?_, fun A outer s H args us vs Q E hr he hbi hv hs => ?_⟩
  · obtain ⟨S, as, a, s, hv, ⟨n, hm⟩, q⟩ := h
    obtain ⟨_, rfl, _⟩ := id hm
    rw [hv.len]
    rfl
  · obtain ⟨S, as, a, s, hv', ⟨n, hm⟩, q⟩ := hs
    have hn : 1 ≤ n := by obtain ⟨_, _, _, h, _⟩ := id hm; omega
    exact (sh_d hn F T).run A outer _ H args us vs Q E hr he hbi hv ⟨S, as, a, s, hv', hm, q⟩
end
end Dt
end
section
set_option Elab.async false
set_option linter.all false
set_option maxRecDepth 100000
namespace Dt
open PySem
/-! The plain law: what the defs compute answers as the statement says. -/
/-! ### lists of seats as functions -/
theorem st_out {s : List Nat} {i : Nat} (h : s.length ≤ i) : st s i = 0 := by
  unfold st
  rw [List.getD_eq_getElem?_getD, List.getElem?_eq_none h]
  rfl
theorem sm_take (s : List Nat) : ∀ n, n ≤ s.length → Ap.sm n (st s) = (s.take n).sum
  | 0, _ => by rw [List.take_zero]; rfl
  | n + 1, h => by
    rw [List.take_add_one, List.getElem?_eq_getElem (show n < s.length by omega), List.sum_append]
    show Ap.sm n (st s) + st s n = _
    rw [sm_take s n (by omega), st_get (show n < s.length by omega)]
    simp
theorem sm_st (s : List Nat) : Ap.sm s.length (st s) = s.sum := by rw [sm_take s s.length (Nat.le_refl _), List.take_length]
/-- the list of a function -/
def fl' (n : Nat) (f : Nat → Nat) : List Nat := (List.range n).map f
theorem fl_len (n : Nat) (f : Nat → Nat) : (fl' n f).length = n := by unfold fl'; rw [List.length_map, List.length_range]
theorem st_fl {n : Nat} {f : Nat → Nat} {i : Nat} (h : i < n) : st (fl' n f) i = f i := by
  rw [st_get (by rw [fl_len]; exact h)]
  unfold fl'
  rw [List.getElem_map, List.getElem_range]
theorem fl_sum (n : Nat) (f : Nat → Nat) : (fl' n f).sum = Ap.sm n f := by
  rw [← sm_st, fl_len]
  exact Ap.sm_congr n fun i hi => st_fl hi
theorem st_ext {s t : List Nat} (hl : s.length = t.length) (h : ∀ i, i < s.length → st s i = st t i) : s = t := by
  refine List.ext_getElem hl fun i h1 h2 => ?_
  have := h i h1
  rw [st_get h1, st_get h2] at this
  exact this
theorem gd_congr {d : Nat → Int} {n : Nat} {lo hi : Nat → Int} {s t : Nat → Nat} (h : ∀ i, i < n → s i = t i) (g : Ap.Gd d n lo hi s) : Ap.Gd d n lo hi t := fun k j hk hj hne hp => by
  have := g k j hk hj hne (by rw [h k hk]; exact hp)
  rw [h k hk, h j hj] at this
  exact this
theorem dvp (b : Bool) : ∀ k : Nat, 0 < k → 0 < Ap.dv b k := fun k h => Ap.dv_pos b k h
theorem dvm (b : Bool) : ∀ x y : Nat, x ≤ y → Ap.dv b x ≤ Ap.dv b y := fun x y h => Ap.dv_mono b x y h
/-! ### bad pairs -/
theorem bad_nil {p : Poll} {b : Bool} {s : List Nat} {v : Bool} : badL p b s v = [] ↔ ∀ k j, k < s.length → j < s.length → bdC p b s v k j = false := by
  unfold badL badR
  rw [List.flatMap_eq_nil_iff]
  constructor
  · intro h k j hk hj
    have h1 := h k (List.mem_range.mpr hk)
    rw [List.map_eq_nil_iff] at h1
    exact Bool.eq_false_iff.mpr fun z => by
      have : j ∈ (List.range s.length).filter (bdC p b s v k) := List.mem_filter.mpr ⟨List.mem_range.mpr hj, z⟩
      rw [h1] at this
      cases this
  · intro h k hk
    rw [List.map_eq_nil_iff, List.filter_eq_nil_iff]
    intro j hj z
    rw [h k j (List.mem_range.mp hk) (List.mem_range.mp hj)] at z
    cases z
theorem bad_mem {p : Poll} {b : Bool} {s : List Nat} {v : Bool} {k j : Nat} (hk : k < s.length) (hj : j < s.length) (h : bdC p b s v k j = true) : (k, j) ∈ badL p b s v :=
  List.mem_flatMap.mpr ⟨k, List.mem_range.mpr hk, List.mem_map.mpr ⟨j, List.mem_filter.mpr ⟨List.mem_range.mpr hj, h⟩, rfl⟩⟩
theorem mem_bad {p : Poll} {b : Bool} {s : List Nat} {v : Bool} {k j : Nat} (h : (k, j) ∈ badL p b s v) : k < s.length ∧ j < s.length := by
  obtain ⟨k', h1, h2⟩ := List.mem_flatMap.mp h
  obtain ⟨j', h3, h4⟩ := List.mem_map.mp h2
  have e1 : k' = k := congrArg Prod.fst h4
  have e2 : j' = j := congrArg Prod.snd h4
  subst e1 e2
  exact ⟨List.mem_range.mp h1, List.mem_range.mp (List.mem_filter.mp h3).1⟩
theorem bdC_iff {p : Poll} {b : Bool} {s : List Nat} {v : Bool} {k j : Nat} : bdC p b s v k j = true ↔ 0 < st s k ∧ j ≠ k ∧ (if v then lo p k else hi p k) * Ap.dv b (st s j + 1) < (if v then hi p j else lo p j) * Ap.dv b (st s k) := by
  unfold bdC
  rw [Bool.and_eq_true, Bool.and_eq_true, decide_eq_true_iff, decide_eq_true_iff, decide_eq_true_iff]
  constructor
  · rintro ⟨h1, h2, h3⟩
    rw [show max 1 (st s k) = st s k by omega] at h3
    exact ⟨h1, h2, h3⟩
  · rintro ⟨h1, h2, h3⟩
    rw [show max 1 (st s k) = st s k by omega]
    exact ⟨h1, h2, h3⟩
theorem bad_gd {p : Poll} {b : Bool} {s : List Nat} : badL p b s false = [] ↔ Ap.Gd (Ap.dv b) s.length (lo p) (hi p) (st s) := by
  rw [bad_nil]
  constructor
  · intro h k j hk hj hne hp
    refine Int.not_lt.mp fun z => ?_
    have := h k j hk hj
    rw [(bdC_iff (p := p) (b := b) (v := false)).mpr ⟨hp, hne, z⟩] at this
    cases this
  · intro h k j hk hj
    refine Bool.eq_false_iff.mpr fun z => ?_
    obtain ⟨h1, h2, h3⟩ := bdC_iff.mp z
    exact absurd (h k j hk hj h2 h1) (Int.not_le.mpr h3)
theorem worse_gd {p : Poll} {b : Bool} {s : List Nat} : badL p b s true = [] ↔ Ap.Gd (Ap.dv b) s.length (hi p) (lo p) (st s) := by
  rw [bad_nil]
  constructor
  · intro h k j hk hj hne hp
    refine Int.not_lt.mp fun z => ?_
    have := h k j hk hj
    rw [(bdC_iff (p := p) (b := b) (v := true)).mpr ⟨hp, hne, z⟩] at this
    cases this
  · intro h k j hk hj
    refine Bool.eq_false_iff.mpr fun z => ?_
    obtain ⟨h1, h2, h3⟩ := bdC_iff.mp z
    exact absurd (h k j hk hj h2 h1) (Int.not_le.mpr h3)
/-! ### the greatest next, the least last worth -/
theorem gn_max {p : Poll} (hp : OkPoll p) (b : Bool) (s : List Nat) : ∀ i c, c < i → lo p c * Ap.dv b (st s (gnF p b s i) + 1) ≤ lo p (gnF p b s i) * Ap.dv b (st s c + 1)
  | 0, c, h => absurd h (Nat.not_lt_zero _)
  | i + 1, c, h => by
    have pos : ∀ x, 0 < Ap.dv b (st s x + 1) := fun x => Ap.dv_pos b _ (by omega)
    have ih := gn_max hp b s i
    unfold gnF
    split
    · rename_i z
      by_cases e : c = i
      · rw [e]; exact Int.le_refl _
      · exact Ap.frac_trans (ih c (by omega)) (Int.le_of_lt z) (Int.le_of_lt (pos _)) (pos _) (Int.le_of_lt (pos _))
    · rename_i z
      by_cases e : c = i
      · rw [e]; exact Int.not_lt.mp z
      · exact ih c (by omega)
theorem ll_min {p : Poll} {b : Bool} {s : List Nat} : ∀ (l : List Nat) (f : Nat), (∀ a ∈ l, 0 < st s a) → 0 < st s f → ∀ a ∈ f :: l, hi p (l.foldl (llS p b s) f) * Ap.dv b (st s a) ≤ hi p a * Ap.dv b (st s (l.foldl (llS p b s) f))
  | [], f, _, _, a, h => by rw [List.mem_singleton.mp h]; exact Int.le_refl _
  | x :: l, f, hl, hf, a, h => by
    rw [List.foldl_cons]
    have hx := hl x List.mem_cons_self
    have hlt : ∀ a ∈ l, 0 < st s a := fun a ha => hl a (List.mem_cons_of_mem _ ha)
    have hpos : 0 < st s (llS p b s f x) := by
      unfold llS
      split
      · exact hx
      · exact hf
    have ih := ll_min (p := p) (b := b) l (llS p b s f x) hlt hpos
    have hstep : ∀ a, (a = f ∨ a = x) → hi p (llS p b s f x) * Ap.dv b (st s a) ≤ hi p a * Ap.dv b (st s (llS p b s f x)) := fun a ha => by
      unfold llS
      split
      · rename_i z
        rcases ha with e | e
        · rw [e]; exact Int.le_of_lt z
        · rw [e]; exact Int.le_refl _
      · rename_i z
        rcases ha with e | e
        · rw [e]; exact Int.le_refl _
        · rw [e]; exact Int.not_lt.mp z
    have via : ∀ a, 0 < st s a → (a = f ∨ a = x) → hi p (l.foldl (llS p b s) (llS p b s f x)) * Ap.dv b (st s a) ≤ hi p a * Ap.dv b (st s (l.foldl (llS p b s) (llS p b s f x))) := fun a hpa ha => by
      have h1 := ih (llS p b s f x) List.mem_cons_self
      have h2 := hstep a ha
      refine Ap.frac_trans h1 h2 ?_ (dvp b _ hpos) (Int.le_of_lt (dvp b _ hpa))
      have : 0 < st s (l.foldl (llS p b s) (llS p b s f x)) := by
        have key : ∀ (l : List Nat) (f : Nat), (∀ a ∈ l, 0 < st s a) → 0 < st s f → 0 < st s (l.foldl (llS p b s) f) := by
          intro l
          induction l with
          | nil => intro f _ h; exact h
          | cons y l ih =>
            intro f h1 h2
            rw [List.foldl_cons]
            refine ih _ (fun a ha => h1 a (List.mem_cons_of_mem _ ha)) ?_
            unfold llS
            split
            · exact h1 y List.mem_cons_self
            · exact h2
        exact key l _ hlt hpos
      exact Int.le_of_lt (dvp b _ this)
    rcases List.mem_cons.mp h with e | e
    · exact via a (by rw [e]; exact hf) (.inl e)
    · rcases List.mem_cons.mp e with e | e
      · exact via a (by rw [e]; exact hx) (.inr e)
      · exact ih a (List.mem_cons_of_mem _ e)
theorem ll_least {p : Poll} {b : Bool} {s : List Nat} (h : 1 ≤ s.sum) {a : Nat} (ha : a ∈ somes s) : hi p (llF p b s) * Ap.dv b (st s a) ≤ hi p a * Ap.dv b (st s (llF p b s)) :=
  ll_min (somes s) _ (fun a h => (mem_somes.mp h).2) (mem_somes.mp (ll0_mem h)).2 a (List.mem_cons_of_mem _ ha)
section
variable {p : Poll} {b : Bool} {s : List Nat} (hp : OkPoll p) (hs : OkS p s)
theorem gn_lt' (hp : OkPoll p) : gnF p b s p.length < p.length := gnF_lt p b s (by have := hp.len2; omega) p.length (Nat.le_refl _)
theorem comes_le : comesB p b s = true ↔ lo p (gnF p b s p.length) * Ap.dv b (st s (llF p b s)) ≤ hi p (llF p b s) * Ap.dv b (st s (gnF p b s p.length) + 1) := by
  unfold comesB
  rw [Bool.not_eq_true', decide_eq_false_iff_not, Int.not_lt]
include hp hs in
theorem same_le (h : llF p b s = gnF p b s p.length) : comesB p b s = true := by
  rw [comes_le, h]
  have h1 := lohi hp (gnF p b s p.length)
  have h3 := dvm b (st s (gnF p b s p.length)) (st s (gnF p b s p.length) + 1) (by omega)
  have h4 := dvp b (st s (gnF p b s p.length)) (by rw [← h]; exact (mem_somes.mp (llF_mem hs.pos)).2)
  exact Ap.mul_mono h1.2.1 h3 (by omega) (by omega)
include hp hs in
theorem comes_iff : comesB p b s = true ↔ badL p b s false = [] := by
  rw [bad_gd, hs.len]
  constructor
  · intro h k j hk hj hne hpos
    rw [comes_le] at h
    have a1 := gn_max hp b s p.length j hj
    have a2 := ll_least (p := p) (b := b) hs.pos (mem_somes.mpr ⟨by rw [hs.len]; exact hk, hpos⟩)
    have hl := (mem_somes.mp (llF_mem (p := p) (b := b) hs.pos)).2
    have c1 := Ap.frac_trans a1 h (Int.le_of_lt (dvp b _ (by omega))) (dvp b _ (by omega)) (Int.le_of_lt (dvp b _ hl))
    exact Ap.frac_trans c1 a2 (Int.le_of_lt (dvp b _ (by omega))) (dvp b _ hl) (Int.le_of_lt (dvp b _ hpos))
  · intro h
    by_cases e : llF p b s = gnF p b s p.length
    · exact same_le hp hs e
    · rw [comes_le]
      have hl := mem_somes.mp (llF_mem (p := p) (b := b) hs.pos)
      exact h _ _ (by rw [← hs.len]; exact hl.1) (gn_lt' hp) (Ne.symm e) hl.2
include hp hs in
theorem barred_mem (h : comesB p b s = false) : (llF p b s, gnF p b s p.length) ∈ badL p b s false := by
  have hl := mem_somes.mp (llF_mem (p := p) (b := b) hs.pos)
  have hne : gnF p b s p.length ≠ llF p b s := fun e => by
    have := same_le hp hs e.symm
    rw [h] at this
    cases this
  refine bad_mem hl.1 (by rw [hs.len]; exact gn_lt' hp) (bdC_iff.mpr ⟨hl.2, hne, ?_⟩)
  unfold comesB at h
  rw [Bool.not_eq_false', decide_eq_true_iff] at h
  exact h
include hs in
theorem sure_iff : sureB p b s = true ↔ badL p b s true = [] := by
  rw [worse_gd, hs.len]
  unfold sureB
  rw [List.all_eq_true]
  constructor
  · intro h k j hk hj hne hpos
    have h1 := h k (List.mem_range.mpr hk)
    unfold sureAt at h1
    rw [decide_eq_true hpos, Bool.true_and, Bool.not_eq_true'] at h1
    refine Int.not_lt.mp fun z => ?_
    have : (((List.range p.length).filter fun o => decide (o ≠ k)).any fun o => decide (lo p k * Ap.dv b (st s o + 1) < hi p o * Ap.dv b (st s k))) = true :=
      List.any_eq_true.mpr ⟨j, List.mem_filter.mpr ⟨List.mem_range.mpr hj, decide_eq_true hne⟩, decide_eq_true z⟩
    rw [h1] at this
    cases this
  · intro h k hk
    unfold sureAt
    by_cases hpos : 0 < st s k
    · rw [decide_eq_true hpos, Bool.true_and, Bool.not_eq_true']
      refine Bool.eq_false_iff.mpr fun z => ?_
      obtain ⟨j, h1, h2⟩ := List.any_eq_true.mp z
      obtain ⟨h3, h4⟩ := List.mem_filter.mp h1
      exact absurd (h k j (List.mem_range.mp hk) (List.mem_range.mp h3) (of_decide_eq_true h4) hpos) (Int.not_le.mpr (of_decide_eq_true h2))
    · rw [decide_eq_false hpos, Bool.false_and]
      rfl
/-! ### the price -/
def prG (p : Poll) (b : Bool) (s : List Nat) : Nat := Nat.gcd (prTop p b s) (prBot p b s)
def prX (p : Poll) (b : Bool) (s : List Nat) : Nat := prTop p b s / prG p b s
def prY (p : Poll) (b : Bool) (s : List Nat) : Nat := prBot p b s / prG p b s
include hp hs in
theorem prBot_pos : 0 < prBot p b s ∧ prBot p b s < 1000000 ∧ ((prBot p b s : Nat) : Int) = Ap.dv b (st s (gnF p b s p.length) + 1) ∧ ((prTop p b s : Nat) : Int) = lo p (gnF p b s p.length) := by
  have h1 := st_le s (gnF p b s p.length)
  have h2 := hs.le
  have h3 := lohi hp (gnF p b s p.length)
  unfold prBot prTop Ap.dv
  split <;> omega
include hp hs in
theorem pr_ok : 0 < prG p b s ∧ 0 < prY p b s ∧ prY p b s < 1000000 ∧ Nat.gcd (prX p b s) (prY p b s) = 1 ∧ prTop p b s = prX p b s * prG p b s ∧ prBot p b s = prY p b s * prG p b s := by
  obtain ⟨h1, h2, _, _⟩ := prBot_pos (b := b) hp hs
  have hg : 0 < prG p b s := Nat.gcd_pos_of_pos_right _ h1
  have e1 : prTop p b s = prX p b s * prG p b s := (Nat.div_mul_cancel (Nat.gcd_dvd_left _ _)).symm
  have e2 : prBot p b s = prY p b s * prG p b s := (Nat.div_mul_cancel (Nat.gcd_dvd_right _ _)).symm
  refine ⟨hg, ?_, ?_, Nat.gcd_div_gcd_div_gcd_of_pos_right h1, e1, e2⟩
  · refine Nat.pos_of_ne_zero fun z => ?_
    rw [e2, z, Nat.zero_mul] at h1
    exact absurd h1 (Nat.lt_irrefl _)
  · exact Nat.lt_of_le_of_lt (Nat.div_le_self _ _) h2
theorem cancel_le {a c : Int} {g : Nat} (hg : 0 < g) (h : a * (g : Int) ≤ c * (g : Int)) : a ≤ c := Int.le_of_mul_le_mul_right h (by omega)
include hp hs in
theorem price_lo {k : Nat} (hk : k < p.length) : lo p k * ((prY p b s : Nat) : Int) ≤ ((prX p b s : Nat) : Int) * Ap.dv b (st s k + 1) := by
  obtain ⟨hg, _, _, _, e1, e2⟩ := pr_ok (b := b) hp hs
  obtain ⟨_, _, e3, e4⟩ := prBot_pos (b := b) hp hs
  have h := gn_max hp b s p.length k hk
  rw [← e3, ← e4, e1, e2, Int.natCast_mul, Int.natCast_mul] at h
  refine cancel_le hg ?_
  grind
include hp hs in
theorem price_hi (hc : comesB p b s = true) {k : Nat} (hk : k < p.length) (hpos : 0 < st s k) : ((prX p b s : Nat) : Int) * Ap.dv b (st s k) ≤ hi p k * ((prY p b s : Nat) : Int) := by
  obtain ⟨hg, _, _, _, e1, e2⟩ := pr_ok (b := b) hp hs
  obtain ⟨_, _, e3, e4⟩ := prBot_pos (b := b) hp hs
  rw [comes_le] at hc
  have a2 := ll_least (p := p) (b := b) hs.pos (mem_somes.mpr ⟨by rw [hs.len]; exact hk, hpos⟩)
  have hl := (mem_somes.mp (llF_mem (p := p) (b := b) hs.pos)).2
  have h := Ap.frac_trans hc a2 (Int.le_of_lt (dvp b _ (by omega))) (dvp b _ hl) (Int.le_of_lt (dvp b _ hpos))
  rw [← e3, ← e4, e1, e2, Int.natCast_mul, Int.natCast_mul] at h
  refine cancel_le hg ?_
  grind
theorem priceD_yes (h : comesB p b s = true) : priceD p b s = tI [((prX p b s : Nat) : Int), ((prY p b s : Nat) : Int)] := by
  unfold priceD
  rw [if_pos h]
  rfl
theorem priceD_no (h : comesB p b s = false) : priceD p b s = .none := by
  unfold priceD
  rw [if_neg (by rw [h]; decide)]
theorem barD_yes (h : comesB p b s = true) : barD p b s = .none := by
  unfold barD
  rw [if_pos h]
theorem barD_no (h : comesB p b s = false) : barD p b s = .tuple [.str (nm p (llF p b s)), .str (nm p (gnF p b s p.length))] := by
  unfold barD
  rw [if_neg (by rw [h]; decide)]
end
/-! ### the seatings of a member -/
def xf (xs : List Int) (i : Nat) : Int := xs.getD i 0
theorem fst_iff {xs : List Int} {b : Bool} {row : List Nat} {k : Nat} : fstB xs b row k = true ↔ Ap.Fst (Ap.dv b) row.length (xf xs) (st row) k := by
  unfold fstB
  rw [List.all_eq_true]
  constructor
  · intro h j hj
    have := h j (List.mem_range.mpr hj)
    rw [Bool.not_eq_true', decide_eq_false_iff_not, Int.not_lt] at this
    exact this
  · intro h j hj
    rw [Bool.not_eq_true', decide_eq_false_iff_not, Int.not_lt]
    exact h j (List.mem_range.mp hj)
theorem st_bump {row : List Nat} {k : Nat} (hk : k < row.length) {i : Nat} (hi : i < row.length) : st (bump row k) i = Ap.up (st row) k i := by
  have hl := bump_len hk
  rw [st_get (by omega)]
  unfold bump Ap.up
  by_cases h1 : i < k
  · rw [List.getElem_append_left (by simp; omega), List.getElem_append_left (by simp; omega), List.getElem_take, if_neg (by omega), st_get hi]
  · by_cases h2 : i = k
    · subst h2
      rw [if_pos rfl, List.getElem_append_left (by simp; omega), List.getElem_append_right (by simp; omega)]
      simp
    · rw [if_neg h2, List.getElem_append_right (by simp; omega), List.getElem_drop, st_get hi]
      congr 1
      simp
      omega
theorem keyN_inj {l : List (List Nat)} {n : Nat} (h : ∀ r ∈ l, r.length = n ∧ r.sum ≤ 63) : ∀ x ∈ l, ∀ y ∈ l, keyN x = keyN y → x = y := fun x hx y hy e => by
  obtain ⟨x1, x2⟩ := h x hx
  obtain ⟨y1, y2⟩ := h y hy
  exact ci_inj (code_inj (by unfold ci; rw [List.length_map, List.length_map, x1, y1]) (bd64 x2) (bd64 y2) e)
theorem mem_gRows {xs : List Int} {b : Bool} (h0 : ∀ i, i < xs.length → 0 ≤ xf xs i) (hn : 0 < xs.length) : ∀ {t : Nat}, t ≤ 60 → ∀ {r : List Nat}, r ∈ gRows xs b t ↔ r.length = xs.length ∧ r.sum = t ∧ Ap.Gd (Ap.dv b) xs.length (xf xs) (xf xs) (st r)
  | 0, _, r => by
    constructor
    · intro h
      obtain ⟨h1, h2⟩ := gRows_of h
      refine ⟨h1, h2, fun k j hk hj hne hpos => ?_⟩
      have := st_le r k
      omega
    · rintro ⟨h1, h2, _⟩
      refine List.mem_singleton.mpr (st_ext (by rw [h1, List.length_replicate]) fun i hi => ?_)
      have a := st_le r i
      rw [st_get (s := List.replicate xs.length 0) (by rw [List.length_replicate]; omega), List.getElem_replicate]
      omega
  | t + 1, ht, r => by
    have inj := keyN_inj (l := (gRows xs b t).flatMap (wide xs b)) (n := xs.length) fun r hr => by
      obtain ⟨row, h1, h2⟩ := List.mem_flatMap.mp hr
      have := gRows_of h1
      have := wide_of h2
      omega
    have ih := fun r => mem_gRows (b := b) h0 hn (t := t) (by omega) (r := r)
    show r ∈ srtK keyN ((gRows xs b t).flatMap (wide xs b)) ↔ _
    rw [mem_srtK keyN inj, List.mem_flatMap]
    constructor
    · rintro ⟨row, h1, h2⟩
      obtain ⟨a1, a2, a3⟩ := (ih row).mp h1
      have hw := wide_of h2
      unfold wide at h2
      obtain ⟨k, hk, rfl⟩ := List.mem_map.mp h2
      obtain ⟨hk1, hk2⟩ := List.mem_filter.mp hk
      have hk3 := List.mem_range.mp hk1
      refine ⟨by omega, by omega, ?_⟩
      have hf := fst_iff.mp hk2
      rw [a1] at hf
      exact gd_congr (fun i hi => (st_bump hk3 (by omega)).symm) (Ap.give (dvp b) (dvm b) h0 a3 (by omega) hf)
    · rintro ⟨h1, h2, h3⟩
      obtain ⟨k, k1, k2, k3, k4⟩ := Ap.take (dvp b) (dvm b) h0 h3 (by
        obtain ⟨i, i1, i2⟩ := some_pos (s := r) (by omega)
        exact ⟨i, by omega, i2⟩)
      have sd := Ap.sm_dn (st r) (n := xs.length) k1 k2
      have sr : Ap.sm xs.length (st r) = t + 1 := by rw [← h1, sm_st, h2]
      refine ⟨fl' xs.length (Ap.dn (st r) k), (ih _).mpr ⟨fl_len _ _, ?_, gd_congr (fun i hi => (st_fl hi).symm) k3⟩, ?_⟩
      · rw [fl_sum]
        omega
      · unfold wide
        refine List.mem_map.mpr ⟨k, List.mem_filter.mpr ⟨List.mem_range.mpr (by rw [fl_len]; exact k1), fst_iff.mpr ?_⟩, ?_⟩
        · rw [fl_len]
          intro j hj
          rw [st_fl hj, st_fl k1]
          exact k4 j hj
        · refine st_ext (by rw [bump_len (by rw [fl_len]; exact k1), fl_len, h1]) fun i hi => ?_
          rw [bump_len (by rw [fl_len]; exact k1), fl_len] at hi
          rw [st_bump (by rw [fl_len]; exact k1) (by rw [fl_len]; exact hi)]
          unfold Ap.up
          by_cases e : i = k
          · subst e
            rw [if_pos rfl, st_fl k1, Ap.dn_i]
            omega
          · rw [if_neg e, st_fl hi, Ap.dn_ne _ e]
/-! ### all ends -/
theorem mem_two {x y e : Int} : e ∈ srtK id [x, y] ↔ e = x ∨ e = y := by
  rw [mem_srtK id (fun _ _ _ _ h => h)]
  simp
theorem mem_endsF : ∀ (p : Poll) (acc : List (List Int)) (xs : List Int), xs ∈ p.foldl endS acc ↔ ∃ a ∈ acc, ∃ ys : List Int, xs = a ++ ys ∧ ys.length = p.length ∧ ∀ i, i < p.length → xf ys i = lo p i ∨ xf ys i = hi p i
  | [], acc, xs => by
    constructor
    · intro h
      exact ⟨xs, h, [], by rw [List.append_nil], rfl, fun i hi => absurd hi (Nat.not_lt_zero _)⟩
    · rintro ⟨a, ha, ys, e, hl, _⟩
      have : ys = [] := List.length_eq_zero_iff.mp hl
      rw [this, List.append_nil] at e
      rw [e]
      exact ha
  | q :: p, acc, xs => by
    rw [List.foldl_cons, mem_endsF p (endS acc q) xs]
    constructor
    · rintro ⟨a', ha', ys, e, hl, hy⟩
      obtain ⟨a, ha, h2⟩ := List.mem_flatMap.mp ha'
      obtain ⟨e1, he1, rfl⟩ := List.mem_map.mp h2
      refine ⟨a, ha, e1 :: ys, by rw [e, List.append_assoc]; rfl, by rw [List.length_cons, List.length_cons, hl], fun i hi => ?_⟩
      cases i with
      | zero => exact mem_two.mp he1
      | succ i => exact hy i (by rw [List.length_cons] at hi; omega)
    · rintro ⟨a, ha, ys, e, hl, hy⟩
      match ys, hl with
      | y :: ys, hl =>
        refine ⟨a ++ [y], List.mem_flatMap.mpr ⟨a, ha, List.mem_map.mpr ⟨y, mem_two.mpr (hy 0 (by simp)), rfl⟩⟩, ys, by rw [e, List.append_assoc]; rfl, by simpa using hl, fun i hi => ?_⟩
        exact hy (i + 1) (by rw [List.length_cons]; omega)
theorem mem_ends {p : Poll} {xs : List Int} : xs ∈ ends p ↔ xs.length = p.length ∧ ∀ i, i < p.length → xf xs i = lo p i ∨ xf xs i = hi p i := by
  unfold ends
  rw [mem_endsF]
  constructor
  · rintro ⟨a, ha, ys, e, h1, h2⟩
    rw [List.mem_singleton.mp ha, List.nil_append] at e
    rw [e]
    exact ⟨h1, h2⟩
  · rintro ⟨h1, h2⟩
    exact ⟨[], List.mem_singleton.mpr rfl, xs, rfl, h1, h2⟩
/-- a member with the counts f -/
def xl (n : Nat) (f : Nat → Int) : List Int := (List.range n).map f
theorem xl_len (n : Nat) (f : Nat → Int) : (xl n f).length = n := by unfold xl; rw [List.length_map, List.length_range]
theorem xf_xl {n : Nat} {f : Nat → Int} {i : Nat} (h : i < n) : xf (xl n f) i = f i := by
  unfold xf xl
  rw [List.getD_eq_getElem?_getD, List.getElem?_map, List.getElem?_range h]
  rfl
section
variable {p : Poll} {b : Bool} (hp : OkPoll p)
include hp in
theorem ends_ok {xs : List Int} (h : xs ∈ ends p) : xs.length = p.length ∧ (∀ i, i < xs.length → 0 ≤ xf xs i) ∧ ∀ i, i < p.length → lo p i ≤ xf xs i ∧ xf xs i ≤ hi p i := by
  obtain ⟨h1, h2⟩ := mem_ends.mp h
  have key : ∀ i, i < p.length → lo p i ≤ xf xs i ∧ xf xs i ≤ hi p i := fun i hi => by
    have := lohi hp i
    rcases h2 i hi with e | e <;> rw [e] <;> omega
  exact ⟨h1, fun i hi => by have := key i (by omega); have := lohi hp i; omega, key⟩
include hp in
theorem mem_row {xs : List Int} (h : xs ∈ ends p) {T : Nat} (hT : T ≤ 60) {r : List Nat} : r ∈ gRows xs b T ↔ r.length = p.length ∧ r.sum = T ∧ Ap.Gd (Ap.dv b) p.length (xf xs) (xf xs) (st r) := by
  obtain ⟨h1, h2, _⟩ := ends_ok hp h
  have := mem_gRows (b := b) h2 (by have := hp.len2; omega) hT (r := r)
  rw [h1] at this
  exact this
include hp in
theorem row_gd {xs : List Int} (h : xs ∈ ends p) {s : Nat → Nat} (g : Ap.Gd (Ap.dv b) p.length (xf xs) (xf xs) s) : Ap.Gd (Ap.dv b) p.length (lo p) (hi p) s := fun k j hk hj hne hpos => by
  obtain ⟨h1, h2, h3⟩ := ends_ok hp h
  have a := g k j hk hj hne hpos
  have b1 := Int.mul_le_mul_of_nonneg_right (h3 j hj).1 (Int.le_of_lt (dvp b _ hpos))
  have b2 := Int.mul_le_mul_of_nonneg_right (h3 k hk).2 (Int.le_of_lt (dvp b (s j + 1) (by omega)))
  omega
include hp in
theorem sure_all {s : List Nat} (hs : OkS p s) : badL p b s true = [] ↔ ∀ xs ∈ ends p, s ∈ gRows xs b s.sum := by
  have hle := hs.le
  rw [worse_gd, hs.len]
  constructor
  · intro g xs hx
    refine (mem_row hp hx (by omega)).mpr ⟨hs.len, rfl, fun k j hk hj hne hpos => ?_⟩
    obtain ⟨h1, h2, h3⟩ := ends_ok hp hx
    have a := g k j hk hj hne hpos
    have b1 := Int.mul_le_mul_of_nonneg_right (h3 j hj).2 (Int.le_of_lt (dvp b _ hpos))
    have b2 := Int.mul_le_mul_of_nonneg_right (h3 k hk).1 (Int.le_of_lt (dvp b (st s j + 1) (by omega)))
    omega
  · intro h k j hk hj hne hpos
    have hx : xl p.length (fun i => if i = k then lo p i else hi p i) ∈ ends p := mem_ends.mpr ⟨xl_len _ _, fun i hi => by
      rw [xf_xl hi]
      split
      · exact .inl rfl
      · exact .inr rfl⟩
    obtain ⟨_, _, g⟩ := (mem_row hp hx (by omega)).mp (h _ hx)
    have a := g k j hk hj hne hpos
    rw [xf_xl hj, xf_xl hk] at a
    rw [if_neg hne, if_pos rfl] at a
    exact a
include hp in
theorem bad_none {s : List Nat} (hs : OkS p s) (h : badL p b s false ≠ []) {xs : List Int} (hx : xs ∈ ends p) : s ∉ gRows xs b s.sum := fun hm => by
  have hle := hs.le
  obtain ⟨_, _, g⟩ := (mem_row hp hx (by omega)).mp hm
  refine h (bad_gd.mpr ?_)
  rw [hs.len]
  exact row_gd hp hx g
/-! ### the member of a price -/
def numF (p : Poll) (b : Bool) (s : List Nat) (k : Nat) : Int := if ((prX p b s : Nat) : Int) * (if 0 < st s k then Ap.dv b (st s k) else 0) > lo p k * ((prY p b s : Nat) : Int) then ((prX p b s : Nat) : Int) * (if 0 < st s k then Ap.dv b (st s k) else 0) else lo p k * ((prY p b s : Nat) : Int)
include hp in
theorem num_row {s : List Nat} (hs : OkS p s) : s ∈ gRows (xl p.length (numF p b s)) b s.sum := by
  have hle := hs.le
  have pos : ∀ k, 0 ≤ lo p k * ((prY p b s : Nat) : Int) := fun k => Int.mul_nonneg (lohi hp k).1 (by omega)
  have ge1 : ∀ k, lo p k * ((prY p b s : Nat) : Int) ≤ numF p b s k := fun k => by
    unfold numF
    generalize ((prX p b s : Nat) : Int) * (if 0 < st s k then Ap.dv b (st s k) else 0) = z
    split <;> omega
  have ge2 : ∀ k, 0 < st s k → ((prX p b s : Nat) : Int) * Ap.dv b (st s k) ≤ numF p b s k := fun k hk => by
    unfold numF
    rw [if_pos hk]
    split <;> omega
  have le : ∀ k, k < p.length → numF p b s k ≤ ((prX p b s : Nat) : Int) * Ap.dv b (st s k + 1) := fun k hk => by
    have h1 := price_lo (b := b) hp hs hk
    have h2 : ((prX p b s : Nat) : Int) * (if 0 < st s k then Ap.dv b (st s k) else 0) ≤ ((prX p b s : Nat) : Int) * Ap.dv b (st s k + 1) := by
      refine Int.mul_le_mul_of_nonneg_left ?_ (by omega)
      split
      · exact dvm b _ _ (by omega)
      · exact Int.le_of_lt (dvp b _ (by omega))
    unfold numF
    generalize ((prX p b s : Nat) : Int) * (if 0 < st s k then Ap.dv b (st s k) else 0) = z at h2 ⊢
    split
    · exact h2
    · exact h1
  have e := xl_len p.length (numF p b s)
  refine (mem_gRows (fun i hi => ?_) (by rw [e]; have := hp.len2; omega) (by omega)).mpr ⟨by rw [e, hs.len], rfl, fun k j hk hj hne hpos => ?_⟩
  · rw [e] at hi
    rw [xf_xl hi]
    have := pos i
    have := ge1 i
    omega
  · rw [e] at hk hj
    rw [xf_xl hk, xf_xl hj]
    have a1 := Int.mul_le_mul_of_nonneg_right (le j hj) (Int.le_of_lt (dvp b _ hpos))
    have a2 := Int.mul_le_mul_of_nonneg_right (ge2 k hpos) (Int.le_of_lt (dvp b (st s j + 1) (by omega)))
    refine Int.le_trans a1 (Int.le_trans (Int.le_of_eq ?_) a2)
    grind
/-! ### the known seatings -/
def goodB (p : Poll) (b : Bool) (T : Nat) : List (List Nat) := (en (p.length - 1) T).filter fun s => decide (badL p b s false = [])
include hp in
theorem known_good {T : Nat} (h1 : 1 ≤ T) (h2 : T ≤ 12) : knownB p b T = goodB p b T := by
  unfold knownB goodB
  refine List.filter_congr fun s hs => ?_
  have := comes_iff (b := b) hp (knownS hp h1 h2 hs)
  by_cases e : badL p b s false = []
  · rw [decide_eq_true e, this.mpr e]
  · rw [decide_eq_false e]
    exact Bool.eq_false_iff.mpr fun z => e (this.mp z)
include hp in
theorem mem_good {T : Nat} {s : List Nat} : s ∈ goodB p b T ↔ s.length = p.length ∧ s.sum = T ∧ Ap.Gd (Ap.dv b) p.length (lo p) (hi p) (st s) := by
  have l2 := hp.len2
  unfold goodB
  rw [List.mem_filter, mem_en, decide_eq_true_iff, bad_gd]
  constructor
  · rintro ⟨⟨h1, h2⟩, h3⟩
    have e : s.length = p.length := by omega
    rw [e] at h3
    exact ⟨e, h2, h3⟩
  · rintro ⟨h1, h2, h3⟩
    exact ⟨⟨by omega, h2⟩, by rw [h1]; exact h3⟩
include hp in
theorem good_of {T : Nat} {f : Nat → Nat} (h1 : Ap.sm p.length f = T) (h2 : Ap.Gd (Ap.dv b) p.length (lo p) (hi p) f) : fl' p.length f ∈ goodB p b T :=
  (mem_good hp).mpr ⟨fl_len _ _, by rw [fl_sum, h1], gd_congr (fun i hi => (st_fl hi).symm) h2⟩
include hp in
theorem good_ne (T : Nat) : ∃ s, s ∈ goodB p b T := by
  have l2 := hp.len2
  have hx : xl p.length (lo p) ∈ ends p := mem_ends.mpr ⟨xl_len _ _, fun i hi => .inl (xf_xl hi)⟩
  obtain ⟨h1, h2, _⟩ := ends_ok hp hx
  obtain ⟨r, g, e⟩ := Ap.comes_some (dvp b) (dvm b) (n := p.length) (x := xf (xl p.length (lo p))) (fun i hi => h2 i (by omega)) (by omega) T
  exact ⟨_, good_of hp e (row_gd hp hx g)⟩
theorem min_of : ∀ (l : List Nat), l ≠ [] → ∃ m ∈ l, ∀ y ∈ l, m ≤ y
  | [x], _ => ⟨x, List.mem_singleton.mpr rfl, fun y hy => by rw [List.mem_singleton.mp hy]; exact Nat.le_refl _⟩
  | x :: y :: l, _ => by
    obtain ⟨m, h1, h2⟩ := min_of (y :: l) (by simp)
    by_cases h : x ≤ m
    · exact ⟨x, List.mem_cons_self, fun z hz => by
        rcases List.mem_cons.mp hz with e | e
        · rw [e]; exact Nat.le_refl _
        · exact Nat.le_trans h (h2 z e)⟩
    · exact ⟨m, List.mem_cons_of_mem _ h1, fun z hz => by
        rcases List.mem_cons.mp hz with e | e
        · omega
        · exact h2 z e⟩
theorem max_of : ∀ (l : List Nat), l ≠ [] → ∃ m ∈ l, ∀ y ∈ l, y ≤ m
  | [x], _ => ⟨x, List.mem_singleton.mpr rfl, fun y hy => by rw [List.mem_singleton.mp hy]; exact Nat.le_refl _⟩
  | x :: y :: l, _ => by
    obtain ⟨m, h1, h2⟩ := max_of (y :: l) (by simp)
    by_cases h : m ≤ x
    · exact ⟨x, List.mem_cons_self, fun z hz => by
        rcases List.mem_cons.mp hz with e | e
        · rw [e]; exact Nat.le_refl _
        · exact Nat.le_trans (h2 z e) h⟩
    · exact ⟨m, List.mem_cons_of_mem _ h1, fun z hz => by
        rcases List.mem_cons.mp hz with e | e
        · omega
        · exact h2 z e⟩
/-- the least and the greatest number of k: they stand in the members' rows too, and all numbers between come -/
structure Sp2 (p : Poll) (b : Bool) (T k mn mx : Nat) : Prop where
  mn1 : mn ∈ (goodB p b T).map fun s => st s k
  mn2 : ∀ s ∈ goodB p b T, mn ≤ st s k
  mx1 : mx ∈ (goodB p b T).map fun s => st s k
  mx2 : ∀ s ∈ goodB p b T, st s k ≤ mx
  all : ∀ v, mn ≤ v → v ≤ mx → v ∈ (goodB p b T).map fun s => st s k
  row : ∀ xs ∈ ends p, ∀ s ∈ gRows xs b T, mn ≤ st s k ∧ st s k ≤ mx
  rmn : ∃ xs ∈ ends p, ∃ s ∈ gRows xs b T, st s k = mn
  rmx : ∃ xs ∈ ends p, ∃ s ∈ gRows xs b T, st s k = mx
include hp in
theorem span_ok {T k : Nat} (hT : T ≤ 60) (hk : k < p.length) : ∃ mn mx, Sp2 p b T k mn mx := by
  obtain ⟨s0, hs0⟩ := good_ne (b := b) hp T
  have hne : ((goodB p b T).map fun s => st s k) ≠ [] := fun z => by
    have := List.mem_map_of_mem (f := fun s => st s k) hs0
    rw [z] at this
    cases this
  obtain ⟨mn, m1, m2⟩ := min_of _ hne
  obtain ⟨mx, x1, x2⟩ := max_of _ hne
  obtain ⟨smn, hsmn, emn⟩ := List.mem_map.mp m1
  obtain ⟨smx, hsmx, emx⟩ := List.mem_map.mp x1
  have l0 : ∀ i, i < p.length → 0 ≤ lo p i := fun i _ => (lohi hp i).1
  have lh : ∀ i, i < p.length → lo p i ≤ hi p i := fun i _ => (lohi hp i).2.1
  obtain ⟨a1, a2, a3⟩ := (mem_good hp).mp hsmn
  obtain ⟨b1, b2, b3⟩ := (mem_good hp).mp hsmx
  have sa : Ap.sm p.length (st smn) = T := by rw [← a1, sm_st, a2]
  have sb : Ap.sm p.length (st smx) = T := by rw [← b1, sm_st, b2]
  have row : ∀ xs ∈ ends p, ∀ s ∈ gRows xs b T, mn ≤ st s k ∧ st s k ≤ mx := fun xs hx s hs => by
    obtain ⟨r1, r2, r3⟩ := (mem_row hp hx hT).mp hs
    have hg : s ∈ goodB p b T := (mem_good hp).mpr ⟨r1, r2, row_gd hp hx r3⟩
    exact ⟨m2 _ (List.mem_map_of_mem hg), x2 _ (List.mem_map_of_mem hg)⟩
  refine ⟨mn, mx, m1, fun s hs => m2 _ (List.mem_map_of_mem hs), x1, fun s hs => x2 _ (List.mem_map_of_mem hs), fun v v1 v2 => ?_, row, ?_, ?_⟩
  · have e1 : st smn k = mn := emn
    have e2 : st smx k = mx := emx
    obtain ⟨u, u1, u2, u3⟩ := Ap.between (dvp b) (dvm b) l0 lh b3 hk (v := v) (by omega) _ (st smn) (Nat.le_refl _) a3 (by rw [sa, sb]) (by omega)
    refine List.mem_map.mpr ⟨_, good_of hp (u2.trans sb) u1, ?_⟩
    show st (fl' p.length u) k = v
    rw [st_fl hk, u3]
  · have hx : xl p.length (fun i => if i = k then lo p i else hi p i) ∈ ends p := mem_ends.mpr ⟨xl_len _ _, fun i hi => by
      rw [xf_xl hi]
      split
      · exact .inl rfl
      · exact .inr rfl⟩
    obtain ⟨h1, h2, _⟩ := ends_ok hp hx
    obtain ⟨r, g, e⟩ := Ap.comes_some (dvp b) (dvm b) (n := p.length) (fun i hi => h2 i (by omega)) (by omega) T
    obtain ⟨u, u1, u2, u3⟩ := Ap.least (dvp b) (dvm b) l0 lh hk (x := xf _) (by rw [xf_xl hk]; exact if_pos rfl) (fun j hj hne => by rw [xf_xl hj]; exact if_neg hne) a3 _ r (Nat.le_refl _) g (by rw [e, sa])
    have hm : fl' p.length u ∈ gRows (xl p.length (fun i => if i = k then lo p i else hi p i)) b T := (mem_row hp hx hT).mpr ⟨fl_len _ _, by rw [fl_sum, u2, sa], gd_congr (fun i hi => (st_fl hi).symm) u1⟩
    refine ⟨_, hx, _, hm, ?_⟩
    have := (row _ hx _ hm).1
    have e1 : st smn k = mn := emn
    rw [st_fl hk] at this ⊢
    omega
  · have hx : xl p.length (fun i => if i = k then hi p i else lo p i) ∈ ends p := mem_ends.mpr ⟨xl_len _ _, fun i hi => by
      rw [xf_xl hi]
      split
      · exact .inr rfl
      · exact .inl rfl⟩
    obtain ⟨h1, h2, _⟩ := ends_ok hp hx
    obtain ⟨r, g, e⟩ := Ap.comes_some (dvp b) (dvm b) (n := p.length) (fun i hi => h2 i (by omega)) (by omega) T
    obtain ⟨u, u1, u2, u3⟩ := Ap.most (dvp b) (dvm b) l0 lh hk (x := xf _) (by rw [xf_xl hk]; exact if_pos rfl) (fun j hj hne => by rw [xf_xl hj]; exact if_neg hne) b3 _ r (Nat.le_refl _) g (by rw [e, sb])
    have hm : fl' p.length u ∈ gRows (xl p.length (fun i => if i = k then hi p i else lo p i)) b T := (mem_row hp hx hT).mpr ⟨fl_len _ _, by rw [fl_sum, u2, sb], gd_congr (fun i hi => (st_fl hi).symm) u1⟩
    refine ⟨_, hx, _, hm, ?_⟩
    have := (row _ hx _ hm).2
    have e2 : st smx k = mx := emx
    rw [st_fl hk] at this ⊢
    omega
end
end Dt
end
section
set_option Elab.async false
set_option linter.all false
set_option maxRecDepth 100000
namespace Dt
open PySem PySem.Spec PyProof.Rows L2
/-! ### a fund: a list of three ints that the callee changes; what it holds behind a call is not told -/
abbrev Tri := Int × Int × Int
def tri (f : Tri) : List D := [.int f.1, .int f.2.1, .int f.2.2]
def triV (f : Tri) : List V := [.int f.1, .int f.2.1, .int f.2.2]
theorem tri_v {K : PySem.W.Frag} {S : Hp} {vs : List V} {f : Tri} (h : DpAll K S vs (tri f)) : vs = triV f := dpAll_ints (ns := [f.1, f.2.1, f.2.2]) h
theorem v_tri {K : PySem.W.Frag} {S : Hp} (f : Tri) : DpAll K S (triV f) (tri f) := dpAll_of_ints [f.1, f.2.1, f.2.2]
theorem dpAll_set {K : PySem.W.Frag} {S : Hp} {v : V} {x : D} (hv : Dp K S v x) : ∀ {vs : List V} {xs : List D} (j : Nat), DpAll K S vs xs → DpAll K S (vs.set j v) (xs.set j x)
  | _, _, _, .nil => .nil
  | _, _, 0, .cons _ b => .cons hv b
  | _, _, j + 1, .cons a b => .cons a (dpAll_set hv j b)
/-- a promise of a def whose first argument is the fund -/
def spF (K : PySem.W.Frag) (C : Addr) (Pre : List A → Prop) (Rel : List A → A → Prop) : Sp := fun vs H Q _ => ∃ (S : Hp) (q : Addr) (us : List V) (as : List A) (f : Tri), vs = .ref q :: us ∧ Same S H ∧ S q = none ∧ H q = some (.lst (triV f)) ∧ AVs K C S us as ∧ Pre as ∧
  ∀ v a f' S' H', Rel as a → XO [q] [q] S H S' H' → S' q = none → H' q = some (.lst (triV f')) → AV K C S' v a → Q v H'
/-- a promise of a def that hands back a new fund -/
def spNew (K : PySem.W.Frag) (C : Addr) (Pre : List A → Prop) : Sp := fun vs H Q _ => ∃ (S : Hp) (as : List A), Same S H ∧ AVs K C S vs as ∧ Pre as ∧
  ∀ q f S' H', H q = none → Ext S H S' H' → S' q = none → H' q = some (.lst (triV f)) → Q (.ref q) H'
section
variable (K : PySem.W.Frag) (C : Addr)
/-- slot 0 the fund, r the others -/
def EvF (q : Addr) (t : TE) (r : List E) (R : A → Prop) : Prop := ∀ (f : Tri) (S : Hp) (σ : L2.St) (H : Hp), Same S H → En K C S H σ (.own q (tri f) :: r) → ∀ Q : VK,
  (∀ v a f' S' H', R a → XO (q :: owns r) (q :: owns r) S H S' H' → En K C S' H' σ (.own q (tri f') :: r) → AV K C S' v a → Q v H') → t σ H Q
def EaF (q : Addr) (t : TA) (r : List E) (R : List A → Prop) : Prop := ∀ (f : Tri) (S : Hp) (σ : L2.St) (H : Hp), Same S H → En K C S H σ (.own q (tri f) :: r) → ∀ Q : List V → Hp → Prop,
  (∀ vs as f' S' H', R as → XO (q :: owns r) (q :: owns r) S H S' H' → En K C S' H' σ (.own q (tri f') :: r) → AVs K C S' vs as → Q vs H') → t σ H Q
def TeF (q : Addr) (t : TT) (r : List E) (R : Bool → Prop) : Prop := ∀ (f : Tri) (S : Hp) (σ : L2.St) (H : Hp), Same S H → En K C S H σ (.own q (tri f) :: r) → ∀ Q : Bool → Hp → Prop,
  (∀ b f' S' H', R b → XO (q :: owns r) (q :: owns r) S H S' H' → En K C S' H' σ (.own q (tri f') :: r) → Q b H') → t σ H Q
end
section
variable {K : PySem.W.Frag} {C : Addr} {q : Addr} {r ρ : List E} {a b c : A} {ta tb te : TE} {ts : TA} {t u : TT} {st su : TS} {R R1 R2' : A → Prop} {N : List E → Prop} {Rt : A → List E → Prop}
theorem ef_of (h : ∀ f, EvE K C te (.own q (tri f) :: r) a) (k : R a) : EvF K C q te r R := fun f S σ H s e Q qq =>
  h f S σ H s e Q fun v S1 H1 x1 hv => qq v a f S1 H1 k (XO.of x1 fun p hp => hp) (e.mono x1) hv
theorem ef_mono (h : EvF K C q te r R1) (k : ∀ a, R1 a → R a) : EvF K C q te r R := fun f S σ H s e Q qq => h f S σ H s e Q fun v a f' S' H' ra => qq v a f' S' H' (k a ra)
theorem ef_op {op : R2} (ha : EvF K C q ta r R1) (hb : EvF K C q tb r R2') (hr : ∀ a b, R1 a → R2' b → ∃ c, OpD K C op a b c ∧ R c) : EvF K C q (tOp op ta tb) r R := fun f S σ H s e Q qq =>
  ha f S σ H s e _ fun x a f1 S1 H1 r1 x1 e1 hx => hb f1 S1 σ H1 x1.sh e1 _ fun y b f2 S2 H2 r2 x2 e2 hy => by
    obtain ⟨c, hc, rc⟩ := hr a b r1 r2
    refine hc S2 H2 x y x2.sh (hx.mono x2.ss) hy Q fun v S3 H3 x3 hv => qq v c f2 S3 H3 rc ((x1.trans x2).trans (XO.of x3 fun p hp => hp)) (e2.mono x3) hv
theorem eaf_nil {R : List A → Prop} (k : R []) : EaF K C q tNil r R := fun f S σ H s e Q qq => qq [] [] f S H k (XO.of (.refl s) fun p hp => hp) e trivial
theorem eaf_cons {tr : TA} {R R3 : List A → Prop} (ha : EvF K C q ta r R1) (hr : EaF K C q tr r R3) (k : ∀ a as, R1 a → R3 as → R (a :: as)) : EaF K C q (tCons ta tr) r R := fun f S σ H s e Q qq =>
  ha f S σ H s e _ fun x a f1 S1 H1 r1 x1 e1 hx => hr f1 S1 σ H1 x1.sh e1 _ fun xs as f2 S2 H2 r2 x2 e2 hxs => qq _ (a :: as) f2 S2 H2 (k a as r1 r2) (x1.trans x2) e2 ⟨hx.mono x2.ss, hxs⟩
theorem ef_lst {R3 : List A → Prop} (h : EaF K C q ts r R3) (k : ∀ as, R3 as → ∃ ds : List D, as = ds.map A.d ∧ ds.length ≤ 100000 ∧ R (.l ds)) : EvF K C q (tLst ts) r R := fun f S σ H s e Q qq =>
  h f S σ H s e _ fun vs as f1 S1 H1 r1 x1 e1 hv => by
    obtain ⟨ds, rfl, hl, rr⟩ := k as r1
    have hd := AVs.all hv
    refine ⟨by rw [dpAll_len hd]; exact Nat.le_trans hl (by decide), fun p hp => ?_⟩
    have x2 := Ext.new (.lst vs) x1.sh hp
    exact qq _ _ f1 _ _ rr (x1.trans (XO.of x2 fun p hp => hp)) (e1.mono x2) ⟨p, vs, rfl, upd_same, dpAll_same x2.ss _ _ hd⟩
/-- the others' slots behind a call that changed the fund alone -/
theorem En.fund {S H S' H' : Hp} (x : XO [q] [q] S H S' H') : ∀ {σ : L2.St} {r : List E}, q ∉ owns r → En K C S H σ r → En K C S' H' σ r
  | [], [], _, _ => trivial
  | o :: σ, e :: r, hq, h => by
    cases e with
    | any => exact ⟨trivial, En.fund x hq h.2⟩
    | v a =>
      obtain ⟨v, h1, h2⟩ := h.1
      exact ⟨⟨v, h1, h2.mono x.ss⟩, En.fund x hq h.2⟩
    | own p xs =>
      obtain ⟨h1, h2, vs, h3, h4⟩ := h.1
      have hp : p ∉ [q] := fun z => hq (by rw [List.mem_singleton.mp z]; exact List.mem_cons_self)
      exact ⟨⟨h1, x.fr p (by rw [h3]; simp) h2 hp, vs, x.kp p _ h3 hp, dpAll_same x.ss _ _ h4⟩, En.fund x (fun z => hq (List.mem_cons_of_mem _ z)) h.2⟩
  | [], _ :: _, _, h => h.elim
  | _ :: _, [], _, h => h.elim
theorem XO.grow {W : List Addr} {S H S' H' : Hp} (x : XO [q] [q] S H S' H') (hq : q ∈ W) : XO W W S H S' H' :=
  ⟨x.ss, x.sh, x.ne, fun b h1 h2 h3 => x.fr b h1 h2 fun z => h3 (by rw [List.mem_singleton.mp z]; exact hq), fun b o h1 h2 => x.kp b o h1 fun z => h2 (by rw [List.mem_singleton.mp z]; exact hq), fun p hp => .inl hp⟩
/-- a call that takes the fund -/
theorem ef_call {Pre : List A → Prop} {Rel : List A → A → Prop} {R3 : List A → Prop} (hq : q ∉ owns r) (h : EaF K C q ts r R3) (k : ∀ as, R3 as → Pre as ∧ ∀ a, Rel as a → R a) :
    EvF K C q (tCall (spF K C Pre Rel) [] E0 (tCons (tVar 0) ts)) r R := fun f S σ H s e Q qq => by
  obtain ⟨o, ho, rfl, sq, vs0, hq0, hd0⟩ := e.get (i := 0) rfl
  refine ⟨.ref q, ho, h f S σ H s e _ fun vs as f1 S1 H1 r1 x1 e1 hv => ?_⟩
  obtain ⟨o1, ho1, e1', sq1, vs1, hq1, hd1⟩ := e1.get (i := 0) rfl
  rw [tri_v hd1] at hq1
  rw [List.append_nil]
  obtain ⟨k1, k2⟩ := k as r1
  refine ⟨S1, q, vs, as, f1, rfl, x1.sh, sq1, hq1, hv, k1, fun v a f2 S2 H2 ra x2 sq2 hq2 hv2 => ?_⟩
  have e2 : En K C S2 H2 σ (.own q (tri f2) :: r) := by
    match σ, e1 with
    | o :: σ, e1 => exact ⟨⟨e1.1.1, sq2, _, hq2, v_tri f2⟩, En.fund x2 hq e1.2⟩
  exact qq v a f2 S2 H2 (k2 a ra) (x1.trans (x2.grow List.mem_cons_self)) e2 hv2
/-! tests -/
theorem tf_of {Rb : Bool → Prop} {x : Bool} (h : ∀ f, EvT K C t (.own q (tri f) :: r) x) (k : Rb x) : TeF K C q t r Rb := fun f S σ H s e Q qq =>
  h f S σ H s e Q fun S1 H1 x1 => qq x f S1 H1 k (XO.of x1 fun p hp => hp) (e.mono x1)
theorem tf_test {Rb : Bool → Prop} (h : EvF K C q te r R) (k : ∀ a, R a → ∃ x, a = .d (.bool x) ∧ Rb x) : TeF K C q (tTest te) r Rb := fun f S σ H s e Q qq =>
  h f S σ H s e _ fun v a f1 S1 H1 ra x1 e1 hv => by
    obtain ⟨x, rfl, rx⟩ := k a ra
    cases hv
    exact ⟨x, rfl, qq x f1 S1 H1 rx x1 e1⟩
theorem tf_or {x : Bool} (h : ∀ f, EvT K C t (.own q (tri f) :: r) x) (k : x = false → TeF K C q u r fun _ => True) : TeF K C q (tOr t u) r (fun y => x = true → y = true) := fun f S σ H s e Q qq =>
  h f S σ H s e _ fun S1 H1 x1 => by
    cases x with
    | true => exact qq true f S1 H1 (fun _ => rfl) (XO.of x1 fun p hp => hp) (e.mono x1)
    | false => exact k rfl f S1 σ H1 x1.sh (e.mono x1) Q fun y f2 S2 H2 _ x2 e2 => qq y f2 S2 H2 (fun z => by cases z) ((XO.of x1 fun p hp => hp).trans x2) e2
theorem tf_and {x : Bool} {Rb : Bool → Prop} (h : ∀ f, EvT K C t (.own q (tri f) :: r) x) (k : x = true → TeF K C q u r Rb) : TeF K C q (tAnd t u) r (fun y => (x = false → y = false) ∧ (x = true → Rb y)) := fun f S σ H s e Q qq =>
  h f S σ H s e _ fun S1 H1 x1 => by
    cases x with
    | false => exact qq false f S1 H1 ⟨fun _ => rfl, fun z => by cases z⟩ (XO.of x1 fun p hp => hp) (e.mono x1)
    | true => exact k rfl f S1 σ H1 x1.sh (e.mono x1) Q fun y f2 S2 H2 ry x2 e2 => qq y f2 S2 H2 ⟨fun z => (by cases z), fun _ => ry⟩ ((XO.of x1 fun p hp => hp).trans x2) e2
/-! statements -/
theorem owns_own (f : Tri) : owns (E.own q (tri f) :: r) = q :: owns r := rfl
theorem sx_setF {i : Nat} {f : Tri} (h : EvF K C q te r R) (k : ∀ a f', R a → N (.own q (tri f') :: r.set i (.v a))) : SX K C (tAsg te (gName (i + 1))) (.own q (tri f) :: r) N Rt := fun S σ H s e D nn rr =>
  h f S σ H s e _ fun v a f1 S1 H1 ra x1 e1 hv => by
    refine nn _ _ S1 H1 (k a f1 ra) (x1.sub fun p hp => ?_) (e1.set (e := .v a) (o := some v) ⟨v, rfl, hv⟩ (i + 1))
    exact owns_setv (i := i + 1) (ρ := .own q (tri f1) :: r) p hp
theorem sx_ifF' {f : Tri} {Rb : Bool → Prop} (h : TeF K C q t r Rb) (h1 : Rb true → ∀ f', SX K C st (.own q (tri f') :: r) N Rt) (h2 : Rb false → ∀ f', SX K C su (.own q (tri f') :: r) N Rt) : SX K C (tIfS t st su) (.own q (tri f) :: r) N Rt := fun S σ H s e D nn rr =>
  h f S σ H s e _ fun x f1 S1 H1 rx x1 e1 => by
    cases x with
    | true =>
      show st D σ H1
      exact h1 rx f1 S1 σ H1 x1.sh e1 D (fun ρ2 σ2 S2 H2 n x2 e2 => nn ρ2 σ2 S2 H2 n (x1.trans x2) e2) fun v a ρr σr S2 H2 ra x2 er hv => rr v a ρr σr S2 H2 ra (x1.trans x2) er hv
    | false =>
      show su D σ H1
      exact h2 rx f1 S1 σ H1 x1.sh e1 D (fun ρ2 σ2 S2 H2 n x2 e2 => nn ρ2 σ2 S2 H2 n (x1.trans x2) e2) fun v a ρr σr S2 H2 ra x2 er hv => rr v a ρr σr S2 H2 ra (x1.trans x2) er hv
theorem sx_retF {f : Tri} (h : EvF K C q te r R) (k : ∀ a f', R a → Rt a (.own q (tri f') :: r)) : SX K C (tRet te) (.own q (tri f) :: r) N Rt := fun S σ H s e D nn rr =>
  h f S σ H s e _ fun v a f1 S1 H1 ra x1 e1 hv => rr v a _ σ S1 H1 (k a f1 ra) x1 e1 hv
/-! own lists: an item read, an item set, the length -/
theorem ev_ixO {i : Nat} {xs : List D} {k : Int} {x : D} (h : ρ[i]? = some (.own q xs)) (hk : atI xs k = some x) : EvE K C (tOp (rIxL K) (tVar i) (tC (.int k))) ρ (.d x) := fun S σ H s e Q qq => by
  obtain ⟨o, ho, rfl, sq, vs, hq, hd⟩ := e.get h
  refine ⟨.ref q, ho, ?_⟩
  obtain ⟨j, h1, h2⟩ : ∃ j, ixN xs.length k = some j ∧ xs[j]? = some x := by
    unfold atI at hk
    cases z : ixN xs.length k with
    | none => rw [z] at hk; cases hk
    | some j => rw [z] at hk; exact ⟨j, rfl, hk⟩
  obtain ⟨v, hv, hvx⟩ := dpAll_get hd h2
  refine ⟨q, vs, k, v, rfl, rfl, .inl (.inl hq), ?_, qq v S H (.refl s) hvx⟩
  unfold atI
  rw [dpAll_len hd, h1]
  exact hv
theorem ev_lenO {i : Nat} {xs : List D} (h : ρ[i]? = some (.own q xs)) : EvE K C (tCB (rLenQ K) (tCons (tVar i) tNil)) ρ (.d (.int xs.length)) := fun S σ H s e Q qq => by
  obtain ⟨o, ho, rfl, sq, vs, hq, hd⟩ := e.get h
  exact ⟨.ref q, ho, q, vs, rfl, .inl (.inl (.inl hq)), by rw [dpAll_len hd]; exact qq _ S H (.refl s) (.int _)⟩
theorem sx_setO {i : Nat} {xs : List D} {k : Int} {j : Nat} {x : D} (hi : ρ[i]? = some (.own q xs)) (hl : Lone ρ) (hk : ixN xs.length k = some j) (h : EvE K C te ρ (.d x)) :
    SX K C (tAsg te (gSub (tVar i) (tC (.int k)) rSetL)) ρ (· = ρ.set i (.own q (xs.set j x))) Rt := fun S σ H s e D nn rr =>
  h S σ H s e _ fun v S1 H1 x1 hv => by
    have e1 := e.mono x1
    obtain ⟨o, ho, rfl, sq, vs, hq, hd⟩ := e1.get hi
    have hset : DpAll K S1 (vs.set j v) (xs.set j x) := by
      exact dpAll_set hv j hd
    refine ⟨.ref q, ho, q, vs, k, j, rfl, rfl, hq, by rw [dpAll_len hd]; exact hk, ?_⟩
    obtain ⟨x2, e2⟩ := own_upd x1.sh e1 hi (lone_at hl hi) hset
    exact nn _ _ S1 _ rfl ((XO.of x1 fun p hp => hp).trans x2) e2
/-- fund[0], x = divmod(int(fund[0]), n) -/
theorem sx_divmod {f : Tri} {n : Int} {i : Nat} (hi : ∃ e, r[i]? = some e) (hl : Lone (.own q (tri f) :: r)) (hr : owns r = []) (hn : 0 < n) (hn2 : n < 1000000) (h : EvA K C ts (.own q (tri f) :: r) [.d (.int f.1), .d (.int n)]) :
    SX K C (tAsg (tCB (fun xs H Q => ∃ i j, xs = [.int i, .int j] ∧ CDivP i j ∧ ∀ p, H p = none → Q (.ref p) (upd H p (.tup [.int (i / j), .int (i % j)]))) ts) (gTup K 2 (gCons (gSub (tVar 0) (tC (.int 0)) rSetL) (gCons (gName (i + 1)) gNil)))) (.own q (tri f) :: r)
      (· = .own q (tri (f.1 / n, f.2.1, f.2.2)) :: r.set i (.v (.d (.int (f.1 % n))))) Rt := fun S σ H s e D nn rr =>
  h S σ H s e _ fun vs S1 H1 x1 hv => by
    match vs, hv with
    | [v, w], hv =>
      cases hv.1
      cases hv.2.1
      refine ⟨f.1, n, rfl, ⟨hn, ?_⟩, fun p hp => ?_⟩
      · unfold Builtin.divisionGoesByPylong
        have : ¬ (n.natAbs.log2 / 30 + 1 > 300) := by
          have : n.natAbs.log2 ≤ 30 := by
            have h1 : n.natAbs < 2 ^ 30 := by
              have : (2 : Nat) ^ 30 = 1073741824 := by decide
              omega
            have := (Nat.log2_lt (by omega)).mpr h1
            omega
          omega
        have h0 : (n == 0) = false := by simpa using (by omega : n ≠ 0)
        simp only [h0, Bool.false_eq_true, if_false]
        rw [decide_eq_false this, Bool.false_and]
      · have x2 := Ext.new (.tup [.int (f.1 / n), .int (f.1 % n)]) x1.sh hp
        have e2 := (e.mono x1).mono x2
        obtain ⟨o, ho, rfl, sq, vs, hq, hd⟩ := e2.get (i := 0) rfl
        rw [tri_v hd] at hq
        refine ⟨p, _, rfl, .inl (.inl upd_same), rfl, _, _, rfl, .ref q, ho, q, triV f, 0, 0, rfl, rfl, hq, rfl, ?_⟩
        obtain ⟨x3, e3⟩ := own_upd (xs' := tri (f.1 / n, f.2.1, f.2.2)) x2.sh e2 (i := 0) rfl (lone_at hl (i := 0) rfl) (v_tri (f.1 / n, f.2.1, f.2.2))
        refine ⟨_, _, rfl, rfl, ?_⟩
        refine nn _ _ _ _ rfl ?_ (e3.set (e := .v (.d (.int (f.1 % n)))) (o := some (.int (f.1 % n))) ⟨_, rfl, .int _⟩ (i + 1))
        refine ((XO.of (x1.trans x2) fun p hp => hp).trans x3).sub fun p hp => ?_
        exact owns_setv (i := i + 1) (ρ := .own q (tri (f.1 / n, f.2.1, f.2.2)) :: r) p hp
end
section
variable {K : PySem.W.Frag} {C : Addr} {q : Addr} {r ρ : List E} {a b c : A} {ta tb te : TE} {ts : TA} {t u : TT} {st su : TS} {R R1 R2' : A → Prop} {N : List E → Prop} {Rt : A → List E → Prop}
theorem ef_unl (h : EvF K C q te r R1) (k : ∀ a, R1 a → ∃ ds, a = .l ds ∧ R (.d (.list ds))) : EvF K C q te r R := fun f S σ H s e Q qq => h f S σ H s e Q fun v a f' S' H' ra x1 e1 hv => by
  obtain ⟨ds, rfl, rr⟩ := k a ra
  exact qq v _ f' S' H' rr x1 e1 (av_l hv)
/-- x.index(y) of a list of texts -/
theorem ev_lindex {z : Str} {ys : List Str} {j : Nat} (h : EvE K C ta ρ (.d (.list (ys.map .str)))) (hz : EvE K C te ρ (.d (.str z))) (h1 : ys[j]? = some z) (h2 : ∀ m, m < j → ys[m]? ≠ some z) :
    EvE K C (tBM K "list" (rIndex K) ta (tCons te tNil)) ρ (.d (.int j)) := fun S σ H s e Q qq =>
  h S σ H s e _ fun v S1 H1 x1 hv => by
    cases hv with
    | @lst p vs _ hs hd =>
      have e1 := dpAll_strs hd
      subst e1
      refine ⟨.inl ⟨rfl, _, x1.sh.seq hs⟩, hz S1 σ H1 x1.sh (e.mono x1) _ fun w S2 H2 x2 hw => ?_⟩
      cases hw
      refine ⟨p, _, .str z, j, .str z, rfl, rfl, (x1.sh.trans x2.hh).seq hs, rfl, flat_strs ys, by rw [List.getElem?_map, h1]; rfl, by simp [eqV], fun m z' hm hz' => ?_, qq _ S2 H2 (x1.trans x2) (.int _)⟩
      rw [List.getElem?_map] at hz'
      cases w : ys[m]? with
      | none => rw [w] at hz'; cases hz'
      | some y =>
        rw [w] at hz'
        cases hz'
        have hne : y ≠ z := fun q => h2 m hm (by rw [w, q])
        simp [eqV, hne]
/-- xs[lo:hi] of a list -/
theorem ev_slL {ds : List D} {tl th : TO} {lo hi : Option Int} (h : EvE K C te ρ (.d (.list ds))) (hl : EvO K C tl ρ lo) (hh : EvO K C th ρ hi) : EvE K C (tSl (rSlL K) te tl th) ρ (.l (cutD ds lo hi)) := fun S σ H s e Q q =>
  h S σ H s e _ fun v S1 H1 x1 hv => hl S1 σ H1 x1.sh (e.mono x1) _ fun S2 H2 x2 => hh S2 σ H2 x2.sh (e.mono (x1.trans x2)) _ fun S3 H3 x3 => by
    have x23 := x2.trans x3
    cases hv with
    | @lst p xs _ hs hd =>
      have hlen := dpAll_len hd
      have hcut : DpAll K S1 (cutV xs lo hi) (cutD ds lo hi) := by
        unfold cutV cutD
        rw [hlen]
        exact dpAll_take _ (dpAll_drop _ hd)
      refine ⟨p, xs, rfl, (x1.sh.trans x23.hh).seq hs, fun l hl => ?_⟩
      have x4 := Ext.new (.lst (cutV xs lo hi)) x3.sh hl
      exact q _ _ _ ((x1.trans x23).trans x4) ⟨l, _, rfl, upd_same, dpAll_same (x23.ss.trans x4.ss) _ _ hcut⟩
/-- x, y = .., [], the list the def's own -/
theorem sx_parOwn {i j : Nat} (hj : j < ρ.length) (h : EvE K C te ρ a) (k : ∀ p, p ∉ owns (ρ.set i (.v a)) → N ((ρ.set i (.v a)).set j (.own p []))) : SX K C (tPar i j (tCons te (tCons (tLst tNil) tNil))) ρ N Rt := fun S σ H s e D nn rr =>
  h S σ H s e _ fun v S1 H1 x1 hv => by
    have x0 : XO (owns ρ) (owns (ρ.set i (.v a))) S H S1 H1 := XO.of x1 fun p hp => owns_setv p hp
    have hx : SX K C (tAsg (tLst tNil) (gName j)) (ρ.set i (.v a)) N Rt := sx_own (by rw [List.length_set]; exact hj) k
    have := hx S1 (σ.set i (some v)) H1 x1.sh ((e.mono x1).set (e := .v a) (o := some v) ⟨v, rfl, hv⟩ i) D (fun ρ2 σ2 S2 H2 n x2 e2 => nn ρ2 σ2 S2 H2 n (x0.trans x2) e2) fun v a ρr σr S2 H2 ra x2 er hv => rr v a ρr σr S2 H2 ra (x0.trans x2) er hv
    exact ⟨Nat.zero_le _, fun p hp => ⟨v, .ref p, rfl, this.2 p hp⟩⟩
end
/-! ### defs -/
section
variable {P : Program} {w : World} {K : PySem.W.Frag} {mg : Str → Option Value} {base : Heap} {C : Addr}
theorem okF {x qual : Str} {sm : Stmt} {f : Addr} {fd : FuncData} {N ps : List Str} {k n : Nat} {Pre : List A → Prop} {Rel : List A → A → Prop} (F : Fun K x qual sm f fd) (Sc : FnScope N ps (defScope sm)) (hn : N.length = n + 1) (hl : ∀ as, Pre as → as.length + 1 = ps.length)
    (hb : ∀ (cdv : Value) (A : Around) (outer : List Env) (s : Shared) (H : Hp) (E : XK), Room k (A.deeper (envOfC qual (defScope sm) s.heap.objs.size f cdv)) →
      ∃ t, PSs (cxOf CX0 P w K mg base N qual (defScope sm) f cdv A outer s H E).nox (defBody sm) t ∧ ∀ q f0 as, Pre as → SX K C t (.own q (tri f0) :: ini n as) (fun _ => False) (fun z ρ' => Rel as z ∧ ∃ f' r', ρ' = .own q (tri f') :: r')) :
    FnOk P w K mg base CX0 (k + 1) f fd ps (spF K C Pre Rel) := by
  refine F.ok Sc (fun vs H Q E h => ?_) fun cdv A outer s H vs Q E hr h => ?_
  · obtain ⟨S, q, us, as, f0, rfl, s, sq, hq, hv, hp, _⟩ := h
    rw [List.length_cons, hv.len]
    exact hl as hp
  · obtain ⟨t, h1, h2⟩ := hb cdv A outer s H E hr
    refine ⟨t, h1, ?_⟩
    obtain ⟨S, q, us, as, f0, rfl, s, sq, hq, hv, hp, qq⟩ := h
    have e : En K C S H (L2.start N (.ref q :: us)) (.own q (tri f0) :: ini n as) := by
      unfold L2.start ini
      rw [hn, List.map_cons, List.length_cons, Nat.add_sub_add_right, ← hv.len]
      exact ⟨⟨rfl, sq, _, hq, v_tri f0⟩, en_start _ hv⟩
    have ow := owns_ini n as
    refine h2 q f0 as hp S _ H s e _ (fun ρ' σ' S' H' n x e' => n.elim) fun v a' ρ' σ' S' H' ra x e' hv' => ?_
    obtain ⟨rel, f', r', rfl⟩ := ra
    have ow2 : owns (Dt.E.own q (tri f0) :: ini n as) = [q] := by rw [owns_own, ow]
    rw [ow2] at x
    obtain ⟨o, ho, _, sq', vs', hq', hd'⟩ := e'.get (i := 0) rfl
    rw [tri_v hd'] at hq'
    exact qq v a' f' S' H' rel (x.sub fun p hp => by rw [List.mem_singleton.mp hp]; exact List.mem_cons_self) sq' hq' hv'
/-- .. where no repr is under way -/
theorem okFG {x qual : Str} {sm : Stmt} {f : Addr} {fd : FuncData} {N ps : List Str} {k n : Nat} {Pre : List A → Prop} {Rel : List A → A → Prop} (F : Fun K x qual sm f fd) (Sc : FnScope N ps (defScope sm)) (bi : Binds K fd ps []) (hn : N.length = n + 1) (hl : ∀ as, Pre as → as.length + 1 = ps.length)
    (hb : ∀ (cdv : Value) (A : Around) (outer : List Env) (s : Shared) (H : Hp) (E : XK), A.guards = some [] → Room k (A.deeper (envOfC qual (defScope sm) s.heap.objs.size f cdv)) →
      ∃ t, PSs (cxOf CX0 P w K mg base N qual (defScope sm) f cdv A outer s H E).nox (defBody sm) t ∧ ∀ q f0 as, Pre as → SX K C t (.own q (tri f0) :: ini n as) (fun _ => False) (fun z ρ' => Rel as z ∧ ∃ f' r', ρ' = .own q (tri f') :: r')) :
    Gu.Quiet P w K mg base (k + 1) f (spF K C Pre Rel) := by
  refine Gu.quiet F Sc bi (fun {vs H Q E} h => ?_) fun {cdv A outer s H vs Q E} hgd hr h => ?_
  · obtain ⟨S, q, us, as, f0, rfl, s, sq, hq, hv, hp, _⟩ := h
    rw [List.length_cons, hv.len]
    exact hl as hp
  · obtain ⟨t, h1, h2⟩ := hb cdv A outer s H E hgd hr
    refine ⟨t, h1, ?_⟩
    obtain ⟨S, q, us, as, f0, rfl, s, sq, hq, hv, hp, qq⟩ := h
    have e : En K C S H (L2.start N (.ref q :: us)) (.own q (tri f0) :: ini n as) := by
      unfold L2.start ini
      rw [hn, List.map_cons, List.length_cons, Nat.add_sub_add_right, ← hv.len]
      exact ⟨⟨rfl, sq, _, hq, v_tri f0⟩, en_start _ hv⟩
    have ow := owns_ini n as
    refine h2 q f0 as hp S _ H s e _ (fun ρ' σ' S' H' n x e' => n.elim) fun v a' ρ' σ' S' H' ra x e' hv' => ?_
    obtain ⟨rel, f', r', rfl⟩ := ra
    have ow2 : owns (Dt.E.own q (tri f0) :: ini n as) = [q] := by rw [owns_own, ow]
    rw [ow2] at x
    obtain ⟨o, ho, _, sq', vs', hq', hd'⟩ := e'.get (i := 0) rfl
    rw [tri_v hd'] at hq'
    exact qq v a' f' S' H' rel (x.sub fun p hp => by rw [List.mem_singleton.mp hp]; exact List.mem_cons_self) sq' hq' hv'
end
end Dt
end
section
set_option Elab.async false
set_option linter.all false
set_option maxRecDepth 100000
set_option maxHeartbeats 4000000
namespace Dt
open PySem PySem.Spec PyProof.Rows L2
def tossPre (as : List A) : Prop := ∃ n : Int, as = [.d (.int n)] ∧ 0 < n ∧ n < 1000000
def tossRel (as : List A) (a : A) : Prop := ∃ n k : Int, as = [.d (.int n)] ∧ 0 ≤ k ∧ k < n ∧ a = .d (.int k)
def onePre (as : List A) : Prop := ∃ ds : List D, as = [.d (.list ds)] ∧ ds ≠ [] ∧ ds.length ≤ 1000
def oneRel (as : List A) (a : A) : Prop := ∃ (ds : List D) (x : D), as = [.d (.list ds)] ∧ x ∈ ds ∧ a = .d x
def pollPre (as : List A) : Prop := as = [.d (.int 4)]
def pollRel (as : List A) (a : A) : Prop := ∃ p : Poll, OkPoll p ∧ a = .d (dPoll p)
def fundPre (as : List A) : Prop := ∃ (ns : List Int) (k : Int), as = [.d (.list (ns.map .int)), .d (.int k)] ∧ 0 ≤ k
section
variable {P : Program} {w : World} {K : PySem.W.Frag} {mg : Str → Option Value} {base : Heap} {C W : Addr}
theorem ok_law_toss {f : Addr} {fd : FuncData} (F : L2.Fun K "_law_toss" "_law_toss" (topS 57) f fd) (T : Txt K mg C) : FnOk P w K mg base CX0 1 f fd ["_law_fund_here", "_law_size"] (spF K C tossPre tossRel) := by
  have sc : FnScope ["_law_fund_here", "_law_size", "_law_digit", "_law_deep"] ["_law_fund_here", "_law_size"] (defScope (topS 57)) := C8.fnScope_by (by decide +kernel)
  have nd := sc.nd
  refine okF (n := 3) F sc rfl (fun as h => by obtain ⟨n, rfl, _⟩ := h; rfl) fun cdv A outer s H E hr => ⟨_, (pss_cons (ps_asg (pe_op op_add (pe_ix ix_list (pv 0) pe_int (fun _ _ => rfl)) pe_int) (pg_sub (pv 0) pe_int set_list))
      (pss_cons (ps_asg (pe_op op_mod (pe_callTy call_int1 (by rfl) T.b_int (by decide +kernel) (pa_cons (pe_op op_add (pe_op op_add (pe_op op_mul (pe_ix ix_list (pv 0) pe_int (fun _ _ => rfl)) pe_int) (pe_op op_mul pe_int (pe_ix ix_list (pv 0) pe_int (fun _ _ => rfl)))) pe_int) pa_nil)) pe_int) (pg_sub (pv 0) pe_int set_list))
      (pss_cons (ps_if (pt_cmpR op_gt (pe_ix ix_list (pv 0) pe_int (fun _ _ => rfl)) pe_int (nomark _)) (pss_cons (ps_asg (pe_callB call_divmodW (by rfl) T.b_divmod (by decide +kernel) (pa_cons (pe_callTy call_int1 (by rfl) T.b_int (by decide +kernel) (pa_cons (pe_ix ix_list (pv 0) pe_int (fun _ _ => rfl)) pa_nil)) (pa_cons (pv 1) pa_nil))) (pg_tup rfl (pgs_cons (pg_sub (pv 0) pe_int set_list) (pgs_cons (pg_name (i := 2) nd rfl (Or.inl rfl)) pgs_nil))))
      (pss_one (ps_ret (pv 2)))) pss_nil)
      (pss_cons (ps_set (i := 3) nd rfl (Or.inl rfl) (pe_op op_mod (pe_callTy call_int1 (by rfl) T.b_int (by decide +kernel) (pa_cons (pe_op op_add (pe_op op_mul (pe_ix ix_list (pv 0) pe_int (fun _ _ => rfl)) (pe_op op_add (pe_ix ix_list (pv 0) pe_int (fun _ _ => rfl)) (pe_op op_mul pe_int (pe_ix ix_list (pv 0) pe_int (fun _ _ => rfl))))) pe_int) pa_nil)) pe_int))
      (pss_one (ps_ret (pe_op op_mod (pe_callTy call_int1 (by rfl) T.b_int (by decide +kernel) (pa_cons (pe_op op_fdiv (pv 3) pe_int) pa_nil)) (pv 1)))))))), fun q f0 as h => ?_⟩
  obtain ⟨n, rfl, h1, h2⟩ := h
  obtain ⟨x, y, z⟩ := f0
  refine sx_seq1 (sx_setO (ρ := [.own q (tri (x, y, z)), .v (.d (.int n)), .any, .any]) (i := 0) (j := 2) rfl (lone1 q) rfl (ev_op (ev_ixO (i := 0) rfl rfl) ev_int op_i0)) ?_
  show SX K C _ [.own q (tri (x, y, z + 1)), .v (.d (.int n)), .any, .any] _ _
  refine sx_seq (N' := fun r => ∃ y', r = [.own q (tri (x, y', z + 1)), .v (.d (.int n)), .any, .any] ∧ -(2 ^ 64) < y' ∧ y' < 2 ^ 64) (sx_mono (sx_setO (ρ := [.own q (tri (x, y, z + 1)), .v (.d (.int n)), .any, .any]) (i := 0) (j := 1) rfl (lone1 q) rfl (ev_op (ev_cb (ea_cons (ev_op (ev_op (ev_op (ev_ixO (i := 0) rfl rfl) ev_int (op_i (.inr (by decide)))) (ev_op ev_int (ev_ixO (i := 0) rfl rfl) (op_i (.inl (by decide)))) op_i0) ev_int op_i0) ea_nil) cd_int) ev_int (op_i (by decide)))) ?_) ?_
  · rintro _ rfl
    refine ⟨(y * 40507 + 17011 * (z + 1) + 43) % 2147482421, rfl, ?_, ?_⟩
    · have := Int.emod_nonneg (y * 40507 + 17011 * (z + 1) + 43) (b := 2147482421) (by decide)
      omega
    · have := Int.emod_lt_of_pos (y * 40507 + 17011 * (z + 1) + 43) (b := 2147482421) (by decide)
      omega
  · rintro _ ⟨y', rfl, hy1, hy2⟩
    refine sx_seq1 (ρ1 := [.own q (tri (x, y', z + 1)), .v (.d (.int n)), .any, .any]) (sx_if (et_test (ev_op (ev_ixO (i := 0) rfl rfl) ev_int op_b0)) (fun h => sx_seq1 (sx_divmod (i := 1) (f := (x, y', z + 1)) (r := [.v (.d (.int n)), .any, .any]) ⟨_, rfl⟩ (lone1 q) rfl h1 h2 (ea_cons (ev_cb (ea_cons (ev_ixO (i := 0) rfl rfl) ea_nil) cd_int) (ea_cons (ev_var rfl) ea_nil))) (sx_ret (ev_var rfl) ?_)) (fun h => sx_next)) ?_
    · exact ⟨⟨n, x % n, rfl, Int.emod_nonneg _ (by omega), Int.emod_lt_of_pos _ h1, rfl⟩, (x / n, y', z + 1), _, rfl⟩
    · refine sx_seq1 (sx_set (ev_op (ev_cb (ea_cons (ev_op (ev_op (ev_ixO (i := 0) rfl rfl) (ev_op (ev_ixO (i := 0) rfl rfl) (ev_op ev_int (ev_ixO (i := 0) rfl rfl) (op_i (.inl (by decide)))) op_i0) (op_i (.inl ⟨hy1, hy2⟩))) ev_int op_i0) ea_nil) cd_int) ev_int (op_i (by decide)))) ?_
      refine sx_ret (ev_op (ev_cb (ea_cons (ev_op (ev_var rfl) ev_int (op_i ⟨by decide, by decide⟩)) ea_nil) cd_int) (ev_var rfl) (op_i h1)) ?_
      exact ⟨⟨n, _, rfl, Int.emod_nonneg _ (by omega), Int.emod_lt_of_pos _ h1, rfl⟩, (x, y', z + 1), _, rfl⟩
theorem ok_law_one {f : Addr} {fd : FuncData} (F : L2.Fun K "_law_one" "_law_one" (topS 58) f fd) (T : Txt K mg C) (c_law_toss : C8.Cal P w K mg base 1 "_law_toss" (spF K C tossPre tossRel) []) : FnOk P w K mg base CX0 2 f fd ["_law_fund_here", "_law_some"] (spF K C onePre oneRel) := by
  have sc : FnScope ["_law_fund_here", "_law_some"] ["_law_fund_here", "_law_some"] (defScope (topS 58)) := C8.fnScope_by (by decide +kernel)
  have nd := sc.nd
  refine okF (n := 1) F sc rfl (fun as h => by obtain ⟨n, rfl, _⟩ := h; rfl) fun cdv A outer s H E hr => ⟨_, (pss_one (ps_ret (pe_ix ix_list (pv 1) (C8.pe_c c_law_toss hr (by decide) (by rfl) (pa_cons (pv 0) (pa_cons (pe_callB call_len_seq (by rfl) T.b_len (by decide +kernel) (pa_cons (pv 1) pa_nil)) pa_nil))) (fun _ _ => rfl)))), fun q f0 as h => ?_⟩
  obtain ⟨ds, rfl, h1, h2⟩ := h
  have hl : 0 < ds.length := List.length_pos_iff.mpr h1
  refine sx_retF (R := fun a => ∃ x ∈ ds, a = .d x) (ef_op (R1 := (· = .d (.list ds))) (R2' := fun b => ∃ k : Nat, k < ds.length ∧ b = .d (.int k)) (ef_of (fun f => ev_var rfl) rfl)
    (ef_call (by simp [ini, owns]) (eaf_cons (R1 := (· = .d (.int ds.length))) (R3 := (· = [])) (R := (· = [.d (.int ds.length)])) (ef_of (fun f => ev_cb (ea_cons (ev_var rfl) ea_nil) cd_lenL) rfl) (eaf_nil rfl) (fun a as h1 h2 => by rw [h1, h2]))
      (fun as h => by
        subst h
        refine ⟨⟨_, rfl, by omega, by omega⟩, fun a ha => ?_⟩
        obtain ⟨n, k, e, k1, k2, rfl⟩ := ha
        have e' : ((ds.length : Nat) : Int) = n := by injection e with e; injection e with e; injection e
        exact ⟨k.toNat, by omega, by rw [Int.toNat_of_nonneg k1]⟩)) ?_) ?_
  · rintro a b rfl ⟨k, hk, rfl⟩
    exact ⟨.d ds[k], ix_L (atI_nat (List.getElem?_eq_getElem hk)), ds[k], List.getElem_mem hk, rfl⟩
  · rintro a f' ⟨x, hx, rfl⟩
    exact ⟨⟨ds, x, rfl, hx, rfl⟩, f', _, rfl⟩
/-- an int from x to y -/
def Ri (x y : Int) (a : A) : Prop := ∃ k : Int, x ≤ k ∧ k ≤ y ∧ a = .d (.int k)
/-- m ints from 0 to y -/
def RL (y : Int) (m : Nat) (as : List A) : Prop := ∃ ks : List Int, as = ks.map (fun k => A.d (.int k)) ∧ ks.length = m ∧ ∀ k ∈ ks, 0 ≤ k ∧ k ≤ y
theorem rl_nil {q : Addr} {r : List E} {y : Int} : EaF K C q tNil r (RL y 0) := eaf_nil ⟨[], rfl, rfl, fun _ h => by simp at h⟩
theorem rl_cons {q : Addr} {r : List E} {y z : Int} {m : Nat} {ta : TE} {tr : TA} (ha : EvF K C q ta r (Ri 0 z)) (hr : EaF K C q tr r (RL y m)) (hz : z ≤ y := by decide) : EaF K C q (tCons ta tr) r (RL y (m + 1)) :=
  eaf_cons ha hr fun a as ⟨k, k1, k2, e⟩ ⟨ks, e2, e3, e4⟩ => ⟨k :: ks, by rw [e, e2]; rfl, by rw [List.length_cons, e3], fun x hx => by
    rcases List.mem_cons.mp hx with w | w
    · rw [w]; omega
    · exact e4 x w⟩
theorem ri_int {q : Addr} {r : List E} {k z : Int} (h1 : 0 ≤ k := by decide) (h2 : k ≤ z := by decide) : EvF K C q (tC (.int k)) r (Ri 0 z) := ef_of (fun f => ev_int) ⟨k, h1, h2, rfl⟩
theorem ri_toss {q : Addr} {r : List E} {n : Int} (hq : q ∉ owns r) (h1 : 0 < n := by decide) (h2 : n < 1000000 := by decide) : EvF K C q (tCall (spF K C tossPre tossRel) [] E0 (tCons (tVar 0) (tCons (tC (.int n)) tNil))) r (Ri 0 (n - 1)) :=
  ef_call hq (eaf_cons (R1 := (· = .d (.int n))) (R3 := (· = [])) (R := (· = [.d (.int n)])) (ef_of (fun f => ev_int) rfl) (eaf_nil rfl) (fun a as h1 h2 => by rw [h1, h2])) fun as h => by
    subst h
    refine ⟨⟨_, rfl, h1, h2⟩, fun a ha => ?_⟩
    obtain ⟨n', k, e, k1, k2, rfl⟩ := ha
    have e' : n = n' := by injection e with e; injection e with e; injection e
    exact ⟨k, k1, by omega, rfl⟩
theorem ri_one {q : Addr} {r : List E} {ts : TA} {y : Int} {m : Nat} (hq : q ∉ owns r) (h : EaF K C q ts r (RL y (m + 1))) (hm : m < 900 := by decide) : EvF K C q (tCall (spF K C onePre oneRel) [] E0 (tCons (tVar 0) (tCons (tLst ts) tNil))) r (Ri 0 y) :=
  ef_call hq (eaf_cons (R1 := fun a => ∃ ks : List Int, a = .d (.list (ks.map .int)) ∧ ks.length = m + 1 ∧ ∀ k ∈ ks, 0 ≤ k ∧ k ≤ y) (R3 := (· = [])) (R := fun as => ∃ ks : List Int, as = [.d (.list (ks.map .int))] ∧ ks.length = m + 1 ∧ ∀ k ∈ ks, 0 ≤ k ∧ k ≤ y)
    (ef_unl (R1 := fun a => ∃ ks : List Int, a = .l (ks.map .int) ∧ ks.length = m + 1 ∧ ∀ k ∈ ks, 0 ≤ k ∧ k ≤ y) (ef_lst h fun as ⟨ks, e1, e2, e3⟩ => ⟨ks.map .int, by rw [e1, List.map_map]; rfl, by rw [List.length_map]; omega, ks, rfl, e2, e3⟩) fun a ⟨ks, e1, e2, e3⟩ => ⟨_, e1, ks, rfl, e2, e3⟩)
    (eaf_nil rfl) (fun a as ⟨ks, e1, e2, e3⟩ h2 => ⟨ks, by rw [e1, h2], e2, e3⟩)) fun as h => by
    obtain ⟨ks, rfl, e2, e3⟩ := h
    refine ⟨⟨_, rfl, fun z => ?_, by rw [List.length_map]; omega⟩, fun a ha => ?_⟩
    · have := congrArg List.length z
      rw [List.length_map, e2] at this
      exact absurd this (by simp)
    · obtain ⟨ds, x, e, hx, rfl⟩ := ha
      have e' : ks.map PyData.int = ds := by injection e with e; injection e with e; injection e
      subst e'
      obtain ⟨k, hk, rfl⟩ := List.mem_map.mp hx
      have := e3 k hk
      exact ⟨k, this.1, this.2, rfl⟩
/-- the poll so far: names out of the first i -/
structure OkF (i : Nat) (p : Poll) : Prop where
  le4 : p.length ≤ 4
  two : 2 ≤ p.length + (5 - i)
  part : ∀ x ∈ p, OkPart x ∧ ∃ j, j < i ∧ names5[j]? = some x.1
  asc : p.Pairwise fun a b => a.1.cps.toList < b.1.cps.toList
theorem names_asc : ∀ i, i < 5 → ∀ j, j < i → ((names5.getD j "").cps.toList < (names5.getD i "").cps.toList) := by decide +kernel
theorem names_ne : ∀ i, i < 5 → ∀ j, j < i → names5.getD j "" ≠ names5.getD i "" := by decide +kernel
theorem names_at {j : Nat} {z : Str} (h : names5[j]? = some z) : j < 5 ∧ names5.getD j "" = z := by
  obtain ⟨h1, h2⟩ := List.getElem?_eq_some_iff.mp h
  exact ⟨h1, by rw [List.getD_eq_getElem?_getD, h]; rfl⟩
theorem ok_law_poll {f : Addr} {fd : FuncData} (F : L2.Fun K "_law_poll" "_law_poll" (topS 60) f fd) (T : Txt K mg C) (c_law_toss : C8.Cal P w K mg base 1 "_law_toss" (spF K C tossPre tossRel) []) (c_law_one : C8.Cal P w K mg base 2 "_law_one" (spF K C onePre oneRel) []) :
    FnOk P w K mg base CX0 3 f fd ["_law_fund_here", "_law_many"] (spF K C pollPre pollRel) := by
  have sc : FnScope ["_law_fund_here", "_law_many", "_law_some", "_law_found", "_law_word_now", "_law_left", "_law_dim", "_law_high"] ["_law_fund_here", "_law_many"] (defScope (topS 60)) := C8.fnScope_by (by decide +kernel)
  have nd := sc.nd
  refine okF (n := 7) F sc rfl (fun as h => by rw [h]; rfl) fun cdv A outer s H E hr => ⟨_, (pss_cons (ps_par (i := 2) (j := 3) rfl nd rfl rfl (by decide) rfl rfl (pa_cons (pe_lst (pa_cons pe_str (pa_cons pe_str (pa_cons pe_str (pa_cons pe_str (pa_cons pe_str pa_nil)))))) (pa_cons (pe_lst pa_nil) pa_nil)) (by rfl))
      (pss_cons (ps_for PassesOwn.never rfl (pi_list (pv 2)) (pg_name (i := 4) nd rfl (Or.inl rfl)) (pss_cons (ps_set (i := 5) nd rfl (Or.inl rfl) (pe_op op_sub (pe_callB call_len_seq (by rfl) T.b_len (by decide +kernel) (pa_cons (pv 2) pa_nil)) (pe_bm PySem.F.plainAttrs_list PySem.F.slot_list_index PySem.F.type_list_index mt_index (pv 2) (pa_cons (pv 4) pa_nil))))
      (pss_one (ps_if (PW.pt (pw_and (pt_cmpR op_lt (pe_callB call_len_seq (by rfl) T.b_len (by decide +kernel) (pa_cons (pv 3) pa_nil)) (pv 1) (nomark _)) (pw_and1 (PW.pt (pw_or (pt_cmpR op_le (pv 5) (pe_op op_sub pe_int (pe_callB call_len_seq (by rfl) T.b_len (by decide +kernel) (pa_cons (pv 3) pa_nil))) (nomark _)) (pw_or1 (pt_cmpR op_gt (C8.pe_c c_law_toss hr (by decide) (by rfl) (pa_cons (pv 0) (pa_cons pe_int pa_nil))) pe_int (nomark _)))))))) (pss_cons (ps_set (i := 6) nd rfl (Or.inl rfl) (C8.pe_c c_law_one hr (by decide) (by rfl) (pa_cons (pv 0) (pa_cons (pe_lst (pa_cons pe_int (pa_cons (C8.pe_c c_law_toss hr (by decide) (by rfl) (pa_cons (pv 0) (pa_cons pe_int pa_nil))) (pa_cons (pe_op op_mul pe_int (C8.pe_c c_law_toss hr (by decide) (by rfl) (pa_cons (pv 0) (pa_cons pe_int pa_nil)))) (pa_cons (C8.pe_c c_law_toss hr (by decide) (by rfl) (pa_cons (pv 0) (pa_cons pe_int pa_nil))) pa_nil))))) pa_nil))))
      (pss_cons (ps_set (i := 7) nd rfl (Or.inl rfl) (pe_op op_add (pv 6) (C8.pe_c c_law_one hr (by decide) (by rfl) (pa_cons (pv 0) (pa_cons (pe_lst (pa_cons pe_int (pa_cons pe_int (pa_cons pe_int (pa_cons pe_int (pa_cons pe_int (pa_cons (C8.pe_c c_law_toss hr (by decide) (by rfl) (pa_cons (pv 0) (pa_cons pe_int pa_nil))) pa_nil))))))) pa_nil)))))
      (pss_one (ps_expr (pe_bm PySem.F.plainAttrs_list PySem.F.slot_list_append PySem.F.type_list_append mt_append (pv 3) (pa_cons (pe_tup (pa_cons (pv 4) (pa_cons (pe_tup (pa_cons (pv 6) (pa_cons (pv 7) pa_nil))) pa_nil))) pa_nil)))))) pss_nil))))
      (pss_one (ps_ret (pe_callTy call_tuple_of (by rfl) T.b_tuple (by decide +kernel) (pa_cons (pv 3) pa_nil)))))), fun q f0 as h => ?_⟩
  subst h
  refine sx_seq (sx_parOwn (N := fun r => ∃ p, p ≠ q ∧ r = [.own q (tri f0), .v (.d (.int 4)), .v (.l (names5.map .str)), .own p [], .any, .any, .any, .any]) (by show 3 < 8; decide)
    (ev_lst (ds := names5.map .str) (ea_cons ev_str (ea_cons ev_str (ea_cons ev_str (ea_cons ev_str (ea_cons ev_str ea_nil))))) (by decide)) fun p hp => ⟨p, fun z => hp (by rw [z]; exact List.mem_cons_self), rfl⟩) ?_
  rintro _ ⟨p, hpq, rfl⟩
  refine sx_seq (sx_for (vs := List.range 40) (names5.map .str) (it_list (ev_l (ev_var rfl))) (fun i ρi => ∃ (f : Tri) (fd : Poll), OkF i fd ∧ ∃ e4 e5 e6 e7 : Dt.E, owns [e4, e5, e6, e7] = [] ∧ ρi = [.own q (tri f), .v (.d (.int 4)), .v (.l (names5.map .str)), .own p (fd.map dPart), e4, e5, e6, e7])
    ⟨f0, [], ⟨by decide, by decide, fun x hx => by simp at hx, List.Pairwise.nil⟩, .any, .any, .any, .any, rfl, rfl⟩ (fun i x ρi hx hI => ?_) (fun ρ' h => h)) ?_
  · obtain ⟨f, fd, ok, e4, e5, e6, e7, how, rfl⟩ := hI
    obtain ⟨z, hz, rfl⟩ := map_get hx
    obtain ⟨hi, hzi⟩ := names_at hz
    have hq1 : ∀ (x y u v : Dt.A), q ∉ owns [.v (.d (.int 4)), .v (.l (names5.map .str)), Dt.E.own p (fd.map dPart), .v x, .v y, .v u, .v v] := fun _ _ _ _ h => hpq (List.mem_singleton.mp h).symm
    refine ⟨[.own q (tri f), .v (.d (.int 4)), .v (.l (names5.map .str)), .own p (fd.map dPart), .v (.d (.str z)), e5, e6, e7], ge_name (by decide), fun x hx => ?_, ?_⟩
    · have h5 : owns [e5, e6, e7] = [] := by
        cases e4 with
        | any => exact how
        | v _ => exact how
        | own _ _ => cases how
      show x ∈ q :: p :: owns [e4, e5, e6, e7]
      rw [how]
      have hx' : x ∈ q :: p :: owns [e5, e6, e7] := hx
      rw [h5] at hx'
      exact hx'
    refine sx_seq1 (sx_weak (ρ1 := [.own q (tri f), .v (.d (.int 4)), .v (.l (names5.map .str)), .own p (fd.map dPart), .v (.d (.str z)), .any, .any, .any]) ⟨.inr rfl, .inr rfl, .inr rfl, .inr rfl, .inr rfl, .inl rfl, .inl rfl, .inl rfl, trivial⟩ (sx_set (ev_op (ev_cb (ea_cons (ev_l (ev_var rfl)) ea_nil) cd_lenL) (ev_lindex (j := i) (ev_l (ev_var rfl)) (ev_var rfl) hz fun m hm e => names_ne i hi m hm ((names_at e).2.trans hzi.symm)) op_i0))) ?_
    have hq2 : q ∉ owns [.v (.d (.int 4)), .v (.l (names5.map .str)), Dt.E.own p (fd.map dPart), .v (.d (.str z)), .v (.d (.int (((names5.map PyData.str).length : Nat) - (i : Nat)))), .any, .any] := fun h => hpq (List.mem_singleton.mp h).symm
    have hln : ((fd.map dPart).length : Int) = (fd.length : Nat) := by rw [List.length_map]
    refine sx_ifF' (Rb := fun y => (decide (((fd.map dPart).length : Int) < 4) = false → y = false) ∧ (decide (((fd.map dPart).length : Int) < 4) = true → decide ((((names5.map PyData.str).length : Nat) : Int) - (i : Nat) ≤ 2 - ((fd.map dPart).length : Int)) = true → y = true))
      (f := f) (r := [.v (.d (.int 4)), .v (.l (names5.map .str)), .own p (fd.map dPart), .v (.d (.str z)), .v (.d (.int (((names5.map PyData.str).length : Nat) - (i : Nat)))), .any, .any])
      (tf_and (fun f => et_test (ev_op (ev_lenO (i := 3) rfl) (ev_var rfl) op_b0)) fun _ => tf_or (fun f => et_test (ev_op (ev_var rfl) (ev_op ev_int (ev_lenO (i := 3) rfl) op_i0) op_b0)) fun _ => tf_test (ef_op (ri_toss hq2) (ef_of (R := (· = .d (.int 0))) (fun f => ev_int) rfl) (fun a b ha hb => ?_)) (fun a ha => ha)) (fun hb f' => ?_) (fun hb f' => ?_)
    · obtain ⟨k, k1, k2, rfl⟩ := ha
      subst hb
      exact ⟨.d (.bool (decide (k > 0))), op_b0, _, rfl, trivial⟩
    · have hlt : fd.length < 4 := by
        refine Nat.lt_of_not_le fun hge => ?_
        have := hb.1 (decide_eq_false (by omega))
        cases this
      refine sx_seq (sx_setF (i := 5) (R := Ri 0 90) (N := fun r => ∃ d f2, 0 ≤ d ∧ d ≤ 90 ∧ r = [.own q (tri f2), .v (.d (.int 4)), .v (.l (names5.map .str)), .own p (fd.map dPart), .v (.d (.str z)), .v (.d (.int (((names5.map PyData.str).length : Nat) - (i : Nat)))), .v (.d (.int d)), .any])
        (ri_one (m := 3) hq2 (rl_cons (z := 90) ri_int (rl_cons (ri_toss hq2) (rl_cons (z := 90) (ef_op (R1 := (· = .d (.int 10))) (ef_of (fun f => ev_int) rfl) (ri_toss hq2) fun a b ha hb => ?_) (rl_cons (ri_toss hq2) rl_nil))))) fun a f2 ha => ?_) ?_
      · subst ha
        obtain ⟨k, k1, k2, rfl⟩ := hb
        exact ⟨_, op_i (.inl (by decide)), 10 * k, by omega, by omega, rfl⟩
      · obtain ⟨d, d1, d2, rfl⟩ := ha
        exact ⟨d, f2, d1, d2, rfl⟩
      · rintro _ ⟨d, f2, d1, d2, rfl⟩
        have hq3 : q ∉ owns [.v (.d (.int 4)), .v (.l (names5.map .str)), Dt.E.own p (fd.map dPart), .v (.d (.str z)), .v (.d (.int (((names5.map PyData.str).length : Nat) - (i : Nat)))), .v (.d (.int d)), .any] := fun h => hpq (List.mem_singleton.mp h).symm
        refine sx_seq (sx_setF (i := 6) (R := Ri d 200) (N := fun r => ∃ h f3, d ≤ h ∧ h ≤ 200 ∧ r = [.own q (tri f3), .v (.d (.int 4)), .v (.l (names5.map .str)), .own p (fd.map dPart), .v (.d (.str z)), .v (.d (.int (((names5.map PyData.str).length : Nat) - (i : Nat)))), .v (.d (.int d)), .v (.d (.int h))])
          (ef_op (R1 := (· = .d (.int d))) (R2' := Ri 0 29) (ef_of (fun f => ev_var rfl) rfl) (ri_one (m := 5) hq3 (rl_cons (z := 29) ri_int (rl_cons (z := 29) ri_int (rl_cons (z := 29) ri_int (rl_cons (z := 29) ri_int (rl_cons (z := 29) ri_int (rl_cons (ri_toss hq3) rl_nil))))))) fun a b ha hb => ?_) fun a f3 ha => ?_) ?_
        · subst ha
          obtain ⟨k, k1, k2, rfl⟩ := hb
          exact ⟨_, op_i0, d + k, by omega, by omega, rfl⟩
        · obtain ⟨h, h1, h2, rfl⟩ := ha
          exact ⟨h, f3, h1, h2, rfl⟩
        · rintro _ ⟨h, f3, h1, h2, rfl⟩
          have hLone : Lone [.own q (tri f3), .v (.d (.int 4)), .v (.l (names5.map .str)), Dt.E.own p (fd.map dPart), .v (.d (.str z)), .v (.d (.int (((names5.map PyData.str).length : Nat) - (i : Nat)))), .v (.d (.int d)), .v (.d (.int h))] := by
            show ([q, p] : List Addr).Nodup
            simp [Ne.symm hpq]
          refine sx_mono (sx_append (i := 3) (x := dPart (z, d, h)) rfl hLone (by rw [List.length_map]; omega) (ev_tup (ds := [_, _]) (ea_cons (ev_var rfl) (ea_cons (ev_tup (ds := [_, _]) (ea_cons (ev_var rfl) (ea_cons (ev_var rfl) ea_nil)) (by simp)) ea_nil)) (by simp))) ?_
          rintro _ rfl
          refine ⟨f3, fd ++ [(z, d, h)], ⟨by rw [List.length_append]; simp; omega, by have := ok.two; rw [List.length_append]; simp; omega, fun x hx => ?_, ?_⟩, _, _, _, _, ?_, by rw [List.map_append]; rfl⟩
          · rcases List.mem_append.mp hx with w | w
            · obtain ⟨a1, j, a2, a3⟩ := ok.part x w
              exact ⟨a1, j, by omega, a3⟩
            · rw [List.mem_singleton.mp w]
              exact ⟨⟨List.mem_of_getElem? hz, d1, h1, by show h ≤ 1000; omega⟩, i, by omega, hz⟩
          · refine List.pairwise_append.mpr ⟨ok.asc, List.pairwise_singleton _ _, fun a ha b hb => ?_⟩
            rw [List.mem_singleton.mp hb]
            obtain ⟨_, j, a2, a3⟩ := ok.part a ha
            have := names_asc i hi j a2
            rw [(names_at a3).2, hzi] at this
            exact this
          · rfl
    · refine sx_mono sx_next ?_
      rintro _ rfl
      refine ⟨f', fd, ⟨ok.le4, ?_, fun x hx => ?_, ok.asc⟩, _, _, _, _, rfl, rfl⟩
      · have := ok.two
        by_cases hlt : fd.length < 4
        · have h2 : ¬ decide ((((names5.map PyData.str).length : Nat) : Int) - (i : Nat) ≤ 2 - ((fd.map dPart).length : Int)) = true := fun hc => by
            have := hb.2 (decide_eq_true (by omega)) hc
            cases this
          have h3 : ¬ ((((names5.map PyData.str).length : Nat) : Int) - (i : Nat) ≤ 2 - ((fd.map dPart).length : Int)) := fun z => h2 (decide_eq_true z)
          have h5 : (names5.map PyData.str).length = 5 := rfl
          rw [h5, hln] at h3
          omega
        · omega
      · obtain ⟨a1, j, a2, a3⟩ := ok.part x hx
        exact ⟨a1, j, by omega, a3⟩
  · rintro _ ⟨f, fd, ok, e4, e5, e6, e7, how, rfl⟩
    have hLone : Lone [.own q (tri f), .v (.d (.int 4)), .v (.l (names5.map .str)), Dt.E.own p (fd.map dPart), e4, e5, e6, e7] := by
      show (q :: p :: owns [e4, e5, e6, e7]).Nodup
      rw [how]
      simp [Ne.symm hpq]
    refine sx_freeze (i := 3) rfl hLone (sx_ret (ev_cb (ea_cons (ev_l (ev_var rfl)) ea_nil) cd_tuple) ⟨⟨fd, ⟨by have := ok.two; have h5 : (names5.map PyData.str).length = 5 := rfl; rw [h5] at this; omega, ok.le4, fun x hx => (ok.part x hx).1, ok.asc⟩, rfl⟩, f, _, rfl⟩)
theorem ret_new {S H : Hp} {σ : L2.St} {ρ : List Dt.E} {ts : TA} {f : Tri} {D : Ends} (h : EvA K C ts ρ [.d (.int f.1), .d (.int f.2.1), .d (.int f.2.2)]) (s : Same S H) (e : En K C S H σ ρ) (k : ∀ p S' H', Ext S H S' H' → H' p = none → D.rt (.ref p) (upd H' p (.lst (triV f)))) : tRet (tLst ts) D σ H :=
  h S σ H s e _ fun vs S1 H1 x1 hv => by
    have e1 := tri_v (f := f) (AVs.all (ds := tri f) hv)
    subst e1
    exact ⟨(by decide : 3 ≤ sizeLine), fun p hp => k p S1 H1 x1 hp⟩
theorem ok_law_fund {f : Addr} {fd : FuncData} (F : L2.Fun K "_law_fund" "_law_fund" (topS 56) f fd) (T : Txt K mg C) : FnOk P w K mg base CX0 1 f fd ["_law_script", "_law_k"] (spNew K C fundPre) := by
  have sc : FnScope ["_law_script", "_law_k", "_law_own", "_law_stir", "_law_entry"] ["_law_script", "_law_k"] (defScope (topS 56)) := C8.fnScope_by (by decide +kernel)
  have nd := sc.nd
  refine F.ok sc (fun vs H Q E h => ?_) fun cdv A outer s H vs Q E hr h => ⟨_, (pss_cons (ps_set (i := 2) nd rfl (Or.inl rfl) (pe_ifExp (pt_cmpR op_lt (pv 1) (pe_callB call_len_seq (by rfl) T.b_len (by decide +kernel) (pa_cons (pv 0) pa_nil)) (nomark _)) (pe_callTy call_int1 (by rfl) T.b_int (by decide +kernel) (pa_cons (pe_ix ix_list (pv 0) (pv 1) (fun _ _ => rfl)) pa_nil)) (pe_op op_add (pe_op op_mul pe_int (pv 1)) pe_int)))
      (pss_cons (ps_set (i := 3) nd rfl (Or.inl rfl) (pe_op op_add pe_int (pe_op op_mul pe_int (pv 1))))
      (pss_cons (ps_for PassesOwn.never rfl (pi_list (pe_slice sl_list (pv 0) po_none (po_some pe_int))) (pg_name (i := 4) nd rfl (Or.inl rfl)) (pss_one (ps_set (i := 3) nd rfl (Or.inl rfl) (pe_op op_mod (pe_callTy call_int1 (by rfl) T.b_int (by decide +kernel) (pa_cons (pe_op op_add (pe_op op_mul (pv 3) pe_int) (pe_callTy call_int1 (by rfl) T.b_int (by decide +kernel) (pa_cons (pv 4) pa_nil))) pa_nil)) pe_int))))
      (pss_one (ps_ret (pe_lst (pa_cons (pe_ifExp (PW.pt (pw_or (pt_cmpR op_lt (pv 2) pe_int (nomark _)) (pw_or1 (pt_cmpR op_ge (pv 2) (pe_op op_pow pe_int pe_int) (nomark _))))) (pe_callB call_abs (by rfl) T.b_abs (by decide +kernel) (pa_cons (pv 2) pa_nil)) pe_int) (pa_cons (pe_op op_mod (pe_callTy call_int1 (by rfl) T.b_int (by decide +kernel) (pa_cons (pe_op op_add (pe_op op_mul (pv 3) pe_int) (pv 2)) pa_nil)) pe_int) (pa_cons pe_int pa_nil))))))))), ?_⟩
  · obtain ⟨S, as, s, hv, ⟨ns, k, rfl, _⟩, _⟩ := h
    rw [hv.len]
    rfl
  · obtain ⟨S, as, s, hv, ⟨ns, k, rfl, hk⟩, qq⟩ := h
    have e0 : En K C S H (L2.start ["_law_script", "_law_k", "_law_own", "_law_stir", "_law_entry"] vs) [.v (.d (.list (ns.map .int))), .v (.d (.int k)), .any, .any, .any] := by
      unfold L2.start
      rw [hv.len]
      exact en_start _ hv
    refine sx_set (i := 2) (R := fun _ _ => False) (a := .d (.int (if k < (ns.map PyData.int).length then ns.getD k.toNat 0 else 1033 * k + 67))) (ev_if (et_test (ev_op (ev_var rfl) (ev_cb (ea_cons (ev_var rfl) ea_nil) cd_lenL) op_b0)) (fun h => ?_) (fun h => ?_)) S _ H s e0 _ (fun ρ1 σ1 S1 H1 n1 x1 e1 => ?_) (fun _ _ _ _ _ _ z => z.elim)
    · have hk2 : k < (ns.map PyData.int).length := of_decide_eq_true h
      rw [if_pos hk2]
      rw [List.length_map] at hk2
      exact ev_cb (ea_cons (ev_op (ev_var rfl) (ev_var rfl) (ix_L (by have := atX (xs := ns) (j := k.toNat) (by omega); rw [Int.toNat_of_nonneg hk] at this; exact this))) ea_nil) cd_int
    · rw [if_neg (of_decide_eq_false h)]
      exact ev_op (ev_op ev_int (ev_var rfl) (op_i (.inl (by decide)))) ev_int op_i0
    · subst n1
      generalize hown : (if k < (ns.map PyData.int).length then ns.getD k.toNat 0 else 1033 * k + 67) = ow at e1
      refine sx_set (i := 3) (R := fun _ _ => False) (ev_op ev_int (ev_op ev_int (ev_var rfl) (op_i (.inl (by decide)))) op_i0) S1 _ H1 x1.sh e1 _ (fun ρ2 σ2 S2 H2 n2 x2 e2 => ?_) (fun _ _ _ _ _ _ z => z.elim)
      subst n2
      refine sx_for (vs := List.range 40) (R := fun _ _ => False) _ (it_list (ev_l (ev_slL (ev_var rfl) eo_no (eo_some ev_int)))) (fun i ρi => ∃ v e4, owns [e4] = [] ∧ ρi = [.v (.d (.list (ns.map .int))), .v (.d (.int k)), .v (.d (.int ow)), .v (.d (.int v)), e4]) ⟨_, .any, rfl, rfl⟩ (fun i x ρi hx hI => ?_) (fun ρ' h => h) S2 _ H2 x2.sh e2 _ (fun ρ3 σ3 S3 H3 n3 x3 e3 => ?_) (fun _ _ _ _ _ _ z => z.elim)
      · obtain ⟨v, e4, how, rfl⟩ := hI
        have hx2 : x ∈ ns.map PyData.int := by
          have := List.mem_of_getElem? hx
          unfold cutD at this
          exact List.mem_of_mem_drop (List.mem_of_mem_take this)
        obtain ⟨u, _, rfl⟩ := List.mem_map.mp hx2
        refine ⟨_, ge_name (by decide), fun p hp => ?_, sx_mono (sx_set (ev_op (ev_cb (ea_cons (ev_op (ev_op (ev_var rfl) ev_int (op_i (.inr (by decide)))) (ev_cb (ea_cons (ev_var rfl) ea_nil) cd_int) op_i0) ea_nil) cd_int) ev_int (op_i (by decide)))) ?_⟩
        · simp [owns] at hp
        · rintro _ rfl
          exact ⟨_, _, rfl, rfl⟩
      · obtain ⟨v, e4, how, rfl⟩ := n3
        refine ret_new (f := ((if decide (ow < 0) || decide (ow ≥ 10 ^ 16) then (if ow < 0 then -ow else ow) else 0), (v * 34031 + ow) % 2147482459, 31)) (ea_cons (ev_if (x := decide (ow < 0) || decide (ow ≥ 10 ^ 16)) (et_or (et_test (ev_op (ev_var rfl) ev_int op_b0)) fun _ => (et_test (ev_op (ev_var rfl) (ev_op ev_int ev_int (op_i ⟨by decide, by decide, by decide⟩)) op_b0))) (fun h => ev_is (ev_cb (ea_cons (ev_var rfl) ea_nil) cd_abs) (by rw [if_pos h])) (fun h => ev_is ev_int (by rw [if_neg (by rw [h]; decide)])))
          (ea_cons (ev_op (ev_cb (ea_cons (ev_op (ev_op (ev_var rfl) ev_int (op_i (.inr (by decide)))) (ev_var rfl) op_i0) ea_nil) cd_int) ev_int (op_i (by decide))) (ea_cons ev_int ea_nil))) x3.sh e3 fun p S4 H4 x4 hp => ?_
        have x5 : XO (owns [.v (.d (.list (ns.map .int))), .v (.d (.int k)), .any, .any, .any]) (owns [.v (.d (.list (ns.map .int))), .v (.d (.int k)), .v (.d (.int ow)), .v (.d (.int v)), e4]) S H S4 H4 := ((x1.trans x2).trans x3).trans (XO.of x4 fun p hp => hp)
        have x6 : Ext S H S4 H4 := (x5.sub (W2 := []) (by simp)).ext
        have s4 : S4 p = none := x6.sh.free hp
        have hp0 : H p = none := by
          cases z : H p with
          | none => rfl
          | some o => exact absurd hp (ne_same x6.hh (by rw [z]; simp))
        exact qq p _ S4 _ hp0 ⟨x6.ss, fun b o hb => by rw [upd_ne (ne_of_none hb s4)]; exact x6.sh b o hb, x6.hh.trans (same_new hp), x6.fr⟩ s4 upd_same
end
end Dt
end
section
set_option Elab.async false
set_option linter.all false
set_option maxRecDepth 100000
namespace Dt
open PySem PySem.Spec PyProof.Rows L2
/-! ### data whose repr fits -/
structure Rp (n m : Nat) (x : D) : Prop where
  sh : x.showable = true
  nd : x.hasDict = false
  dp : x.depth ≤ n
  bk : x.bulk ≤ m
  ls : x.leavesShort 13 = true
theorem Rp.mono {n m n' m' : Nat} {x : D} (h : Rp n m x) (h1 : n ≤ n') (h2 : m ≤ m') : Rp n' m' x := ⟨h.sh, h.nd, Nat.le_trans h.dp h1, Nat.le_trans h.bk h2, h.ls⟩
theorem rp_int {i : Int} (h : i.natAbs < 1000000) : Rp 0 0 (.int i) := by
  refine ⟨?_, by simp only [PyData.hasDict], by simp only [PyData.depth]; omega, by simp only [PyData.bulk]; omega, ?_⟩
  · simp only [PyData.showable]
    refine decide_eq_true ?_
    by_cases z : i.natAbs = 0
    · rw [z]; decide
    · have : i.natAbs.log2 < 20 := (Nat.log2_lt z).mpr (Nat.lt_trans h (by decide))
      omega
  · simp only [PyData.leavesShort]
    exact decide_eq_true (PyData.shown_int_le (Nat.lt_trans h (by decide)))
theorem rp_bool (b : Bool) : Rp 0 0 (.bool b) := by
  refine ⟨by simp only [PyData.showable], by simp only [PyData.hasDict], by simp only [PyData.depth]; omega, by simp only [PyData.bulk]; omega, by simp only [PyData.leavesShort]⟩
theorem rp_all {n m : Nat} : ∀ xs : List D, (∀ x ∈ xs, Rp n m x) → PyData.showableAll xs = true ∧ PyData.hasDictAll xs = false ∧ PyData.depthAll xs ≤ n ∧ PyData.bulkAll xs ≤ xs.length * (m + 1) ∧ PyData.leavesShortAll 13 xs = true
  | [], _ => ⟨by simp only [PyData.showableAll], by simp only [PyData.hasDictAll], by simp only [PyData.depthAll]; omega, by simp only [PyData.bulkAll]; omega, by simp only [PyData.leavesShortAll]⟩
  | x :: xs, h => by
    obtain ⟨h1, h2, h3, h4, h5⟩ := rp_all xs fun y hy => h y (List.mem_cons_of_mem _ hy)
    obtain ⟨g1, g2, g3, g4, g5⟩ := h x List.mem_cons_self
    refine ⟨by simp only [PyData.showableAll, g1, h1, Bool.and_self], by simp only [PyData.hasDictAll, g2, h2, Bool.or_self], by simp only [PyData.depthAll]; omega, ?_, by simp only [PyData.leavesShortAll, g5, h5, Bool.and_self]⟩
    simp only [PyData.bulkAll, List.length_cons]
    rw [Nat.add_mul, Nat.one_mul]
    omega
theorem rp_list {n m : Nat} {xs : List D} (h : ∀ x ∈ xs, Rp n m x) : Rp (n + 1) (xs.length * (m + 1)) (.list xs) := by
  obtain ⟨h1, h2, h3, h4, h5⟩ := rp_all xs h
  exact ⟨by simp only [PyData.showable, h1], by simp only [PyData.hasDict, h2], by simp only [PyData.depth]; omega, by simp only [PyData.bulk]; exact h4, by simp only [PyData.leavesShort, h5]⟩
theorem rp_tup {n m : Nat} {xs : List D} (h : ∀ x ∈ xs, Rp n m x) : Rp (n + 1) (xs.length * (m + 1)) (.tuple xs) := by
  obtain ⟨h1, h2, h3, h4, h5⟩ := rp_all xs h
  exact ⟨by simp only [PyData.showable, h1], by simp only [PyData.hasDict, h2], by simp only [PyData.depth]; omega, by simp only [PyData.bulk]; exact h4, by simp only [PyData.leavesShort, h5]⟩
theorem Rp.ok {n m : Nat} {x : D} (h : Rp n m x) (h1 : n ≤ 50) (h2 : m ≤ 1000000) : x.showable = true ∧ x.hasDict = false ∧ x.depth ≤ 50 ∧ x.shown.length ≤ sizeLine :=
  ⟨h.sh, h.nd, Nat.le_trans h.dp h1, PyData.shown_fits_bulk (B := 13) (by decide) (by decide) h.ls (Nat.le_trans h.bk (Nat.le_trans h2 (by decide)))⟩
theorem rp_N {s : List Nat} (h : s.sum ≤ 100) (hl : s.length ≤ 10) : Rp 1 10 (dN s) := by
  have := rp_tup (n := 0) (m := 0) (xs := (ci s).map PyData.int) fun x hx => by
    obtain ⟨i, hi, rfl⟩ := List.mem_map.mp hx
    obtain ⟨k, hk, rfl⟩ := List.mem_map.mp hi
    have := mem_le_sum hk
    exact rp_int (by omega)
  exact this.mono (by omega) (by rw [List.length_map]; unfold ci; rw [List.length_map]; omega)
theorem rp_two {x y : Int} (h1 : x.natAbs < 1000000) (h2 : y.natAbs < 1000000) : Rp 1 2 (tI [x, y]) := by
  have := rp_tup (n := 0) (m := 0) (xs := [x, y].map PyData.int) fun z hz => by
    obtain ⟨i, hi, rfl⟩ := List.mem_map.mp hz
    rcases List.mem_cons.mp hi with e | e
    · rw [e]; exact rp_int h1
    · rw [List.mem_singleton.mp e]; exact rp_int h2
  exact this.mono (by omega) (by simp)
/-! ### texts, bools, lists that are, are not the same -/
theorem ne_same_str {x y : Str} (h : x = y) : (!decide (V.str x = V.str y)) = false := by rw [h, decide_eq_true rfl]; rfl
theorem ne_same_bool {x y : Bool} (h : x = y) : (!decide (V.bl x = V.bl y)) = false := by rw [h, decide_eq_true rfl]; rfl
theorem eq_same_int {x y : Int} (h : x = y) : decide (V.int x = V.int y) = true := by rw [h]; exact decide_eq_true rfl
theorem okd_prs (L : List (Nat × Nat)) : okd 2 (.list (L.map dPr)) = true := okd_rows 0 L fun q => [(q.1 : Int), (q.2 : Int)]
theorem prs_nil (L : List (Nat × Nat)) : PyData.eqv (.list (L.map dPr)) (.list []) = decide (L = []) := by
  by_cases h : L = []
  · rw [h, decide_eq_true rfl]
    exact eqv_t (n := 2) rfl rfl
  · rw [decide_eq_false h]
    exact eqv_f (n := 2) (okd_prs L) rfl fun e => h (List.map_eq_nil_iff.mp (PyData.list.inj e))
section
variable {K : PySem.W.Frag} {C : Addr} {ρ : List E} {te ta tb : TE} {R : A → List E → Prop} {N : List E → Prop}
theorem ev_noL (L : List (Nat × Nat)) (h : EvE K C te ρ (.l (L.map dPr))) : EvE K C (tOp (rEqD K) te (tLst tNil)) ρ (.d (.bool (decide (L = [])))) :=
  ev_is (ev_op (ev_l h) (ev_l (ev_lst (ds := []) ea_nil (by decide))) (op_eqDd (okd_sh (okd_prs L) (by decide)) (by decide))) (by rw [prs_nil])
theorem ev_someL (L : List (Nat × Nat)) (h : EvE K C te ρ (.l (L.map dPr))) : EvE K C (tOp (rNeD K) te (tLst tNil)) ρ (.d (.bool (!decide (L = [])))) :=
  ev_is (ev_op (ev_l h) (ev_l (ev_lst (ds := []) ea_nil (by decide))) (op_neDd (okd_sh (okd_prs L) (by decide)) (by decide))) (by rw [prs_nil])
/-- s in rows -/
theorem ev_inRows {s : List Nat} {rows : List (List Nat)} (h1 : EvE K C ta ρ (.d (dN s))) (h2 : EvE K C tb ρ (.d (.list (rows.map dN)))) : EvE K C (tOp (rInD K) ta tb) ρ (.d (.bool (decide (s ∈ rows)))) :=
  ev_is (ev_op h1 h2 (op_inDd (okd_sh (okd_N 0 s) (by decide)) (okd_sh (okd_rows 0 rows ci) (by decide)))) (by rw [any_rows])
end
/-- the rows of all members of ends -/
def rowsD (p : Poll) (b : Bool) (T : Nat) : List D := (ends p).map fun xs => .list ((gRows xs b T).map dN)
theorem pow_ok {n T : Nat} (h1 : 2 ≤ n) (h2 : n ≤ 4) (h3 : 1 ≤ T) (h4 : n + T ≤ 6) : n ^ T < 64 := by
  have key : ∀ n, n < 5 → ∀ T, T < 5 → 2 ≤ n → 1 ≤ T → n + T ≤ 6 → n ^ T < 64 := by decide
  exact key n (by omega) T (by omega) h1 h3 h4
theorem ends_len {p : Poll} (hp : OkPoll p) : (ends p).length ≤ 16 := by
  have h := endsF_len p [[]]
  have l4 := hp.len4
  have h2 : 2 ^ p.length ≤ 2 ^ 4 := Nat.pow_le_pow_right (by decide) l4
  unfold ends
  have e : ([[]] : List (List Int)).length = 1 := rfl
  rw [e, Nat.one_mul] at h
  exact Nat.le_trans h h2
theorem nm_ok {p : Poll} (hp : OkPoll p) (i : Nat) : PyData.strOk (nm p i) = true := by
  have key : ∀ s ∈ names5, PyData.strOk s = true := by decide +kernel
  unfold nm
  by_cases h : i < p.length
  · rw [List.getD_eq_getElem?_getD, List.getElem?_eq_getElem h, Option.getD_some]
    exact key _ (hp.part _ (List.getElem_mem h)).1
  · rw [List.getD_eq_getElem?_getD, List.getElem?_eq_none (by omega)]
    decide +kernel
theorem okd_nms {p : Poll} (hp : OkPoll p) (i j : Nat) : okd 1 (.tuple [.str (nm p i), .str (nm p j)]) = true := by
  show ([PyData.str (nm p i), PyData.str (nm p j)]).all (okd 0) = true
  rw [List.all_cons, List.all_cons]
  show (PyData.strOk (nm p i) && (PyData.strOk (nm p j) && true)) = true
  rw [nm_ok hp i, nm_ok hp j]
  rfl
theorem bad_len {p : Poll} {b : Bool} {s : List Nat} {v : Bool} (hp : OkPoll p) (hs : OkS p s) : (badL p b s v).length ≤ 100000 := by
  have h := flatMap_len (fun k => badR p b s v k s.length) s.length (List.range s.length) fun k _ => by
    unfold badR
    rw [List.length_map]
    have := List.length_filter_le (bdC p b s v k) (List.range s.length)
    rw [List.length_range] at this
    exact this
  rw [List.length_range] at h
  have l4 := hp.len4
  have ls := hs.len
  have : s.length * s.length ≤ 4 * 4 := Nat.mul_le_mul (by omega) (by omega)
  unfold badL
  omega
end Dt
end
section
set_option Elab.async false
set_option linter.all false
set_option maxRecDepth 100000
set_option maxHeartbeats 4000000
namespace Dt
open PySem PySem.Spec PyProof.Rows L2
def m_law_lot_right (as : List A) (a : A) : Prop := ∃ (p : Poll) (b : Bool) (s : List Nat), as = [.d (dPoll p), .c (dPoll p), .d (.str (wd b)), .d (dN s), .d (.list (rowsD p b s.sum))] ∧ OkPoll p ∧ OkS p s ∧ p.length + s.sum ≤ 6 ∧ a = .d (.bool true)
section
variable {P : Program} {w : World} {K : PySem.W.Frag} {mg : Str → Option Value} {base : Heap} {C W : Addr}
theorem ok_law_lot_right {f : Addr} {fd : FuncData} (F : L2.Fun K "_law_lot_right" "_law_lot_right" (topS 68) f fd) (T : Txt K mg C) (c_law_bad_pairs : C8.Cal P w K mg base 2 "_law_bad_pairs" (spD K C m_law_bad_pairs) []) (c_surely_comes : C8.Cal P w K mg base 5 "surely_comes" (spD K C m_surely_comes) []) (c_can_come : C8.Cal P w K mg base 6 "can_come" (spD K C m_can_come) []) (c_barring_names : C8.Cal P w K mg base 6 "barring_names" (spD K C m_barring_names) []) (c_price : C8.Cal P w K mg base 5 "price" (spD K C m_price) []) (c_law_price_due : C8.Cal P w K mg base 2 "_law_price_due" (spD K C m_law_price_due) []) (c_law_step : C8.Cal P w K mg base 1 "_law_step" (spD K C m_law_step) []) (c_law_given : C8.Cal P w K mg base 3 "_law_given" (spD K C m_law_given) []) (hb : Binds K fd ["_law_poll_now", "_law_made", "_law_kind_now", "_law_lot", "_law_rows_now"] []) : Gu.Quiet P w K mg base 7 f (spD K C m_law_lot_right) := by
  have sc : FnScope ["_law_poll_now", "_law_made", "_law_kind_now", "_law_lot", "_law_rows_now", "_law_bad", "_law_worse", "_law_told", "_law_cost_now", "_law_pair", "_law_k", "_law_numbers", "_law_least", "_law_step_now", "_law_row", "_law_j"] ["_law_poll_now", "_law_made", "_law_kind_now", "_law_lot", "_law_rows_now"] (defScope (topS 68)) := C8.fnScope_by (by decide +kernel)
  have nd := sc.nd
  refine okDG F sc hb (fun as a h => by obtain ⟨p, b, s, rfl, _⟩ := h; rfl) fun cdv A outer s0 H0 E0' hgd hr => ⟨_, (pss_cons (ps_par (i := 5) (j := 6) rfl nd rfl rfl (by decide) rfl rfl (pa_cons (C8.pe_c c_law_bad_pairs hr (by decide) (by rfl) (pa_cons (pv 0) (pa_cons (pv 2) (pa_cons (pv 3) (pa_cons pe_bl pa_nil))))) (pa_cons (C8.pe_c c_law_bad_pairs hr (by decide) (by rfl) (pa_cons (pv 0) (pa_cons (pv 2) (pa_cons (pv 3) (pa_cons pe_bl pa_nil))))) pa_nil)) (by rfl))
      (pss_cons (ps_set (i := 7) nd rfl (Or.inl rfl) (pe_lst (pa_cons (C8.pe_c c_can_come hr (by decide) (by rfl) (pa_cons (pv 1) (pa_cons (pv 2) (pa_cons (pv 3) pa_nil)))) (pa_cons (C8.pe_c c_surely_comes hr (by decide) (by rfl) (pa_cons (pv 1) (pa_cons (pv 2) (pa_cons (pv 3) pa_nil)))) pa_nil))))
      (pss_cons (ps_if (PW.pt (pw_or (pt_cmpR op_ne (pe_callB (Ru.call_reprD (hr.units) hgd) (by rfl) T.b_repr (by decide +kernel) (pa_cons (pv 7) pa_nil)) (pe_callB (Ru.call_reprD (hr.units) hgd) (by rfl) T.b_repr (by decide +kernel) (pa_cons (pe_lst (pa_cons (pe_cmpR (op_eqD (hr.units)) (pv 5) (pe_lst pa_nil) (nomark _)) (pa_cons (pe_cmpR (op_eqD (hr.units)) (pv 6) (pe_lst pa_nil) (nomark _)) pa_nil))) pa_nil)) (nomark _)) (pw_or1 (pt_cmpR op_ne (pe_cmpR (op_eqD (hr.units)) (pv 6) (pe_lst pa_nil) (nomark _)) (pe_callB (cr_all rfl) (by rfl) T.b_all (by decide +kernel) (pa_cons (pe_lc (own := [("_law_row", 14)]) rfl nd (pi_list (pv 4)) (blkOk_by (N := ["_law_poll_now", "_law_made", "_law_kind_now", "_law_lot", "_law_rows_now", "_law_bad", "_law_worse", "_law_told", "_law_cost_now", "_law_pair", "_law_k", "_law_numbers", "_law_least", "_law_step_now", "_law_row", "_law_j"]) (sc := defScope (topS 68)) (by decide +kernel)) (fun _ _ _ _ _ => (pg_name (i := 14) nd rfl (Or.inl rfl))) (fun _ _ _ _ _ => pts_nil) (fun _ _ _ _ _ => (pe_cmpR ((op_inDK (K := K) rfl) (hu65 hr)) (pv 3) (pv 14) (by rfl)))) pa_nil)) (nomark _))))) (pss_one (ps_ret pe_bl)) pss_nil)
      (pss_cons (ps_if (PW.pt (pw_and (pt_cmpR (op_neD (hr.units)) (pv 5) (pe_lst pa_nil) (nomark _)) (pw_and1 (pt_cmpR (op_neD (hr.units)) (pe_lc (own := [("_law_row", 14)]) rfl nd (pi_list (pv 4)) (blkOk_by (N := ["_law_poll_now", "_law_made", "_law_kind_now", "_law_lot", "_law_rows_now", "_law_bad", "_law_worse", "_law_told", "_law_cost_now", "_law_pair", "_law_k", "_law_numbers", "_law_least", "_law_step_now", "_law_row", "_law_j"]) (sc := defScope (topS 68)) (by decide +kernel)) (fun _ _ _ _ _ => (pg_name (i := 14) nd rfl (Or.inl rfl))) (fun _ _ _ _ _ => (pts_one (pt_cmpR ((op_inDK (K := K) rfl) (hu65 hr)) (pv 3) (pv 14) (by rfl)))) (fun _ _ _ _ _ => (pv 14))) (pe_lst pa_nil) (nomark _))))) (pss_one (ps_ret pe_bl)) pss_nil)
      (pss_cons (ps_par (i := 8) (j := 9) rfl nd rfl rfl (by decide) rfl rfl (pa_cons (C8.pe_c c_price hr (by decide) (by rfl) (pa_cons (pv 1) (pa_cons (pv 2) (pa_cons (pv 3) pa_nil)))) (pa_cons (C8.pe_c c_barring_names hr (by decide) (by rfl) (pa_cons (pv 1) (pa_cons (pv 2) (pa_cons (pv 3) pa_nil)))) pa_nil)) (by rfl))
      (pss_cons (ps_if (PW.pt (pw_or (pt_cmpR op_ne (pe_cmpR op_isN (pv 8) pe_non (nomark _)) (pe_cmpR (op_neD (hr.units)) (pv 5) (pe_lst pa_nil) (nomark _)) (nomark _)) (pw_or1 (pt_cmpR op_ne (pe_cmpR op_isN (pv 9) pe_non (nomark _)) (pe_cmpR (op_eqD (hr.units)) (pv 5) (pe_lst pa_nil) (nomark _)) (nomark _))))) (pss_one (ps_ret pe_bl)) pss_nil)
      (pss_cons (ps_if (pt_cmpR op_notN (pv 9) pe_non (nomark _)) (pss_one (ps_ret (pe_cmpR (op_inD (hu65 hr)) (pv 9) (pe_lc (own := [("_law_k", 10), ("_law_j", 15)]) rfl nd (pi_list (pv 5)) (blkOk_by (N := ["_law_poll_now", "_law_made", "_law_kind_now", "_law_lot", "_law_rows_now", "_law_bad", "_law_worse", "_law_told", "_law_cost_now", "_law_pair", "_law_k", "_law_numbers", "_law_least", "_law_step_now", "_law_row", "_law_j"]) (sc := defScope (topS 68)) (by decide +kernel)) (pg_tupB fun _ _ _ _ _ => (pgs_cons (pg_name (i := 10) nd rfl (Or.inl rfl)) (pgs_cons (pg_name (i := 15) nd rfl (Or.inl rfl)) pgs_nil))) (fun _ _ _ _ _ => pts_nil) (fun _ _ _ _ _ => (pe_tup (pa_cons (pe_ix (ix_tupK (K := K) rfl) (pe_ix (ix_tupK (K := K) rfl) (pv 0) (pv 10) (fun _ _ => rfl)) pe_int (fun _ _ => rfl)) (pa_cons (pe_ix (ix_tupK (K := K) rfl) (pe_ix (ix_tupK (K := K) rfl) (pv 0) (pv 15) (fun _ _ => rfl)) pe_int (fun _ _ => rfl)) pa_nil))))) (by rfl)))) pss_nil)
      (pss_cons (ps_if (pt_not (pt_val (C8.pe_c c_law_price_due hr (by decide) (by rfl) (pa_cons (pv 0) (pa_cons (pv 2) (pa_cons (pv 3) (pa_cons (pv 8) pa_nil))))))) (pss_one (ps_ret pe_bl)) pss_nil)
      (pss_cons (ps_set (i := 11) nd rfl (Or.inl rfl) (pe_lst pa_nil))
      (pss_cons (ps_for PassesOwn.never rfl (pi_range1 rfl T.b_range (pa_cons (pe_callB call_len_seq (by rfl) T.b_len (by decide +kernel) (pa_cons (pv 3) pa_nil)) pa_nil)) (pg_name (i := 10) nd rfl (Or.inl rfl)) (pss_cons (ps_set (i := 12) nd rfl (Or.inl rfl) (pe_op op_mul (pe_ix ix_tup (pe_ix ix_tup (pe_ix ix_tup (pv 0) (pv 10) (fun _ _ => rfl)) pe_int (fun _ _ => rfl)) pe_int (fun _ _ => rfl)) (pe_ix ix_tup (pv 8) pe_int (fun _ _ => rfl))))
      (pss_cons (ps_set (i := 13) nd rfl (Or.inl rfl) (pe_ifExp (pt_cmpR op_gt (pe_ix ix_tup (pv 3) (pv 10) (fun _ _ => rfl)) pe_int (nomark _)) (C8.pe_c c_law_step hr (by decide) (by rfl) (pa_cons (pv 2) (pa_cons (pe_ix ix_tup (pv 3) (pv 10) (fun _ _ => rfl)) pa_nil))) pe_int))
      (pss_one (ps_expr (pe_bm PySem.F.plainAttrs_list PySem.F.slot_list_append PySem.F.type_list_append mt_append (pv 11) (pa_cons (pe_callB (call_max2 rfl) (by rfl) T.b_max (by decide +kernel) (pa_cons (pv 12) (pa_cons (pe_op op_mul (pe_ix ix_tup (pv 8) pe_int (fun _ _ => rfl)) (pv 13)) pa_nil))) pa_nil)))))))
      (pss_one (ps_ret (pe_cmpR (op_inD (hu65 hr)) (pv 3) (C8.pe_c c_law_given hr (by decide) (by rfl) (pa_cons (pv 11) (pa_cons (pv 2) (pa_cons (pe_callB (Ru.cr_sumT rfl) (by rfl) T.b_sum (by decide +kernel) (pa_cons (pv 3) pa_nil)) pa_nil)))) (by rfl)))))))))))))), fun as a h => ?_⟩
  obtain ⟨p, b, s, rfl, hp, hs, h6, rfl⟩ := h
  have l2 := hp.len2
  have l4 := hp.len4
  have ls := hs.len
  have hle := hs.le
  have hpos := hs.pos
  have hpw := pow_ok l2 l4 hpos h6
  have hel := ends_len hp
  have e1 : comesB p b s = decide (badL p b s false = []) := by
    have := comes_iff (b := b) hp hs
    by_cases z : badL p b s false = []
    · rw [decide_eq_true z]; exact this.mpr z
    · rw [decide_eq_false z]; exact Bool.eq_false_iff.mpr fun y => z (this.mp y)
  have e2 : sureB p b s = decide (badL p b s true = []) := by
    have := sure_iff (p := p) (b := b) hs
    by_cases z : badL p b s true = []
    · rw [decide_eq_true z]; exact this.mpr z
    · rw [decide_eq_false z]; exact Bool.eq_false_iff.mpr fun y => z (this.mp y)
  have e3 : decide (badL p b s true = []) = ((ends p).map fun xs => decide (s ∈ gRows xs b s.sum)).all id := by
    have := sure_all (b := b) hp hs
    rw [List.all_map]
    by_cases z : badL p b s true = []
    · rw [decide_eq_true z]
      exact (List.all_eq_true.mpr fun xs hx => decide_eq_true (this.mp z xs hx)).symm
    · rw [decide_eq_false z]
      refine (Bool.eq_false_iff.mpr fun y => z (this.mpr fun xs hx => ?_)).symm
      exact of_decide_eq_true (List.all_eq_true.mp y xs hx)
  have rb : ∀ x y : Bool, (PyData.list [.bool x, .bool y]).showable = true ∧ (PyData.list [.bool x, .bool y]).hasDict = false ∧ (PyData.list [.bool x, .bool y]).depth ≤ 50 ∧ (PyData.list [.bool x, .bool y]).shown.length ≤ sizeLine := fun x y =>
    (rp_list (n := 0) (m := 0) (xs := [.bool x, .bool y]) fun z hz => by
      rcases List.mem_cons.mp hz with e | e
      · rw [e]; exact rp_bool _
      · rw [List.mem_singleton.mp e]; exact rp_bool _).ok (by decide) (by show 2 * (0 + 1) ≤ 1000000; decide)
  refine sx_seq1 (sx_par (ea_cons (ev_call (ea_cons (ev_var rfl) (ea_cons (ev_var rfl) (ea_cons (ev_var rfl) (ea_cons ev_bl ea_nil)))) ⟨p, b, s, false, rfl, hp, hs, rfl⟩) (ea_cons (ev_call (ea_cons (ev_var rfl) (ea_cons (ev_var rfl) (ea_cons (ev_var rfl) (ea_cons ev_bl ea_nil)))) ⟨p, b, s, true, rfl, hp, hs, rfl⟩) ea_nil))) ?_
  refine sx_seq1 (sx_set (ev_lst (ds := [.bool (comesB p b s), .bool (sureB p b s)]) (ea_cons (ev_call (ea_cons (ev_var rfl) (ea_cons (ev_var rfl) (ea_cons (ev_var rfl) ea_nil))) ⟨p, b, s, rfl, hp, hs, rfl⟩) (ea_cons (ev_call (ea_cons (ev_var rfl) (ea_cons (ev_var rfl) (ea_cons (ev_var rfl) ea_nil))) ⟨p, b, s, rfl, hp, hs, rfl⟩) ea_nil)) (by simp))) ?_
  refine sx_seq1 (sx_ifF (et_is (et_or (et_test (ev_op (ev_cb (ea_cons (ev_l (ev_var rfl)) ea_nil) (cd_repr (rb _ _))) (ev_cb (ea_cons (ev_l (ev_lst (ds := [.bool (decide (badL p b s false = [])), .bool (decide (badL p b s true = []))]) (ea_cons (ev_noL _ (ev_var rfl)) (ea_cons (ev_noL _ (ev_var rfl)) ea_nil)) (by simp))) ea_nil) (cd_repr (rb _ _))) (op_neF rfl rfl rfl)))
    fun _ => (et_test (ev_op (ev_noL (badL p b s true) (ev_var rfl)) (ev_cb (ea_cons (ev_l (xs := ((ends p).map fun xs => decide (s ∈ gRows xs b s.sum)).map .bool) (ev_is (ev_lc (ends p) (fun xs => .list ((gRows xs b s.sum).map dN)) (fun xs => .bool (decide (s ∈ gRows xs b s.sum))) (fun _ => true) (it_list (ev_var rfl)) (by omega)
      fun y hy => ⟨_, ge_name (by decide), et_yes, fun hp' => ev_inRows (ev_var rfl) (ev_var rfl)⟩) (by rw [filter_tt, List.map_map]; rfl))) ea_nil) cd_all) (op_neF rfl rfl rfl)))) ?_) sx_next) ?_
  · rw [ne_same_str (by rw [← e1, ← e2]), ne_same_bool e3]
    rfl
  refine sx_seq1 (sx_ifF (et_is (et_and (y := false) (et_test (ev_someL (badL p b s false) (ev_var rfl))) fun h => (et_test (ev_is (ev_op (ev_l (ev_is (ev_lc (ends p) (fun xs => .list ((gRows xs b s.sum).map dN)) (fun xs => .list ((gRows xs b s.sum).map dN)) (fun xs => decide (s ∈ gRows xs b s.sum)) (it_list (ev_var rfl)) (by omega)
      fun y hy => ⟨_, ge_name (by decide), et_test (ev_inRows (ev_var rfl) (ev_var rfl)), fun hp' => ev_var rfl⟩) (b := .l []) ?_)) (ev_l (ev_lst (ds := []) ea_nil (by decide))) (op_neDd (by decide) (by decide))) rfl))) (Bool.and_false _)) sx_next) ?_
  · have hb : badL p b s false ≠ [] := fun z => by
      rw [decide_eq_true z] at h
      cases h
    have : (ends p).filter (fun xs => decide (s ∈ gRows xs b s.sum)) = [] := List.filter_eq_nil_iff.mpr fun xs hx z => bad_none (b := b) hp hs hb hx (of_decide_eq_true z)
    rw [this]
    rfl
  refine sx_seq1 (sx_par (ea_cons (ev_call (ea_cons (ev_var rfl) (ea_cons (ev_var rfl) (ea_cons (ev_var rfl) ea_nil))) ⟨p, b, s, rfl, hp, hs, rfl⟩) (ea_cons (ev_call (ea_cons (ev_var rfl) (ea_cons (ev_var rfl) (ea_cons (ev_var rfl) ea_nil))) ⟨p, b, s, rfl, hp, hs, rfl⟩) ea_nil))) ?_
  cases hc : comesB p b s with
  | false =>
    have hb : decide (badL p b s false = []) = false := by rw [← e1]; exact hc
    refine sx_seq1 (sx_ifF (et_is (et_or (et_test (ev_op (ev_op (ev_var rfl) ev_non op_isN') (ev_someL (badL p b s false) (ev_var rfl)) (op_neF rfl rfl rfl))) fun _ => (et_test (ev_op (ev_op (ev_var rfl) ev_non op_isN') (ev_noL (badL p b s false) (ev_var rfl)) (op_neF rfl rfl rfl)))) ?_) sx_next) ?_
    · rw [priceD_no hc, barD_no hc, hb]
      rfl
    refine sx_seq (N' := fun _ => False) (sx_ifT (et_is (et_test (ev_op (ev_var rfl) ev_non op_notN')) (by rw [barD_no hc]; rfl)) (sx_ret (ev_is (ev_op (ev_is (ev_var rfl) (congrArg Dt.A.d (barD_no hc))) (ev_l (ev_lc (badL p b s false) dPr (fun q => .tuple [.str (nm p q.1), .str (nm p q.2)]) (fun _ => true) (it_list (ev_l (ev_var rfl))) ?_
      fun y hy => ⟨_, (ge_tup rfl (ges_cons (ge_name (by decide)) (ges_cons (ge_name (by decide)) ges_nil))), et_yes, fun hp' => (ev_tup (ds := [_, _]) (ea_cons (ev_op (ev_op (ev_var rfl) (ev_var rfl) (ix_T (atP ?_))) ev_int (ix_T rfl)) (ea_cons (ev_op (ev_op (ev_var rfl) (ev_var rfl) (ix_T (atP ?_))) ev_int (ix_T rfl)) ea_nil)) (by simp))⟩)) (op_inDd ?_ ?_)) ?_) rfl)) fun _ z => z.elim
    · exact bad_len hp hs
    · have := (mem_bad hy).1; omega
    · have := (mem_bad hy).2; omega
    · exact okd_sh (n := 1) (okd_nms hp _ _) (by decide)
    · exact okd_sh (n := 2) (okd_l 1 fun x hx => by
        obtain ⟨y, _, rfl⟩ := List.mem_map.mp hx
        exact okd_nms hp _ _) (by decide)
    · refine congrArg Dt.A.d (congrArg PyData.bool ?_)
      rw [filter_tt]
      exact List.any_eq_true.mpr ⟨_, List.mem_map_of_mem (barred_mem hp hs hc), eqv_t (okd_nms hp _ _) rfl⟩
  | true =>
    have hb : decide (badL p b s false = []) = true := by rw [← e1]; exact hc
    refine sx_seq1 (sx_ifF (et_is (et_or (et_test (ev_op (ev_op (ev_var rfl) ev_non op_isN') (ev_someL (badL p b s false) (ev_var rfl)) (op_neF rfl rfl rfl))) fun _ => (et_test (ev_op (ev_op (ev_var rfl) ev_non op_isN') (ev_noL (badL p b s false) (ev_var rfl)) (op_neF rfl rfl rfl)))) ?_) sx_next) ?_
    · rw [priceD_yes hc, barD_yes hc, hb]
      rfl
    refine sx_seq1 (sx_ifF (et_is (et_test (ev_op (ev_var rfl) ev_non op_notN')) (by rw [barD_yes hc]; rfl)) sx_next) ?_
    obtain ⟨g1, g2, g3, g4, g5, g6⟩ := pr_ok (b := b) hp hs
    have hcost : Dt.A.d (priceD p b s) = .d (tI [((prX p b s : Nat) : Int), ((prY p b s : Nat) : Int)]) := congrArg Dt.A.d (priceD_yes hc)
    refine sx_seq1 (sx_ifF (et_is (et_not (et_B (ev_call (ea_cons (ev_var rfl) (ea_cons (ev_var rfl) (ea_cons (ev_var rfl) (ea_cons (ev_is (ev_var rfl) hcost) ea_nil)))) ⟨p, b, s, prX p b s, prY p b s, rfl, hp, hs, g2, g3, g4, fun k hk => price_lo hp hs hk, fun k hk hk2 => price_hi hp hs hc hk hk2, rfl⟩))) rfl) sx_next) ?_
    refine sx_seq (sx_own (i := 11) (N := fun r => ∃ q, r = [.v (.d (dPoll p)), .v (.c (dPoll p)), .v (.d (.str (wd b))), .v (.d (dN s)), .v (.d (.list (rowsD p b s.sum))), .v (.l ((badL p b s false).map dPr)), .v (.l ((badL p b s true).map dPr)), .v (.l [.bool true, .bool (sureB p b s)]), .v (.d (priceD p b s)), .v (.d (barD p b s)), .any, .own q [], .any, .any, .any, .any]) (by show 11 < 16; decide) fun q hq => ⟨q, rfl⟩) ?_
    rintro _ ⟨q, rfl⟩
    refine sx_seq1 (sx_forF (vs := List.range 40) _ (fun i => [.v (.d (dPoll p)), .v (.c (dPoll p)), .v (.d (.str (wd b))), .v (.d (dN s)), .v (.d (.list (rowsD p b s.sum))), .v (.l ((badL p b s false).map dPr)), .v (.l ((badL p b s true).map dPr)), .v (.l [.bool true, .bool (sureB p b s)]), .v (.d (priceD p b s)), .v (.d (barD p b s)), .any, .own q (((List.range i).map (numF p b s)).map .int), .any, .any, .any, .any]) (it_rngN (ea_cons (ev_lenN (ev_var rfl)) ea_nil) (by omega)) rfl fun i x hx => ?_) ?_
    · obtain ⟨hi, rfl⟩ := rangeD_get hx
      have hip : i < p.length := by omega
      have hst := st_le s i
      have dl := dv_le b (st s i) (by omega)
      refine ⟨_, ge_name (by decide), fun _ h => h, ?_⟩
      refine sx_seq1 (sx_set (ev_op (ev_op (ev_op (ev_op (ev_var rfl) (ev_var rfl) (ix_T (atP hip))) ev_int (ix_T rfl)) ev_int (ix_T rfl)) (ev_op (ev_is (ev_var rfl) hcost) ev_int (ix_T rfl)) (op_i (.inl (sm_lo hp i))))) ?_
      refine sx_seq1 (sx_set (a := .d (.int (if 0 < st s i then Ap.dv b (st s i) else 0))) (ev_if (x := decide (((st s i : Nat) : Int) > 0)) (et_test (ev_op (ev_op (ev_var rfl) (ev_var rfl) (ix_T (atS hi))) ev_int op_b0)) (fun h => (ev_is (ev_call (ea_cons (ev_var rfl) (ea_cons (ev_op (ev_var rfl) (ev_var rfl) (ix_T (atS hi))) ea_nil)) ⟨b, st s i, rfl, rfl⟩) ?_)) (fun h => ev_is ev_int ?_))) ?_
      · have := of_decide_eq_true h
        rw [if_pos (show 0 < st s i by omega)]
      · have := of_decide_eq_false h
        rw [if_neg (show ¬ 0 < st s i by omega)]
      have hz : -(2 ^ 64) < (if 0 < st s i then Ap.dv b (st s i) else 0) ∧ (if 0 < st s i then Ap.dv b (st s i) else 0) < 2 ^ 64 := by
        split
        · exact dl
        · exact ⟨by decide, by decide⟩
      refine sx_to (sx_append (i := 11) (x := .int (numF p b s i)) rfl (lone1 q) (by simp; omega) (ev_is (ev_cb (ea_cons (ev_var rfl) (ea_cons (ev_op (ev_op (ev_is (ev_var rfl) hcost) ev_int (ix_T rfl)) (ev_var rfl) (op_i (.inr hz))) ea_nil)) cd_max2) ?_)) ?_
      · rfl
      · have e : ((List.range (i + 1)).map (numF p b s)).map PyData.int = ((List.range i).map (numF p b s)).map PyData.int ++ [.int (numF p b s i)] := by
          rw [List.range_succ, List.map_append, List.map_append]
          rfl
        rw [e]
        exact ⟨.inr rfl, .inr rfl, .inr rfl, .inr rfl, .inr rfl, .inr rfl, .inr rfl, .inr rfl, .inr rfl, .inr rfl, .inl rfl, .inr rfl, .inl rfl, .inl rfl, .inl rfl, .inl rfl, trivial⟩
    · rw [rangeD_len, ls]
      refine sx_freeze (i := 11) rfl (lone1 q) ?_
      have hx : (xl p.length (numF p b s)).length = p.length := xl_len _ _
      refine sx_ret (ev_is (ev_inRows (s := s) (rows := gRows (xl p.length (numF p b s)) b s.sum) (ev_var rfl) (ev_l (ev_call (ea_cons (ev_l (ev_var rfl)) (ea_cons (ev_var rfl) (ea_cons (ev_is (ev_cb (ea_cons (ev_var rfl) ea_nil) cd_sumT) (congrArg Dt.A.d (congrArg PyData.int (ci_sum s)))) ea_nil))) ⟨true, xl p.length (numF p b s), b, s.sum, rfl, by omega, by omega, by omega, by rw [hx]; exact hpw, rfl⟩))) (by rw [decide_eq_true (num_row hp hs)])) rfl
end
end Dt
end
section
set_option Elab.async false
set_option linter.all false
set_option maxRecDepth 100000
namespace Dt
open PySem PySem.Spec PyProof.Rows L2
/-! ### the numbers of one name over all seatings -/
def colN (p : Poll) (b : Bool) (T k : Nat) : List Int := (goodB p b T).map fun s => ((st s k : Nat) : Int)
def runN (mn mx : Nat) : List Int := (List.range (mx - mn + 1)).map fun i => ((mn : Int) + (i : Nat))
theorem sp2_le {p : Poll} {b : Bool} {T k mn mx : Nat} (h : Sp2 p b T k mn mx) : mn ≤ mx := by
  obtain ⟨s, hs, e⟩ := List.mem_map.mp h.mn1
  have := h.mx2 s hs
  have e' : st s k = mn := e
  omega
theorem some_eq {p : Poll} {b : Bool} {T k mn mx : Nat} (h : Sp2 p b T k mn mx) : srtK id (colN p b T k) = runN mn mx := by
  have hle := sp2_le h
  refine srtK_uniq id (srtK_pw id _) ?_ (fun x hx => ⟨x, ?_, rfl⟩) (fun y hy => ⟨y, ?_, rfl⟩)
  · unfold runN
    refine List.pairwise_map.mpr (List.pairwise_lt_range.imp fun {a c} hac => ?_)
    show (mn : Int) + (a : Nat) < (mn : Int) + (c : Nat)
    omega
  · have hx2 := srtK_mem id _ x hx
    obtain ⟨s, hs, e⟩ := List.mem_map.mp hx2
    have e1 := h.mn2 s hs
    have e2 := h.mx2 s hs
    unfold runN
    exact List.mem_map.mpr ⟨st s k - mn, List.mem_range.mpr (by omega), by rw [← e]; omega⟩
  · unfold runN at hy
    obtain ⟨i, hi, e⟩ := List.mem_map.mp hy
    have hi' := List.mem_range.mp hi
    obtain ⟨s, hs, e2⟩ := List.mem_map.mp (h.all (mn + i) (by omega) (by omega))
    have e2' : st s k = mn + i := e2
    refine (mem_srtK id (fun _ _ _ _ h => h)).mpr (List.mem_map.mpr ⟨s, hs, ?_⟩)
    show ((st s k : Nat) : Int) = y
    rw [e2', ← e]
    omega
theorem run_rng (mn mx : Nat) : (runN mn mx).map PyData.int = rng (mn : Int) (mx - mn + 1) := by
  unfold runN rng
  rw [List.map_map]
  rfl
theorem run_len (mn mx : Nat) : ((runN mn mx).map PyData.int).length = mx - mn + 1 := by rw [run_rng, rng_len]
theorem run_first {mn mx : Nat} : atI ((runN mn mx).map PyData.int) 0 = some (.int (mn : Nat)) := by
  refine atI_nat (j := 0) ?_
  rw [run_rng]
  unfold rng
  rw [List.getElem?_map, List.getElem?_range (by omega)]
  show some (PyData.int ((mn : Int) + ((0 : Nat) : Int))) = _
  congr 2
theorem run_last {mn mx : Nat} (h : mn ≤ mx) : atI ((runN mn mx).map PyData.int) (-1) = some (.int (mx : Nat)) := by
  have e : (runN mn mx).map PyData.int = ((List.range (mx - mn)).map fun i => PyData.int ((mn : Int) + (i : Nat))) ++ [.int (mx : Nat)] := by
    rw [run_rng]
    unfold rng
    rw [List.range_succ, List.map_append]
    show _ ++ [PyData.int ((mn : Int) + ((mx - mn : Nat) : Int))] = _
    congr 3
    omega
  rw [e]
  exact atI_last _ _
theorem run_list {mn mx : Nat} (h : mn ≤ mx) : rng (mn : Int) (((mx : Nat) : Int) + 1 - (mn : Nat)).toNat = (runN mn mx).map PyData.int := by
  rw [run_rng]
  congr 1
  omega
/-! ### the same over the rows of all members of ends -/
def rowN (b : Bool) (T k : Nat) (xs : List Int) : List Int := (gRows xs b T).map fun s => ((st s k : Nat) : Int)
def allN (p : Poll) (b : Bool) (T k : Nat) : List Int := (ends p).flatMap (rowN b T k)
theorem all_min {p : Poll} {b : Bool} {T k mn mx : Nat} (h : Sp2 p b T k mn mx) : (mn : Int) ∈ allN p b T k ∧ ∀ y ∈ allN p b T k, (mn : Int) ≤ y := by
  constructor
  · obtain ⟨xs, hx, s, hs, e⟩ := h.rmn
    exact List.mem_flatMap.mpr ⟨xs, hx, List.mem_map.mpr ⟨s, hs, by rw [e]⟩⟩
  · intro y hy
    obtain ⟨xs, hx, hy2⟩ := List.mem_flatMap.mp hy
    obtain ⟨s, hs, rfl⟩ := List.mem_map.mp hy2
    have := (h.row xs hx s hs).1
    omega
theorem all_max {p : Poll} {b : Bool} {T k mn mx : Nat} (h : Sp2 p b T k mn mx) : (mx : Int) ∈ allN p b T k ∧ ∀ y ∈ allN p b T k, y ≤ (mx : Int) := by
  constructor
  · obtain ⟨xs, hx, s, hs, e⟩ := h.rmx
    exact List.mem_flatMap.mpr ⟨xs, hx, List.mem_map.mpr ⟨s, hs, by rw [e]⟩⟩
  · intro y hy
    obtain ⟨xs, hx, hy2⟩ := List.mem_flatMap.mp hy
    obtain ⟨s, hs, rfl⟩ := List.mem_map.mp hy2
    have := (h.row xs hx s hs).2
    omega
theorem span_fun {p : Poll} {b : Bool} {T : Nat} (hp : OkPoll p) (hT : T ≤ 60) : ∃ mn mx : Nat → Nat, ∀ k, k < p.length → Sp2 p b T k (mn k) (mx k) := by
  have h : ∀ k, ∃ q : Nat × Nat, k < p.length → Sp2 p b T k q.1 q.2 := fun k => by
    by_cases hk : k < p.length
    · obtain ⟨mn, mx, h⟩ := span_ok (b := b) hp hT hk
      exact ⟨(mn, mx), fun _ => h⟩
    · exact ⟨(0, 0), fun z => absurd z hk⟩
  exact ⟨fun k => (Classical.choose (h k)).1, fun k => (Classical.choose (h k)).2, fun k hk => Classical.choose_spec (h k) hk⟩
theorem is_min {p : Poll} {b : Bool} {T k mn mx : Nat} (hp : OkPoll p) (h1 : 1 ≤ T) (h2 : T ≤ 12) (h : Sp2 p b T k mn mx) : IsMin p b T k mn := by
  unfold IsMin
  rw [known_good hp h1 h2]
  exact ⟨h.mn1, h.mn2⟩
theorem is_max {p : Poll} {b : Bool} {T k mn mx : Nat} (hp : OkPoll p) (h1 : 1 ≤ T) (h2 : T ≤ 12) (h : Sp2 p b T k mn mx) : IsMax p b T k mx := by
  unfold IsMax
  rw [known_good hp h1 h2]
  exact ⟨h.mx1, h.mx2⟩
theorem okd_ints (n : Nat) (ns : List Int) : okd (n + 1) (.list (ns.map PyData.int)) = true := okd_l n fun x hx => by
  obtain ⟨i, _, rfl⟩ := List.mem_map.mp hx
  cases n <;> rfl
theorem ints_ne {ns : List Int} : PyData.eqv (.list (ns.map PyData.int)) (.list (ns.map PyData.int)) = true := eqv_t (okd_ints 0 ns) rfl
theorem two_eq {x y : Int} : PyData.eqv (tI [x, y]) (tI [x, y]) = true := eqv_t (okd_tI 0 [x, y]) rfl
/-! ### keywords -/
def gR : List V → List V → List V
  | [], zs => zs.reverse
  | _ :: _, _ => []
theorem avs_rev {K : PySem.W.Frag} {C : Addr} {S : Hp} : ∀ {vs : List V} {as : List A}, AVs K C S vs as → AVs K C S vs.reverse as.reverse
  | [], [], h => h
  | v :: vs, a :: as, h => by
    rw [List.reverse_cons, List.reverse_cons]
    exact avs_app (avs_rev h.2) ⟨h.1, trivial⟩
  | [], _ :: _, h => h.elim
  | _ :: _, [], h => h.elim
theorem ev_callR {K : PySem.W.Frag} {C : Addr} {ρ : List E} {m : List A → A → Prop} {ts : TA} {as : List A} {a : A} (h : EvA K C ts ρ as) (hm : m as.reverse a) : EvE K C (tCallK (spD K C m) gR E0 tNil ts) ρ a :=
  ev_callK h (fun S vs hv => avs_rev hv) hm
/-! ### three targets at once, one of them an object -/
theorem sx_trip {K : PySem.W.Frag} {C q : Addr} {r : List E} {ts : TA} {R3 : List A → Prop} {N : List E → Prop} {Rt : A → List E → Prop} {i j l : Nat} {f : Tri} (h : EaF K C q ts r R3)
    (k : ∀ as f', R3 as → ∃ a b c, as = [a, b, c] ∧ N (.own q (tri f') :: ((r.set i (.v a)).set j (.v b)).set l (.v c))) :
    SX K C (tAsg (tTup ts) (gTup K 3 (gCons (gName (i + 1)) (gCons (gName (j + 1)) (gCons (gName (l + 1)) gNil))))) (.own q (tri f) :: r) N Rt := fun S σ H s e D nn rr =>
  h f S σ H s e _ fun vs as f1 S1 H1 r1 x1 e1 hv => by
    obtain ⟨a, b, c, rfl, n⟩ := k as f1 r1
    match vs, hv with
    | [u, v, w], hv =>
      refine ⟨by show 3 ≤ sizeLine; decide, fun p hp => ?_⟩
      have x2 := Ext.new (.tup [u, v, w]) x1.sh hp
      refine ⟨p, [u, v, w], rfl, .inl (.inl upd_same), rfl, u, [v, w], rfl, v, [w], rfl, w, [], rfl, rfl, ?_⟩
      have e2 := e1.mono x2
      have e3 := e2.set (e := .v a) (o := some u) ⟨u, rfl, hv.1.mono x2.ss⟩ (i + 1)
      have e4 := e3.set (e := .v b) (o := some v) ⟨v, rfl, hv.2.1.mono x2.ss⟩ (j + 1)
      have e5 := e4.set (e := .v c) (o := some w) ⟨w, rfl, hv.2.2.1.mono x2.ss⟩ (l + 1)
      refine nn _ _ _ _ n ((x1.trans (XO.of x2 fun p hp => hp)).sub fun p hp => ?_) e5
      have h1 : p ∈ owns ((((Dt.E.own q (tri f1) :: r).set (i + 1) (.v a)).set (j + 1) (.v b)).set (l + 1) (.v c)) := hp
      exact owns_setv p (owns_setv p (owns_setv p h1))
end Dt
end
section
set_option Elab.async false
set_option linter.all false
set_option maxRecDepth 100000
set_option maxHeartbeats 4000000
namespace Dt
open PySem PySem.Spec PyProof.Rows L2
def rightPre (as : List A) : Prop := as = []
def rightRel (_ : List A) (a : A) : Prop := a = .d (.bool true)
section
variable {P : Program} {w : World} {K : PySem.W.Frag} {mg : Str → Option Value} {base : Heap} {C W : Addr}
theorem ok_law_right {f : Addr} {fd : FuncData} (F : L2.Fun K "_law_right" "_law_right" (topS 69) f fd) (T : Txt K mg C) (c_law_poll : C8.Cal P w K mg base 3 "_law_poll" (spF K C pollPre pollRel) []) (c_law_toss : C8.Cal P w K mg base 1 "_law_toss" (spF K C tossPre tossRel) []) (c_law_one : C8.Cal P w K mg base 2 "_law_one" (spF K C onePre oneRel) [])
    (c_C__init__ : C8.Mak P w K mg base 6 "Counts" C (spInit K C) []) (c_law_all_ends : C8.Cal P w K mg base 1 "_law_all_ends" (spD K C m_law_all_ends) []) (c_law_given : C8.Cal P w K mg base 3 "_law_given" (spD K C m_law_given) []) (c_law_shares : C8.Cal P w K mg base 1 "_law_shares" (spD K C m_law_shares) []) (c_law_bad_pairs : C8.Cal P w K mg base 2 "_law_bad_pairs" (spD K C m_law_bad_pairs) [])
    (c_seatings : C8.Cal P w K mg base 7 "seatings" (spD K C m_seatings) []) (c_law_lot_right : GCal P w K mg base 7 "_law_lot_right" (spD K C m_law_lot_right)) (c_span : C8.Cal P w K mg base 7 "span" (spD K C m_span) []) (c_surely_comes : C8.Cal P w K mg base 5 "surely_comes" (spD K C m_surely_comes) []) (c_can_come : C8.Cal P w K mg base 6 "can_come" (spD K C m_can_come) []) (c_sure_seats : C8.Cal P w K mg base 7 "sure_seats" (spD K C m_sure_seats) [])
    (k_seatings : KCal P w K mg base 7 "seatings" ["word", "seats", "counts"] gR (spD K C m_seatings)) (k_span : KCal P w K mg base 7 "span" ["name", "word", "seats", "counts"] gR (spD K C m_span)) (k_surely_comes : KCal P w K mg base 5 "surely_comes" ["seating", "word", "counts"] gR (spD K C m_surely_comes)) (k_can_come : KCal P w K mg base 6 "can_come" ["seating", "word", "counts"] gR (spD K C m_can_come)) (k_sure_seats : KCal P w K mg base 7 "sure_seats" ["word", "seats", "counts"] gR (spD K C m_sure_seats))  (hb : Binds K fd ["_law_fund_here"] []) :
    Gu.Quiet P w K mg base 8 f (spF K C rightPre rightRel) := by
  have sc : FnScope ["_law_fund_here", "_law_poll_now", "_law_made", "_law_kind_now", "_law_total", "_law_rows_now", "_law_lots", "_law_lot", "_law_good", "_law_both", "_law_least", "_law_k", "_law_some", "_law_all_now", "_law_row", "_law_told", "_law_again", "_law_numbers"] ["_law_fund_here"] (defScope (topS 69)) := C8.fnScope_by (by decide +kernel)
  have nd := sc.nd
  refine okFG (n := 17) F sc hb rfl (fun as h => by rw [h]; rfl) fun cdv A outer s0 H0 E0' hgd hr => ⟨_, (pss_cons (ps_set (i := 1) nd rfl (Or.inr rfl) (C8.pe_c c_law_poll hr (by decide) (by rfl) (pa_cons (pv 0) (pa_cons pe_int pa_nil))))
      (pss_cons (ps_asg (pe_tup (pa_cons (C8.pe_mk c_C__init__ hr (by decide) (by rfl) (pa_cons (pv 1) pa_nil)) (pa_cons (C8.pe_c c_law_one hr (by decide) (by rfl) (pa_cons (pv 0) (pa_cons (pe_lst (pa_cons pe_str (pa_cons pe_str pa_nil))) pa_nil))) (pa_cons (pe_op op_add pe_int (C8.pe_c c_law_toss hr (by decide) (by rfl) (pa_cons (pv 0) (pa_cons (pe_op op_sub pe_int (pe_callB call_len_seq (by rfl) T.b_len (by decide +kernel) (pa_cons (pv 1) pa_nil))) pa_nil)))) pa_nil)))) (pg_tup rfl (pgs_cons (pg_name (i := 2) nd rfl (Or.inr rfl)) (pgs_cons (pg_name (i := 3) nd rfl (Or.inr rfl)) (pgs_cons (pg_name (i := 4) nd rfl (Or.inr rfl)) pgs_nil)))))
      (pss_cons (ps_set (i := 5) nd rfl (Or.inr rfl) (pe_lc (own := [("_law_numbers", 17)]) rfl nd (pi_list (C8.pe_c c_law_all_ends hr (by decide) (by rfl) (pa_cons (pv 1) pa_nil))) (blkOk_by (N := ["_law_fund_here", "_law_poll_now", "_law_made", "_law_kind_now", "_law_total", "_law_rows_now", "_law_lots", "_law_lot", "_law_good", "_law_both", "_law_least", "_law_k", "_law_some", "_law_all_now", "_law_row", "_law_told", "_law_again", "_law_numbers"]) (sc := defScope (topS 69)) (by decide +kernel)) (fun _ _ _ _ _ => (pg_name (i := 17) nd rfl (Or.inl rfl))) (fun _ _ _ _ _ => pts_nil) (fun _ _ _ _ _ => (C8.pe_c c_law_given hr (by decide) (by rfl) (pa_cons (pv 17) (pa_cons (pv 3) (pa_cons (pv 4) pa_nil)))))))
      (pss_cons (ps_set (i := 6) nd rfl (Or.inl rfl) (C8.pe_c c_law_shares hr (by decide) (by rfl) (pa_cons (pe_callB call_len_seq (by rfl) T.b_len (by decide +kernel) (pa_cons (pv 1) pa_nil)) (pa_cons (pv 4) pa_nil))))
      (pss_cons (ps_setLc (i := 8) (own := [("_law_lot", 7)]) rfl nd rfl rfl (sw_true rfl rfl rfl (by decide +kernel)) (pi_list (pv 6)) (blkOk_by (N := ["_law_fund_here", "_law_poll_now", "_law_made", "_law_kind_now", "_law_total", "_law_rows_now", "_law_lots", "_law_lot", "_law_good", "_law_both", "_law_least", "_law_k", "_law_some", "_law_all_now", "_law_row", "_law_told", "_law_again", "_law_numbers"]) (sc := defScope (topS 69)) (by decide +kernel)) (fun _ _ _ _ _ => (pg_name (i := 7) nd rfl (Or.inl rfl))) (fun _ _ _ _ _ => (pts_one (pt_cmpR ((op_eqDK (K := K) rfl) (hr.units)) (C8.pe_c c_law_bad_pairs hr (by decide) (by rfl) (pa_cons (pv 1) (pa_cons (pv 3) (pa_cons (pv 7) (pa_cons pe_bl pa_nil))))) (pe_lst pa_nil) (nomark _)))) (fun _ _ _ _ _ => (pv 7)))
      (pss_cons (ps_set (i := 9) nd rfl (Or.inl rfl) (pe_lst (pa_cons (C8.pe_c c_seatings hr (by decide) (by rfl) (pa_cons (pv 2) (pa_cons (pv 4) (pa_cons (pv 3) pa_nil)))) (pa_cons (pe_kc k_seatings hr (by decide) (by rfl) (pk_cons (pv 3) (pk_cons (pv 4) (pk_cons (pv 2) pk_nil)))) pa_nil))))
      (pss_cons (ps_if (pt_cmpR op_ne (pe_callB (Ru.call_reprD (hr.units) hgd) (by rfl) T.b_repr (by decide +kernel) (pa_cons (pv 9) pa_nil)) (pe_callB (Ru.call_reprD (hr.units) hgd) (by rfl) T.b_repr (by decide +kernel) (pa_cons (pe_op op_rep (pe_lst (pa_cons (pe_callTy call_tuple_of (by rfl) T.b_tuple (by decide +kernel) (pa_cons (pv 8) pa_nil)) pa_nil)) pe_int) pa_nil)) (nomark _)) (pss_one (ps_ret pe_bl)) pss_nil)
      (pss_cons (ps_if (pt_not (pt_val (pe_callB (cr_all rfl) (by rfl) T.b_all (by decide +kernel) (pa_cons (pe_lc (own := [("_law_lot", 7)]) rfl nd (pi_list (pv 6)) (blkOk_by (N := ["_law_fund_here", "_law_poll_now", "_law_made", "_law_kind_now", "_law_total", "_law_rows_now", "_law_lots", "_law_lot", "_law_good", "_law_both", "_law_least", "_law_k", "_law_some", "_law_all_now", "_law_row", "_law_told", "_law_again", "_law_numbers"]) (sc := defScope (topS 69)) (by decide +kernel)) (fun _ _ _ _ _ => (pg_name (i := 7) nd rfl (Or.inl rfl))) (fun _ _ _ _ _ => pts_nil) (fun _ _ _ _ _ => (pe_gcal c_law_lot_right hgd hr (by decide) (by rfl) (pa_cons (pv 1) (pa_cons (pv 2) (pa_cons (pv 3) (pa_cons (pv 7) (pa_cons (pv 5) pa_nil)))))))) pa_nil)))) (pss_one (ps_ret pe_bl)) pss_nil)
      (pss_cons (ps_set (i := 10) nd rfl (Or.inl rfl) pe_int)
      (pss_cons (ps_for PassesOwn.never rfl (pi_range1 rfl T.b_range (pa_cons (pe_callB call_len_seq (by rfl) T.b_len (by decide +kernel) (pa_cons (pv 1) pa_nil)) pa_nil)) (pg_name (i := 11) nd rfl (Or.inr rfl)) (pss_cons (ps_set (i := 12) nd rfl (Or.inl rfl) (pe_callB (cr_sortedSet rfl) (by rfl) T.b_sorted (by decide +kernel) (pa_cons (pe_callTy (SeL.cr_setI rfl) (by rfl) T.b_set (by decide +kernel) (pa_cons (pe_lc (own := [("_law_lot", 7)]) rfl nd (pi_list (pv 8)) (blkOk_by (N := ["_law_fund_here", "_law_poll_now", "_law_made", "_law_kind_now", "_law_total", "_law_rows_now", "_law_lots", "_law_lot", "_law_good", "_law_both", "_law_least", "_law_k", "_law_some", "_law_all_now", "_law_row", "_law_told", "_law_again", "_law_numbers"]) (sc := defScope (topS 69)) (by decide +kernel)) (fun _ _ _ _ _ => (pg_name (i := 7) nd rfl (Or.inl rfl))) (fun _ _ _ _ _ => pts_nil) (fun _ _ _ _ _ => (pe_ix (ix_tupK (K := K) rfl) (pv 7) (pv 11) (fun _ _ => rfl)))) pa_nil)) pa_nil)))
      (pss_cons (ps_set (i := 13) nd rfl (Or.inl rfl) (pe_lst pa_nil))
      (pss_cons (ps_for PassesOwn.never rfl (pi_list (pv 5)) (pg_name (i := 14) nd rfl (Or.inl rfl)) (pss_one (ps_set (i := 13) nd rfl (Or.inl rfl) (pe_op op_cat (pv 13) (pe_lc (own := [("_law_lot", 7)]) rfl nd (pi_list (pv 14)) (blkOk_by (N := ["_law_fund_here", "_law_poll_now", "_law_made", "_law_kind_now", "_law_total", "_law_rows_now", "_law_lots", "_law_lot", "_law_good", "_law_both", "_law_least", "_law_k", "_law_some", "_law_all_now", "_law_row", "_law_told", "_law_again", "_law_numbers"]) (sc := defScope (topS 69)) (by decide +kernel)) (fun _ _ _ _ _ => (pg_name (i := 7) nd rfl (Or.inl rfl))) (fun _ _ _ _ _ => pts_nil) (fun _ _ _ _ _ => (pe_ix (ix_tupK (K := K) rfl) (pv 7) (pv 11) (fun _ _ => rfl))))))))
      (pss_cons (ps_set (i := 15) nd rfl (Or.inl rfl) (C8.pe_c c_span hr (by decide) (by rfl) (pa_cons (pv 2) (pa_cons (pv 4) (pa_cons (pv 3) (pa_cons (pe_ix ix_tup (pe_ix ix_tup (pv 1) (pv 11) (fun _ _ => rfl)) pe_int (fun _ _ => rfl)) pa_nil))))))
      (pss_cons (ps_if (PW.pt (pw_or (pt_cmpR op_ne (pe_callB (Ru.call_reprD (hr.units) hgd) (by rfl) T.b_repr (by decide +kernel) (pa_cons (pv 15) pa_nil)) (pe_callB (Ru.call_reprD (hr.units) hgd) (by rfl) T.b_repr (by decide +kernel) (pa_cons (pe_tup (pa_cons (pe_ix ix_list (pv 12) pe_int (fun _ _ => rfl)) (pa_cons (pe_ix ix_list (pv 12) (pe_un un_neg pe_int) (fun _ _ => rfl)) pa_nil))) pa_nil)) (nomark _)) (pw_or1 (pt_cmpR (op_neD (hr.units)) (pe_tup (pa_cons (pe_callB (cr_min rfl) (by rfl) T.b_min (by decide +kernel) (pa_cons (pv 13) pa_nil)) (pa_cons (pe_callB (cr_max rfl) (by rfl) T.b_max (by decide +kernel) (pa_cons (pv 13) pa_nil)) pa_nil))) (pv 15) (nomark _))))) (pss_one (ps_ret pe_bl)) pss_nil)
      (pss_cons (ps_set (i := 16) nd rfl (Or.inl rfl) (pe_kc k_span hr (by decide) (by rfl) (pk_cons (pe_ix ix_tup (pe_ix ix_tup (pv 1) (pv 11) (fun _ _ => rfl)) pe_int (fun _ _ => rfl)) (pk_cons (pv 3) (pk_cons (pv 4) (pk_cons (pv 2) pk_nil))))))
      (pss_cons (ps_if (PW.pt (pw_or (pt_cmpR (op_neD (hr.units)) (pv 12) (pe_listRg rfl (by rfl) T.b_list (prg_2 (by rfl) T.b_range (pe_ix ix_list (pv 12) pe_int (fun _ _ => rfl)) (pe_op op_add (pe_ix ix_list (pv 12) (pe_un un_neg pe_int) (fun _ _ => rfl)) pe_int))) (nomark _)) (pw_or1 (pt_cmpR (op_neD (hr.units)) (pv 16) (pv 15) (nomark _))))) (pss_one (ps_ret pe_bl)) pss_nil)
      (pss_one (ps_set (i := 10) nd rfl (Or.inl rfl) (pe_op op_add (pv 10) (pe_ix ix_tup (pv 15) pe_int (fun _ _ => rfl)))))))))))))
      (pss_cons (ps_set (i := 7) nd rfl (Or.inl rfl) (C8.pe_c c_law_one hr (by decide) (by rfl) (pa_cons (pv 0) (pa_cons (pv 6) pa_nil))))
      (pss_cons (ps_if (pt_cmpR op_ne (pe_kc k_surely_comes hr (by decide) (by rfl) (pk_cons (pv 7) (pk_cons (pv 3) (pk_cons (pv 2) pk_nil)))) (C8.pe_c c_surely_comes hr (by decide) (by rfl) (pa_cons (pv 2) (pa_cons (pv 3) (pa_cons (pv 7) pa_nil)))) (nomark _)) (pss_one (ps_ret pe_bl)) pss_nil)
      (pss_cons (ps_if (pt_cmpR op_ne (pe_kc k_can_come hr (by decide) (by rfl) (pk_cons (pv 7) (pk_cons (pv 3) (pk_cons (pv 2) pk_nil)))) (pe_cmpR (op_inD (hu65 hr)) (pv 7) (pv 8) (by rfl)) (nomark _)) (pss_one (ps_ret pe_bl)) pss_nil)
      (pss_one (ps_ret (pe_and (pe_cmpR op_eq (C8.pe_c c_sure_seats hr (by decide) (by rfl) (pa_cons (pv 2) (pa_cons (pv 4) (pa_cons (pv 3) pa_nil)))) (pv 10) (nomark _)) (pe_one (pe_cmpR op_eq (pe_kc k_sure_seats hr (by decide) (by rfl) (pk_cons (pv 3) (pk_cons (pv 4) (pk_cons (pv 2) pk_nil)))) (pv 10) (nomark _))))))))))))))))))), fun q f0 as h => ?_⟩
  subst h
  -- the poll
  refine sx_seq (sx_setF (i := 0) (R := fun a => ∃ p : Poll, OkPoll p ∧ a = .d (dPoll p)) (N := fun r => ∃ (p : Poll) (f1 : Tri), OkPoll p ∧ r = [.own q (tri f1), .v (.d (dPoll p)), .any, .any, .any, .any, .any, .any, .any, .any, .any, .any, .any, .any, .any, .any, .any, .any])
    (ef_call (by rw [owns_ini]; simp) (eaf_cons (R1 := (· = .d (.int 4))) (R3 := (· = [])) (R := (· = [.d (.int 4)])) (ef_of (fun f => ev_int) rfl) (eaf_nil rfl) (fun a as h1 h2 => by rw [h1, h2])) (fun as h => ⟨h, fun a ha => ha⟩)) fun a f1 ha => ?_) ?_
  · obtain ⟨p, hp, rfl⟩ := ha
    exact ⟨p, f1, hp, rfl⟩
  rintro _ ⟨p, f1, hp, rfl⟩
  have l2 := hp.len2
  have l4 := hp.len4
  have hq1 : q ∉ owns [Dt.E.v (.d (dPoll p)), .any, .any, .any, .any, .any, .any, .any, .any, .any, .any, .any, .any, .any, .any, .any, .any] := by simp [owns]
  -- the object, the word, the total
  refine sx_seq (sx_trip (i := 1) (j := 2) (l := 3) (R3 := fun as => ∃ (b : Bool) (m : Nat), 1 ≤ m ∧ p.length + m ≤ 6 ∧ as = [.c (dPoll p), .d (.str (wd b)), .d (.int m)])
    (N := fun r => ∃ (b : Bool) (m : Nat) (f2 : Tri), 1 ≤ m ∧ p.length + m ≤ 6 ∧ r = [.own q (tri f2), .v (.d (dPoll p)), .v (.c (dPoll p)), .v (.d (.str (wd b))), .v (.d (.int m)), .any, .any, .any, .any, .any, .any, .any, .any, .any, .any, .any, .any, .any])
    (eaf_cons (R1 := (· = .c (dPoll p))) (R3 := fun as => ∃ (b : Bool) (m : Nat), 1 ≤ m ∧ p.length + m ≤ 6 ∧ as = [.d (.str (wd b)), .d (.int m)]) (ef_of (fun f => ev_make (ev_var rfl) hp) rfl)
      (eaf_cons (R1 := fun a => ∃ b : Bool, a = .d (.str (wd b))) (R3 := fun as => ∃ m : Nat, 1 ≤ m ∧ p.length + m ≤ 6 ∧ as = [.d (.int m)])
        (ef_call hq1 (eaf_cons (R1 := (· = .d (.list [.str "whole", .str "odd"]))) (R3 := (· = [])) (R := (· = [.d (.list [.str "whole", .str "odd"])])) (ef_of (fun f => ev_l (ev_lst (ds := [.str "whole", .str "odd"]) (ea_cons ev_str (ea_cons ev_str ea_nil)) (by decide))) rfl) (eaf_nil rfl) (fun a as h1 h2 => by rw [h1, h2]))
          (fun as h => ⟨⟨_, h, by simp, by decide⟩, fun a ha => by
            obtain ⟨ds, x, e, hx, rfl⟩ := ha
            rw [h] at e
            have e2 : ds = [.str "whole", .str "odd"] := by injection e with e; injection e with e; injection e with e; exact e.symm
            rw [e2] at hx
            rcases List.mem_cons.mp hx with z | z
            · exact ⟨true, by rw [z]; rfl⟩
            · exact ⟨false, by rw [List.mem_singleton.mp z]; rfl⟩⟩))
        (eaf_cons (R1 := fun a => ∃ m : Nat, 1 ≤ m ∧ p.length + m ≤ 6 ∧ a = .d (.int m)) (R3 := (· = []))
          (ef_op (R1 := (· = .d (.int 1))) (R2' := fun a => ∃ k : Int, 0 ≤ k ∧ k < 6 - (p.length : Nat) ∧ a = .d (.int k)) (ef_of (fun f => ev_int) rfl)
            (ef_call hq1 (eaf_cons (R1 := (· = .d (.int (6 - (p.length : Nat))))) (R3 := (· = [])) (R := (· = [.d (.int (6 - (p.length : Nat)))])) (ef_of (fun f => ev_op ev_int (ev_lenP (ev_var rfl)) op_i0) rfl) (eaf_nil rfl) (fun a as h1 h2 => by rw [h1, h2]))
              (fun as h => ⟨⟨_, h, by omega, by omega⟩, fun a ha => by
                obtain ⟨n, k, e, k1, k2, rfl⟩ := ha
                rw [h] at e
                have e2 : n = 6 - (p.length : Nat) := by injection e with e; injection e with e; injection e with e; exact e.symm
                rw [e2] at k2
                exact ⟨k, k1, k2, rfl⟩⟩))
            fun a b ha hb => by
              obtain ⟨k, k1, k2, rfl⟩ := hb
              subst ha
              exact ⟨_, op_i0, (1 + k).toNat, by omega, by omega, by rw [Int.toNat_of_nonneg (by omega)]⟩)
          (eaf_nil rfl) fun a as ha hb => by
            obtain ⟨m, h1, h2, rfl⟩ := ha
            exact ⟨m, h1, h2, by rw [hb]⟩)
        fun a as ha hb => by
          obtain ⟨b, rfl⟩ := ha
          obtain ⟨m, h1, h2, rfl⟩ := hb
          exact ⟨b, m, h1, h2, rfl⟩)
      fun a as ha hb => by
        obtain ⟨b, m, h1, h2, rfl⟩ := hb
        exact ⟨b, m, h1, h2, by rw [ha]⟩)
    fun as f2 h => by
      obtain ⟨b, m, h1, h2, rfl⟩ := h
      exact ⟨_, _, _, rfl, b, m, f2, h1, h2, rfl⟩) ?_
  rintro _ ⟨b, m, f2, h1, h6, rfl⟩
  have h12 : m ≤ 12 := by omega
  have hpw := pow_ok l2 l4 h1 h6
  have hel := ends_len hp
  obtain ⟨_, sh2, _, _⟩ := sh_all l4 l2 h1 h6
  have hS : ∀ s ∈ en (p.length - 1) m, OkS p s := fun s hs => knownS hp h1 h12 hs
  have hsum : ∀ s ∈ en (p.length - 1) m, s.sum = m := fun s hs => (mem_en.mp hs).2
  have hgl : (goodB p b m).length < 64 := Nat.lt_of_le_of_lt (List.length_filter_le _ _) sh2
  have hkg : knownB p b m = goodB p b m := known_good hp h1 h12
  have hgS : ∀ s ∈ goodB p b m, s ∈ en (p.length - 1) m := fun s hs => (List.mem_filter.mp hs).1
  obtain ⟨mn, mx, hsp⟩ := span_fun (b := b) (T := m) hp (by omega)
  have hrl : ∀ xs ∈ ends p, (gRows xs b m).length < 64 := fun xs hx => by
    have := (ends_ok hp hx).1
    have h3 := (gRows_len xs b m).1
    rw [this] at h3
    omega
  -- the rows of all members of ends
  refine sx_seq1 (sx_set (ev_is (ev_lc (ends p) tI (fun xs => .list ((gRows xs b m).map dN)) (fun _ => true) (it_list (ev_l (ev_call (ea_cons (ev_var rfl) ea_nil) ⟨p, rfl, hp, rfl⟩))) (by omega)
    fun y hy => ⟨_, ge_name (by decide), et_yes, fun _ => ev_l (ev_call (ea_cons (ev_var rfl) (ea_cons (ev_var rfl) (ea_cons (ev_var rfl) ea_nil))) ⟨false, y, b, m, rfl, by rw [(ends_ok hp hy).1]; exact l2, by rw [(ends_ok hp hy).1]; exact l4, h12, by rw [(ends_ok hp hy).1]; exact hpw, rfl⟩)⟩) (b := .l (rowsD p b m)) (by rw [filter_tt]; rfl))) ?_
  -- all seatings
  refine sx_seq1 (sx_set (ev_call (ea_cons (ev_lenP (ev_var rfl)) (ea_cons (ev_var rfl) ea_nil)) ⟨p.length, m, rfl, l4, l2, h1, h6, rfl⟩)) ?_
  -- the good ones
  refine sx_seq1 (sx_set (ev_is (ev_lc (en (p.length - 1) m) dN dN (fun s => decide (badL p b s false = [])) (it_list (ev_l (ev_var rfl))) (by omega)
    fun s hs => ⟨_, ge_name (by decide), et_test (ev_noL (badL p b s false) (ev_call (ea_cons (ev_var rfl) (ea_cons (ev_var rfl) (ea_cons (ev_var rfl) (ea_cons ev_bl ea_nil)))) ⟨p, b, s, false, rfl, hp, hS s hs, rfl⟩)), fun _ => ev_var rfl⟩) (b := .l ((goodB p b m).map dN)) rfl)) ?_
  -- what seatings tells, in both ways
  refine sx_seq1 (sx_set (ev_lst (ds := [.tuple ((goodB p b m).map dN), .tuple ((goodB p b m).map dN)]) (ea_cons (ev_is (ev_call (ea_cons (ev_var rfl) (ea_cons (ev_var rfl) (ea_cons (ev_var rfl) ea_nil))) ⟨p, b, m, rfl, hp, h1, h12, rfl⟩) (by show Dt.A.d (.tuple ((knownB p b m).map dN)) = _; rw [hkg])) (ea_cons (ev_is (ev_callR (ea_cons (ev_var rfl) (ea_cons (ev_var rfl) (ea_cons (ev_var rfl) ea_nil))) ⟨p, b, m, rfl, hp, h1, h12, rfl⟩) (by show Dt.A.d (.tuple ((knownB p b m).map dN)) = _; rw [hkg])) ea_nil)) (by simp))) ?_
  have rp1 : Rp 2 (64 * 11) (.tuple ((goodB p b m).map dN)) := by
    have := rp_tup (n := 1) (m := 10) (xs := (goodB p b m).map dN) fun x hx => by
      obtain ⟨s, hs, rfl⟩ := List.mem_map.mp hx
      have a1 := hsum s (hgS s hs)
      have a2 := (hS s (hgS s hs)).len
      exact rp_N (by omega) (by omega)
    refine this.mono (by omega) ?_
    rw [List.length_map]
    omega
  have rp2 : (PyData.list [.tuple ((goodB p b m).map dN), .tuple ((goodB p b m).map dN)]).showable = true ∧ (PyData.list [.tuple ((goodB p b m).map dN), .tuple ((goodB p b m).map dN)]).hasDict = false ∧ (PyData.list [.tuple ((goodB p b m).map dN), .tuple ((goodB p b m).map dN)]).depth ≤ 50 ∧ (PyData.list [.tuple ((goodB p b m).map dN), .tuple ((goodB p b m).map dN)]).shown.length ≤ sizeLine :=
    (rp_list (n := 2) (m := 64 * 11) (xs := [.tuple ((goodB p b m).map dN), .tuple ((goodB p b m).map dN)]) fun x hx => by
      rcases List.mem_cons.mp hx with e | e
      · rw [e]; exact rp1
      · rw [List.mem_singleton.mp e]; exact rp1).ok (by decide) (by show 2 * (64 * 11 + 1) ≤ 1000000; decide)
  refine sx_seq1 (sx_ifF (et_is (et_test (ev_op (ev_cb (ea_cons (ev_l (ev_var rfl)) ea_nil) (cd_repr rp2)) (ev_cb (ea_cons (ev_is (ev_l (ev_op (ev_lst (ds := [.tuple ((goodB p b m).map dN)]) (ea_cons (ev_cb (ea_cons (ev_l (ev_var rfl)) ea_nil) cd_tuple) ea_nil) (by simp)) ev_int (op_rep' ⟨by simp, by decide, by decide⟩))) (b := .d (.list [.tuple ((goodB p b m).map dN), .tuple ((goodB p b m).map dN)])) rfl) ea_nil) (cd_repr rp2)) (op_neF rfl rfl rfl))) (ne_same_str rfl)) sx_next) ?_
  -- each seating
  refine sx_seq1 (sx_ifF (et_is (et_not (et_B (ev_cb (ea_cons (ev_l (ev_is (ev_lc (en (p.length - 1) m) dN (fun _ => .bool true) (fun _ => true) (it_list (ev_l (ev_var rfl))) (by omega)
    fun s hs => ⟨_, ge_name (by decide), et_yes, fun _ => ev_call (ea_cons (ev_var rfl) (ea_cons (ev_var rfl) (ea_cons (ev_var rfl) (ea_cons (ev_var rfl) (ea_cons (ev_l (ev_var rfl)) ea_nil))))) ⟨p, b, s, by rw [hsum s hs], hp, hS s hs, by rw [hsum s hs]; exact h6, rfl⟩⟩) (b := .l (((en (p.length - 1) m).map fun _ => true).map .bool)) (by rw [filter_tt, map_cst]))) ea_nil) cd_all))) ?_) sx_next) ?_
  · rw [List.all_map]
    have : ((en (p.length - 1) m).all (id ∘ fun _ => true)) = true := List.all_eq_true.mpr fun _ _ => rfl
    rw [this]
    rfl
  refine sx_seq1 (sx_set ev_int) ?_
  -- each name
  refine sx_seq1 (sx_forF (vs := List.range 40) _ (fun i => [.own q (tri f2), .v (.d (dPoll p)), .v (.c (dPoll p)), .v (.d (.str (wd b))), .v (.d (.int m)), .v (.l (rowsD p b m)), .v (.l ((en (p.length - 1) m).map dN)), .any, .v (.l ((goodB p b m).map dN)), .v (.l [.tuple ((goodB p b m).map dN), .tuple ((goodB p b m).map dN)]), .v (.d (.int (((List.range i).map fun k => ((mn k : Nat) : Int)).sum))), .any, .any, .any, .any, .any, .any, .any])
    (it_rngN (ea_cons (ev_lenP (ev_var rfl)) ea_nil) (by omega)) rfl fun k x hx => ?_) ?_
  · obtain ⟨hk, rfl⟩ := rangeD_get hx
    refine ⟨_, ge_name (by decide), fun _ h => h, ?_⟩
    have S2 := hsp k hk
    have hle := sp2_le S2
    have hmx : mx k ≤ m := by
      obtain ⟨s, hs, e⟩ := List.mem_map.mp S2.mx1
      have e' : st s k = mx k := e
      have := st_le s k
      have := hsum s (hgS s hs)
      omega
    have rp3 : (PyData.tuple [.int ((mn k : Nat) : Int), .int ((mx k : Nat) : Int)]).showable = true ∧ (PyData.tuple [.int ((mn k : Nat) : Int), .int ((mx k : Nat) : Int)]).hasDict = false ∧ (PyData.tuple [.int ((mn k : Nat) : Int), .int ((mx k : Nat) : Int)]).depth ≤ 50 ∧ (PyData.tuple [.int ((mn k : Nat) : Int), .int ((mx k : Nat) : Int)]).shown.length ≤ sizeLine :=
      (rp_two (x := ((mn k : Nat) : Int)) (y := ((mx k : Nat) : Int)) (by omega) (by omega)).ok (by decide) (by decide)
    have sh1 : SeqAt.shaped (tI [((mn k : Nat) : Int), ((mx k : Nat) : Int)]) = true := okd_sh (okd_tI 0 _) (by decide)
    have sh3 : SeqAt.shaped (.list ((runN (mn k) (mx k)).map PyData.int)) = true := okd_sh (okd_ints 0 _) (by decide)
    refine sx_seq1 (sx_set (ev_is (ev_sortI (ns := colN p b m k) (.inl (ev_l (ev_is (ev_lc (goodB p b m) dN (fun s => .int (st s k : Nat)) (fun _ => true) (it_list (ev_l (ev_var rfl))) (by omega)
      fun s hs => ⟨_, ge_name (by decide), et_yes, fun _ => ev_op (ev_var rfl) (ev_var rfl) (ix_T (atS (by have := (hS s (hgS s hs)).len; omega)))⟩) (b := .l ((colN p b m k).map .int)) (by rw [filter_tt]; unfold colN; rw [List.map_map]; rfl)))) (by unfold colN; rw [List.length_map]; exact hgl)) (b := .l ((runN (mn k) (mx k)).map .int)) (by rw [some_eq S2]))) ?_
    refine sx_seq1 (sx_set (ev_lst (ds := []) ea_nil (by decide))) ?_
    refine sx_seq1 (sx_forF (vs := List.range 40) _ (fun i => [.own q (tri f2), .v (.d (dPoll p)), .v (.c (dPoll p)), .v (.d (.str (wd b))), .v (.d (.int m)), .v (.l (rowsD p b m)), .v (.l ((en (p.length - 1) m).map dN)), .any, .v (.l ((goodB p b m).map dN)), .v (.l [.tuple ((goodB p b m).map dN), .tuple ((goodB p b m).map dN)]), .v (.d (.int (((List.range k).map fun k => ((mn k : Nat) : Int)).sum))), .v (.d (.int (k : Nat))), .v (.l ((runN (mn k) (mx k)).map .int)), .v (.l ((((ends p).take i).flatMap (rowN b m k)).map .int)), .any, .any, .any, .any])
      (it_list (ev_l (ev_var rfl))) rfl fun i x hx => ?_) ?_
    · have hx' : ((ends p).map fun xs => PyData.list ((gRows xs b m).map dN))[i]? = some x := hx
      obtain ⟨xs, hxs, rfl⟩ := map_get hx'
      have hxe := List.mem_of_getElem? hxs
      have hrr := hrl xs hxe
      refine ⟨_, ge_name (by decide), fun _ h => h, ?_⟩
      refine sx_to (sx_set (ev_is (ev_op (ev_var rfl) (ev_is (ev_lc (gRows xs b m) dN (fun s => .int (st s k : Nat)) (fun _ => true) (it_list (ev_var rfl)) (by omega)
        fun s hs => ⟨_, ge_name (by decide), et_yes, fun _ => ev_op (ev_var rfl) (ev_var rfl) (ix_T (atS (by have := (gRows_of hs).1; have := (ends_ok hp hxe).1; omega)))⟩) (b := .l ((rowN b m k xs).map .int)) (by rw [filter_tt]; unfold rowN; rw [List.map_map]; rfl)) (op_cat' ?_)) (b := .l ((((ends p).take (i + 1)).flatMap (rowN b m k)).map .int)) ?_)) ⟨.inr rfl, .inr rfl, .inr rfl, .inr rfl, .inr rfl, .inr rfl, .inr rfl, .inr rfl, .inr rfl, .inr rfl, .inr rfl, .inr rfl, .inr rfl, .inr rfl, .inl rfl, .inr rfl, .inr rfl, .inr rfl, trivial⟩
      · have a1 := flatMap_len (rowN b m k) 64 ((ends p).take i) fun ys hy => by
          have := hrl ys (List.mem_of_mem_take hy)
          unfold rowN
          rw [List.length_map]
          omega
        rw [List.length_take] at a1
        have a2 : (rowN b m k xs).length < 64 := by
          unfold rowN
          rw [List.length_map]
          exact hrr
        rw [List.length_map, List.length_map]
        omega
      · have e : (ends p).take (i + 1) = (ends p).take i ++ [xs] := by rw [List.take_add_one, hxs]; rfl
        rw [e, List.flatMap_append, List.map_append]
        show _ = Dt.A.l (_ ++ (List.flatMap (rowN b m k) [xs]).map PyData.int)
        rw [List.flatMap_cons, List.flatMap_nil, List.append_nil]
    have hE : (ends p).take (rowsD p b m).length = ends p := by
      unfold rowsD
      rw [List.length_map, List.take_length]
    dsimp only
    rw [hE]
    have am := all_min S2
    have ax := all_max S2
    unfold allN at am ax
    refine sx_seq1 (sx_set (ev_call (ea_cons (ev_var rfl) (ea_cons (ev_var rfl) (ea_cons (ev_var rfl) (ea_cons (ev_op (ev_op (ev_var rfl) (ev_var rfl) (ix_T (atP hk))) ev_int (ix_T rfl)) ea_nil)))) ⟨p, b, m, k, mn k, mx k, rfl, hp, h1, h12, hk, is_min hp h1 h12 S2, is_max hp h1 h12 S2, rfl⟩)) ?_
    refine sx_seq1 (sx_ifF (et_is (et_or (x := false) (y := false)
      (et_test (ev_is (ev_op (ev_cb (ea_cons (ev_var rfl) ea_nil) (cd_reprT (ds := [.int ((mn k : Nat) : Int), .int ((mx k : Nat) : Int)]) rp3)) (ev_cb (ea_cons (ev_tup (ds := [.int ((mn k : Nat) : Int), .int ((mx k : Nat) : Int)]) (ea_cons (ev_op (ev_l (ev_var rfl)) ev_int (ix_L run_first)) (ea_cons (ev_op (ev_l (ev_var rfl)) (ev_un ev_int un_neg') (ix_L (run_last hle))) ea_nil)) (by simp)) ea_nil) (cd_reprT rp3)) (op_neF rfl rfl rfl)) (by rw [ne_same_str rfl])))
      fun _ => (et_test (ev_is (ev_op (ev_tup (ds := [.int ((mn k : Nat) : Int), .int ((mx k : Nat) : Int)]) (ea_cons (ev_cb (ea_cons (ev_l (ev_var rfl)) ea_nil) (cd_min am.1 am.2)) (ea_cons (ev_cb (ea_cons (ev_l (ev_var rfl)) ea_nil) (cd_max ax.1 ax.2)) ea_nil)) (by simp)) (ev_var rfl) (op_neDd sh1 sh1)) (congrArg (fun z => Dt.A.d (.bool (!z))) (two_eq (x := ((mn k : Nat) : Int)) (y := ((mx k : Nat) : Int))))))) rfl) sx_next) ?_
    refine sx_seq1 (sx_set (ev_callR (ea_cons (ev_op (ev_op (ev_var rfl) (ev_var rfl) (ix_T (atP hk))) ev_int (ix_T rfl)) (ea_cons (ev_var rfl) (ea_cons (ev_var rfl) (ea_cons (ev_var rfl) ea_nil)))) ⟨p, b, m, k, mn k, mx k, rfl, hp, h1, h12, hk, is_min hp h1 h12 S2, is_max hp h1 h12 S2, rfl⟩)) ?_
    refine sx_seq1 (sx_ifF (et_is (et_or (x := false) (y := false)
      (et_test (ev_is (ev_op (ev_l (ev_var rfl)) (ev_l (ev_is (ev_listRg (ev_op (ev_l (ev_var rfl)) ev_int (ix_L run_first)) (ev_op (ev_op (ev_l (ev_var rfl)) (ev_un ev_int un_neg') (ix_L (run_last hle))) ev_int op_i0) ⟨by omega, by omega⟩ ⟨by omega, by omega⟩) (b := .l ((runN (mn k) (mx k)).map .int)) (by rw [run_list hle]))) (op_neDd sh3 sh3)) (congrArg (fun z => Dt.A.d (.bool (!z))) (ints_ne (ns := runN (mn k) (mx k))))))
      fun _ => (et_test (ev_is (ev_op (ev_var rfl) (ev_var rfl) (op_neDd sh1 sh1)) (congrArg (fun z => Dt.A.d (.bool (!z))) (two_eq (x := ((mn k : Nat) : Int)) (y := ((mx k : Nat) : Int))))))) rfl) sx_next) ?_
    refine sx_to (sx_set (ev_is (ev_op (ev_var rfl) (ev_op (ev_var rfl) ev_int (ix_T rfl)) op_i0) (b := .d (.int (((List.range (k + 1)).map fun k => ((mn k : Nat) : Int)).sum))) ?_)) ⟨.inr rfl, .inr rfl, .inr rfl, .inr rfl, .inr rfl, .inr rfl, .inr rfl, .inr rfl, .inr rfl, .inr rfl, .inr rfl, .inl rfl, .inl rfl, .inl rfl, .inl rfl, .inl rfl, .inl rfl, .inl rfl, trivial⟩
    rw [List.range_succ, List.map_append, List.sum_append]
    show _ = Dt.A.d (.int (_ + ([((mn k : Nat) : Int)]).sum))
    rw [List.sum_cons, List.sum_nil, Int.add_zero]
  dsimp only
  rw [rangeD_len]
  -- a seating
  have hq2 : q ∉ owns [.v (.d (dPoll p)), .v (.c (dPoll p)), .v (.d (.str (wd b))), .v (.d (.int m)), .v (.l (rowsD p b m)), .v (.l ((en (p.length - 1) m).map dN)), .any, .v (.l ((goodB p b m).map dN)), .v (.l [.tuple ((goodB p b m).map dN), .tuple ((goodB p b m).map dN)]), Dt.E.v (.d (.int (((List.range p.length).map fun k => ((mn k : Nat) : Int)).sum))), .any, .any, .any, .any, .any, .any, .any] := by simp [owns]
  refine sx_seq (sx_setF (i := 6) (R := fun a => ∃ s, s ∈ en (p.length - 1) m ∧ a = .d (dN s)) (N := fun r => ∃ (s : List Nat) (f3 : Tri), s ∈ en (p.length - 1) m ∧ r = [.own q (tri f3), .v (.d (dPoll p)), .v (.c (dPoll p)), .v (.d (.str (wd b))), .v (.d (.int m)), .v (.l (rowsD p b m)), .v (.l ((en (p.length - 1) m).map dN)), .v (.d (dN s)), .v (.l ((goodB p b m).map dN)), .v (.l [.tuple ((goodB p b m).map dN), .tuple ((goodB p b m).map dN)]), .v (.d (.int (((List.range p.length).map fun k => ((mn k : Nat) : Int)).sum))), .any, .any, .any, .any, .any, .any, .any])
    (ef_call hq2 (eaf_cons (R1 := (· = .d (.list ((en (p.length - 1) m).map dN)))) (R3 := (· = [])) (R := (· = [.d (.list ((en (p.length - 1) m).map dN))])) (ef_of (fun f => ev_l (ev_var rfl)) rfl) (eaf_nil rfl) (fun a as h1 h2 => by rw [h1, h2]))
      (fun as h => ⟨⟨_, h, (by
        obtain ⟨s, hs⟩ := good_ne (b := b) hp m
        intro z
        have := List.mem_map_of_mem (f := dN) (hgS s hs)
        rw [z] at this
        cases this), by rw [List.length_map]; omega⟩, fun a ha => by
        obtain ⟨ds, x, e, hx, rfl⟩ := ha
        rw [h] at e
        have e2 : ds = (en (p.length - 1) m).map dN := by injection e with e; injection e with e; injection e with e; exact e.symm
        rw [e2] at hx
        obtain ⟨s, hs, rfl⟩ := List.mem_map.mp hx
        exact ⟨s, hs, rfl⟩⟩)) fun a f3 ha => ?_) ?_
  · obtain ⟨s, hs, rfl⟩ := ha
    exact ⟨s, f3, hs, rfl⟩
  rintro _ ⟨s, f3, hs, rfl⟩
  have hs2 := hS s hs
  have hcg : comesB p b s = decide (s ∈ goodB p b m) := by
    have h3 := comes_iff (b := b) hp hs2
    by_cases z : badL p b s false = []
    · rw [decide_eq_true (show s ∈ goodB p b m from List.mem_filter.mpr ⟨hs, decide_eq_true z⟩)]
      exact h3.mpr z
    · rw [decide_eq_false (show ¬ s ∈ goodB p b m from fun y => z (of_decide_eq_true (List.mem_filter.mp y).2))]
      exact Bool.eq_false_iff.mpr fun y => z (h3.mp y)
  refine sx_seq1 (sx_ifF (et_is (et_test (ev_op (ev_callR (ea_cons (ev_var rfl) (ea_cons (ev_var rfl) (ea_cons (ev_var rfl) ea_nil))) ⟨p, b, s, rfl, hp, hs2, rfl⟩) (ev_call (ea_cons (ev_var rfl) (ea_cons (ev_var rfl) (ea_cons (ev_var rfl) ea_nil))) ⟨p, b, s, rfl, hp, hs2, rfl⟩) (op_neF rfl rfl rfl))) (ne_same_bool rfl)) sx_next) ?_
  refine sx_seq1 (sx_ifF (et_is (et_test (ev_op (ev_callR (ea_cons (ev_var rfl) (ea_cons (ev_var rfl) (ea_cons (ev_var rfl) ea_nil))) ⟨p, b, s, rfl, hp, hs2, rfl⟩) (ev_inRows (ev_var rfl) (ev_l (ev_var rfl))) (op_neF rfl rfl rfl))) (ne_same_bool hcg)) sx_next) ?_
  exact sx_ret (ev_is (ev_andV (ev_op (ev_call (ea_cons (ev_var rfl) (ea_cons (ev_var rfl) (ea_cons (ev_var rfl) ea_nil))) ⟨p, b, m, mn, rfl, hp, h1, h12, fun k hk => is_min hp h1 h12 (hsp k hk), rfl⟩) (ev_var rfl) (op_eqF rfl rfl rfl)) fun _ => (ev_op (ev_callR (ea_cons (ev_var rfl) (ea_cons (ev_var rfl) (ea_cons (ev_var rfl) ea_nil))) ⟨p, b, m, mn, rfl, hp, h1, h12, fun k hk => is_min hp h1 h12 (hsp k hk), rfl⟩) (ev_var rfl) (op_eqF rfl rfl rfl))) (by rw [eq_same_int rfl]; rfl)) ⟨rfl, f3, _, rfl⟩
end
end Dt
end
section
set_option Elab.async false
set_option linter.all false
set_option maxRecDepth 100000
set_option maxHeartbeats 4000000
namespace Dt
open PySem PySem.Spec PyProof.Rows L2
def m_law (as : List A) (a : A) : Prop := ∃ ns : List Int, as = [.d (.list (ns.map .int))] ∧ a = .d (.bool true)
section
variable {P : Program} {w : World} {K : PySem.W.Frag} {mg : Str → Option Value} {base : Heap} {C W : Addr}
/-- a def that takes a fund, called with a new one -/
theorem ev_fresh {ρ : List E} {ts : TA} {as : List A} (h : EvA K C ts ρ as) (hp : fundPre as) :
    EvE K C (tCall (spF K C rightPre rightRel) [] E0 (tCons (tCall (spNew K C fundPre) [] E0 ts) tNil)) ρ (.d (.bool true)) := fun S σ H s e Q q =>
  h S σ H s e _ fun vs S1 H1 x1 hv => by
    rw [List.append_nil]
    refine ⟨S1, as, x1.sh, hv, hp, fun p f S2 H2 hp0 x2 sp2 hp2 => ?_⟩
    refine ⟨S2, p, [], [], f, rfl, x2.sh, sp2, hp2, trivial, rfl, fun v a f' S3 H3 ra x3 sp3 hp3 hv3 => ?_⟩
    have ra' : a = .d (.bool true) := ra
    subst ra'
    have x12 := x1.trans x2
    have hH : ∀ b, H b ≠ none → b ∉ [p] := fun b h1 h2 => by
      rw [List.mem_singleton.mp h2] at h1
      exact ne_same x1.hh h1 hp0
    exact q v S3 H3 ⟨x12.ss.trans x3.ss, x3.sh, fun b o hb => x3.kp b o (x12.hh b o hb) (hH b (by rw [hb]; simp)), fun b h1 h2 => x3.fr b (ne_same x12.hh h1) (x12.fr b h1 h2) (hH b h1)⟩ hv3
theorem ok_law {f : Addr} {fd : FuncData} (F : L2.Fun K "law" "law" (topS 70) f fd) (T : Txt K mg C) (c_law_right : GCal P w K mg base 8 "_law_right" (spF K C rightPre rightRel)) (c_law_fund : C8.Cal P w K mg base 1 "_law_fund" (spNew K C fundPre) []) (hb : Binds K fd ["_law_script"] []) :
    Gu.Quiet P w K mg base 9 f (spD K C m_law) := by
  have sc : FnScope ["_law_script", "_law_k"] ["_law_script"] (defScope (topS 70)) := C8.fnScope_by (by decide +kernel)
  have nd := sc.nd
  refine okDG F sc hb (fun as a h => by obtain ⟨ns, rfl, _⟩ := h; rfl) fun cdv A outer s0 H0 E0' hgd hr => ⟨_, (pss_one (ps_ret (pe_callB (cr_all rfl) (by rfl) T.b_all (by decide +kernel) (pa_cons (pe_lc (own := [("_law_k", 1)]) rfl nd (pi_range1 rfl T.b_range (pa_cons pe_int pa_nil)) (blkOk_by (N := ["_law_script", "_law_k"]) (sc := defScope (topS 70)) (by decide +kernel)) (fun _ _ _ _ _ => (pg_name (i := 1) nd rfl (Or.inl rfl))) (fun _ _ _ _ _ => pts_nil) (fun _ _ _ _ _ => (pe_gcal c_law_right hgd hr (by decide) (by rfl) (pa_cons (C8.pe_c c_law_fund hr (by decide) (by rfl) (pa_cons (pv 0) (pa_cons (pv 1) pa_nil))) pa_nil)))) pa_nil)))), fun as a h => ?_⟩
  obtain ⟨ns, rfl, rfl⟩ := h
  refine sx_ret (ev_is (ev_cb (ea_cons (ev_l (ev_is (ev_lc (List.range 2) (fun i => .int (i : Nat)) (fun _ => .bool true) (fun _ => true) (it_rngN (n := 2) (ea_cons ev_int ea_nil) (by decide)) (by decide)
    fun y hy => ⟨_, ge_name (by decide), et_yes, fun _ => ev_fresh (ea_cons (ev_var rfl) (ea_cons (ev_var rfl) ea_nil)) ⟨ns, _, rfl, by omega⟩⟩) (b := .l (((List.range 2).map fun _ => true).map .bool)) (by rw [filter_tt, map_cst]))) ea_nil) cd_all) ?_) rfl
  rfl
end
end Dt
end
section
set_option Elab.async false
set_option linter.all false
set_option maxRecDepth 100000
set_option maxHeartbeats 4000000
namespace Dt
open PySem PySem.Spec PyProof.Rows L2
/-! ### a def of the top, by its name; a method, a getter of the class -/
structure Glo (K : PySem.W.Frag) (mg : Str → Option Value) (x : Str) (sm : Stmt) : Prop where
  ex : ∃ (f : Addr) (fd : FuncData), L2.Fun K x x sm f fd ∧ mg x = some (.ref f)
theorem glob_mk {K : PySem.W.Frag} {h : Heap} {mg : Str → Option Value} {x : Str} {sm : Stmt} {f : Addr} {oc : Value} {od an : Option Addr} {osl : Array (Option Value)} {kV doc pm cdv ct : Value} (X : K.In h) (G : h.Ns mainGlobals mg)
    (a : PySem.W.nsIn K mainGlobals x = some (some (.ref f))) (l : K.lookup f = some ⟨oc, od, .func (PySem.W.fnOf x x (defArgs sm) (defBody sm) (defScope sm) .none kV doc pm an cdv ct), osl⟩) (c : PySem.W.codeIn K cdv x = true) (k : PySem.W.keepIn K (.ref f) = true) : Glo K mg x sm :=
  ⟨f, _, fun_mk l c k, PySem.W.mg_of X G a⟩
structure Ini (K : PySem.W.Frag) (C : Addr) : Prop where
  ex : ∃ (f : Addr) (fd : FuncData), L2.Fun K "__init__" "Counts.__init__" (inClass (topS 31) 0) f fd ∧ L2.Mk K C f
theorem ini_mk {K : PySem.W.Frag} {C f : Addr} {oc : Value} {od an : Option Addr} {osl : Array (Option Value)} {kV doc pm cdv ct : Value}
    (a : PySem.W.findIn K (.ref C) "__init__" = some (some (.ref f))) (i : PySem.W.isFn K (.ref f) = true) (l : K.lookup f = some ⟨oc, od, .func (PySem.W.fnOf "__init__" "Counts.__init__" (defArgs (inClass (topS 31) 0)) (defBody (inClass (topS 31) 0)) (defScope (inClass (topS 31) 0)) .none kV doc pm an cdv ct), osl⟩) (c : PySem.W.codeIn K cdv "Counts.__init__" = true) (k : PySem.W.keepIn K (.ref f) = true)
    (m : PySem.W.makesIn K C = true) (kc : PySem.W.keepIn K (.ref C) = true) : Ini K C := ⟨f, _, fun_mk l c k, ⟨m, a, i, kc⟩⟩
structure Len (K : PySem.W.Frag) (C : Addr) : Prop where
  ex : ∃ (f : Addr) (fd : FuncData), L2.Fun K "__len__" "Counts.__len__" (inClass (topS 31) 5) f fd ∧ PySem.W.findIn K (.ref C) "__len__" = some (some (.ref f)) ∧ PySem.W.isFn K (.ref f) = true
theorem len_mk {K : PySem.W.Frag} {C f : Addr} {oc : Value} {od an : Option Addr} {osl : Array (Option Value)} {kV doc pm cdv ct : Value}
    (a : PySem.W.findIn K (.ref C) "__len__" = some (some (.ref f))) (i : PySem.W.isFn K (.ref f) = true) (l : K.lookup f = some ⟨oc, od, .func (PySem.W.fnOf "__len__" "Counts.__len__" (defArgs (inClass (topS 31) 5)) (defBody (inClass (topS 31) 5)) (defScope (inClass (topS 31) 5)) .none kV doc pm an cdv ct), osl⟩) (c : PySem.W.codeIn K cdv "Counts.__len__" = true) (k : PySem.W.keepIn K (.ref f) = true) : Len K C := ⟨f, _, fun_mk l c k, a, i⟩
structure Get (K : PySem.W.Frag) (C : Addr) (x qual : Str) (sm : Stmt) : Prop where
  ex : ∃ (p f : Addr) (fd : FuncData), L2.Fun K x qual sm f fd ∧ L2.PropOf K C x p f
theorem get_mk {K : PySem.W.Frag} {C p f : Addr} {x qual : Str} {sm : Stmt} {rest : List Value} {oc : Value} {od an : Option Addr} {osl : Array (Option Value)} {kV doc pm cdv ct : Value}
    (a : PySem.W.findIn K (.ref C) x = some (some (.ref p))) (g : PySem.W.specialIn K (.ref p) "__get__" = some (some (.builtin "property.__get__"))) (t : PySem.W.takesIn K (.ref p) = some true) (r : PySem.W.recIn K p "property" = some (.ref f :: rest))
    (l : K.lookup f = some ⟨oc, od, .func (PySem.W.fnOf x qual (defArgs sm) (defBody sm) (defScope sm) .none kV doc pm an cdv ct), osl⟩) (c : PySem.W.codeIn K cdv qual = true) (k : PySem.W.keepIn K (.ref f) = true) : Get K C x qual sm := ⟨p, f, _, fun_mk l c k, ⟨a, g, t, rest, r⟩⟩
/-! ### keywords, all of them, in the parameters' order turned about -/
def gW : List Value → List Value → List Value
  | [], zs => zs.reverse
  | _ :: _, _ => []
theorem vals_rev : ∀ {vs : List V} {us : List Value}, Vals vs us → Vals vs.reverse us.reverse
  | _, _, .nil => .nil
  | _, _, .cons a b => by
    rw [List.reverse_cons, List.reverse_cons]
    exact (vals_rev b).append (.cons a .nil)
theorem kbinds {K : PySem.W.Frag} {x qual : Str} {sm : Stmt} {f : Addr} {fd : FuncData} {ps ks : List Str} (F : L2.Fun K x qual sm f fd) (hp : 0 < ps.length)
    (h : ∀ (kV doc pm : Value) (an : Option Addr) (cdv ct : Value) (ws : List Value), ws.length = ps.length → bindArgs (PySem.W.fnOf x qual (defArgs sm) (defBody sm) (defScope sm) .none kV doc pm an cdv ct) ⟨[], ks.zip ws⟩ = pure (ps.zip ws.reverse)) : KBinds K fd ps ks gW gR := by
  obtain ⟨_, _, kV, doc, pm, an, cdv, ct, _, rfl, _⟩ := F.ex
  refine ⟨fun s us ws _ hl => ?_, fun {vs us zs ws} r rz => ?_⟩
  · match us, hl with
    | [], hl => exact .of_eq (h kV doc pm an cdv ct ws (by rw [← hl]; exact (List.length_reverse).symm))
    | _ :: _, hl => exact absurd (show 0 = ps.length from hl) (by omega)
  · match vs, us, r with
    | [], [], _ => exact vals_rev rz
    | _ :: _, _ :: _, _ => exact .nil
/-! ### the class, the constants -/
theorem me_me {K : PySem.W.Frag} {C : Addr} : PySem.W.kitOne K (.ref C) (.ref C) = some true := by
  unfold PySem.W.kitOne
  exact if_pos (beq_iff_eq.mpr rfl)
theorem words_mk {K : PySem.W.Frag} {h : Heap} {mg : Str → Option Value} {W : Addr} {od : Option Addr} {n : Nat} {sl : Array (Option Value)} {t1 t2 : Tok} (X : K.In h) (G : h.Ns mainGlobals mg) (a : PySem.W.nsIn K mainGlobals "WORDS" = some (some (.ref W)))
    (l : K.lookup W = some ⟨.type "tuple", od, .seq #[.str "whole" t1, .str "odd" t2] n, sl⟩) : TxtW K mg W :=
  ⟨⟨_, PySem.W.mg_of X G a, rfl⟩, fun S => .tup (xs := [.str "whole", .str "odd"]) (.inr ⟨_, _, _, l, rfl, rfl, (by show 2 ≤ sizeLine; decide), .cons ⟨_, rfl⟩ (.cons ⟨_, rfl⟩ .nil)⟩) (.cons (.str _) (.cons (.str _) .nil))⟩
theorem txt_mk {K : PySem.W.Frag} {h : Heap} {mg : Str → Option Value} {C : Addr} {t1 t2 t3 t4 t5 : Tok} (X : K.In h) (G : h.Ns mainGlobals mg)
    (n_len : PySem.W.nsIn K mainGlobals "len" = some none) (n_isinstance : PySem.W.nsIn K mainGlobals "isinstance" = some none) (n_int : PySem.W.nsIn K mainGlobals "int" = some none) (n_bool : PySem.W.nsIn K mainGlobals "bool" = some none) (n_str : PySem.W.nsIn K mainGlobals "str" = some none) (n_tuple : PySem.W.nsIn K mainGlobals "tuple" = some none) (n_list : PySem.W.nsIn K mainGlobals "list" = some none) (n_set : PySem.W.nsIn K mainGlobals "set" = some none) (n_range : PySem.W.nsIn K mainGlobals "range" = some none) (n_enumerate : PySem.W.nsIn K mainGlobals "enumerate" = some none) (n_all : PySem.W.nsIn K mainGlobals "all" = some none) (n_any : PySem.W.nsIn K mainGlobals "any" = some none) (n_sum : PySem.W.nsIn K mainGlobals "sum" = some none) (n_min : PySem.W.nsIn K mainGlobals "min" = some none) (n_max : PySem.W.nsIn K mainGlobals "max" = some none) (n_abs : PySem.W.nsIn K mainGlobals "abs" = some none) (n_sorted : PySem.W.nsIn K mainGlobals "sorted" = some none) (n_repr : PySem.W.nsIn K mainGlobals "repr" = some none) (n_divmod : PySem.W.nsIn K mainGlobals "divmod" = some none)
    (s1 : PySem.W.nsIn K mainGlobals "LETTERS" = some (some (.str "abcdefghijklmnopqrstuvwxyz" t1))) (s2 : PySem.W.nsIn K mainGlobals "LONGEST_NAME" = some (some (.int 8 t2))) (s3 : PySem.W.nsIn K mainGlobals "MOST_LENGTH" = some (some (.int 1000 t3))) (s4 : PySem.W.nsIn K mainGlobals "MOST_NAMES" = some (some (.int 5 t4))) (s5 : PySem.W.nsIn K mainGlobals "MOST_SEATS" = some (some (.int 12 t5)))
    (gC : PySem.W.nsIn K mainGlobals "Counts" = some (some (.ref C))) (pg : PySem.W.plainGet K C Str.empty = true) (hd : PySem.W.hasDictIn K C = true) (po : PySem.W.plainOver K C = true) (sa : PySem.W.findIn K (.ref C) "__setattr__" = some (some (.builtin "object.__setattr__"))) (na : PySem.W.findIn K (.ref C) "held" = some none)
    (ha : PySem.W.findIn K (.ref C) "__class__" = some (some (.builtin "object.__class__"))) (hn : PySem.W.specialIn K (.builtin "object.__class__") "__get__" = some (some (.builtin "getset_descriptor.__get__"))) (htk : PySem.W.takesIn K (.builtin "object.__class__") = some true) (hm : PySem.W.mroIn K C (.type "object") = some true) : Txt K mg C :=
  ⟨PySem.W.mg_none_of X G n_len, PySem.W.mg_none_of X G n_isinstance, PySem.W.mg_none_of X G n_int, PySem.W.mg_none_of X G n_bool, PySem.W.mg_none_of X G n_str, PySem.W.mg_none_of X G n_tuple, PySem.W.mg_none_of X G n_list, PySem.W.mg_none_of X G n_set, PySem.W.mg_none_of X G n_range, PySem.W.mg_none_of X G n_enumerate, PySem.W.mg_none_of X G n_all, PySem.W.mg_none_of X G n_any, PySem.W.mg_none_of X G n_sum, PySem.W.mg_none_of X G n_min, PySem.W.mg_none_of X G n_max, PySem.W.mg_none_of X G n_abs, PySem.W.mg_none_of X G n_sorted, PySem.W.mg_none_of X G n_repr, PySem.W.mg_none_of X G n_divmod,
    ⟨_, PySem.W.mg_of X G s1, ⟨_, rfl⟩⟩, ⟨_, PySem.W.mg_of X G s2, ⟨_, rfl⟩⟩, ⟨_, PySem.W.mg_of X G s3, ⟨_, rfl⟩⟩, ⟨_, PySem.W.mg_of X G s4, ⟨_, rfl⟩⟩, ⟨_, PySem.W.mg_of X G s5, ⟨_, rfl⟩⟩, ⟨_, PySem.W.mg_of X G gC, rfl⟩, ⟨pg, hd, po, sa⟩, na, ⟨⟨pg, hd, po, sa⟩, ha, hn, htk, hm, me_me⟩⟩
def spLaw (K : PySem.W.Frag) : Sp := fun vs H Q _ => ∃ (a : Addr) (ns : List Int), vs = [.ref a] ∧ SqL K H a (ns.map V.int) ∧ ∀ H', Q (.bl true) H'
theorem law_sp {K : PySem.W.Frag} {C : Addr} (vs : List V) (H : Hp) (Q : VK) (E : XK) (h : spLaw K vs H Q E) : spD K C m_law vs H Q E := by
  obtain ⟨a, ns, rfl, hS, q⟩ := h
  refine ⟨H, [.d (.list (ns.map .int))], .d (.bool true), Same.refl H, ⟨.lst hS (dpAll_of_ints ns), trivial⟩, ⟨ns, rfl, rfl⟩, fun v S' H' _ hv => ?_⟩
  cases hv
  exact q H'

theorem law_all {P : Program} {w : World} {K : PySem.W.Frag} {mg : Str → Option Value} {fa C W : Addr} (hmg : mg "law" = some (.ref fa)) (T : Txt K mg C) (TW : TxtW K mg W) (i_C : Ini K C) (l_C : Len K C) (p_parts : Get K C "parts" "Counts.parts" (inClass (topS 31) 2)) (p_names : Get K C "names" "Counts.names" (inClass (topS 31) 3)) (gC : mg "Counts" = some (.ref C))
    (g_law_toss : Glo K mg "_law_toss" (topS 57)) (g_law_one : Glo K mg "_law_one" (topS 58)) (g_law_poll : Glo K mg "_law_poll" (topS 60)) (g_is_whole : Glo K mg "is_whole" (topS 13)) (g_is_integer : Glo K mg "is_integer" (topS 14)) (g_is_length : Glo K mg "is_length" (topS 23)) (g_is_name : Glo K mg "is_name" (topS 15)) (g_is_part : Glo K mg "is_part" (topS 27)) (g_check_parts : Glo K mg "check_parts" (topS 28)) (g_law_all_ends : Glo K mg "_law_all_ends" (topS 67)) (g_law_step : Glo K mg "_law_step" (topS 61)) (g_law_is_first : Glo K mg "_law_is_first" (topS 66)) (g_law_given : Glo K mg "_law_given" (topS 65)) (g_law_shares : Glo K mg "_law_shares" (topS 62)) (g_law_bad_pairs : Glo K mg "_law_bad_pairs" (topS 63)) (g_check_counts : Glo K mg "check_counts" (topS 32)) (g_check_seats : Glo K mg "check_seats" (topS 34)) (g_check_word : Glo K mg "check_word" (topS 33)) (g_seatings_of : Glo K mg "seatings_of" (topS 46)) (g_divisor : Glo K mg "divisor" (topS 37)) (g_last_worth : Glo K mg "last_worth" (topS 40)) (g_is_less : Glo K mg "is_less" (topS 38)) (g_least_last : Glo K mg "least_last" (topS 42)) (g_next_worth : Glo K mg "next_worth" (topS 39)) (g_greatest_next : Glo K mg "greatest_next" (topS 41)) (g_worths_of : Glo K mg "worths_of" (topS 43)) (g_comes : Glo K mg "comes" (topS 44)) (g_known_seatings : Glo K mg "known_seatings" (topS 47)) (g_seatings : Glo K mg "seatings" (topS 48)) (g_is_seating : Glo K mg "is_seating" (topS 35)) (g_check_seating : Glo K mg "check_seating" (topS 36)) (g_is_sure : Glo K mg "is_sure" (topS 45)) (g_surely_comes : Glo K mg "surely_comes" (topS 50)) (g_can_come : Glo K mg "can_come" (topS 49)) (g_barring_names : Glo K mg "barring_names" (topS 52)) (g_common : Glo K mg "common" (topS 16)) (g_lowest : Glo K mg "lowest" (topS 17)) (g_price : Glo K mg "price" (topS 51)) (g_law_low : Glo K mg "_law_low" (topS 59)) (g_law_price_due : Glo K mg "_law_price_due" (topS 64)) (g_law_lot_right : Glo K mg "_law_lot_right" (topS 68)) (g_span : Glo K mg "span" (topS 53)) (g_sure_seats : Glo K mg "sure_seats" (topS 54)) (g_law_right : Glo K mg "_law_right" (topS 69)) (g_law_fund : Glo K mg "_law_fund" (topS 56)) (g_law : Glo K mg "law" (topS 70)) :
    ∀ base : Heap, Gu.Quiet P w K mg base 9 fa (spLaw K) := by
  obtain ⟨f_law_toss, fd_law_toss, F_law_toss, mm_law_toss⟩ := g_law_toss.ex
  have b_law_toss : Binds K fd_law_toss ["_law_fund_here", "_law_size"] [] := F_law_toss.binds (ps := ["_law_fund_here", "_law_size"]) fun _ _ _ _ _ _ us hl => match us, hl with | [_, _], _ => rfl
  obtain ⟨f_law_one, fd_law_one, F_law_one, mm_law_one⟩ := g_law_one.ex
  have b_law_one : Binds K fd_law_one ["_law_fund_here", "_law_some"] [] := F_law_one.binds (ps := ["_law_fund_here", "_law_some"]) fun _ _ _ _ _ _ us hl => match us, hl with | [_, _], _ => rfl
  obtain ⟨f_law_poll, fd_law_poll, F_law_poll, mm_law_poll⟩ := g_law_poll.ex
  have b_law_poll : Binds K fd_law_poll ["_law_fund_here", "_law_many"] [] := F_law_poll.binds (ps := ["_law_fund_here", "_law_many"]) fun _ _ _ _ _ _ us hl => match us, hl with | [_, _], _ => rfl
  obtain ⟨f_is_whole, fd_is_whole, F_is_whole, mm_is_whole⟩ := g_is_whole.ex
  have b_is_whole : Binds K fd_is_whole ["value"] [] := F_is_whole.binds (ps := ["value"]) fun _ _ _ _ _ _ us hl => match us, hl with | [_], _ => rfl
  obtain ⟨f_is_integer, fd_is_integer, F_is_integer, mm_is_integer⟩ := g_is_integer.ex
  have b_is_integer : Binds K fd_is_integer ["value", "least", "greatest"] [] := F_is_integer.binds (ps := ["value", "least", "greatest"]) fun _ _ _ _ _ _ us hl => match us, hl with | [_, _, _], _ => rfl
  obtain ⟨f_is_length, fd_is_length, F_is_length, mm_is_length⟩ := g_is_length.ex
  have b_is_length : Binds K fd_is_length ["value"] [] := F_is_length.binds (ps := ["value"]) fun _ _ _ _ _ _ us hl => match us, hl with | [_], _ => rfl
  obtain ⟨f_is_name, fd_is_name, F_is_name, mm_is_name⟩ := g_is_name.ex
  have b_is_name : Binds K fd_is_name ["value"] [] := F_is_name.binds (ps := ["value"]) fun _ _ _ _ _ _ us hl => match us, hl with | [_], _ => rfl
  obtain ⟨f_is_part, fd_is_part, F_is_part, mm_is_part⟩ := g_is_part.ex
  have b_is_part : Binds K fd_is_part ["value"] [] := F_is_part.binds (ps := ["value"]) fun _ _ _ _ _ _ us hl => match us, hl with | [_], _ => rfl
  obtain ⟨f_check_parts, fd_check_parts, F_check_parts, mm_check_parts⟩ := g_check_parts.ex
  have b_check_parts : Binds K fd_check_parts ["parts"] [] := F_check_parts.binds (ps := ["parts"]) fun _ _ _ _ _ _ us hl => match us, hl with | [_], _ => rfl
  obtain ⟨f_C__init__, fd_C__init__, F_C__init__, M_C__init__⟩ := i_C.ex
  have b_C__init__ : Binds K fd_C__init__ ["self", "parts"] [] := F_C__init__.binds (ps := ["self", "parts"]) fun _ _ _ _ _ _ us hl => match us, hl with | [_, _], _ => rfl
  obtain ⟨f_law_all_ends, fd_law_all_ends, F_law_all_ends, mm_law_all_ends⟩ := g_law_all_ends.ex
  have b_law_all_ends : Binds K fd_law_all_ends ["_law_poll_now"] [] := F_law_all_ends.binds (ps := ["_law_poll_now"]) fun _ _ _ _ _ _ us hl => match us, hl with | [_], _ => rfl
  obtain ⟨f_law_step, fd_law_step, F_law_step, mm_law_step⟩ := g_law_step.ex
  have b_law_step : Binds K fd_law_step ["_law_kind_now", "_law_k"] [] := F_law_step.binds (ps := ["_law_kind_now", "_law_k"]) fun _ _ _ _ _ _ us hl => match us, hl with | [_, _], _ => rfl
  obtain ⟨f_law_is_first, fd_law_is_first, F_law_is_first, mm_law_is_first⟩ := g_law_is_first.ex
  have b_law_is_first : Binds K fd_law_is_first ["_law_numbers", "_law_kind_now", "_law_row", "_law_k"] [] := F_law_is_first.binds (ps := ["_law_numbers", "_law_kind_now", "_law_row", "_law_k"]) fun _ _ _ _ _ _ us hl => match us, hl with | [_, _, _, _], _ => rfl
  obtain ⟨f_law_given, fd_law_given, F_law_given, mm_law_given⟩ := g_law_given.ex
  have b_law_given : Binds K fd_law_given ["_law_numbers", "_law_kind_now", "_law_total"] [] := F_law_given.binds (ps := ["_law_numbers", "_law_kind_now", "_law_total"]) fun _ _ _ _ _ _ us hl => match us, hl with | [_, _, _], _ => rfl
  obtain ⟨f_law_shares, fd_law_shares, F_law_shares, mm_law_shares⟩ := g_law_shares.ex
  have b_law_shares : Binds K fd_law_shares ["_law_many", "_law_total"] [] := F_law_shares.binds (ps := ["_law_many", "_law_total"]) fun _ _ _ _ _ _ us hl => match us, hl with | [_, _], _ => rfl
  obtain ⟨f_law_bad_pairs, fd_law_bad_pairs, F_law_bad_pairs, mm_law_bad_pairs⟩ := g_law_bad_pairs.ex
  have b_law_bad_pairs : Binds K fd_law_bad_pairs ["_law_poll_now", "_law_kind_now", "_law_lot", "_law_is_sure"] [] := F_law_bad_pairs.binds (ps := ["_law_poll_now", "_law_kind_now", "_law_lot", "_law_is_sure"]) fun _ _ _ _ _ _ us hl => match us, hl with | [_, _, _, _], _ => rfl
  obtain ⟨f_check_counts, fd_check_counts, F_check_counts, mm_check_counts⟩ := g_check_counts.ex
  have b_check_counts : Binds K fd_check_counts ["value"] [] := F_check_counts.binds (ps := ["value"]) fun _ _ _ _ _ _ us hl => match us, hl with | [_], _ => rfl
  obtain ⟨f_check_seats, fd_check_seats, F_check_seats, mm_check_seats⟩ := g_check_seats.ex
  have b_check_seats : Binds K fd_check_seats ["value"] [] := F_check_seats.binds (ps := ["value"]) fun _ _ _ _ _ _ us hl => match us, hl with | [_], _ => rfl
  obtain ⟨f_check_word, fd_check_word, F_check_word, mm_check_word⟩ := g_check_word.ex
  have b_check_word : Binds K fd_check_word ["value"] [] := F_check_word.binds (ps := ["value"]) fun _ _ _ _ _ _ us hl => match us, hl with | [_], _ => rfl
  obtain ⟨f_seatings_of, fd_seatings_of, F_seatings_of, mm_seatings_of⟩ := g_seatings_of.ex
  have b_seatings_of : Binds K fd_seatings_of ["many", "seats"] [] := F_seatings_of.binds (ps := ["many", "seats"]) fun _ _ _ _ _ _ us hl => match us, hl with | [_, _], _ => rfl
  obtain ⟨f_C__len__, fd_C__len__, F_C__len__, a_C__len__, n_C__len__⟩ := l_C.ex
  have b_C__len__ : Binds K fd_C__len__ ["self"] [] := F_C__len__.binds (ps := ["self"]) fun _ _ _ _ _ _ us hl => match us, hl with | [_], _ => rfl
  obtain ⟨f_divisor, fd_divisor, F_divisor, mm_divisor⟩ := g_divisor.ex
  have b_divisor : Binds K fd_divisor ["word", "place"] [] := F_divisor.binds (ps := ["word", "place"]) fun _ _ _ _ _ _ us hl => match us, hl with | [_, _], _ => rfl
  obtain ⟨f_last_worth, fd_last_worth, F_last_worth, mm_last_worth⟩ := g_last_worth.ex
  have b_last_worth : Binds K fd_last_worth ["word", "count", "many"] [] := F_last_worth.binds (ps := ["word", "count", "many"]) fun _ _ _ _ _ _ us hl => match us, hl with | [_, _, _], _ => rfl
  obtain ⟨q_Cparts, f_Cparts, fd_Cparts, F_Cparts, P_Cparts⟩ := p_parts.ex
  have b_Cparts : Binds K fd_Cparts ["self"] [] := F_Cparts.binds (ps := ["self"]) fun _ _ _ _ _ _ us hl => match us, hl with | [_], _ => rfl
  obtain ⟨f_is_less, fd_is_less, F_is_less, mm_is_less⟩ := g_is_less.ex
  have b_is_less : Binds K fd_is_less ["one", "two"] [] := F_is_less.binds (ps := ["one", "two"]) fun _ _ _ _ _ _ us hl => match us, hl with | [_, _], _ => rfl
  obtain ⟨f_least_last, fd_least_last, F_least_last, mm_least_last⟩ := g_least_last.ex
  have b_least_last : Binds K fd_least_last ["counts", "word", "seating"] [] := F_least_last.binds (ps := ["counts", "word", "seating"]) fun _ _ _ _ _ _ us hl => match us, hl with | [_, _, _], _ => rfl
  obtain ⟨f_next_worth, fd_next_worth, F_next_worth, mm_next_worth⟩ := g_next_worth.ex
  have b_next_worth : Binds K fd_next_worth ["word", "count", "many"] [] := F_next_worth.binds (ps := ["word", "count", "many"]) fun _ _ _ _ _ _ us hl => match us, hl with | [_, _, _], _ => rfl
  obtain ⟨f_greatest_next, fd_greatest_next, F_greatest_next, mm_greatest_next⟩ := g_greatest_next.ex
  have b_greatest_next : Binds K fd_greatest_next ["counts", "word", "seating"] [] := F_greatest_next.binds (ps := ["counts", "word", "seating"]) fun _ _ _ _ _ _ us hl => match us, hl with | [_, _, _], _ => rfl
  obtain ⟨f_worths_of, fd_worths_of, F_worths_of, mm_worths_of⟩ := g_worths_of.ex
  have b_worths_of : Binds K fd_worths_of ["counts", "word", "seating"] [] := F_worths_of.binds (ps := ["counts", "word", "seating"]) fun _ _ _ _ _ _ us hl => match us, hl with | [_, _, _], _ => rfl
  obtain ⟨f_comes, fd_comes, F_comes, mm_comes⟩ := g_comes.ex
  have b_comes : Binds K fd_comes ["counts", "word", "seating"] [] := F_comes.binds (ps := ["counts", "word", "seating"]) fun _ _ _ _ _ _ us hl => match us, hl with | [_, _, _], _ => rfl
  obtain ⟨f_known_seatings, fd_known_seatings, F_known_seatings, mm_known_seatings⟩ := g_known_seatings.ex
  have b_known_seatings : Binds K fd_known_seatings ["counts", "seats", "word"] [] := F_known_seatings.binds (ps := ["counts", "seats", "word"]) fun _ _ _ _ _ _ us hl => match us, hl with | [_, _, _], _ => rfl
  obtain ⟨f_seatings, fd_seatings, F_seatings, mm_seatings⟩ := g_seatings.ex
  have b_seatings : Binds K fd_seatings ["counts", "seats", "word"] [] := F_seatings.binds (ps := ["counts", "seats", "word"]) fun _ _ _ _ _ _ us hl => match us, hl with | [_, _, _], _ => rfl
  obtain ⟨f_is_seating, fd_is_seating, F_is_seating, mm_is_seating⟩ := g_is_seating.ex
  have b_is_seating : Binds K fd_is_seating ["counts", "value"] [] := F_is_seating.binds (ps := ["counts", "value"]) fun _ _ _ _ _ _ us hl => match us, hl with | [_, _], _ => rfl
  obtain ⟨f_check_seating, fd_check_seating, F_check_seating, mm_check_seating⟩ := g_check_seating.ex
  have b_check_seating : Binds K fd_check_seating ["counts", "word", "seating"] [] := F_check_seating.binds (ps := ["counts", "word", "seating"]) fun _ _ _ _ _ _ us hl => match us, hl with | [_, _, _], _ => rfl
  obtain ⟨f_is_sure, fd_is_sure, F_is_sure, mm_is_sure⟩ := g_is_sure.ex
  have b_is_sure : Binds K fd_is_sure ["counts", "word", "seating"] [] := F_is_sure.binds (ps := ["counts", "word", "seating"]) fun _ _ _ _ _ _ us hl => match us, hl with | [_, _, _], _ => rfl
  obtain ⟨f_surely_comes, fd_surely_comes, F_surely_comes, mm_surely_comes⟩ := g_surely_comes.ex
  have b_surely_comes : Binds K fd_surely_comes ["counts", "word", "seating"] [] := F_surely_comes.binds (ps := ["counts", "word", "seating"]) fun _ _ _ _ _ _ us hl => match us, hl with | [_, _, _], _ => rfl
  obtain ⟨f_can_come, fd_can_come, F_can_come, mm_can_come⟩ := g_can_come.ex
  have b_can_come : Binds K fd_can_come ["counts", "word", "seating"] [] := F_can_come.binds (ps := ["counts", "word", "seating"]) fun _ _ _ _ _ _ us hl => match us, hl with | [_, _, _], _ => rfl
  obtain ⟨q_Cnames, f_Cnames, fd_Cnames, F_Cnames, P_Cnames⟩ := p_names.ex
  have b_Cnames : Binds K fd_Cnames ["self"] [] := F_Cnames.binds (ps := ["self"]) fun _ _ _ _ _ _ us hl => match us, hl with | [_], _ => rfl
  obtain ⟨f_barring_names, fd_barring_names, F_barring_names, mm_barring_names⟩ := g_barring_names.ex
  have b_barring_names : Binds K fd_barring_names ["counts", "word", "seating"] [] := F_barring_names.binds (ps := ["counts", "word", "seating"]) fun _ _ _ _ _ _ us hl => match us, hl with | [_, _, _], _ => rfl
  obtain ⟨f_common, fd_common, F_common, mm_common⟩ := g_common.ex
  have b_common : Binds K fd_common ["one", "other"] [] := F_common.binds (ps := ["one", "other"]) fun _ _ _ _ _ _ us hl => match us, hl with | [_, _], _ => rfl
  obtain ⟨f_lowest, fd_lowest, F_lowest, mm_lowest⟩ := g_lowest.ex
  have b_lowest : Binds K fd_lowest ["top", "bottom"] [] := F_lowest.binds (ps := ["top", "bottom"]) fun _ _ _ _ _ _ us hl => match us, hl with | [_, _], _ => rfl
  obtain ⟨f_price, fd_price, F_price, mm_price⟩ := g_price.ex
  have b_price : Binds K fd_price ["counts", "word", "seating"] [] := F_price.binds (ps := ["counts", "word", "seating"]) fun _ _ _ _ _ _ us hl => match us, hl with | [_, _, _], _ => rfl
  obtain ⟨f_law_low, fd_law_low, F_law_low, mm_law_low⟩ := g_law_low.ex
  have b_law_low : Binds K fd_law_low ["_law_top", "_law_bottom"] [] := F_law_low.binds (ps := ["_law_top", "_law_bottom"]) fun _ _ _ _ _ _ us hl => match us, hl with | [_, _], _ => rfl
  obtain ⟨f_law_price_due, fd_law_price_due, F_law_price_due, mm_law_price_due⟩ := g_law_price_due.ex
  have b_law_price_due : Binds K fd_law_price_due ["_law_poll_now", "_law_kind_now", "_law_lot", "_law_cost_now"] [] := F_law_price_due.binds (ps := ["_law_poll_now", "_law_kind_now", "_law_lot", "_law_cost_now"]) fun _ _ _ _ _ _ us hl => match us, hl with | [_, _, _, _], _ => rfl
  obtain ⟨f_law_lot_right, fd_law_lot_right, F_law_lot_right, mm_law_lot_right⟩ := g_law_lot_right.ex
  have b_law_lot_right : Binds K fd_law_lot_right ["_law_poll_now", "_law_made", "_law_kind_now", "_law_lot", "_law_rows_now"] [] := F_law_lot_right.binds (ps := ["_law_poll_now", "_law_made", "_law_kind_now", "_law_lot", "_law_rows_now"]) fun _ _ _ _ _ _ us hl => match us, hl with | [_, _, _, _, _], _ => rfl
  obtain ⟨f_span, fd_span, F_span, mm_span⟩ := g_span.ex
  have b_span : Binds K fd_span ["counts", "seats", "word", "name"] [] := F_span.binds (ps := ["counts", "seats", "word", "name"]) fun _ _ _ _ _ _ us hl => match us, hl with | [_, _, _, _], _ => rfl
  obtain ⟨f_sure_seats, fd_sure_seats, F_sure_seats, mm_sure_seats⟩ := g_sure_seats.ex
  have b_sure_seats : Binds K fd_sure_seats ["counts", "seats", "word"] [] := F_sure_seats.binds (ps := ["counts", "seats", "word"]) fun _ _ _ _ _ _ us hl => match us, hl with | [_, _, _], _ => rfl
  obtain ⟨f_law_right, fd_law_right, F_law_right, mm_law_right⟩ := g_law_right.ex
  have b_law_right : Binds K fd_law_right ["_law_fund_here"] [] := F_law_right.binds (ps := ["_law_fund_here"]) fun _ _ _ _ _ _ us hl => match us, hl with | [_], _ => rfl
  obtain ⟨f_law_fund, fd_law_fund, F_law_fund, mm_law_fund⟩ := g_law_fund.ex
  have b_law_fund : Binds K fd_law_fund ["_law_script", "_law_k"] [] := F_law_fund.binds (ps := ["_law_script", "_law_k"]) fun _ _ _ _ _ _ us hl => match us, hl with | [_, _], _ => rfl
  obtain ⟨f_law, fd_law, F_law, mm_law⟩ := g_law.ex
  have b_law : Binds K fd_law ["_law_script"] [] := F_law.binds (ps := ["_law_script"]) fun _ _ _ _ _ _ us hl => match us, hl with | [_], _ => rfl
  have e := mm_law.symm.trans hmg
  cases e
  intro base
  have c_law_toss : C8.Cal P w K mg base 1 "_law_toss" (spF K C tossPre tossRel) [] := ⟨f_law_toss, fd_law_toss, ["_law_fund_here", "_law_size"], [], ok_law_toss F_law_toss T, mm_law_toss, F_law_toss.kp, b_law_toss, .nil⟩
  have c_law_one : C8.Cal P w K mg base 2 "_law_one" (spF K C onePre oneRel) [] := ⟨f_law_one, fd_law_one, ["_law_fund_here", "_law_some"], [], ok_law_one F_law_one T c_law_toss, mm_law_one, F_law_one.kp, b_law_one, .nil⟩
  have c_law_poll : C8.Cal P w K mg base 3 "_law_poll" (spF K C pollPre pollRel) [] := ⟨f_law_poll, fd_law_poll, ["_law_fund_here", "_law_many"], [], ok_law_poll F_law_poll T c_law_toss c_law_one, mm_law_poll, F_law_poll.kp, b_law_poll, .nil⟩
  have c_is_whole : C8.Cal P w K mg base 1 "is_whole" (spD K C m_is_whole) [] := ⟨f_is_whole, fd_is_whole, ["value"], [], ok_is_whole F_is_whole T, mm_is_whole, F_is_whole.kp, b_is_whole, .nil⟩
  have c_is_integer : C8.Cal P w K mg base 2 "is_integer" (spD K C m_is_integer) [] := ⟨f_is_integer, fd_is_integer, ["value", "least", "greatest"], [], ok_is_integer F_is_integer T c_is_whole, mm_is_integer, F_is_integer.kp, b_is_integer, .nil⟩
  have c_is_length : C8.Cal P w K mg base 3 "is_length" (spD K C m_is_length) [] := ⟨f_is_length, fd_is_length, ["value"], [], ok_is_length F_is_length T c_is_integer, mm_is_length, F_is_length.kp, b_is_length, .nil⟩
  have c_is_name : C8.Cal P w K mg base 1 "is_name" (spD K C m_is_name) [] := ⟨f_is_name, fd_is_name, ["value"], [], ok_is_name F_is_name T, mm_is_name, F_is_name.kp, b_is_name, .nil⟩
  have c_is_part : C8.Cal P w K mg base 4 "is_part" (spD K C m_is_part) [] := ⟨f_is_part, fd_is_part, ["value"], [], ok_is_part F_is_part T c_is_length c_is_name, mm_is_part, F_is_part.kp, b_is_part, .nil⟩
  have c_check_parts : C8.Cal P w K mg base 5 "check_parts" (spD K C m_check_parts) [] := ⟨f_check_parts, fd_check_parts, ["parts"], [], ok_check_parts F_check_parts T c_is_part, mm_check_parts, F_check_parts.kp, b_check_parts, .nil⟩
  have c_C__init__ : C8.Mak P w K mg base 6 "Counts" C (spInit K C) [] := ⟨f_C__init__, fd_C__init__, ["self", "parts"], [], M_C__init__, ok_Cinit F_C__init__ T c_check_parts, gC, b_C__init__, .nil⟩
  have c_law_all_ends : C8.Cal P w K mg base 1 "_law_all_ends" (spD K C m_law_all_ends) [] := ⟨f_law_all_ends, fd_law_all_ends, ["_law_poll_now"], [], ok_law_all_ends F_law_all_ends T, mm_law_all_ends, F_law_all_ends.kp, b_law_all_ends, .nil⟩
  have c_law_step : C8.Cal P w K mg base 1 "_law_step" (spD K C m_law_step) [] := ⟨f_law_step, fd_law_step, ["_law_kind_now", "_law_k"], [], ok_law_step F_law_step T, mm_law_step, F_law_step.kp, b_law_step, .nil⟩
  have c_law_is_first : C8.Cal P w K mg base 2 "_law_is_first" (spD K C m_law_is_first) [] := ⟨f_law_is_first, fd_law_is_first, ["_law_numbers", "_law_kind_now", "_law_row", "_law_k"], [], ok_law_is_first F_law_is_first T c_law_step, mm_law_is_first, F_law_is_first.kp, b_law_is_first, .nil⟩
  have c_law_given : C8.Cal P w K mg base 3 "_law_given" (spD K C m_law_given) [] := ⟨f_law_given, fd_law_given, ["_law_numbers", "_law_kind_now", "_law_total"], [], ok_law_given F_law_given T c_law_is_first, mm_law_given, F_law_given.kp, b_law_given, .nil⟩
  have c_law_shares : C8.Cal P w K mg base 1 "_law_shares" (spD K C m_law_shares) [] := ⟨f_law_shares, fd_law_shares, ["_law_many", "_law_total"], [], ok_law_shares F_law_shares T, mm_law_shares, F_law_shares.kp, b_law_shares, .nil⟩
  have c_law_bad_pairs : C8.Cal P w K mg base 2 "_law_bad_pairs" (spD K C m_law_bad_pairs) [] := ⟨f_law_bad_pairs, fd_law_bad_pairs, ["_law_poll_now", "_law_kind_now", "_law_lot", "_law_is_sure"], [], ok_law_bad_pairs F_law_bad_pairs T c_law_step, mm_law_bad_pairs, F_law_bad_pairs.kp, b_law_bad_pairs, .nil⟩
  have c_check_counts : C8.Cal P w K mg base 1 "check_counts" (spD K C m_check_counts) [] := ⟨f_check_counts, fd_check_counts, ["value"], [], ok_check_counts F_check_counts T, mm_check_counts, F_check_counts.kp, b_check_counts, .nil⟩
  have c_check_seats : C8.Cal P w K mg base 3 "check_seats" (spD K C m_check_seats) [] := ⟨f_check_seats, fd_check_seats, ["value"], [], ok_check_seats F_check_seats T c_is_integer, mm_check_seats, F_check_seats.kp, b_check_seats, .nil⟩
  have c_check_word : C8.Cal P w K mg base 1 "check_word" (spD K C m_check_word) [] := ⟨f_check_word, fd_check_word, ["value"], [], ok_check_word F_check_word T TW, mm_check_word, F_check_word.kp, b_check_word, .nil⟩
  have c_seatings_of : C8.Cal P w K mg base 5 "seatings_of" (spD K C m_seatings_of) [] := ⟨f_seatings_of, fd_seatings_of, ["many", "seats"], [], ok_seatings_of F_seatings_of T mm_seatings_of b_seatings_of, mm_seatings_of, F_seatings_of.kp, b_seatings_of, .nil⟩
  have c_C__len__ : LCal P w K mg base 1 C (spD K C m_Clen) := ⟨f_C__len__, fd_C__len__, ["self"], a_C__len__, n_C__len__, ok_Clen F_C__len__ T, b_C__len__⟩
  have c_divisor : C8.Cal P w K mg base 1 "divisor" (spD K C m_divisor) [] := ⟨f_divisor, fd_divisor, ["word", "place"], [], ok_divisor F_divisor T, mm_divisor, F_divisor.kp, b_divisor, .nil⟩
  have c_last_worth : C8.Cal P w K mg base 2 "last_worth" (spD K C m_last_worth) [] := ⟨f_last_worth, fd_last_worth, ["word", "count", "many"], [], ok_last_worth F_last_worth T c_divisor, mm_last_worth, F_last_worth.kp, b_last_worth, .nil⟩
  have c_Cparts : PCal P w K mg base 1 C "parts" (spD K C m_Cparts) := ⟨q_Cparts, f_Cparts, fd_Cparts, ["self"], T.cl, P_Cparts, ok_Cparts F_Cparts T, b_Cparts⟩
  have c_is_less : C8.Cal P w K mg base 1 "is_less" (spD K C m_is_less) [] := ⟨f_is_less, fd_is_less, ["one", "two"], [], ok_is_less F_is_less T, mm_is_less, F_is_less.kp, b_is_less, .nil⟩
  have c_least_last : C8.Cal P w K mg base 3 "least_last" (spD K C m_least_last) [] := ⟨f_least_last, fd_least_last, ["counts", "word", "seating"], [], ok_least_last F_least_last T c_last_worth c_Cparts c_is_less, mm_least_last, F_least_last.kp, b_least_last, .nil⟩
  have c_next_worth : C8.Cal P w K mg base 2 "next_worth" (spD K C m_next_worth) [] := ⟨f_next_worth, fd_next_worth, ["word", "count", "many"], [], ok_next_worth F_next_worth T c_divisor, mm_next_worth, F_next_worth.kp, b_next_worth, .nil⟩
  have c_greatest_next : C8.Cal P w K mg base 3 "greatest_next" (spD K C m_greatest_next) [] := ⟨f_greatest_next, fd_greatest_next, ["counts", "word", "seating"], [], ok_greatest_next F_greatest_next T c_Cparts c_next_worth c_is_less, mm_greatest_next, F_greatest_next.kp, b_greatest_next, .nil⟩
  have c_worths_of : C8.Cal P w K mg base 4 "worths_of" (spD K C m_worths_of) [] := ⟨f_worths_of, fd_worths_of, ["counts", "word", "seating"], [], ok_worths_of F_worths_of T c_least_last c_greatest_next c_Cparts c_last_worth c_next_worth, mm_worths_of, F_worths_of.kp, b_worths_of, .nil⟩
  have c_comes : C8.Cal P w K mg base 5 "comes" (spD K C m_comes) [] := ⟨f_comes, fd_comes, ["counts", "word", "seating"], [], ok_comes F_comes T c_worths_of c_is_less, mm_comes, F_comes.kp, b_comes, .nil⟩
  have c_known_seatings : C8.Cal P w K mg base 6 "known_seatings" (spD K C m_known_seatings) [] := ⟨f_known_seatings, fd_known_seatings, ["counts", "seats", "word"], [], ok_known_seatings F_known_seatings T c_check_counts c_check_seats c_check_word c_seatings_of c_C__len__ c_comes, mm_known_seatings, F_known_seatings.kp, b_known_seatings, .nil⟩
  have c_seatings : C8.Cal P w K mg base 7 "seatings" (spD K C m_seatings) [] := ⟨f_seatings, fd_seatings, ["counts", "seats", "word"], [], ok_seatings F_seatings T c_known_seatings, mm_seatings, F_seatings.kp, b_seatings, .nil⟩
  have k_seatings : KCal P w K mg base 7 "seatings" ["word", "seats", "counts"] gR (spD K C m_seatings) := ⟨f_seatings, fd_seatings, ["counts", "seats", "word"], gW, ok_seatings F_seatings T c_known_seatings, mm_seatings, F_seatings.kp, kbinds F_seatings (by decide) fun _ _ _ _ _ _ ws hl => match ws, hl with | [_, _, _], _ => rfl⟩
  have c_is_seating : C8.Cal P w K mg base 3 "is_seating" (spD K C m_is_seating) [] := ⟨f_is_seating, fd_is_seating, ["counts", "value"], [], ok_is_seating F_is_seating T c_C__len__ c_is_integer, mm_is_seating, F_is_seating.kp, b_is_seating, .nil⟩
  have c_check_seating : C8.Cal P w K mg base 4 "check_seating" (spD K C m_check_seating) [] := ⟨f_check_seating, fd_check_seating, ["counts", "word", "seating"], [], ok_check_seating F_check_seating T c_check_counts c_check_word c_is_seating, mm_check_seating, F_check_seating.kp, b_check_seating, .nil⟩
  have c_is_sure : C8.Cal P w K mg base 3 "is_sure" (spD K C m_is_sure) [] := ⟨f_is_sure, fd_is_sure, ["counts", "word", "seating"], [], ok_is_sure F_is_sure T c_Cparts c_last_worth c_is_less c_next_worth, mm_is_sure, F_is_sure.kp, b_is_sure, .nil⟩
  have c_surely_comes : C8.Cal P w K mg base 5 "surely_comes" (spD K C m_surely_comes) [] := ⟨f_surely_comes, fd_surely_comes, ["counts", "word", "seating"], [], ok_surely_comes F_surely_comes T c_check_seating c_is_sure, mm_surely_comes, F_surely_comes.kp, b_surely_comes, .nil⟩
  have k_surely_comes : KCal P w K mg base 5 "surely_comes" ["seating", "word", "counts"] gR (spD K C m_surely_comes) := ⟨f_surely_comes, fd_surely_comes, ["counts", "word", "seating"], gW, ok_surely_comes F_surely_comes T c_check_seating c_is_sure, mm_surely_comes, F_surely_comes.kp, kbinds F_surely_comes (by decide) fun _ _ _ _ _ _ ws hl => match ws, hl with | [_, _, _], _ => rfl⟩
  have c_can_come : C8.Cal P w K mg base 6 "can_come" (spD K C m_can_come) [] := ⟨f_can_come, fd_can_come, ["counts", "word", "seating"], [], ok_can_come F_can_come T c_check_seating c_comes, mm_can_come, F_can_come.kp, b_can_come, .nil⟩
  have k_can_come : KCal P w K mg base 6 "can_come" ["seating", "word", "counts"] gR (spD K C m_can_come) := ⟨f_can_come, fd_can_come, ["counts", "word", "seating"], gW, ok_can_come F_can_come T c_check_seating c_comes, mm_can_come, F_can_come.kp, kbinds F_can_come (by decide) fun _ _ _ _ _ _ ws hl => match ws, hl with | [_, _, _], _ => rfl⟩
  have c_Cnames : PCal P w K mg base 1 C "names" (spD K C m_Cnames) := ⟨q_Cnames, f_Cnames, fd_Cnames, ["self"], T.cl, P_Cnames, ok_Cnames F_Cnames T, b_Cnames⟩
  have c_barring_names : C8.Cal P w K mg base 6 "barring_names" (spD K C m_barring_names) [] := ⟨f_barring_names, fd_barring_names, ["counts", "word", "seating"], [], ok_barring_names F_barring_names T c_check_seating c_comes c_Cnames c_greatest_next c_least_last, mm_barring_names, F_barring_names.kp, b_barring_names, .nil⟩
  have c_common : C8.Cal P w K mg base 1 "common" (spD K C m_common) [] := ⟨f_common, fd_common, ["one", "other"], [], ok_common F_common T, mm_common, F_common.kp, b_common, .nil⟩
  have c_lowest : C8.Cal P w K mg base 2 "lowest" (spD K C m_lowest) [] := ⟨f_lowest, fd_lowest, ["top", "bottom"], [], ok_lowest F_lowest T c_common, mm_lowest, F_lowest.kp, b_lowest, .nil⟩
  have c_price : C8.Cal P w K mg base 5 "price" (spD K C m_price) [] := ⟨f_price, fd_price, ["counts", "word", "seating"], [], ok_price F_price T c_check_seating c_worths_of c_is_less c_lowest, mm_price, F_price.kp, b_price, .nil⟩
  have c_law_low : C8.Cal P w K mg base 1 "_law_low" (spD K C m_law_low) [] := ⟨f_law_low, fd_law_low, ["_law_top", "_law_bottom"], [], ok_law_low F_law_low T, mm_law_low, F_law_low.kp, b_law_low, .nil⟩
  have c_law_price_due : C8.Cal P w K mg base 2 "_law_price_due" (spD K C m_law_price_due) [] := ⟨f_law_price_due, fd_law_price_due, ["_law_poll_now", "_law_kind_now", "_law_lot", "_law_cost_now"], [], ok_law_price_due F_law_price_due T c_law_low c_law_step, mm_law_price_due, F_law_price_due.kp, b_law_price_due, .nil⟩
  have c_law_lot_right : GCal P w K mg base 7 "_law_lot_right" (spD K C m_law_lot_right) := ⟨f_law_lot_right, ok_law_lot_right F_law_lot_right T c_law_bad_pairs c_surely_comes c_can_come c_barring_names c_price c_law_price_due c_law_step c_law_given b_law_lot_right, mm_law_lot_right, F_law_lot_right.kp⟩
  have c_span : C8.Cal P w K mg base 7 "span" (spD K C m_span) [] := ⟨f_span, fd_span, ["counts", "seats", "word", "name"], [], ok_span F_span T c_known_seatings c_Cnames, mm_span, F_span.kp, b_span, .nil⟩
  have k_span : KCal P w K mg base 7 "span" ["name", "word", "seats", "counts"] gR (spD K C m_span) := ⟨f_span, fd_span, ["counts", "seats", "word", "name"], gW, ok_span F_span T c_known_seatings c_Cnames, mm_span, F_span.kp, kbinds F_span (by decide) fun _ _ _ _ _ _ ws hl => match ws, hl with | [_, _, _, _], _ => rfl⟩
  have c_sure_seats : C8.Cal P w K mg base 7 "sure_seats" (spD K C m_sure_seats) [] := ⟨f_sure_seats, fd_sure_seats, ["counts", "seats", "word"], [], ok_sure_seats F_sure_seats T c_known_seatings c_C__len__, mm_sure_seats, F_sure_seats.kp, b_sure_seats, .nil⟩
  have k_sure_seats : KCal P w K mg base 7 "sure_seats" ["word", "seats", "counts"] gR (spD K C m_sure_seats) := ⟨f_sure_seats, fd_sure_seats, ["counts", "seats", "word"], gW, ok_sure_seats F_sure_seats T c_known_seatings c_C__len__, mm_sure_seats, F_sure_seats.kp, kbinds F_sure_seats (by decide) fun _ _ _ _ _ _ ws hl => match ws, hl with | [_, _, _], _ => rfl⟩
  have c_law_right : GCal P w K mg base 8 "_law_right" (spF K C rightPre rightRel) := ⟨f_law_right, ok_law_right F_law_right T c_law_poll c_law_toss c_law_one c_C__init__ c_law_all_ends c_law_given c_law_shares c_law_bad_pairs c_seatings c_law_lot_right c_span c_surely_comes c_can_come c_sure_seats k_seatings k_span k_surely_comes k_can_come k_sure_seats b_law_right, mm_law_right, F_law_right.kp⟩
  have c_law_fund : C8.Cal P w K mg base 1 "_law_fund" (spNew K C fundPre) [] := ⟨f_law_fund, fd_law_fund, ["_law_script", "_law_k"], [], ok_law_fund F_law_fund T, mm_law_fund, F_law_fund.kp, b_law_fund, .nil⟩
  exact (ok_law F_law T c_law_right c_law_fund b_law).less law_sp
end Dt
end
section
set_option Elab.async false
open PySem PySem.W PyProof.Rows
set_option maxRecDepth 100000
set_option maxHeartbeats 0
open_top head for PySem.Challenge.rw_cornersure_k78_whole_seatings_of_members
end
section
set_option Elab.async false
set_option linter.all false
open PySem PySem.W PyProof.Rows
set_option maxRecDepth 100000 in
set_option maxHeartbeats 0 in
theorem PySem.Challenge.cw_cornersure_k78_whole_seatings_of_members_holds : PySem.Challenge.rw_cornersure_k78_whole_seatings_of_members.Holds :=
  head (by
    k_fill
    refine Gu.holds (l := PySem.Challenge.rw_cornersure_k78_whole_seatings_of_members) (n := 63) (k := 9) (sp := fun w => Dt.spLaw _) rfl (by decide) rfl ⟨rfl, by decide, by decide⟩ (fun w h Y => PySem.W.kIn_of Y) ?F fun _ a ns _ sq => ⟨a, ns, rfl, sq, fun _ => rfl⟩
    case F =>
      intro w mg fa h KX G hmg
      refine' Dt.law_all hmg ?T ?TW ?iC ?lC ?pp ?pn ?gC ?g_law_toss ?g_law_one ?g_law_poll ?g_is_whole ?g_is_integer ?g_is_length ?g_is_name ?g_is_part ?g_check_parts ?g_law_all_ends ?g_law_step ?g_law_is_first ?g_law_given ?g_law_shares ?g_law_bad_pairs ?g_check_counts ?g_check_seats ?g_check_word ?g_seatings_of ?g_divisor ?g_last_worth ?g_is_less ?g_least_last ?g_next_worth ?g_greatest_next ?g_worths_of ?g_comes ?g_known_seatings ?g_seatings ?g_is_seating ?g_check_seating ?g_is_sure ?g_surely_comes ?g_can_come ?g_barring_names ?g_common ?g_lowest ?g_price ?g_law_low ?g_law_price_due ?g_law_lot_right ?g_span ?g_sure_seats ?g_law_right ?g_law_fund ?g_law
      (case gC => refine' PySem.W.mg_of KX G ?a; (case a => k_is))
      (case T => refine' Dt.txt_mk KX G ?n_len ?n_isinstance ?n_int ?n_bool ?n_str ?n_tuple ?n_list ?n_set ?n_range ?n_enumerate ?n_all ?n_any ?n_sum ?n_min ?n_max ?n_abs ?n_sorted ?n_repr ?n_divmod ?s1 ?s2 ?s3 ?s4 ?s5 ?gC2 ?pg ?hd ?po ?sa ?na ?ha ?hn ?htk ?hm; (case n_len => k_is); (case n_isinstance => k_is); (case n_int => k_is); (case n_bool => k_is); (case n_str => k_is); (case n_tuple => k_is); (case n_list => k_is); (case n_set => k_is); (case n_range => k_is); (case n_enumerate => k_is); (case n_all => k_is); (case n_any => k_is); (case n_sum => k_is); (case n_min => k_is); (case n_max => k_is); (case n_abs => k_is); (case n_sorted => k_is); (case n_repr => k_is); (case n_divmod => k_is); (case s1 => k_is); (case s2 => k_is); (case s3 => k_is); (case s4 => k_is); (case s5 => k_is); (case gC2 => k_is); (case pg => k_is); (case hd => k_is); (case po => k_is); (case sa => k_is); (case na => k_is); (case ha => k_is); (case hn => k_is); (case htk => k_is); (case hm => k_is))
      (case TW => refine' Dt.words_mk KX G ?a ?l; (case a => k_is); (case l => k_is))
      (case iC => refine' Dt.ini_mk ?a ?i ?l ?c ?k ?m ?kc; (case a => k_is); (case i => k_is); (case l => k_is); (case c => k_is); (case k => k_is); (case m => k_is); (case kc => k_is))
      (case lC => refine' Dt.len_mk ?a ?i ?l ?c ?k; (case a => k_is); (case i => k_is); (case l => k_is); (case c => k_is); (case k => k_is))
      (case pp => refine' Dt.get_mk ?a ?g ?t ?r ?l ?c ?k; (case a => k_is); (case g => k_is); (case t => k_is); (case r => k_is); (case l => k_is); (case c => k_is); (case k => k_is))
      (case pn => refine' Dt.get_mk ?a ?g ?t ?r ?l ?c ?k; (case a => k_is); (case g => k_is); (case t => k_is); (case r => k_is); (case l => k_is); (case c => k_is); (case k => k_is))
      (case g_law_toss => refine' Dt.glob_mk KX G ?a ?l ?c ?k; (case a => k_is); (case l => k_is); (case c => k_is); (case k => k_is))
      (case g_law_one => refine' Dt.glob_mk KX G ?a ?l ?c ?k; (case a => k_is); (case l => k_is); (case c => k_is); (case k => k_is))
      (case g_law_poll => refine' Dt.glob_mk KX G ?a ?l ?c ?k; (case a => k_is); (case l => k_is); (case c => k_is); (case k => k_is))
      (case g_is_whole => refine' Dt.glob_mk KX G ?a ?l ?c ?k; (case a => k_is); (case l => k_is); (case c => k_is); (case k => k_is))
      (case g_is_integer => refine' Dt.glob_mk KX G ?a ?l ?c ?k; (case a => k_is); (case l => k_is); (case c => k_is); (case k => k_is))
      (case g_is_length => refine' Dt.glob_mk KX G ?a ?l ?c ?k; (case a => k_is); (case l => k_is); (case c => k_is); (case k => k_is))
      (case g_is_name => refine' Dt.glob_mk KX G ?a ?l ?c ?k; (case a => k_is); (case l => k_is); (case c => k_is); (case k => k_is))
      (case g_is_part => refine' Dt.glob_mk KX G ?a ?l ?c ?k; (case a => k_is); (case l => k_is); (case c => k_is); (case k => k_is))
      (case g_check_parts => refine' Dt.glob_mk KX G ?a ?l ?c ?k; (case a => k_is); (case l => k_is); (case c => k_is); (case k => k_is))
      (case g_law_all_ends => refine' Dt.glob_mk KX G ?a ?l ?c ?k; (case a => k_is); (case l => k_is); (case c => k_is); (case k => k_is))
      (case g_law_step => refine' Dt.glob_mk KX G ?a ?l ?c ?k; (case a => k_is); (case l => k_is); (case c => k_is); (case k => k_is))
      (case g_law_is_first => refine' Dt.glob_mk KX G ?a ?l ?c ?k; (case a => k_is); (case l => k_is); (case c => k_is); (case k => k_is))
      (case g_law_given => refine' Dt.glob_mk KX G ?a ?l ?c ?k; (case a => k_is); (case l => k_is); (case c => k_is); (case k => k_is))
      (case g_law_shares => refine' Dt.glob_mk KX G ?a ?l ?c ?k; (case a => k_is); (case l => k_is); (case c => k_is); (case k => k_is))
      (case g_law_bad_pairs => refine' Dt.glob_mk KX G ?a ?l ?c ?k; (case a => k_is); (case l => k_is); (case c => k_is); (case k => k_is))
      (case g_check_counts => refine' Dt.glob_mk KX G ?a ?l ?c ?k; (case a => k_is); (case l => k_is); (case c => k_is); (case k => k_is))
      (case g_check_seats => refine' Dt.glob_mk KX G ?a ?l ?c ?k; (case a => k_is); (case l => k_is); (case c => k_is); (case k => k_is))
      (case g_check_word => refine' Dt.glob_mk KX G ?a ?l ?c ?k; (case a => k_is); (case l => k_is); (case c => k_is); (case k => k_is))
      (case g_seatings_of => refine' Dt.glob_mk KX G ?a ?l ?c ?k; (case a => k_is); (case l => k_is); (case c => k_is); (case k => k_is))
      (case g_divisor => refine' Dt.glob_mk KX G ?a ?l ?c ?k; (case a => k_is); (case l => k_is); (case c => k_is); (case k => k_is))
      (case g_last_worth => refine' Dt.glob_mk KX G ?a ?l ?c ?k; (case a => k_is); (case l => k_is); (case c => k_is); (case k => k_is))
      (case g_is_less => refine' Dt.glob_mk KX G ?a ?l ?c ?k; (case a => k_is); (case l => k_is); (case c => k_is); (case k => k_is))
      (case g_least_last => refine' Dt.glob_mk KX G ?a ?l ?c ?k; (case a => k_is); (case l => k_is); (case c => k_is); (case k => k_is))
      (case g_next_worth => refine' Dt.glob_mk KX G ?a ?l ?c ?k; (case a => k_is); (case l => k_is); (case c => k_is); (case k => k_is))
      (case g_greatest_next => refine' Dt.glob_mk KX G ?a ?l ?c ?k; (case a => k_is); (case l => k_is); (case c => k_is); (case k => k_is))
      (case g_worths_of => refine' Dt.glob_mk KX G ?a ?l ?c ?k; (case a => k_is); (case l => k_is); (case c => k_is); (case k => k_is))
      (case g_comes => refine' Dt.glob_mk KX G ?a ?l ?c ?k; (case a => k_is); (case l => k_is); (case c => k_is); (case k => k_is))
      (case g_known_seatings => refine' Dt.glob_mk KX G ?a ?l ?c ?k; (case a => k_is); (case l => k_is); (case c => k_is); (case k => k_is))
      (case g_seatings => refine' Dt.glob_mk KX G ?a ?l ?c ?k; (case a => k_is); (case l => k_is); (case c => k_is); (case k => k_is))
      (case g_is_seating => refine' Dt.glob_mk KX G ?a ?l ?c ?k; (case a => k_is); (case l => k_is); (case c => k_is); (case k => k_is))
      (case g_check_seating => refine' Dt.glob_mk KX G ?a ?l ?c ?k; (case a => k_is); (case l => k_is); (case c => k_is); (case k => k_is))
      (case g_is_sure => refine' Dt.glob_mk KX G ?a ?l ?c ?k; (case a => k_is); (case l => k_is); (case c => k_is); (case k => k_is))
      (case g_surely_comes => refine' Dt.glob_mk KX G ?a ?l ?c ?k; (case a => k_is); (case l => k_is); (case c => k_is); (case k => k_is))
      (case g_can_come => refine' Dt.glob_mk KX G ?a ?l ?c ?k; (case a => k_is); (case l => k_is); (case c => k_is); (case k => k_is))
      (case g_barring_names => refine' Dt.glob_mk KX G ?a ?l ?c ?k; (case a => k_is); (case l => k_is); (case c => k_is); (case k => k_is))
      (case g_common => refine' Dt.glob_mk KX G ?a ?l ?c ?k; (case a => k_is); (case l => k_is); (case c => k_is); (case k => k_is))
      (case g_lowest => refine' Dt.glob_mk KX G ?a ?l ?c ?k; (case a => k_is); (case l => k_is); (case c => k_is); (case k => k_is))
      (case g_price => refine' Dt.glob_mk KX G ?a ?l ?c ?k; (case a => k_is); (case l => k_is); (case c => k_is); (case k => k_is))
      (case g_law_low => refine' Dt.glob_mk KX G ?a ?l ?c ?k; (case a => k_is); (case l => k_is); (case c => k_is); (case k => k_is))
      (case g_law_price_due => refine' Dt.glob_mk KX G ?a ?l ?c ?k; (case a => k_is); (case l => k_is); (case c => k_is); (case k => k_is))
      (case g_law_lot_right => refine' Dt.glob_mk KX G ?a ?l ?c ?k; (case a => k_is); (case l => k_is); (case c => k_is); (case k => k_is))
      (case g_span => refine' Dt.glob_mk KX G ?a ?l ?c ?k; (case a => k_is); (case l => k_is); (case c => k_is); (case k => k_is))
      (case g_sure_seats => refine' Dt.glob_mk KX G ?a ?l ?c ?k; (case a => k_is); (case l => k_is); (case c => k_is); (case k => k_is))
      (case g_law_right => refine' Dt.glob_mk KX G ?a ?l ?c ?k; (case a => k_is); (case l => k_is); (case c => k_is); (case k => k_is))
      (case g_law_fund => refine' Dt.glob_mk KX G ?a ?l ?c ?k; (case a => k_is); (case l => k_is); (case c => k_is); (case k => k_is))
      (case g_law => refine' Dt.glob_mk KX G ?a ?l ?c ?k; (case a => k_is); (case l => k_is); (case c => k_is); (case k => k_is)))
end
