import PyProof.Rows.All
import Wide.All
import OpenK.AllK
import Wide.FinOn
import PyProof.NeKinds
import Open.SpecLaws
import KE.OsGo
import HandS.Spec
import HandS.Comp
import HandS.Iter
import HandS.Zip
import HandS.Style
import HandS.Evl
import HandS.TryOnly
import HandS.WordsList
import HandS.Walk
import PySem.Challenge.RW_beaconcoasts_s01_answers
set_option Elab.async false
set_option linter.all false
set_option maxRecDepth 100000
set_option maxHeartbeats 2000000
namespace Bcn
open BnC

/-! ### geometry -/
def signB (i j : Int) : Bool := (decide (0 < i) && decide (0 < j)) || (decide (i < 0) && decide (j < 0))
def mx (a b : Int) : Int := if b > a then b else a
def mn (a b : Int) : Int := if b < a then b else a
def apartB (a b c d : Int) : Bool := decide (mx a b < mn c d) || decide (mx c d < mn a b)
/-- what have_common computes -/
def commonB (x y u v h t f b : Int) : Bool :=
  if (apartB x u h f || apartB y v t b) = true then false
  else if signB (side (x, y) (u, v) (h, t)) (side (x, y) (u, v) (f, b)) = true then false
  else !signB (side (h, t) (f, b) (x, y)) (side (h, t) (f, b) (u, v))

theorem side_eq (a b c d e f : Int) : side (a, b) (c, d) (e, f) = (c - a) * (f - b) - (d - b) * (e - a) := rfl

theorem not_cmb {p q r s a b c d : Int} (hp : 0 ≤ p) (hq : 0 ≤ q) (h : 0 < p + q) (hr : 0 ≤ r) (hs : 0 ≤ s) (e : r + s = p + q)
    (ac : a < c) (ad : a < d) (bc : b < c) (bd : b < d) (E : p * a + q * b = r * c + s * d) : False := by
  have key : ∀ M : Int, a ≤ M → b ≤ M → M < c → M < d → False := fun M h1 h2 h3 h4 => by
    have t1 : p * a ≤ p * M := Int.mul_le_mul_of_nonneg_left h1 hp
    have t2 : q * b ≤ q * M := Int.mul_le_mul_of_nonneg_left h2 hq
    have t3 : r * (M + 1) ≤ r * c := Int.mul_le_mul_of_nonneg_left h3 hr
    have t4 : s * (M + 1) ≤ s * d := Int.mul_le_mul_of_nonneg_left h4 hs
    have t5 : (r + s) * (M + 1) = (p + q) * (M + 1) := by rw [e]
    grind
  by_cases z : a ≤ b
  · exact key b z (Int.le_refl b) bc bd
  · exact key a (Int.le_refl a) (by omega) ac ad

/-- two convex combinations meet: the boxes do -/
theorem not_apart_of {p q r s a b c d : Int} (hp : 0 ≤ p) (hq : 0 ≤ q) (h : 0 < p + q) (hr : 0 ≤ r) (hs : 0 ≤ s) (e : r + s = p + q)
    (E : p * a + q * b = r * c + s * d) : apartB a b c d = false := by
  unfold apartB mx mn
  rw [Bool.or_eq_false_iff, decide_eq_false_iff_not, decide_eq_false_iff_not]
  constructor
  · intro z
    exact not_cmb hp hq h hr hs e (by split at z <;> split at z <;> omega) (by split at z <;> split at z <;> omega) (by split at z <;> split at z <;> omega) (by split at z <;> split at z <;> omega) E
  · intro z
    exact not_cmb hr hs (e ▸ h) hp hq e.symm (by split at z <;> split at z <;> omega) (by split at z <;> split at z <;> omega) (by split at z <;> split at z <;> omega) (by split at z <;> split at z <;> omega) E.symm

theorem sign_ne {i j : Int} (h : sign i ≠ sign j) : (i ≤ 0 ∧ 0 ≤ j ∧ i < j) ∨ (0 ≤ i ∧ j ≤ 0 ∧ j < i) := by
  unfold sign at h
  by_cases a : 0 < i
  · rw [if_pos a] at h
    by_cases b : 0 < j
    · rw [if_pos b] at h; exact absurd rfl h
    · omega
  · by_cases b : 0 < j
    · omega
    · rw [if_neg a, if_neg b] at h
      by_cases c : i < 0
      · by_cases d : j < 0
        · rw [if_pos c, if_pos d] at h; exact absurd rfl h
        · omega
      · by_cases d : j < 0
        · omega
        · rw [if_neg c, if_neg d] at h; exact absurd rfl h
/-- crossing lines whose ends lie on both sides: the boxes meet -/
theorem cross_box {x y u v h t f b : Int} (s1 : sign (side (x, y) (u, v) (h, t)) ≠ sign (side (x, y) (u, v) (f, b)))
    (s3 : sign (side (h, t) (f, b) (x, y)) ≠ sign (side (h, t) (f, b) (u, v))) : apartB x u h f = false ∧ apartB y v t b = false := by
  rw [side_eq, side_eq] at s1 s3
  generalize e1 : (u - x) * (t - y) - (v - y) * (h - x) = a1 at s1
  generalize e2 : (u - x) * (b - y) - (v - y) * (f - x) = a2 at s1
  generalize e3 : (f - h) * (y - t) - (b - t) * (x - h) = a3 at s3
  generalize e4 : (f - h) * (v - t) - (b - t) * (u - h) = a4 at s3
  have hD : a2 - a1 = a3 - a4 := by grind
  have hX : a3 * u - a4 * x = a2 * h - a1 * f := by grind
  have hY : a3 * v - a4 * y = a2 * t - a1 * b := by grind
  have g : (0 ≤ a3 ∧ a4 ≤ 0 ∧ 0 ≤ a2 ∧ a1 ≤ 0 ∧ a4 < a3) ∨ (a3 ≤ 0 ∧ 0 ≤ a4 ∧ a2 ≤ 0 ∧ 0 ≤ a1 ∧ a3 < a4) := by
    have q1 := sign_ne s1
    have q3 := sign_ne s3
    clear e1 e2 e3 e4 hX hY s1 s3
    omega
  rcases g with ⟨g1, g2, g3, g4, g5⟩ | ⟨g1, g2, g3, g4, g5⟩
  · exact ⟨not_apart_of (p := -a4) (q := a3) (r := a2) (s := -a1) (by omega) (by omega) (by omega) (by omega) (by omega) (by omega) (by grind),
      not_apart_of (p := -a4) (q := a3) (r := a2) (s := -a1) (by omega) (by omega) (by omega) (by omega) (by omega) (by omega) (by grind)⟩
  · exact ⟨not_apart_of (p := a4) (q := -a3) (r := -a2) (s := a1) (by omega) (by omega) (by omega) (by omega) (by omega) (by omega) (by grind),
      not_apart_of (p := a4) (q := -a3) (r := -a2) (s := a1) (by omega) (by omega) (by omega) (by omega) (by omega) (by omega) (by grind)⟩

theorem between_eq (x y u v p q : Int) : between (x, y) (u, v) (p, q) = true ↔
    side (x, y) (u, v) (p, q) = 0 ∧ 0 ≤ (p - x) * (u - x) + (q - y) * (v - y) ∧ (p - x) * (u - x) + (q - y) * (v - y) ≤ (u - x) * (u - x) + (v - y) * (v - y) := by
  unfold between dot minus
  rw [Bool.and_eq_true, Bool.and_eq_true, beq_iff_eq, decide_eq_true_iff, decide_eq_true_iff]

theorem sq_pos {i : Int} (h : i ≠ 0) : 0 < i * i := by
  rcases Int.lt_or_gt_of_ne h with h | h
  · exact Int.mul_pos_of_neg_of_neg h h
  · exact Int.mul_pos h h
theorem sq_nonneg (i : Int) : 0 ≤ i * i := by
  by_cases h : i = 0
  · subst h; decide
  · exact Int.le_of_lt (sq_pos h)
theorem norm_pos {e f : Int} (h : e ≠ 0 ∨ f ≠ 0) : 0 < e * e + f * f := by
  have h1 := sq_nonneg e
  have h2 := sq_nonneg f
  rcases h with h | h
  · have := sq_pos h; omega
  · have := sq_pos h; omega

/-- a point of a straight: the boxes meet, no other straight from it has both ends on one side -/
theorem between_common {x y u v h t f b : Int} (ne : ¬(x = u ∧ y = v)) (hb : between (x, y) (u, v) (h, t) = true) :
    apartB x u h f = false ∧ apartB y v t b = false ∧ side (x, y) (u, v) (h, t) = 0 ∧ signB (side (h, t) (f, b) (x, y)) (side (h, t) (f, b) (u, v)) = false := by
  obtain ⟨h1, h2, h3⟩ := (between_eq x y u v h t).mp hb
  have hN : 0 < (u - x) * (u - x) + (v - y) * (v - y) := norm_pos (by omega)
  refine ⟨?_, ?_, h1, ?_⟩
  all_goals rw [side_eq] at h1
  · generalize eN : (u - x) * (u - x) + (v - y) * (v - y) = N at *
    generalize eK : (h - x) * (u - x) + (t - y) * (v - y) = k at *
    exact not_apart_of (p := N - k) (q := k) (r := N) (s := 0) (by omega) (by omega) (by omega) (by omega) (by omega) (by omega) (by grind)
  · generalize eN : (u - x) * (u - x) + (v - y) * (v - y) = N at *
    generalize eK : (h - x) * (u - x) + (t - y) * (v - y) = k at *
    exact not_apart_of (p := N - k) (q := k) (r := N) (s := 0) (by omega) (by omega) (by omega) (by omega) (by omega) (by omega) (by grind)
  · rw [side_eq, side_eq]
    generalize eN : (u - x) * (u - x) + (v - y) * (v - y) = N at *
    generalize eK : (h - x) * (u - x) + (t - y) * (v - y) = k at *
    generalize e3 : (f - h) * (y - t) - (b - t) * (x - h) = a3
    generalize e4 : (f - h) * (v - t) - (b - t) * (u - h) = a4
    have X1 : N * (h - x) = k * (u - x) := by clear e3 e4 h2 h3 hN; grind
    have Y1 : N * (t - y) = k * (v - y) := by clear e3 e4 h2 h3 hN X1; grind
    have E : (N - k) * a3 + k * a4 = 0 := by
      have E0 : (N - k) * a3 + k * a4 = (f - h) * (k * (v - y) - N * (t - y)) - (b - t) * (k * (u - x) - N * (h - x)) := by
        clear h1 h2 h3 hN eN eK X1 Y1
        subst e3 e4
        grind
      rw [E0, X1, Y1]
      grind
    unfold signB
    rw [Bool.or_eq_false_iff, Bool.and_eq_false_iff, Bool.and_eq_false_iff]
    simp only [decide_eq_false_iff_not]
    have n1 : 0 < a3 → 0 < a4 → False := fun p3 p4 => by
      have q1 : 0 ≤ (N - k) * a3 := Int.mul_nonneg (by omega) (by omega)
      have q2 : 0 ≤ k * a4 := Int.mul_nonneg h2 (by omega)
      by_cases z : k = 0
      · subst z
        have : 0 < (N - 0) * a3 := Int.mul_pos (by omega) p3
        omega
      · have : 0 < k * a4 := Int.mul_pos (by omega) p4
        omega
    have n2 : a3 < 0 → a4 < 0 → False := fun p3 p4 => by
      have q1 : (N - k) * a3 ≤ 0 := Int.mul_nonpos_of_nonneg_of_nonpos (by omega) (by omega)
      have q2 : k * a4 ≤ 0 := Int.mul_nonpos_of_nonneg_of_nonpos h2 (by omega)
      by_cases z : k = 0
      · subst z
        have : (N - 0) * a3 < 0 := Int.mul_neg_of_pos_of_neg (by omega) p3
        omega
      · have : k * a4 < 0 := Int.mul_neg_of_pos_of_neg (by omega) p4
        omega
    constructor
    · by_cases p3 : 0 < a3
      · exact .inr fun p4 => n1 p3 p4
      · exact .inl p3
    · by_cases p3 : a3 < 0
      · exact .inr fun p4 => n2 p3 p4
      · exact .inl p3

/-- a point in line whose x lies between -/
theorem between_x {x y u v p q : Int} (hs : side (x, y) (u, v) (p, q) = 0) (hne : x ≠ u) (h1 : mn x u ≤ p) (h2 : p ≤ mx x u) : between (x, y) (u, v) (p, q) = true := by
  rw [between_eq]
  refine ⟨hs, ?_⟩
  rw [side_eq] at hs
  have hN : 0 < (u - x) * (u - x) + (v - y) * (v - y) := norm_pos (by omega)
  generalize eN : (u - x) * (u - x) + (v - y) * (v - y) = N at *
  generalize eK : (p - x) * (u - x) + (q - y) * (v - y) = k at *
  have E : k * (u - x) = (p - x) * N := by grind
  unfold mn at h1
  unfold mx at h2
  rcases Int.lt_or_gt_of_ne hne with lt | gt
  · rw [if_neg (by omega)] at h1
    rw [if_pos (by omega)] at h2
    have w : 0 < u - x := by omega
    have g1 : 0 ≤ k * (u - x) := by rw [E]; exact Int.mul_nonneg (by omega) (by omega)
    have g2 : k * (u - x) ≤ N * (u - x) := by
      rw [E, Int.mul_comm N]
      exact Int.mul_le_mul_of_nonneg_right (by omega) (by omega)
    exact ⟨Int.nonneg_of_mul_nonneg_left g1 w, Int.le_of_mul_le_mul_right g2 w⟩
  · rw [if_pos (by omega)] at h1
    rw [if_neg (by omega)] at h2
    have w : 0 < x - u := by omega
    have E' : k * (x - u) = (x - p) * N := by grind
    have g1 : 0 ≤ k * (x - u) := by rw [E']; exact Int.mul_nonneg (by omega) (by omega)
    have g2 : k * (x - u) ≤ N * (x - u) := by
      rw [E', Int.mul_comm N]
      exact Int.mul_le_mul_of_nonneg_right (by omega) (by omega)
    exact ⟨Int.nonneg_of_mul_nonneg_left g1 w, Int.le_of_mul_le_mul_right g2 w⟩
theorem between_swap {x y u v p q : Int} (h : between (y, x) (v, u) (q, p) = true) : between (x, y) (u, v) (p, q) = true := by
  obtain ⟨h1, h2, h3⟩ := (between_eq y x v u q p).mp h
  refine (between_eq x y u v p q).mpr ⟨?_, ?_, ?_⟩
  · rw [side_eq] at h1 ⊢
    omega
  · omega
  · omega
theorem between_y {x y u v p q : Int} (hs : side (x, y) (u, v) (p, q) = 0) (hne : y ≠ v) (h1 : mn y v ≤ q) (h2 : q ≤ mx y v) : between (x, y) (u, v) (p, q) = true := by
  refine between_swap (between_x ?_ hne h1 h2)
  rw [side_eq] at hs ⊢
  omega
/-- of two stretches that are not apart one has an end of the other -/
theorem ends_in {a b c d : Int} (h : apartB a b c d = false) : (mn a b ≤ c ∧ c ≤ mx a b) ∨ (mn a b ≤ d ∧ d ≤ mx a b) ∨ (mn c d ≤ a ∧ a ≤ mx c d) ∨ (mn c d ≤ b ∧ b ≤ mx c d) := by
  unfold apartB at h
  rw [Bool.or_eq_false_iff, decide_eq_false_iff_not, decide_eq_false_iff_not] at h
  unfold mx mn at *
  grind
theorem apart_comm (a b c d : Int) : apartB a b c d = apartB c d a b := by
  unfold apartB
  rw [Bool.or_comm]
theorem apart_right (a b c d : Int) : apartB a b c d = apartB a b d c := by
  have e1 : mn c d = mn d c := by unfold mn; grind
  have e2 : mx c d = mx d c := by unfold mx; grind
  unfold apartB
  rw [e1, e2]
theorem signB_comm (i j : Int) : signB i j = signB j i := by
  unfold signB
  rw [Bool.and_comm, Bool.and_comm (x := decide (i < 0))]
theorem signB_zero_left (j : Int) : signB 0 j = false := by simp [signB]
theorem signB_neg (i j : Int) : signB (-i) (-j) = signB i j := by unfold signB; grind

theorem common_of_meet {x y u v h t f b : Int} (n1 : ¬(x = u ∧ y = v)) (n2 : ¬(h = f ∧ t = b)) (m : meet (x, y) (u, v) (h, t) (f, b) = true) : commonB x y u v h t f b = true := by
  have fin : apartB x u h f = false → apartB y v t b = false → signB (side (x, y) (u, v) (h, t)) (side (x, y) (u, v) (f, b)) = false →
      signB (side (h, t) (f, b) (x, y)) (side (h, t) (f, b) (u, v)) = false → commonB x y u v h t f b = true := fun a1 a2 a3 a4 => by
    unfold commonB
    rw [a1, a2, a3, a4]
    rfl
  unfold meet at m
  rw [Bool.or_eq_true, Bool.or_eq_true, Bool.or_eq_true, Bool.or_eq_true] at m
  rcases m with m | m | m | m | m
  · rw [Bool.and_eq_true, Bool.and_eq_true, Bool.and_eq_true] at m
    obtain ⟨⟨⟨m1, m2⟩, _⟩, _⟩ := m
    have k1 : sign (side (x, y) (u, v) (h, t)) ≠ sign (side (x, y) (u, v) (f, b)) := by simpa using m1
    have k2 : sign (side (h, t) (f, b) (x, y)) ≠ sign (side (h, t) (f, b) (u, v)) := by simpa using m2
    obtain ⟨b1, b2⟩ := cross_box k1 k2
    refine fin b1 b2 ?_ ?_
    · unfold sign at k1; unfold signB; grind
    · unfold sign at k2; unfold signB; grind
  · obtain ⟨b1, b2, b3, b4⟩ := between_common (f := f) (b := b) n1 m
    exact fin b1 b2 (by rw [b3]; exact signB_zero_left _) b4
  · obtain ⟨b1, b2, b3, b4⟩ := between_common (f := h) (b := t) n1 m
    refine fin (by rw [apart_right]; exact b1) (by rw [apart_right]; exact b2) (by rw [b3, signB_comm]; exact signB_zero_left _) ?_
    have e1 : side (f, b) (h, t) (x, y) = -side (h, t) (f, b) (x, y) := by rw [side_eq, side_eq]; grind
    have e2 : side (f, b) (h, t) (u, v) = -side (h, t) (f, b) (u, v) := by rw [side_eq, side_eq]; grind
    rw [e1, e2, signB_neg] at b4
    exact b4
  · obtain ⟨b1, b2, b3, b4⟩ := between_common (f := u) (b := v) n2 m
    exact fin (by rw [apart_comm]; exact b1) (by rw [apart_comm]; exact b2) b4 (by rw [b3]; exact signB_zero_left _)
  · obtain ⟨b1, b2, b3, b4⟩ := between_common (f := x) (b := y) n2 m
    refine fin (by rw [apart_comm, apart_right]; exact b1) (by rw [apart_comm, apart_right]; exact b2) ?_ (by rw [b3, signB_comm]; exact signB_zero_left _)
    have e1 : side (u, v) (x, y) (h, t) = -side (x, y) (u, v) (h, t) := by rw [side_eq, side_eq]; grind
    have e2 : side (u, v) (x, y) (f, b) = -side (x, y) (u, v) (f, b) := by rw [side_eq, side_eq]; grind
    rw [e1, e2, signB_neg] at b4
    exact b4

theorem sign_eq_of_not {i j : Int} (h : signB i j = false) (e : sign i = sign j) : i = 0 ∧ j = 0 := by
  unfold signB at h
  unfold sign at e
  grind

theorem meet_of_common {x y u v h t f b : Int} (n1 : ¬(x = u ∧ y = v)) (n2 : ¬(h = f ∧ t = b)) (m : commonB x y u v h t f b = true) : meet (x, y) (u, v) (h, t) (f, b) = true := by
  unfold commonB at m
  split at m
  · cases m
  rename_i hA
  split at m
  · cases m
  rename_i hS
  have a1 : apartB x u h f = false := by
    cases e : apartB x u h f with
    | false => rfl
    | true => rw [e] at hA; exact absurd rfl hA
  have a2 : apartB y v t b = false := by
    cases e : apartB y v t b with
    | false => rfl
    | true => rw [e, Bool.or_true] at hA; exact absurd rfl hA
  have a3 : signB (side (x, y) (u, v) (h, t)) (side (x, y) (u, v) (f, b)) = false := by
    cases e : signB (side (x, y) (u, v) (h, t)) (side (x, y) (u, v) (f, b)) with
    | false => rfl
    | true => exact absurd e hS
  have a4 : signB (side (h, t) (f, b) (x, y)) (side (h, t) (f, b) (u, v)) = false := by simpa using m
  unfold meet
  rw [Bool.or_eq_true, Bool.or_eq_true, Bool.or_eq_true, Bool.or_eq_true, Bool.and_eq_true, Bool.and_eq_true, Bool.and_eq_true]
  by_cases c1 : sign (side (x, y) (u, v) (h, t)) ≠ sign (side (x, y) (u, v) (f, b)) ∧ sign (side (h, t) (f, b) (x, y)) ≠ sign (side (h, t) (f, b) (u, v))
  · refine .inl ⟨⟨⟨by simpa using c1.1, by simpa using c1.2⟩, ?_⟩, ?_⟩
    · simp only [Bool.not_eq_true', beq_eq_false_iff_ne, ne_eq, Prod.mk.injEq]
      exact n1
    · simp only [Bool.not_eq_true', beq_eq_false_iff_ne, ne_eq, Prod.mk.injEq]
      exact n2
  · refine .inr ?_
    have hD : side (x, y) (u, v) (f, b) - side (x, y) (u, v) (h, t) = side (h, t) (f, b) (x, y) - side (h, t) (f, b) (u, v) := by
      rw [side_eq, side_eq, side_eq, side_eq]; grind
    have z : side (x, y) (u, v) (h, t) = 0 ∧ side (x, y) (u, v) (f, b) = 0 ∧ side (h, t) (f, b) (x, y) = 0 ∧ side (h, t) (f, b) (u, v) = 0 := by
      by_cases c2 : sign (side (x, y) (u, v) (h, t)) = sign (side (x, y) (u, v) (f, b))
      · obtain ⟨q1, q2⟩ := sign_eq_of_not a3 c2
        have q3 : side (h, t) (f, b) (x, y) = side (h, t) (f, b) (u, v) := by omega
        obtain ⟨q4, q5⟩ := sign_eq_of_not a4 (by rw [q3])
        exact ⟨q1, q2, q4, q5⟩
      · have c3 : sign (side (h, t) (f, b) (x, y)) = sign (side (h, t) (f, b) (u, v)) := by
          by_cases c4 : sign (side (h, t) (f, b) (x, y)) = sign (side (h, t) (f, b) (u, v))
          · exact c4
          · exact absurd ⟨c2, c4⟩ c1
        obtain ⟨q1, q2⟩ := sign_eq_of_not a4 c3
        have q3 : side (x, y) (u, v) (h, t) = side (x, y) (u, v) (f, b) := by omega
        obtain ⟨q4, q5⟩ := sign_eq_of_not a3 (by rw [q3])
        exact ⟨q4, q5, q1, q2⟩
    obtain ⟨z1, z2, z3, z4⟩ := z
    by_cases hx : x = u
    · have hy : y ≠ v := fun e => n1 ⟨hx, e⟩
      have hf : t ≠ b := fun e => by
        refine n2 ⟨?_, e⟩
        rw [side_eq] at z1 z2
        subst hx e
        have w1 : (v - y) * (h - x) = 0 := by grind
        have w2 : (v - y) * (f - x) = 0 := by grind
        have w3 : v - y ≠ 0 := by omega
        have := (Int.mul_eq_zero.mp w1).resolve_left w3
        have := (Int.mul_eq_zero.mp w2).resolve_left w3
        omega
      rcases ends_in a2 with k | k | k | k
      · exact .inl (between_y z1 hy k.1 k.2)
      · exact .inr (.inl (between_y z2 hy k.1 k.2))
      · exact .inr (.inr (.inl (between_y z3 hf k.1 k.2)))
      · exact .inr (.inr (.inr (between_y z4 hf k.1 k.2)))
    · have hf : h ≠ f := fun e => by
        refine n2 ⟨e, ?_⟩
        rw [side_eq] at z1 z2
        subst e
        have w1 : (u - x) * (t - b) = 0 := by grind
        have w3 : u - x ≠ 0 := by omega
        have := (Int.mul_eq_zero.mp w1).resolve_left w3
        omega
      rcases ends_in a1 with k | k | k | k
      · exact .inl (between_x z1 hx k.1 k.2)
      · exact .inr (.inl (between_x z2 hx k.1 k.2))
      · exact .inr (.inr (.inl (between_x z3 hf k.1 k.2)))
      · exact .inr (.inr (.inr (between_x z4 hf k.1 k.2)))
theorem common_meet {x y u v h t f b : Int} (n1 : ¬(x = u ∧ y = v)) (n2 : ¬(h = f ∧ t = b)) : commonB x y u v h t f b = meet (x, y) (u, v) (h, t) (f, b) := by
  cases e : meet (x, y) (u, v) (h, t) (f, b) with
  | true => exact common_of_meet n1 n2 e
  | false =>
    cases e' : commonB x y u v h t f b with
    | false => rfl
    | true => rw [meet_of_common n1 n2 e'] at e; cases e
end Bcn

namespace Bcn
open BnC

/-! ### directions -/
theorem half_eq (x y : Int) : half (x, y) = if 0 < y ∨ (y = 0 ∧ 0 < x) then 0 else 1 := rfl
theorem half_le (a : Point) : half a ≤ 1 := by unfold half; split <;> omega
/-- what is_ahead computes -/
theorem ahead_eq (a b : Point) : (if half a ≠ half b then decide (half a < half b) else decide (0 < a.1 * b.2 - a.2 * b.1)) = dirBefore a b := by
  unfold dirBefore cross
  by_cases h : half a = half b
  · rw [if_neg (fun z => z h), h]
    simp
  · rw [if_pos h]
    have : (half a == half b) = false := by simpa using h
    rw [this]
    simp

theorem pos_of {b r : Int} (k : 0 < b * r) (u : 0 < b) : 0 < r := by
  by_cases z : 0 < r
  · exact z
  · have : b * r ≤ 0 := Int.mul_nonpos_of_nonneg_of_nonpos (by omega) (by omega)
    omega
theorem cross_trans {ax ay bx bz cx cz : Int} (ha : half (ax, ay) = half (bx, bz)) (hb : half (bx, bz) = half (cx, cz)) (na : ¬(ax = 0 ∧ ay = 0)) (nb : ¬(bx = 0 ∧ bz = 0)) (nc : ¬(cx = 0 ∧ cz = 0))
    (h1 : 0 < ax * bz - ay * bx) (h2 : 0 < bx * cz - bz * cx) : 0 < ax * cz - ay * cx := by
  have K : bz * (ax * cz - ay * cx) = ay * (bx * cz - bz * cx) + cz * (ax * bz - ay * bx) := by grind
  generalize e1 : ax * bz - ay * bx = p at *
  generalize e2 : bx * cz - bz * cx = q at *
  generalize e3 : ax * cz - ay * cx = r at *
  rw [half_eq, half_eq] at ha
  rw [half_eq, half_eq] at hb
  by_cases u : 0 < bz ∨ (bz = 0 ∧ 0 < bx)
  · rw [if_pos u] at ha hb
    have ua : 0 < ay ∨ (ay = 0 ∧ 0 < ax) := by
      by_cases z : 0 < ay ∨ (ay = 0 ∧ 0 < ax)
      · exact z
      · rw [if_neg z] at ha; omega
    have uc : 0 < cz ∨ (cz = 0 ∧ 0 < cx) := by
      by_cases z : 0 < cz ∨ (cz = 0 ∧ 0 < cx)
      · exact z
      · rw [if_neg z] at hb; omega
    rcases u with u | ⟨u, v⟩
    · have g1 : 0 ≤ ay * q := Int.mul_nonneg (by omega) (by omega)
      have g2 : 0 ≤ cz * p := Int.mul_nonneg (by omega) (by omega)
      rcases ua with z | ⟨z, z'⟩
      · have : 0 < ay * q := Int.mul_pos z h2
        have k : 0 < bz * r := by omega
        exact pos_of k u
      · rcases uc with w | ⟨w, w'⟩
        · have : 0 < cz * p := Int.mul_pos w h1
          have k : 0 < bz * r := by omega
          exact pos_of k u
        · exfalso
          subst z w
          have : 0 < bz * cx := Int.mul_pos u w'
          omega
    · exfalso
      subst u
      have : 0 ≤ ay * bx := Int.mul_nonneg (by omega) (by omega)
      omega
  · rw [if_neg u] at ha hb
    have ua : ¬(0 < ay ∨ (ay = 0 ∧ 0 < ax)) := fun z => by rw [if_pos z] at ha; omega
    have uc : ¬(0 < cz ∨ (cz = 0 ∧ 0 < cx)) := fun z => by rw [if_pos z] at hb; omega
    by_cases w : bz = 0
    · exfalso
      subst w
      have : 0 ≤ ay * bx := Int.mul_nonneg_of_nonpos_of_nonpos (by omega) (by omega)
      omega
    · have wb : bz < 0 := by omega
      have g1 : ay * q ≤ 0 := Int.mul_nonpos_of_nonpos_of_nonneg (by omega) (by omega)
      have g2 : cz * p ≤ 0 := Int.mul_nonpos_of_nonpos_of_nonneg (by omega) (by omega)
      have fin : ay * q + cz * p < 0 → 0 < r := fun k => by
        by_cases z : 0 < r
        · exact z
        · have : 0 ≤ bz * r := Int.mul_nonneg_of_nonpos_of_nonpos (by omega) (by omega)
          omega
      by_cases z : ay = 0
      · by_cases w' : cz = 0
        · exfalso
          subst z w'
          have : 0 < bz * cx := Int.mul_pos_of_neg_of_neg wb (by omega)
          omega
        · have : cz * p < 0 := Int.mul_neg_of_neg_of_pos (by omega) h1
          exact fin (by omega)
      · have : ay * q < 0 := Int.mul_neg_of_neg_of_pos (by omega) h2
        exact fin (by omega)

theorem before_iff (a b : Point) : dirBefore a b = true ↔ half a < half b ∨ (half a = half b ∧ 0 < cross a b) := by
  unfold dirBefore
  simp [Bool.or_eq_true, Bool.and_eq_true]
def Nz (a : Point) : Prop := ¬(a.1 = 0 ∧ a.2 = 0)
theorem before_trans {a b c : Point} (na : Nz a) (nb : Nz b) (nc : Nz c) (h1 : dirBefore a b = true) (h2 : dirBefore b c = true) : dirBefore a c = true := by
  rw [before_iff] at h1 h2 ⊢
  rcases h1 with h1 | ⟨h1, k1⟩
  · rcases h2 with h2 | ⟨h2, k2⟩
    · exact .inl (by omega)
    · exact .inl (by omega)
  · rcases h2 with h2 | ⟨h2, k2⟩
    · exact .inl (by omega)
    · obtain ⟨a1, a2⟩ := a
      obtain ⟨b1, b2⟩ := b
      obtain ⟨c1, c2⟩ := c
      exact .inr ⟨by omega, cross_trans h1 h2 na nb nc k1 k2⟩
/-- a way is ahead of a direction, or the direction is before it or the same -/
theorem before_or (a w : Point) : (dirBefore a w || sameDir a w) = !dirBefore w a := by
  have e : cross w a = -cross a w := by unfold cross; grind
  unfold dirBefore sameDir
  rw [e]
  by_cases h : half a = half w
  · rw [h]
    simp
    by_cases k : cross a w = 0
    · simp [k]
    · have kk : (cross a w == 0) = false := by simpa using k
      rw [kk, Bool.or_false, ← decide_not, decide_eq_decide]
      omega
  · have e1 : (half a == half w) = false := by simpa using h
    have e2 : (half w == half a) = false := by simpa using fun z => h z.symm
    rw [e1, e2]
    simp
    rw [← decide_not, decide_eq_decide]
    omega

/-- the loop of colour_by -/
def colLoop (w : Point) : Nat → List Sector → Nat
  | f, [] => f
  | f, s :: l => if dirBefore w s.1 = true then f else colLoop w s.2 l
theorem order_tail {s : Sector} {l : List Sector} (h : inOrder (s :: l) = true) : inOrder l = true := by
  cases l with
  | nil => rfl
  | cons t l =>
    have q : (dirBefore s.1 t.1 && inOrder (t :: l)) = true := h
    rw [Bool.and_eq_true] at q
    exact q.2
theorem order_head {s t : Sector} {l : List Sector} (h : inOrder (s :: t :: l) = true) : dirBefore s.1 t.1 = true := by
  have q : (dirBefore s.1 t.1 && inOrder (t :: l)) = true := h
  rw [Bool.and_eq_true] at q
  exact q.1
/-- behind a sector that the way is ahead of all are such -/
theorem none_behind {w : Point} (nw : Nz w) : ∀ (l : List Sector) (s : Sector), inOrder (s :: l) = true → (∀ x ∈ s :: l, Nz x.1) → dirBefore w s.1 = true → (s :: l).filter (fun (x : Sector) => dirBefore x.1 w || sameDir x.1 w) = []
  | [], s, _, _, h => by
    rw [List.filter_cons, before_or, h]
    rfl
  | t :: l, s, ho, hn, h => by
    have h2 := before_trans nw (hn s (List.mem_cons_self)) (hn t (List.mem_cons_of_mem _ List.mem_cons_self)) h (order_head ho)
    have ih := none_behind nw l t (order_tail ho) (fun x hx => hn x (List.mem_cons_of_mem _ hx)) h2
    rw [List.filter_cons, before_or, h]
    exact ih
theorem colLoop_eq {w : Point} (nw : Nz w) : ∀ (l : List Sector) (f : Nat), inOrder l = true → (∀ x ∈ l, Nz x.1) →
    colLoop w f l = match (l.filter (fun (x : Sector) => dirBefore x.1 w || sameDir x.1 w)).getLast? with
      | some s => s.2
      | none => f
  | [], f, _, _ => rfl
  | s :: l, f, ho, hn => by
    unfold colLoop
    by_cases h : dirBefore w s.1 = true
    · rw [if_pos h, none_behind nw l s ho hn h]
      rfl
    · have hf : dirBefore w s.1 = false := by simpa using h
      have ih := colLoop_eq nw l s.2 (order_tail ho) (fun x hx => hn x (List.mem_cons_of_mem _ hx))
      rw [if_neg h, ih, List.filter_cons, before_or, hf]
      simp only [Bool.not_false, if_true]
      rw [List.getLast?_cons]
      cases e : (l.filter (fun (x : Sector) => dirBefore x.1 w || sameDir x.1 w)).getLast? with
      | none => rfl
      | some t => rfl
theorem colour_eq {w : Point} (nw : Nz w) {l : List Sector} {s : Sector} (hl : l.getLast? = some s) (ho : inOrder l = true) (hn : ∀ x ∈ l, Nz x.1) : colLoop w s.2 l = sectorOf l w := by
  rw [colLoop_eq nw l s.2 ho hn]
  unfold sectorOf
  rw [hl]
  cases (l.filter (fun (x : Sector) => dirBefore x.1 w || sameDir x.1 w)).getLast? with
  | none => rfl
  | some t => rfl

/-! ### sectors read -/
abbrev Raw := (Int × Int) × Int
def threes : List Int → List Raw
  | x :: y :: c :: r => ((x, y), c) :: threes r
  | _ => []
/-- what sectors_of gives -/
def rawOf (l : List Int) : List Raw := if l.length % 3 = 0 then threes l else []
def isDirB (x y : Int) : Bool := (decide (x ≠ 0) || decide (y ≠ 0)) && (decide (-1000 ≤ x ∧ x ≤ 1000) && decide (-1000 ≤ y ∧ y ≤ 1000))
def okRaw (r : Raw) : Bool := isDirB r.1.1 r.1.2 && decide (0 ≤ r.2 ∧ r.2 ≤ 4)
def ordRaw : List Raw → Bool
  | a :: b :: l => dirBefore a.1 b.1 && ordRaw (b :: l)
  | _ => true
/-- what are_sectors gives -/
def areB (l : List Raw) : Bool := decide (1 ≤ l.length ∧ l.length ≤ 12) && l.all okRaw && ordRaw l
def encS (s : Sector) : Raw := (s.1, (s.2 : Int))
theorem threes_len : ∀ (l : List Int), (threes l).length = l.length / 3
  | x :: y :: c :: r => by
    show (threes r).length + 1 = (r.length + 3) / 3
    rw [threes_len r]
    omega
  | [] => rfl
  | [_] => by simp [threes]
  | [_, _] => by simp [threes]
theorem ord_enc : ∀ (c : List Sector), ordRaw (c.map encS) = inOrder c
  | [] => rfl
  | [_] => rfl
  | a :: b :: l => by
    have ih := ord_enc (b :: l)
    show (dirBefore a.1 b.1 && ordRaw ((b :: l).map encS)) = (dirBefore a.1 b.1 && inOrder (b :: l))
    rw [ih]
theorem sectorsIn_cond (x y c : Int) : (Wqatdz.near Wqatdz.WAY x && (Wqatdz.near Wqatdz.WAY y && ((x != 0 || y != 0) && (decide (0 ≤ c) && decide (c ≤ 4))))) = okRaw ((x, y), c) := by
  unfold okRaw isDirB Wqatdz.near Wqatdz.WAY
  rw [Bool.eq_iff_iff]
  simp only [Bool.and_eq_true, Bool.or_eq_true, decide_eq_true_eq, bne_iff_ne]
  omega
theorem sectorsIn_none : ∀ (l : List Int), l.length % 3 ≠ 0 → Wqatdz.sectorsIn l = none
  | x :: y :: c :: r, h => by
    have ih := sectorsIn_none r (by simp only [List.length_cons] at h; omega)
    unfold Wqatdz.sectorsIn
    rw [ih]
    split <;> rfl
  | [], h => absurd rfl h
  | [_], _ => rfl
  | [_, _], _ => rfl
theorem sectorsIn_eq : ∀ (l : List Int), l.length % 3 = 0 → match Wqatdz.sectorsIn l with
    | none => (threes l).all okRaw = false
    | some c => threes l = c.map encS ∧ (threes l).all okRaw = true
  | x :: y :: c :: r, h => by
    have ih := sectorsIn_eq r (by simp only [List.length_cons] at h; omega)
    unfold Wqatdz.sectorsIn
    rw [sectorsIn_cond]
    show (match (if okRaw ((x, y), c) = true then (Wqatdz.sectorsIn r).map fun (l : List Sector) => ((x, y), c.toNat) :: l else none) with
      | none => (okRaw ((x, y), c) && (threes r).all okRaw) = false
      | some s => ((x, y), c) :: threes r = s.map encS ∧ (okRaw ((x, y), c) && (threes r).all okRaw) = true)
    cases e : okRaw ((x, y), c) with
    | false => rfl
    | true =>
      rw [if_pos rfl]
      cases e2 : Wqatdz.sectorsIn r with
      | none => rw [e2] at ih; exact ih
      | some s =>
        rw [e2] at ih
        obtain ⟨h1, h2⟩ := ih
        refine ⟨?_, h2⟩
        have hc : 0 ≤ c := by
          unfold okRaw at e
          simp only [Bool.and_eq_true, decide_eq_true_eq] at e
          exact e.2.1
        show ((x, y), c) :: threes r = ((x, y), ((c.toNat : Nat) : Int)) :: s.map encS
        rw [h1, Int.toNat_of_nonneg hc]
  | [], _ => ⟨rfl, rfl⟩
  | [_], h => by simp at h
  | [_, _], h => by simp at h
/-- the sectors that are told: what the program takes is what the Spec takes -/
theorem areB_iff (l : List Int) : areB (rawOf l) = true ↔ ∃ c, Wqatdz.sectorsIn l = some c ∧ c ≠ [] ∧ c.length ≤ 12 ∧ inOrder c = true := by
  unfold rawOf areB
  by_cases h : l.length % 3 = 0
  · rw [if_pos h]
    have q := sectorsIn_eq l h
    constructor
    · intro z
      simp only [Bool.and_eq_true, decide_eq_true_eq] at z
      cases e : Wqatdz.sectorsIn l with
      | none => rw [e] at q; rw [q] at z; exact absurd z.1.2 Bool.false_ne_true
      | some c =>
        rw [e] at q
        obtain ⟨q1, q2⟩ := q
        rw [q1, ord_enc, List.length_map] at z
        exact ⟨c, rfl, fun n => (by subst n; have := z.1.1.1; simp at this), z.1.1.2, z.2⟩
    · rintro ⟨c, e, h1, h2, h3⟩
      rw [e] at q
      obtain ⟨q1, q2⟩ := q
      have h4 : 1 ≤ c.length := by
        cases c with
        | nil => exact absurd rfl h1
        | cons => simp
      simp only [Bool.and_eq_true, decide_eq_true_eq]
      rw [q2, q1, ord_enc, List.length_map]
      exact ⟨⟨⟨h4, h2⟩, rfl⟩, h3⟩
  · rw [if_neg h, sectorsIn_none l h]
    constructor
    · intro z
      have z' : (false && ([] : List Raw).all okRaw && ordRaw []) = true := z
      cases z'
    · rintro ⟨c, e, _⟩
      cases e
theorem rawOf_enc {l : List Int} {c : List Sector} (e : Wqatdz.sectorsIn l = some c) : rawOf l = c.map encS ∧ ∀ s ∈ c, Nz s.1 ∧ (-1000 ≤ s.1.1 ∧ s.1.1 ≤ 1000) ∧ (-1000 ≤ s.1.2 ∧ s.1.2 ≤ 1000) ∧ s.2 ≤ 4 := by
  by_cases h : l.length % 3 = 0
  · have q := sectorsIn_eq l h
    rw [e] at q
    obtain ⟨q1, q2⟩ := q
    unfold rawOf
    rw [if_pos h]
    refine ⟨q1, fun s hs => ?_⟩
    rw [q1, List.all_map, List.all_eq_true] at q2
    have z := q2 s hs
    unfold okRaw isDirB encS at z
    simp only [Function.comp, Bool.and_eq_true, Bool.or_eq_true, decide_eq_true_eq] at z
    unfold Nz
    omega
  · rw [sectorsIn_none l h] at e
    cases e
end Bcn

namespace Bcn
open BnC Bn

/-! ### what's seen of a light -/
structure GoodL (l : Light) : Prop where
  px : -10000 ≤ l.place.1 ∧ l.place.1 ≤ 10000
  py : -10000 ≤ l.place.2 ∧ l.place.2 ≤ 10000
  far : 1 ≤ l.range ∧ l.range ≤ 20000
  ne : l.sectors ≠ []
  len : l.sectors.length ≤ 12
  ord : inOrder l.sectors = true
  sec : ∀ s ∈ l.sectors, Nz s.1 ∧ (-1000 ≤ s.1.1 ∧ s.1.1 ≤ 1000) ∧ (-1000 ≤ s.1.2 ∧ s.1.2 ≤ 1000) ∧ s.2 ≤ 4
  ph : ∀ x ∈ l.rhythm, x.1 ≤ 1 ∧ 1 ≤ x.2 ∧ x.2 ≤ 600
  phn : l.rhythm ≠ []
  phl : l.rhythm.length ≤ 32
structure GoodC (c : Coast) : Prop where
  ax : -10000 ≤ c.1.1 ∧ c.1.1 ≤ 10000
  ay : -10000 ≤ c.1.2 ∧ c.1.2 ≤ 10000
  bx : -10000 ≤ c.2.1 ∧ c.2.1 ≤ 10000
  bz : -10000 ≤ c.2.2 ∧ c.2.2 ≤ 10000
  ne : ¬(c.1.1 = c.2.1 ∧ c.1.2 = c.2.2)
/-- what is_hidden computes -/
def hiddenB (cs : List Coast) (x y u v : Int) : Bool := cs.any fun c => commonB c.1.1 c.1.2 c.2.1 c.2.2 x y u v
theorem hidden_eq {cs : List Coast} (h : ∀ c ∈ cs, GoodC c) {x y u v : Int} (n : ¬(x = u ∧ y = v)) : hiddenB cs x y u v = cs.any fun (c : Coast) => meet c.1 c.2 (x, y) (u, v) := by
  unfold hiddenB
  induction cs with
  | nil => rfl
  | cons c r ih =>
    rw [List.any_cons, List.any_cons, ih fun d hd => h d (List.mem_cons_of_mem _ hd), common_meet (h c List.mem_cons_self).ne n]
theorem sectorOf_le {l : List Sector} {n : Nat} (h : ∀ s ∈ l, s.2 ≤ n) (w : Point) : sectorOf l w ≤ n := by
  unfold sectorOf
  split
  · rename_i s e
    exact h s (List.mem_filter.mp (List.mem_of_getLast? e)).1
  · split
    · rename_i s e
      exact h s (List.mem_of_getLast? e)
    · exact Nat.zero_le _
theorem seen_le {l : Light} (g : GoodL l) (cs : List Coast) (p : Point) : seenFrom cs l p ≤ 4 := by
  unfold seenFrom Light.shows
  split
  · split
    · exact Nat.zero_le _
    · exact sectorOf_le (fun s hs => (g.sec s hs).2.2.2) _
  · exact Nat.zero_le _
/-- where a light stands itself, or too far off -/
theorem seen_off {l : Light} {cs : List Coast} {x y : Int} (h : (x - l.place.1 = 0 ∧ y - l.place.2 = 0) ∨ (l.range : Int) * (l.range : Int) < (x - l.place.1) * (x - l.place.1) + (y - l.place.2) * (y - l.place.2)) : seenFrom cs l (x, y) = 0 := by
  unfold seenFrom Light.shows
  rcases h with ⟨h1, h2⟩ | h
  · have e : ((x, y) : Point) = l.place := Prod.ext (show x = l.place.1 by omega) (show y = l.place.2 by omega)
    rw [if_pos e]
    split <;> rfl
  · have e : apart (x, y) l.place = (x - l.place.1) * (x - l.place.1) + (y - l.place.2) * (y - l.place.2) := rfl
    rw [e, if_neg (fun z => by have := z.1; omega)]
theorem seen_on {l : Light} {cs : List Coast} {x y : Int} (hc : ∀ c ∈ cs, GoodC c) (h : ¬((x - l.place.1 = 0 ∧ y - l.place.2 = 0) ∨ (l.range : Int) * (l.range : Int) < (x - l.place.1) * (x - l.place.1) + (y - l.place.2) * (y - l.place.2))) :
    seenFrom cs l (x, y) = if sectorOf l.sectors (x - l.place.1, y - l.place.2) = 0 ∨ hiddenB cs l.place.1 l.place.2 x y = true then 0 else sectorOf l.sectors (x - l.place.1, y - l.place.2) := by
  have n : ¬(l.place.1 = x ∧ l.place.2 = y) := fun z => h (.inl (by omega))
  have ne : ¬((x, y) : Point) = l.place := fun z => n (by rw [← z]; exact ⟨rfl, rfl⟩)
  have far : apart (x, y) l.place ≤ (l.range : Int) * (l.range : Int) := by
    have e : apart (x, y) l.place = (x - l.place.1) * (x - l.place.1) + (y - l.place.2) * (y - l.place.2) := rfl
    rw [e]
    have := fun z => h (.inr z)
    omega
  have hh := hidden_eq hc n
  have hp : (l.place.1, l.place.2) = l.place := rfl
  rw [hp] at hh
  unfold seenFrom Light.shows
  rw [if_neg ne]
  show (if _ then sectorOf l.sectors (x - l.place.1, y - l.place.2) else 0) = _
  cases e : hiddenB cs l.place.1 l.place.2 x y with
  | true =>
    rw [hh] at e
    rw [if_neg (fun z => by rw [e] at z; exact absurd z.2 (by decide)), if_pos (.inr rfl)]
  | false =>
    rw [hh] at e
    rw [if_pos ⟨far, e⟩]
    split
    · rename_i z
      rcases z with z | z
      · exact z
      · cases z
    · rfl

/-! ### rhythms: texts -/
def ofB (b : Bytes) : List Int := b.map fun c => ((c.toNat : Nat) : Int)
theorem ofB_of {l : List Int} (h : ∀ z ∈ l, 0 ≤ z ∧ z ≤ 255) : ofB (WqatdzNeutral.bytes l) = l := by
  unfold ofB WqatdzNeutral.bytes
  rw [List.map_map]
  conv => rhs; rw [← List.map_id l]
  refine List.map_congr_left fun z hz => ?_
  obtain ⟨h1, h2⟩ := h z hz
  show ((UInt8.ofNat z.toNat).toNat : Int) = z
  rw [UInt8.toNat_ofNat']
  have : z.toNat % 2 ^ 8 = z.toNat := Nat.mod_eq_of_lt (by omega)
  rw [this]
  omega
/-- a turn of words_of's loop -/
def wordTurn (a : List Bytes) (c : UInt8) : List Bytes := if c = 32 then a ++ [[]] else a.dropLast ++ [a.getLastD [] ++ [c]]
theorem words_run : ∀ (b : Bytes) (a : List Bytes) (w : Bytes), b.foldl wordTurn (a ++ [w]) = match split 32 b with
    | [] => a ++ [w]
    | v :: r => a ++ (w ++ v) :: r
  | [], a, w => by simp [split]
  | c :: b, a, w => by
    rw [List.foldl_cons]
    have e0 : ∃ v r, split 32 b = v :: r := by
      cases b with
      | nil => exact ⟨_, _, rfl⟩
      | cons d b =>
        unfold split
        split
        · exact ⟨_, _, rfl⟩
        · split
          · exact ⟨_, _, rfl⟩
          · exact ⟨_, _, rfl⟩
    obtain ⟨v, r, e0⟩ := e0
    by_cases h : c = 32
    · have e1 : wordTurn (a ++ [w]) c = (a ++ [w]) ++ [[]] := if_pos h
      have e2 : split 32 (c :: b) = [] :: v :: r := by
        show (match split 32 b with
          | [] => [[c]]
          | w :: l => if c = 32 then [] :: w :: l else (c :: w) :: l) = _
        rw [e0]
        exact if_pos h
      rw [e1, words_run b (a ++ [w]) [], e2, e0]
      simp
    · have e1 : wordTurn (a ++ [w]) c = a ++ [w ++ [c]] := by
        unfold wordTurn
        rw [if_neg h]
        simp
      have e2 : split 32 (c :: b) = (c :: v) :: r := by
        show (match split 32 b with
          | [] => [[c]]
          | w :: l => if c = 32 then [] :: w :: l else (c :: w) :: l) = _
        rw [e0]
        exact if_neg h
      rw [e1, words_run b a (w ++ [c]), e2, e0]
      simp
theorem split_ne (b : Bytes) : split 32 b ≠ [] := by
  cases b with
  | nil => simp [split]
  | cons d b =>
    unfold split
    split
    · simp
    · split <;> simp
theorem words_eq (b : Bytes) : b.foldl wordTurn [[]] = split 32 b := by
  have h := words_run b [] []
  simp only [List.nil_append] at h
  rw [h]
  cases e : split 32 b with
  | nil => exact absurd e (split_ne b)
  | cons v r => rfl
theorem word_ne {a : List Bytes} : ∀ (c : UInt8), wordTurn a c ≠ [] := fun c z => by
  unfold wordTurn at z
  split at z <;> simp at z
/-- what long_of gives: 0 where the figures tell none -/
def longN (b : Bytes) : Nat := match numberIn b with
  | some n => if 1 ≤ n ∧ n ≤ LONG then n else 0
  | none => 0
/-- .. as it computes it -/
def valB (b : Bytes) : Nat := b.foldl (fun (n : Nat) (c : UInt8) => 10 * n + (c.toNat - 48)) 0
theorem digit_iff (c : UInt8) : isDigit c = true ↔ 48 ≤ c.toNat ∧ c.toNat ≤ 57 := by
  unfold isDigit
  rw [Bool.and_eq_true, decide_eq_true_iff, decide_eq_true_iff, UInt8.le_iff_toNat_le, UInt8.le_iff_toNat_le]
  exact Iff.rfl
theorem dec1 {n : Nat} (h : n < 10) : decimal n = [UInt8.ofNat (48 + n)] := by
  show (if n < 10 then [] else digitsIn n (n / 10)) ++ [UInt8.ofNat (48 + n % 10)] = _
  rw [if_pos h, Nat.mod_eq_of_lt h]
  rfl
theorem digits_more : ∀ (f n : Nat), n < f → ∀ g, n < g → digitsIn f n = digitsIn g n
  | 0, n, h, _, _ => absurd h (Nat.not_lt_zero _)
  | _ + 1, _, _, 0, h => absurd h (Nat.not_lt_zero _)
  | f + 1, n, h, g + 1, h' => by
    unfold digitsIn
    by_cases c : n < 10
    · rw [if_pos c, if_pos c]
    · rw [if_neg c, if_neg c, digits_more f (n / 10) (by omega) g (by omega)]
theorem dec_more {n : Nat} (h : 10 ≤ n) : decimal n = decimal (n / 10) ++ [UInt8.ofNat (48 + n % 10)] := by
  show (if n < 10 then [] else digitsIn n (n / 10)) ++ [UInt8.ofNat (48 + n % 10)] = _
  rw [if_neg (by omega)]
  unfold decimal
  rw [digits_more n (n / 10) (by omega) (n / 10 + 1) (by omega)]
theorem of_digit {c : UInt8} (h : isDigit c = true) : UInt8.ofNat (48 + (c.toNat - 48)) = c := by
  have q := (digit_iff c).mp h
  have e : 48 + (c.toNat - 48) = c.toNat := by omega
  rw [e, UInt8.ofNat_toNat]
theorem val_snoc (b : Bytes) (c : UInt8) : valB (b ++ [c]) = 10 * valB b + (c.toNat - 48) := by
  unfold valB
  rw [List.foldl_append]
  rfl
/-- figures without a nought ahead are the decimal of what they are worth -/
theorem decimal_val : ∀ (r : Bytes) (c : UInt8), isDigit c = true → c ≠ 48 → r.reverse.all isDigit = true → decimal (valB (c :: r.reverse)) = c :: r.reverse ∧ 1 ≤ valB (c :: r.reverse)
  | [], c, h, n, _ => by
    have q := (digit_iff c).mp h
    have n' : c.toNat ≠ 48 := fun e => n (by rw [← UInt8.ofNat_toNat (x := c), e]; rfl)
    have e : valB [c] = c.toNat - 48 := by
      show 10 * 0 + (c.toNat - 48) = _
      omega
    show decimal (valB [c]) = [c] ∧ 1 ≤ valB [c]
    rw [e]
    refine ⟨?_, by omega⟩
    rw [dec1 (by omega), of_digit h]
  | d :: r, c, h, n, hr => by
    rw [List.reverse_cons, List.all_append, Bool.and_eq_true] at hr
    obtain ⟨ih, ih1⟩ := decimal_val r c h n hr.1
    have hd : isDigit d = true := by simpa using hr.2
    have q := (digit_iff d).mp hd
    rw [List.reverse_cons]
    have e : c :: (r.reverse ++ [d]) = (c :: r.reverse) ++ [d] := rfl
    rw [e, val_snoc]
    refine ⟨?_, by omega⟩
    rw [dec_more (by omega)]
    have e1 : (10 * valB (c :: r.reverse) + (d.toNat - 48)) / 10 = valB (c :: r.reverse) := by omega
    have e2 : (10 * valB (c :: r.reverse) + (d.toNat - 48)) % 10 = d.toNat - 48 := by omega
    rw [e1, e2, ih, of_digit hd]
theorem decimal_head : ∀ (n : Nat), 1 ≤ n → ∃ c r, decimal n = c :: r ∧ c ≠ 48
  | n, h => by
    by_cases k : n < 10
    · refine ⟨_, [], dec1 k, fun e => ?_⟩
      have e' := congrArg UInt8.toNat e
      rw [UInt8.toNat_ofNat'] at e'
      have : (48 + n) % 2 ^ 8 = 48 + n := Nat.mod_eq_of_lt (by omega)
      rw [this] at e'
      have e48 : (48 : UInt8).toNat = 48 := rfl
      omega
    · obtain ⟨c, r, e, ne⟩ := decimal_head (n / 10) (by omega)
      exact ⟨c, r ++ [UInt8.ofNat (48 + n % 10)], by rw [dec_more (by omega), e]; rfl, ne⟩
/-- the loop of long_of: the figures so far are worth v; none at a byte that's no figure -/
theorem longN_eq (b : Bytes) : longN b = if 1 ≤ b.length ∧ b.length ≤ 3 ∧ b.head? ≠ some 48 ∧ b.all isDigit = true ∧ valB b ≤ 600 then valB b else 0 := by
  unfold longN numberIn
  show (match (if b.length ≤ 3 ∧ b.all isDigit = true ∧ b = decimal (valB b) then some (valB b) else none) with
    | some n => if 1 ≤ n ∧ n ≤ LONG then n else 0
    | none => 0) = _
  by_cases h : b.length ≤ 3 ∧ b.all isDigit = true ∧ b = decimal (valB b)
  · rw [if_pos h]
    show (if 1 ≤ valB b ∧ valB b ≤ 600 then valB b else 0) = _
    by_cases k : 1 ≤ valB b ∧ valB b ≤ 600
    · rw [if_pos k]
      obtain ⟨c, r, e, ne⟩ := decimal_head _ k.1
      have e' : b = c :: r := h.2.2.trans e
      rw [if_pos ⟨by rw [e']; simp, h.1, by rw [e']; simpa using ne, h.2.1, k.2⟩]
    · rw [if_neg k]
      by_cases z : valB b = 0
      · rw [z]; split <;> rfl
      · rw [if_neg (fun q => k ⟨by omega, q.2.2.2.2⟩)]
  · rw [if_neg h]
    show 0 = _
    rw [if_neg]
    rintro ⟨h1, h2, h3, h4, h5⟩
    refine h ⟨h2, h4, ?_⟩
    cases b with
    | nil => simp at h1
    | cons c r =>
      have g1 : isDigit c = true := by
        rw [List.all_cons, Bool.and_eq_true] at h4
        exact h4.1
      have g2 : r.all isDigit = true := by
        rw [List.all_cons, Bool.and_eq_true] at h4
        exact h4.2
      have g3 : c ≠ 48 := fun e => h3 (by rw [e]; rfl)
      have q := (decimal_val r.reverse c g1 g3 (by rw [List.reverse_reverse]; exact g2)).1
      rw [List.reverse_reverse] at q
      exact q.symm
/-- the letters -/
theorem signs_get : ∀ k, k < 5 → SIGNS.findIdx? (fun (s : UInt8) => s == SIGNS.getD k 45) = some k := by decide
theorem signs_find (c : UInt8) : (SIGNS.findIdx? (fun (s : UInt8) => s == c) = none ∧ c ∉ SIGNS) ∨ (∃ k, k < 5 ∧ c = SIGNS.getD k 45 ∧ SIGNS.findIdx? (fun (s : UInt8) => s == c) = some k) := by
  by_cases h : c ∈ SIGNS
  · refine .inr ?_
    obtain ⟨k, hk, e⟩ := List.mem_iff_getElem.mp h
    have e' : c = SIGNS.getD k 45 := by rw [List.getD_eq_getElem?_getD, List.getElem?_eq_getElem hk, e]; rfl
    exact ⟨k, hk, e', by rw [e']; exact signs_get k hk⟩
  · refine .inl ⟨?_, h⟩
    rw [List.findIdx?_eq_none_iff]
    intro s hs
    simp only [beq_eq_false_iff_ne]
    intro e
    exact h (e ▸ hs)
/-- a phase's letter as a number -/
def sgn (k : Nat) : Int := (((SIGNS.getD k 45).toNat : Nat) : Int)
def encP (x : Phase) : Int × Int := (sgn x.1, (x.2 : Int))
/-- what phase_of gives -/
def phaseB (b : Bytes) : Int × Int := match phaseIn b with
  | none => (0, 0)
  | some x => encP x
theorem phase_none {b : Bytes} (h : b = [] ∨ (∃ c r, b = c :: r ∧ (c ∉ SIGNS ∨ longN r = 0))) : phaseIn b = none := by
  rcases h with rfl | ⟨c, r, rfl, h⟩
  · rfl
  · show (match SIGNS.findIdx? (fun (s : UInt8) => s == c), numberIn r with
      | some k, some n => if 1 ≤ n ∧ n ≤ LONG then some (k, n) else none
      | _, _ => none) = none
    rcases signs_find c with ⟨e, _⟩ | ⟨k, hk, e1, e2⟩
    · rw [e]
    · rw [e2]
      rcases h with h | h
      · exact absurd (by rw [e1]; clear e2 e1 h; revert k; decide) h
      · unfold longN at h
        cases e : numberIn r with
        | none => rfl
        | some n =>
          rw [e] at h
          have h' : (if 1 ≤ n ∧ n ≤ LONG then n else 0) = 0 := h
          show (if 1 ≤ n ∧ n ≤ LONG then some (k, n) else none) = none
          by_cases z : 1 ≤ n ∧ n ≤ LONG
          · rw [if_pos z] at h'
            omega
          · rw [if_neg z]
theorem phase_some {c : UInt8} {r : Bytes} (h : c ∈ SIGNS) (hl : longN r ≠ 0) : ∃ k, phaseIn (c :: r) = some (k, longN r) ∧ k < 5 ∧ sgn k = ((c.toNat : Nat) : Int) := by
  rcases signs_find c with ⟨_, e⟩ | ⟨k, hk, e1, e2⟩
  · exact absurd h e
  · refine ⟨k, ?_, hk, by rw [e1]; rfl⟩
    show (match SIGNS.findIdx? (fun (s : UInt8) => s == c), numberIn r with
      | some k, some n => if 1 ≤ n ∧ n ≤ LONG then some (k, n) else none
      | _, _ => none) = _
    rw [e2]
    unfold longN at hl ⊢
    cases e : numberIn r with
    | none => rw [e] at hl; exact absurd rfl hl
    | some n =>
      rw [e] at hl
      have hl' : (if 1 ≤ n ∧ n ≤ LONG then n else 0) ≠ 0 := hl
      show (if 1 ≤ n ∧ n ≤ LONG then some (k, n) else none) = some (k, if 1 ≤ n ∧ n ≤ LONG then n else 0)
      by_cases z : 1 ≤ n ∧ n ≤ LONG
      · rw [if_pos z, if_pos z]
      · rw [if_neg z] at hl'
        exact absurd rfl hl'
theorem phase_in {b : Bytes} {x : Phase} (h : phaseIn b = some x) : x.1 < 5 ∧ 1 ≤ x.2 ∧ x.2 ≤ 600 := by
  cases b with
  | nil => cases h
  | cons c r =>
    have h' : (match SIGNS.findIdx? (fun (s : UInt8) => s == c), numberIn r with
      | some k, some n => if 1 ≤ n ∧ n ≤ LONG then some (k, n) else none
      | _, _ => none) = some x := h
    rcases signs_find c with ⟨e, _⟩ | ⟨k, hk, _, e⟩
    · rw [e] at h'
      cases h'
    · rw [e] at h'
      cases e2 : numberIn r with
      | none => rw [e2] at h'; cases h'
      | some n =>
        rw [e2] at h'
        have h2 : (if 1 ≤ n ∧ n ≤ LONG then some (k, n) else none) = some x := h'
        split at h2
        · rename_i z
          cases h2
          exact ⟨hk, z.1, z.2⟩
        · cases h2
/-- what read_rhythm gives behind some words: the phases so far, the words to come from the k-th on -/
theorem from_ok : ∀ {l : List Bytes} {k s : Nat} {r : Rhythm}, phasesFrom k s l = .ok r → r.length = l.length ∧ (∀ x ∈ r, x.1 < 5 ∧ 1 ≤ x.2 ∧ x.2 ≤ 600) ∧ (l ≠ [] → k + l.length ≤ 32)
  | [], k, s, r, h => by
    cases h
    exact ⟨rfl, fun _ z => (nomatch z), fun z => absurd rfl z⟩
  | b :: l, k, s, r, h => by
    have h' : (match phaseIn b with
      | none => Except.error k
      | some x => if PHASES ≤ k ∨ ROUND < s + x.2 then .error k else match phasesFrom (k + 1) (s + x.2) l with
        | .error e => .error e
        | .ok l => .ok (x :: l)) = .ok r := h
    cases e : phaseIn b with
    | none => rw [e] at h'; cases h'
    | some x =>
      rw [e] at h'
      have h2 : (if PHASES ≤ k ∨ ROUND < s + x.2 then Except.error k else match phasesFrom (k + 1) (s + x.2) l with
        | .error e => .error e
        | .ok l => .ok (x :: l)) = .ok r := h'
      split at h2
      · cases h2
      · rename_i z
        cases e2 : phasesFrom (k + 1) (s + x.2) l with
        | error _ => rw [e2] at h2; cases h2
        | ok q =>
          rw [e2] at h2
          cases h2
          obtain ⟨i1, i2, i3⟩ := from_ok e2
          refine ⟨congrArg (· + 1) i1, fun y hy => ?_, fun _ => ?_⟩
          · rcases List.mem_cons.mp hy with rfl | hy
            · exact phase_in e
            · exact i2 y hy
          · have z' : ¬(32 ≤ k ∨ 6000 < s + x.2) := z
            cases l with
            | nil => simp; omega
            | cons c l => have := i3 (by simp); simp at this ⊢; omega
theorem read_ok {b : Bytes} {r : Rhythm} (h : readRhythm b = .ok r) : r ≠ [] ∧ r.length ≤ 32 ∧ ∀ x ∈ r, x.1 < 5 ∧ 1 ≤ x.2 ∧ x.2 ≤ 600 := by
  obtain ⟨h1, h2, h3⟩ := from_ok h
  have n := split_ne b
  have q := h3 n
  refine ⟨fun e => ?_, by omega, h2⟩
  subst e
  have : (split 32 b).length = 0 := h1.symm
  exact n (List.length_eq_zero_iff.mp this)

/-! ### rhythms in time -/
theorem total_pos : ∀ {r : Rhythm}, r ≠ [] → (∀ x ∈ r, 1 ≤ x.2) → 1 ≤ total r
  | [], h, _ => absurd rfl h
  | x :: r, _, h => by
    have := h x List.mem_cons_self
    show 1 ≤ (x.2 :: r.map fun (x : Phase) => x.2).sum
    rw [List.sum_cons]
    omega
theorem total_le : ∀ {r : Rhythm}, (∀ x ∈ r, x.2 ≤ 600) → total r ≤ 600 * r.length
  | [], _ => Nat.le_refl _
  | x :: r, h => by
    have := h x List.mem_cons_self
    have ih := total_le (r := r) fun y hy => h y (List.mem_cons_of_mem _ hy)
    show (x.2 :: r.map fun (x : Phase) => x.2).sum ≤ 600 * (r.length + 1)
    rw [List.sum_cons]
    have e : (r.map fun (x : Phase) => x.2).sum = total r := rfl
    omega

/-! ### texts written -/
/-- the bytes of a number, the last first -/
def figs : Nat → Bytes
  | 0 => []
  | n + 1 => UInt8.ofNat (48 + (n + 1) % 10) :: figs ((n + 1) / 10)
termination_by n => n
theorem figs_rev : ∀ (n : Nat), 1 ≤ n → (figs n).reverse = decimal n
  | n, h => by
    obtain ⟨m, rfl⟩ : ∃ m, n = m + 1 := ⟨n - 1, by omega⟩
    rw [figs, List.reverse_cons]
    by_cases k : m + 1 < 10
    · have e : (m + 1) / 10 = 0 := by omega
      rw [e, figs, dec1 k, Nat.mod_eq_of_lt k]
      rfl
    · rw [figs_rev ((m + 1) / 10) (by omega), ← dec_more (by omega)]
theorem ofNat48 {k : Nat} (h : k < 10) : (((UInt8.ofNat (48 + k)).toNat : Nat) : Int) = 48 + (k : Int) := by
  rw [UInt8.toNat_ofNat']
  have : (48 + k) % 2 ^ 8 = 48 + k := Nat.mod_eq_of_lt (by omega)
  rw [this]
  omega
/-- a turn of text_in's loop -/
def textTurn (colour : Nat) (a : Bytes) (x : Phase) : Bytes := (if a = [] then [] else a ++ [32]) ++ Phase.text (if x.1 = 0 then 0 else colour, x.2)
theorem text_ne (colour : Nat) (a : Bytes) (x : Phase) : textTurn colour a x ≠ [] := by
  unfold textTurn Phase.text
  simp
theorem text_run (colour : Nat) : ∀ (r : Rhythm) (a : Bytes), a ≠ [] → r.foldl (textTurn colour) a = a ++ (r.map fun (x : Phase) => (32 : UInt8) :: Phase.text (if x.1 = 0 then 0 else colour, x.2)).flatten
  | [], a, _ => by simp
  | x :: r, a, h => by
    rw [List.foldl_cons, text_run colour r _ (text_ne colour a x)]
    unfold textTurn
    rw [if_neg h]
    simp
theorem spaced_eq : ∀ (l : List Bytes) (w : Bytes), spaced (w :: l) = w ++ (l.map fun v => (32 : UInt8) :: v).flatten
  | [], w => by simp [spaced]
  | v :: l, w => by
    show w ++ (32 :: spaced (v :: l)) = _
    rw [spaced_eq l v]
    simp
theorem text_eq (colour : Nat) (r : Rhythm) : r.foldl (textTurn colour) [] = Rhythm.text (r.map fun (x : Phase) => (if x.1 = 0 then 0 else colour, x.2)) := by
  cases r with
  | nil => rfl
  | cons x r =>
    rw [List.foldl_cons, text_run colour r _ (text_ne colour [] x)]
    unfold Rhythm.text
    rw [List.map_cons, List.map_cons, spaced_eq]
    unfold textTurn
    rw [if_pos rfl, List.nil_append]
    simp [Function.comp_def]
end Bcn

namespace Bcn
open BnC Bn

/-! ### fields -/
def rowF (x u y : Int) (j : Nat) : List Point := (List.range (u - x + 1).toNat).map fun (i : Nat) => (x + (i : Int), y + (j : Int))
theorem field_eq (x y u v : Int) : field (x, y) (u, v) = (List.range (v - y + 1).toNat).flatMap (rowF x u y) := rfl
theorem range_flat {α : Type} (f : Nat → List α) (n : Nat) : (List.range (n + 1)).flatMap f = (List.range n).flatMap f ++ f n := by
  rw [List.range_succ, List.flatMap_append]
  simp
theorem flat_len {α : Type} (f : Nat → List α) (m : Nat) (h : ∀ i, (f i).length = m) : ∀ n, ((List.range n).flatMap f).length = n * m
  | 0 => by simp
  | n + 1 => by rw [range_flat, List.length_append, flat_len f m h n, h n, Nat.succ_mul]
theorem rowF_len (x u y : Int) (j : Nat) : (rowF x u y j).length = (u - x + 1).toNat := by unfold rowF; simp
theorem mem_field {x y u v : Int} {p : Point} (h : p ∈ field (x, y) (u, v)) : (x ≤ p.1 ∧ p.1 ≤ u) ∧ (y ≤ p.2 ∧ p.2 ≤ v) := by
  rw [field_eq, List.mem_flatMap] at h
  obtain ⟨j, hj, h⟩ := h
  unfold rowF at h
  rw [List.mem_map] at h
  obtain ⟨i, hi, rfl⟩ := h
  rw [List.mem_range] at hi hj
  exact ⟨⟨by show x ≤ x + (i : Int); omega, by show x + (i : Int) ≤ u; omega⟩, ⟨by show y ≤ y + (j : Int); omega, by show y + (j : Int) ≤ v; omega⟩⟩
theorem field_len (x y u v : Int) : (field (x, y) (u, v)).length = (v - y + 1).toNat * (u - x + 1).toNat := by
  rw [field_eq, flat_len _ _ (rowF_len x u y)]

/-! ### counts -/
def cnt (cs : List Coast) (l : Light) (ps : List Point) : List Nat := (List.range 5).map fun (c : Nat) => ((ps.map fun (p : Point) => seenFrom cs l p).filter fun (x : Nat) => x == c).length
theorem cnt_counts (s : Wqatdz.State) (ps : List Point) (l : Light) : Wqatdz.counts s ps l = cnt s.coasts l ps := rfl
theorem cnt_nil (cs : List Coast) (l : Light) : cnt cs l [] = [0, 0, 0, 0, 0] := rfl
theorem cnt_len (cs : List Coast) (l : Light) (ps : List Point) : (cnt cs l ps).length = 5 := by unfold cnt; simp
theorem cnt_get (cs : List Coast) (l : Light) (ps : List Point) {k : Nat} (h : k < 5) : (cnt cs l ps)[k]? = some ((ps.map fun (p : Point) => seenFrom cs l p).filter fun (x : Nat) => x == k).length := by
  unfold cnt
  rw [List.getElem?_map, List.getElem?_range h]
  rfl
theorem cnt_snoc (cs : List Coast) (l : Light) (ps : List Point) (p : Point) (n : Nat) (h : seenFrom cs l p < 5) (hn : (cnt cs l ps)[seenFrom cs l p]? = some n) : cnt cs l (ps ++ [p]) = (cnt cs l ps).set (seenFrom cs l p) (n + 1) := by
  apply List.ext_getElem?
  intro i
  by_cases hi : i < 5
  · rw [cnt_get cs l _ hi]
    by_cases e : i = seenFrom cs l p
    · subst e
      rw [List.getElem?_set_self (by rw [cnt_len]; exact h)]
      rw [cnt_get cs l ps h] at hn
      rw [← Option.some.inj hn]
      simp
    · rw [List.getElem?_set_ne (fun z => e z.symm), cnt_get cs l ps hi]
      have : (seenFrom cs l p == i) = false := by simpa using fun z => e z.symm
      simp [this]
  · rw [List.getElem?_eq_none (by rw [cnt_len]; omega), List.getElem?_eq_none (by rw [List.length_set, cnt_len]; omega)]

/-! ### the best light -/
theorem foldl_max (l : List Nat) : ∀ a, l.foldl max a = max a (l.foldl max 0) := by
  induction l with
  | nil => intro a; simp
  | cons b l ih =>
    intro a
    rw [List.foldl_cons, List.foldl_cons, ih (max a b), ih (max 0 b)]
    omega
theorem max_is {l : List Nat} {m : Int} (hm : m ∈ l.map fun (n : Nat) => (n : Int)) (h : ∀ y ∈ l.map (fun (n : Nat) => (n : Int)), y ≤ m) : m = ((l.foldl max 0 : Nat) : Int) := by
  induction l generalizing m with
  | nil => simp at hm
  | cons a l ih =>
    rw [List.foldl_cons, foldl_max]
    cases l with
    | nil =>
      simp at hm
      simp
      omega
    | cons b l =>
      have h2 : ∃ m', m' ∈ (b :: l).map (fun (n : Nat) => (n : Int)) ∧ (∀ y ∈ (b :: l).map (fun (n : Nat) => (n : Int)), y ≤ m') := by
        clear ih hm h
        induction l generalizing b with
        | nil => exact ⟨b, by simp, by simp⟩
        | cons c l ih2 =>
          obtain ⟨m', h1, h2⟩ := ih2 c
          by_cases hb : m' ≤ (b : Int)
          · refine ⟨b, by simp, fun y hy => ?_⟩
            rw [List.map_cons, List.mem_cons] at hy
            rcases hy with rfl | hy
            · exact Int.le_refl _
            · exact Int.le_trans (h2 y hy) hb
          · refine ⟨m', by rw [List.map_cons]; exact List.mem_cons_of_mem _ h1, fun y hy => ?_⟩
            rw [List.map_cons, List.mem_cons] at hy
            rcases hy with rfl | hy
            · omega
            · exact h2 y hy
      obtain ⟨m', h1, h3⟩ := h2
      have e := ih h1 h3
      have k1 := h m' (by rw [List.map_cons]; exact List.mem_cons_of_mem _ h1)
      have k2 := h (a : Int) (by simp)
      rw [List.map_cons, List.mem_cons] at hm
      rcases hm with hm | hm
      · omega
      · have := h3 m hm
        omega
def bestTurn (b : Option (Nat × List Nat)) (x : Nat × List Nat) : Option (Nat × List Nat) := match b with
  | none => some x
  | some y => if x.2.foldl max 0 < y.2.foldl max 0 then some x else some y
theorem best_eq (s : Wqatdz.State) (ps : List Point) : Wqatdz.bestOf s ps = (s.lights.zipIdx.map fun (x : Light × Nat) => (x.2, cnt s.coasts x.1 ps)).foldl bestTurn none := rfl
theorem zipIdx_take {α : Type} {l : List α} {i : Nat} {x : α} (h : l[i]? = some x) : (l.take (i + 1)).zipIdx = (l.take i).zipIdx ++ [(x, i)] := by
  obtain ⟨h1, h2⟩ := List.getElem?_eq_some_iff.mp h
  rw [List.take_succ_eq_append_getElem h1, h2, List.zipIdx_append]
  simp [List.length_take, Nat.min_eq_left (Nat.le_of_lt h1)]

/-! ### changes -/
def flat3 (l : List (Nat × Nat × Nat)) : List Int := l.flatMap fun (c : Nat × Nat × Nat) => [(c.1 : Int), (c.2.1 : Int), (c.2.2 : Int)]
theorem flat3_app (a b : List (Nat × Nat × Nat)) : flat3 (a ++ b) = flat3 a ++ flat3 b := List.flatMap_append
theorem flat3_len : ∀ (l : List (Nat × Nat × Nat)), (flat3 l).length = 3 * l.length
  | [] => rfl
  | c :: l => by
    have ih := flat3_len l
    show ([(c.1 : Int), (c.2.1 : Int), (c.2.2 : Int)] ++ flat3 l).length = 3 * (l.length + 1)
    rw [List.length_append, ih]
    show 3 + 3 * l.length = _
    omega
/-- those that have changed -/
def newly (i : Nat) (had now : List Nat) : List (Nat × Nat × Nat) := (now.zipIdx.filter fun (x : Nat × Nat) => had.getD x.2 0 != x.1).map fun (x : Nat × Nat) => (i, x.2, x.1)
def nowF (cs : List Coast) (ls : List Light) (p : Point) : List Nat := ls.map fun (x : Light) => seenFrom cs x p
theorem changes_cons (cs : List Coast) (ls : List Light) (had : List Nat) (i : Nat) (p : Point) (l : List Point) : changes cs ls had i (p :: l) = newly i had (nowF cs ls p) ++ changes cs ls (nowF cs ls p) (i + 1) l := rfl
theorem newly_take {i : Nat} {had now : List Nat} {j c : Nat} (h : now[j]? = some c) : newly i had (now.take (j + 1)) = newly i had (now.take j) ++ (if had.getD j 0 != c then [(i, j, c)] else []) := by
  unfold newly
  rw [zipIdx_take h, List.filter_append, List.map_append]
  congr 1
  cases e : (had.getD j 0 != c) with
  | true =>
    rw [List.filter_cons, if_pos (show ((fun (x : Nat × Nat) => had.getD x.2 0 != x.1) (c, j)) = true from e), if_pos rfl]
    rfl
  | false =>
    rw [List.filter_cons, if_neg (show ¬((fun (x : Nat × Nat) => had.getD x.2 0 != x.1) (c, j)) = true from by show ¬ (had.getD j 0 != c) = true; rw [e]; decide), if_neg (by decide)]
    rfl
theorem newly_zero (i n : Nat) (now : List Nat) : newly i [] now = newly i (List.replicate n 0) now := by
  unfold newly
  congr 2
  funext x
  rw [List.getD_eq_getElem?_getD, List.getD_eq_getElem?_getD, List.getElem?_replicate]
  split <;> rfl
theorem changes_zero (cs : List Coast) (ls : List Light) (n : Nat) : ∀ (l : List Point), changes cs ls [] 0 l = changes cs ls (List.replicate n 0) 0 l
  | [] => rfl
  | p :: l => by rw [changes_cons, changes_cons, newly_zero 0 n]
theorem newly_len (i : Nat) (had now : List Nat) : (newly i had now).length ≤ now.length := by
  unfold newly
  rw [List.length_map]
  have := List.length_filter_le (fun (x : Nat × Nat) => had.getD x.2 0 != x.1) now.zipIdx
  rw [List.length_zipIdx] at this
  exact this

/-! ### shown -/
def flat2 (l : List (Nat × Nat)) : List Int := l.flatMap fun (x : Nat × Nat) => [(x.2 : Int), (x.1 : Int)]
theorem flat2_app (a b : List (Nat × Nat)) : flat2 (a ++ b) = flat2 a ++ flat2 b := List.flatMap_append
theorem flat2_len : ∀ (l : List (Nat × Nat)), (flat2 l).length = 2 * l.length
  | [] => rfl
  | c :: l => by
    have ih := flat2_len l
    show ([(c.2 : Int), (c.1 : Int)] ++ flat2 l).length = 2 * (l.length + 1)
    rw [List.length_append, ih]
    show 2 + 2 * l.length = _
    omega
def lit (l : List Nat) : List (Nat × Nat) := l.zipIdx.filter fun (x : Nat × Nat) => x.1 != 0
theorem lit_take {l : List Nat} {j c : Nat} (h : l[j]? = some c) : lit (l.take (j + 1)) = lit (l.take j) ++ (if c != 0 then [(c, j)] else []) := by
  unfold lit
  rw [zipIdx_take h, List.filter_append]
  congr 1
  cases e : (c != 0) with
  | true => rw [List.filter_cons, if_pos (show ((fun (x : Nat × Nat) => x.1 != 0) (c, j)) = true from e), if_pos rfl]; rfl
  | false => rw [List.filter_cons, if_neg (by show ¬ (c != 0) = true; rw [e]; decide), if_neg (by decide)]; rfl
theorem lit_len (l : List Nat) : (lit l).length ≤ l.length := by
  unfold lit
  have := List.length_filter_le (fun (x : Nat × Nat) => x.1 != 0) l.zipIdx
  rw [List.length_zipIdx] at this
  exact this
end Bcn

namespace Bcn
open BnC Bn Wqatdz

/-! ### answers -/
def ansL (a : Ans) : List Int := a.ret :: a.nums
def GoodLs (ls : List Light) : Prop := (∀ l ∈ ls, GoodL l) ∧ ls.length ≤ 24
def GoodCs (cs : List Coast) : Prop := (∀ c ∈ cs, GoodC c) ∧ cs.length ≤ 64
structure GoodSt (s : State) : Prop where
  ls : GoodLs s.lights
  cs : GoodCs s.coasts
theorem place_iff (x y : Int) : isPlace (x, y) = true ↔ (-10000 ≤ x ∧ x ≤ 10000) ∧ (-10000 ≤ y ∧ y ≤ 10000) := by
  unfold isPlace near FAR
  simp [Bool.and_eq_true]

/-! ### light -/
theorem light_bad {s : State} {x y far : Int} {b : Bytes} {l : List Int} (h : isPlace (x, y) = false ∨ ¬(1 ≤ far ∧ far ≤ 20000)) (_h0 : 0 ≤ far) : lightOf s (x, y) far.toNat b l = (s, BAD) := by
  unfold lightOf
  cases sectorsIn l with
  | none => rfl
  | some c =>
    have : isPlace (x, y) = false ∨ far.toNat = 0 ∨ RANGE < far.toNat ∨ c = [] ∨ SECTORS < c.length ∨ inOrder c = false := by
      rcases h with h | h
      · exact .inl h
      · refine .inr ?_
        unfold RANGE
        omega
    show (if _ then _ else _) = _
    rw [if_pos this]
theorem light_bad2 {s : State} {p : Point} {r : Nat} {b : Bytes} {l : List Int} (h : areB (rawOf l) = false) : lightOf s p r b l = (s, BAD) := by
  unfold lightOf
  cases e : sectorsIn l with
  | none => rfl
  | some c =>
    show (if _ then _ else _) = _
    rw [if_pos]
    by_cases h1 : c = []
    · exact .inr (.inr (.inr (.inl h1)))
    · by_cases h2 : c.length ≤ 12
      · cases h3 : inOrder c with
        | false => exact .inr (.inr (.inr (.inr (.inr rfl))))
        | true =>
          have := (areB_iff l).mpr ⟨c, e, h1, h2, h3⟩
          rw [h] at this
          cases this
      · exact .inr (.inr (.inr (.inr (.inl (show 12 < c.length by omega)))))
theorem light_go {s : State} {x y far : Int} {b : Bytes} {l : List Int} (h1 : isPlace (x, y) = true) (h2 : 1 ≤ far ∧ far ≤ 20000) (h3 : areB (rawOf l) = true) : ∃ c, sectorsIn l = some c ∧ c ≠ [] ∧ c.length ≤ 12 ∧ inOrder c = true ∧
    lightOf s (x, y) far.toNat b l = (if TEXT < b.length then (s, says (-2)) else match readRhythm b with
    | .error k => (s, tells (-6) [int k])
    | .ok h => if (h.any fun (x : Phase) => decide (1 < x.1)) = true then (s, says (-8)) else if LIGHTS ≤ s.lights.length then (s, says (-5)) else ({ s with lights := s.lights ++ [⟨(x, y), far.toNat, h, c⟩] }, says (int s.lights.length))) := by
  obtain ⟨c, e, n, hl, ho⟩ := (areB_iff l).mp h3
  refine ⟨c, e, n, hl, ho, ?_⟩
  unfold lightOf
  rw [e]
  refine if_neg ?_
  rintro (z | z | z | z | z | z)
  · rw [h1] at z; cases z
  · omega
  · have : 20000 < far.toNat := z; omega
  · exact n z
  · have : 12 < c.length := z; omega
  · rw [ho] at z; cases z
theorem good_new {x y far : Int} {b : Bytes} {l : List Int} {c : List Sector} {r : Rhythm} (h1 : isPlace (x, y) = true) (h2 : 1 ≤ far ∧ far ≤ 20000) (hc : sectorsIn l = some c) (n : c ≠ []) (hl : c.length ≤ 12) (ho : inOrder c = true) (hr : readRhythm b = .ok r) (hw : (r.any fun (x : Phase) => decide (1 < x.1)) = false) :
    GoodL ⟨(x, y), far.toNat, r, c⟩ := by
  obtain ⟨p1, p2⟩ := (place_iff x y).mp h1
  obtain ⟨r1, r2, r3⟩ := read_ok hr
  refine ⟨p1, p2, ⟨by show 1 ≤ far.toNat; omega, by show far.toNat ≤ 20000; omega⟩, n, hl, ho, (rawOf_enc hc).2, fun x hx => ?_, r1, r2⟩
  have q := List.any_eq_false.mp hw x hx
  rw [decide_eq_true_eq] at q
  have := r3 x hx
  omega

/-! ### what's told, in pairs -/
def pairsI : List Int → List (Int × Int)
  | a :: b :: r => (a, b) :: pairsI r
  | _ => []
theorem pairsI_len : ∀ (l : List Int), (pairsI l).length = l.length / 2
  | a :: b :: r => by
    show (pairsI r).length + 1 = (r.length + 2) / 2
    rw [pairsI_len r]
    omega
  | [] => rfl
  | [_] => by simp [pairsI]
theorem pairsI_at : ∀ {l : List Int} {i : Nat}, i < (pairsI l).length → ∃ x y, l[2 * i]? = some x ∧ l[2 * i + 1]? = some y ∧ (pairsI l)[i]? = some (x, y)
  | x :: y :: r, 0, _ => ⟨x, y, rfl, rfl, rfl⟩
  | x :: y :: r, i + 1, hi => by
    obtain ⟨x', y', h1, h2, h4⟩ := pairsI_at (l := r) (i := i) (by simpa [pairsI] using hi)
    have e1 : 2 * (i + 1) = 2 * i + 1 + 1 := by omega
    refine ⟨x', y', ?_, ?_, h4⟩
    · rw [e1]; exact h1
    · rw [e1]; exact h2
  | [], _, hi => absurd hi (Nat.not_lt_zero _)
  | [_], _, hi => by simp [pairsI] at hi
def encT (x : Nat × Nat) : Int × Int := ((x.1 : Int), (x.2 : Int))
theorem toldIn_odd : ∀ (l : List Nat), l.length % 2 ≠ 0 → toldIn l = none
  | a :: b :: r, h => by
    have ih := toldIn_odd r (by simp only [List.length_cons] at h; omega)
    unfold toldIn
    rw [ih]
    split <;> rfl
  | [], h => absurd rfl h
  | [_], _ => rfl
theorem toldIn_eq : ∀ (l : List Int), (∀ z ∈ l, 0 ≤ z) → l.length % 2 = 0 → match toldIn (l.map Int.toNat) with
    | none => ((pairsI l).any fun p => decide (4 < p.2)) = true
    | some t => pairsI l = t.map encT ∧ ((pairsI l).any fun p => decide (4 < p.2)) = false
  | a :: b :: r, hz, h => by
    have ih := toldIn_eq r (fun z hz' => hz z (List.mem_cons_of_mem _ (List.mem_cons_of_mem _ hz'))) (by simp only [List.length_cons] at h; omega)
    have ha := hz a (by simp)
    have hb := hz b (by simp)
    show (match (if b.toNat ≤ 4 then (toldIn (r.map Int.toNat)).map fun (l : Told) => (a.toNat, b.toNat) :: l else none) with
      | none => (decide (4 < b) || (pairsI r).any fun p => decide (4 < p.2)) = true
      | some t => (a, b) :: pairsI r = t.map encT ∧ (decide (4 < b) || (pairsI r).any fun p => decide (4 < p.2)) = false)
    by_cases c : b.toNat ≤ 4
    · rw [if_pos c]
      have c' : ¬ 4 < b := by omega
      rw [decide_eq_false c', Bool.false_or]
      cases e : toldIn (r.map Int.toNat) with
      | none => rw [e] at ih; exact ih
      | some t =>
        rw [e] at ih
        refine ⟨?_, ih.2⟩
        show (a, b) :: pairsI r = ((a.toNat : Int), (b.toNat : Int)) :: t.map encT
        rw [ih.1, Int.toNat_of_nonneg ha, Int.toNat_of_nonneg hb]
    · rw [if_neg c, decide_eq_true (by omega : 4 < b)]
      rfl
  | [], _, _ => ⟨rfl, rfl⟩
  | [_], _, h => by simp at h
/-- field_fault -/
def faultI (s : State) (x y u v : Int) (t : List Int) : Int :=
  if isPlace (x, y) = false ∨ isPlace (u, v) = false ∨ u < x ∨ v < y then -1
  else if 1024 < (u - x + 1) * (v - y + 1) ∨ t.length % 2 ≠ 0 ∨ 48 < t.length then -1
  else if ((pairsI t).any fun p => decide (4 < p.2)) = true then -1
  else if ((pairsI t).any fun p => decide ((s.lights.length : Int) ≤ p.1)) = true then -4
  else 0
theorem ofField_eq {s : State} {x y u v : Int} {t : List Int} (hz : ∀ z ∈ t, 0 ≤ z) (f : Told → Ans) :
    (faultI s x y u v t = -1 ∧ ofField s (x, y) (u, v) (t.map Int.toNat) f = BAD) ∨ (faultI s x y u v t = -4 ∧ ofField s (x, y) (u, v) (t.map Int.toNat) f = NONE) ∨
    (faultI s x y u v t = 0 ∧ ∃ w, pairsI t = w.map encT ∧ w.length ≤ 24 ∧ (∀ p ∈ w, p.1 < s.lights.length) ∧ isPlace (x, y) = true ∧ isPlace (u, v) = true ∧ x ≤ u ∧ y ≤ v ∧ (u - x + 1) * (v - y + 1) ≤ 1024 ∧ ofField s (x, y) (u, v) (t.map Int.toNat) f = f w) := by
  have e0 : ofField s (x, y) (u, v) (t.map Int.toNat) f = (if isPlace (x, y) = false ∨ isPlace (u, v) = false ∨ u < x ∨ v < y ∨ (FIELD : Int) < (u - x + 1) * (v - y + 1) then BAD else match toldIn (t.map Int.toNat) with
        | none => BAD
        | some u => if TOLD < u.length then BAD else if (u.any fun (x : Nat × Nat) => decide (s.lights.length ≤ x.1)) = true then NONE else f u) := rfl
  rw [e0]
  clear e0
  unfold faultI
  by_cases h1 : isPlace (x, y) = false ∨ isPlace (u, v) = false ∨ u < x ∨ v < y
  · refine .inl ⟨by rw [if_pos h1], ?_⟩
    rw [if_pos (h1.imp id (Or.imp id (Or.imp id Or.inl)))]
  · rw [if_neg h1]
    by_cases h2 : 1024 < (u - x + 1) * (v - y + 1)
    · refine .inl ⟨by rw [if_pos (.inl h2)], ?_⟩
      rw [if_pos (.inr (.inr (.inr (.inr h2))))]
    · have n2 : ¬(isPlace (x, y) = false ∨ isPlace (u, v) = false ∨ u < x ∨ v < y ∨ (FIELD : Int) < (u - x + 1) * (v - y + 1)) := fun z => by
        rcases z with z | z | z | z | z
        · exact h1 (.inl z)
        · exact h1 (.inr (.inl z))
        · exact h1 (.inr (.inr (.inl z)))
        · exact h1 (.inr (.inr (.inr z)))
        · exact h2 z
      rw [if_neg n2]
      by_cases h3 : t.length % 2 ≠ 0
      · refine .inl ⟨by rw [if_pos (.inr (.inl h3))], ?_⟩
        rw [toldIn_odd _ (by rw [List.length_map]; exact h3)]
      · have e3 : t.length % 2 = 0 := by omega
        have q := toldIn_eq t hz e3
        by_cases h4 : 48 < t.length
        · refine .inl ⟨by rw [if_pos (.inr (.inr h4))], ?_⟩
          cases e : toldIn (t.map Int.toNat) with
          | none => rfl
          | some w =>
            rw [e] at q
            have hl := pairsI_len t
            rw [q.1, List.length_map] at hl
            show (if TOLD < w.length then BAD else _) = _
            rw [if_pos (show TOLD < w.length by show 24 < w.length; omega)]
        · rw [if_neg (by omega)]
          cases e : toldIn (t.map Int.toNat) with
          | none =>
            rw [e] at q
            exact .inl ⟨by rw [if_pos q], rfl⟩
          | some w =>
            rw [e] at q
            obtain ⟨q1, q2⟩ := q
            have hl := pairsI_len t
            rw [q1, List.length_map] at hl
            have hw : w.length ≤ 24 := by omega
            rw [if_neg (by rw [q2]; decide)]
            have ea : ((pairsI t).any fun p => decide ((s.lights.length : Int) ≤ p.1)) = (w.any fun (x : Nat × Nat) => decide (s.lights.length ≤ x.1)) := by
              rw [q1, List.any_map]
              congr 1
              funext p
              show decide ((s.lights.length : Int) ≤ (p.1 : Int)) = decide (s.lights.length ≤ p.1)
              rw [decide_eq_decide]
              exact Int.ofNat_le
            rw [ea]
            show _ ∨ (_ ∧ (if TOLD < w.length then BAD else _) = _) ∨ _
            cases ew : (w.any fun (x : Nat × Nat) => decide (s.lights.length ≤ x.1)) with
            | true =>
              refine .inr (.inl ⟨by rw [if_pos rfl], ?_⟩)
              rw [if_neg (show ¬ TOLD < w.length by show ¬ 24 < w.length; omega), if_pos rfl]
            | false =>
              refine .inr (.inr ⟨by rw [if_neg (by decide)], w, q1, hw, fun p hp => ?_, ?_, ?_, by omega, by omega, by omega, ?_⟩)
              · have := List.any_eq_false.mp ew p hp
                rw [decide_eq_true_eq] at this
                omega
              · cases e : isPlace (x, y) with
                | true => rfl
                | false => exact absurd (.inl e) h1
              · cases e : isPlace (u, v) with
                | true => rfl
                | false => exact absurd (.inr (.inl e)) h1
              · show (if TOLD < w.length then BAD else if (w.any fun (x : Nat × Nat) => decide (s.lights.length ≤ x.1)) = true then NONE else f w) = f w
                rw [if_neg (show ¬ TOLD < w.length by show ¬ 24 < w.length; omega), ew, if_neg (by decide)]

/-! ### a way -/
theorem between_ends {x u : Int} {n i : Nat} (hi : i ≤ n) (h1 : -10000 ≤ x ∧ x ≤ 10000) (h2 : -10000 ≤ x + (n : Int) * u ∧ x + (n : Int) * u ≤ 10000) : -10000 ≤ x + (i : Int) * u ∧ x + (i : Int) * u ≤ 10000 := by
  by_cases h : 0 ≤ u
  · have a : 0 ≤ (i : Int) * u := Int.mul_nonneg (by omega) h
    have b : (i : Int) * u ≤ (n : Int) * u := Int.mul_le_mul_of_nonneg_right (by omega) h
    omega
  · have a : (i : Int) * u ≤ 0 := Int.mul_nonpos_of_nonneg_of_nonpos (by omega) (by omega)
    have b : (n : Int) * u ≤ (i : Int) * u := Int.mul_le_mul_of_nonpos_right (by omega) (by omega)
    omega
end Bcn

/-! # the calls in a list of numbers -/
namespace Bcn
open BnC Bn Wqatdz

theorem whole_id (c : List (List Int)) : PyWqatdz.whole c = c := by
  unfold PyWqatdz.whole
  split <;> rfl
theorem whole_map (cs : List (List (List Int))) : cs.map PyWqatdz.whole = cs := by
  rw [show PyWqatdz.whole = id from funext whole_id, List.map_id]
def numsL : List Int := [3, 4, 2, 3, 3, 4, 5, 4, 0]
def rowsL : List Int := [2, 0, 0, 0, 0, 1, 0, 1, 0]
/-- the nine calls -/
inductive Nine : Int → List Int → List (List Int) → Call → Prop
  | light {x y far : Int} {b s : List Int} : 0 ≤ far → (∀ z ∈ b, 0 ≤ z ∧ z ≤ 255) → b.length ≤ 4000 → s.length ≤ 4000 → Nine 0 [x, y, far] [b, s] (.light x y far.toNat (WqatdzNeutral.bytes b) s)
  | coast {x y u v : Int} : Nine 1 [x, y, u, v] [] (.coast x y u v)
  | seen {x y : Int} : Nine 2 [x, y] [] (.seen x y)
  | at_ {z x y : Int} : 0 ≤ z → Nine 3 [z, x, y] [] (.at_ z.toNat x y)
  | rhythm {i x y : Int} : 0 ≤ i → Nine 4 [i, x, y] [] (.rhythm i.toNat x y)
  | where_ {x y u v : Int} {t : List Int} : (∀ z ∈ t, 0 ≤ z) → t.length ≤ 4000 → Nine 5 [x, y, u, v] [t] (.where_ x y u v (t.map Int.toNat))
  | track {x y u v n : Int} : 0 ≤ n → Nine 6 [x, y, u, v, n] [] (.track x y u v n.toNat)
  | tell {x y u v : Int} {t : List Int} : (∀ z ∈ t, 0 ≤ z) → t.length ≤ 4000 → Nine 7 [x, y, u, v] [t] (.tell x y u v (t.map Int.toNat))
  | clear : Nine 8 [] [] .clear
theorem shape_inv {p : Int} {n k : Nat} (h : PyWqatdz.shape p = some (n, k)) : ∃ j : Nat, p = (j : Int) ∧ numsL[j]? = some (n : Int) ∧ rowsL[j]? = some (k : Int) ∧ n ≤ 5 ∧ k ≤ 2 := by
  unfold PyWqatdz.shape at h
  repeat' split at h
  all_goals first
    | (cases h; done)
    | (cases h; rename_i e; subst e; first | exact ⟨0, rfl, rfl, rfl, by decide, by decide⟩ | exact ⟨1, rfl, rfl, rfl, by decide, by decide⟩ | exact ⟨2, rfl, rfl, rfl, by decide, by decide⟩ | exact ⟨3, rfl, rfl, rfl, by decide, by decide⟩ | exact ⟨4, rfl, rfl, rfl, by decide, by decide⟩ | exact ⟨5, rfl, rfl, rfl, by decide, by decide⟩ | exact ⟨6, rfl, rfl, rfl, by decide, by decide⟩ | exact ⟨7, rfl, rfl, rfl, by decide, by decide⟩ | exact ⟨8, rfl, rfl, rfl, by decide, by decide⟩)
theorem rows_succ {k : Nat} {r t : List Int} {xs : List (List Int)} (h : PyFlat.rows (k + 1) r = some (xs, t)) : ∃ n r' xs', r = n :: r' ∧ 0 ≤ n ∧ n.toNat ≤ r'.length ∧ xs = r'.take n.toNat :: xs' ∧ PyFlat.rows k (r'.drop n.toNat) = some (xs', t) := by
  unfold PyFlat.rows at h
  cases r with
  | nil => cases h
  | cons n r' =>
    unfold PyFlat.row at h
    by_cases c : 0 ≤ n ∧ n.toNat ≤ r'.length
    · simp only [if_pos c] at h
      cases e : PyFlat.rows k (r'.drop n.toNat) with
      | none => rw [e] at h; cases h
      | some q =>
        obtain ⟨xs', t'⟩ := q
        rw [e] at h
        cases h
        exact ⟨n, r', xs', rfl, c.1, c.2, rfl, e⟩
    · simp only [if_neg c] at h
      cases h
theorem rows_len : ∀ {k : Nat} {r t : List Int} {xs : List (List Int)}, PyFlat.rows k r = some (xs, t) → xs.length = k
  | 0, r, t, xs, h => by
    cases h
    rfl
  | k + 1, r, t, xs, h => by
    obtain ⟨n, r', xs', _, _, _, e, q⟩ := rows_succ h
    rw [e, List.length_cons, rows_len q]
theorem rows_drop : ∀ {k : Nat} {r t : List Int} {xs : List (List Int)}, PyFlat.rows k r = some (xs, t) → t.length ≤ r.length ∧ t = r.drop (r.length - t.length)
  | 0, r, t, xs, h => by
    cases h
    refine ⟨Nat.le_refl _, ?_⟩
    rw [Nat.sub_self]
    rfl
  | k + 1, r, t, xs, h => by
    obtain ⟨n, r', xs', e1, _, hn, e, q⟩ := rows_succ h
    obtain ⟨q1, q2⟩ := rows_drop q
    rw [List.length_drop] at q1 q2
    subst e1
    refine ⟨by rw [List.length_cons]; omega, ?_⟩
    rw [List.drop_drop] at q2
    have : (n :: r').length - t.length = (n.toNat + (r'.length - n.toNat - t.length)) + 1 := by rw [List.length_cons]; omega
    rw [this, List.drop_succ_cons]
    exact q2
theorem call_inv {p : Int} {r t : List Int} {c : List (List Int)} (h : PyFlat.call PyWqatdz.shape (p :: r) = some (c, t)) : ∃ n k xs, PyWqatdz.shape p = some (n, k) ∧ n ≤ r.length ∧ PyFlat.rows k (r.drop n) = some (xs, t) ∧ c = (p :: r.take n) :: xs := by
  unfold PyFlat.call at h
  cases e : PyWqatdz.shape p with
  | none => simp only [e] at h; cases h
  | some q =>
    obtain ⟨n, k⟩ := q
    simp only [e] at h
    by_cases l : r.length < n
    · rw [if_pos l] at h
      cases h
    · rw [if_neg l] at h
      cases e2 : PyFlat.rows k (r.drop n) with
      | none => simp only [e2] at h; cases h
      | some q =>
        obtain ⟨xs, t'⟩ := q
        simp only [e2] at h
        cases h
        exact ⟨n, k, xs, rfl, by omega, e2, rfl⟩
theorem within_iff {lo hi z : Int} : PyInside.within lo hi z = true ↔ lo ≤ z ∧ z ≤ hi := by
  unfold PyInside.within
  rw [Bool.and_eq_true, decide_eq_true_iff, decide_eq_true_iff]
theorem nat_of {z : Int} {n : Nat} (h : WqatdzNeutral.natural z n = true) : 0 ≤ z := by
  unfold WqatdzNeutral.natural at h
  rw [Bool.and_eq_true, decide_eq_true_iff] at h
  exact h.1
theorem lists1 {lo hi : Int} {m n : Nat} {b : List (Int × Int × Nat × Nat)} {r : List Int} {rs : List (List Int)} (h : PyInside.lists ((lo, hi, m, n) :: b) (r :: rs) = true) : r.length ≤ n ∧ (∀ z ∈ r, lo ≤ z ∧ z ≤ hi) ∧ PyInside.lists b rs = true := by
  unfold PyInside.lists at h
  rw [Bool.and_eq_true, Bool.and_eq_true, Bool.and_eq_true, decide_eq_true_iff, decide_eq_true_iff, List.all_eq_true] at h
  exact ⟨h.1.1.2, fun z hz => within_iff.mp (h.1.2 z hz), h.2⟩
theorem nine_of {p : Int} {ns : List Int} {xs : List (List Int)} {n k : Nat} (hs : PyWqatdz.shape p = some (n, k)) (hn : ns.length = n) (hk : xs.length = k) (hi : PyInside.call PyWqatdz.bound ((p :: ns) :: xs) = true) (ha : WqatdzNeutral.asked1 ((p :: ns) :: xs) = true) :
    ∃ x, Nine p ns xs x ∧ WqatdzNeutral.callOf ((p :: ns) :: xs) = some x := by
  unfold PyWqatdz.shape at hs
  repeat' split at hs
  all_goals first | (cases hs; done) | cases hs
  · subst_vars
    match ns, xs, hn, hk with
    | [x, y, far], [b, s], _, _ =>
      have q : (PyInside.each [(-2147483648, 2147483647), (-2147483648, 2147483647), (0, 4294967295)] [x, y, far] && PyInside.lists [(0, 255, 0, 4000), (-2147483648, 2147483647, 0, 4000)] [b, s]) = true := hi
      rw [Bool.and_eq_true] at q
      obtain ⟨l1, l2, q2⟩ := lists1 q.2
      obtain ⟨l3, l4, _⟩ := lists1 q2
      have a : (WqatdzNeutral.whole32 x && WqatdzNeutral.whole32 y && WqatdzNeutral.natural far 32 && b.all (fun (z : Int) => WqatdzNeutral.natural z 8) && s.all (fun (z : Int) => WqatdzNeutral.whole32 z)) = true := ha
      rw [Bool.and_eq_true, Bool.and_eq_true, Bool.and_eq_true] at a
      exact ⟨_, .light (nat_of a.1.1.2) l2 l1 l3, rfl⟩
  · subst_vars
    match ns, xs, hn, hk with
    | [x, y, u, v], [], _, _ => exact ⟨_, .coast, rfl⟩
  · subst_vars
    match ns, xs, hn, hk with
    | [x, y], [], _, _ => exact ⟨_, .seen, rfl⟩
  · subst_vars
    match ns, xs, hn, hk with
    | [z, x, y], [], _, _ =>
      have a : (WqatdzNeutral.natural z 32 && WqatdzNeutral.whole32 x && WqatdzNeutral.whole32 y) = true := ha
      rw [Bool.and_eq_true, Bool.and_eq_true] at a
      exact ⟨_, .at_ (nat_of a.1.1), rfl⟩
  · subst_vars
    match ns, xs, hn, hk with
    | [z, x, y], [], _, _ =>
      have a : (WqatdzNeutral.natural z 32 && WqatdzNeutral.whole32 x && WqatdzNeutral.whole32 y) = true := ha
      rw [Bool.and_eq_true, Bool.and_eq_true] at a
      exact ⟨_, .rhythm (nat_of a.1.1), rfl⟩
  · subst_vars
    match ns, xs, hn, hk with
    | [x, y, u, v], [t], _, _ =>
      have q : (PyInside.each [(-2147483648, 2147483647), (-2147483648, 2147483647), (-2147483648, 2147483647), (-2147483648, 2147483647)] [x, y, u, v] && PyInside.lists [(0, 4294967295, 0, 4000)] [t]) = true := hi
      rw [Bool.and_eq_true] at q
      obtain ⟨l1, l2, _⟩ := lists1 q.2
      exact ⟨_, .where_ (fun z hz => (l2 z hz).1) l1, rfl⟩
  · subst_vars
    match ns, xs, hn, hk with
    | [x, y, u, v, n], [], _, _ =>
      have a : (WqatdzNeutral.whole32 x && WqatdzNeutral.whole32 y && WqatdzNeutral.whole32 u && WqatdzNeutral.whole32 v && WqatdzNeutral.natural n 32) = true := ha
      rw [Bool.and_eq_true] at a
      exact ⟨_, .track (nat_of a.2), rfl⟩
  · subst_vars
    match ns, xs, hn, hk with
    | [x, y, u, v], [t], _, _ =>
      have q : (PyInside.each [(-2147483648, 2147483647), (-2147483648, 2147483647), (-2147483648, 2147483647), (-2147483648, 2147483647)] [x, y, u, v] && PyInside.lists [(0, 4294967295, 0, 4000)] [t]) = true := hi
      rw [Bool.and_eq_true] at q
      obtain ⟨l1, l2, _⟩ := lists1 q.2
      exact ⟨_, .tell (fun z hz => (l2 z hz).1) l1, rfl⟩
  · subst_vars
    match ns, xs, hn, hk with
    | [], [], _, _ => exact ⟨_, .clear, rfl⟩
theorem step_of {c : List (List Int)} {x : Call} (h : WqatdzNeutral.callOf c = some x) (s : State) : WqatdzNeutral.step s c = ((Wqatdz.step s x).1, ansL (Wqatdz.step s x).2) := by
  unfold WqatdzNeutral.step
  rw [h]
  rfl
/-- one call more -/
theorem calls_inv {f : Nat} {p : Int} {r : List Int} {rest : List (List (List Int))} (h : PyFlat.calls PyWqatdz.shape f (p :: r) = some rest) : ∃ f' c t cs, PyFlat.call PyWqatdz.shape (p :: r) = some (c, t) ∧ PyFlat.calls PyWqatdz.shape f' t = some cs ∧ rest = c :: cs := by
  cases f with
  | zero => cases h
  | succ f =>
    unfold PyFlat.calls at h
    cases e : PyFlat.call PyWqatdz.shape (p :: r) with
    | none => simp only [e] at h; cases h
    | some q =>
      obtain ⟨c, t⟩ := q
      simp only [e] at h
      cases e2 : PyFlat.calls PyWqatdz.shape f t with
      | none => simp only [e2] at h; cases h
      | some cs =>
        simp only [e2] at h
        cases h
        exact ⟨f, c, t, cs, rfl, e2, rfl⟩
theorem calls_nil {f : Nat} {rest : List (List (List Int))} (h : PyFlat.calls PyWqatdz.shape f [] = some rest) : rest = [] := by
  cases f <;> (cases h; rfl)
theorem told_cons (a : List Int) (l : List (List Int)) : PyFlat.told (a :: l) = ((a.length : Int) :: a) ++ PyFlat.told l := rfl
/-- what may be asked, in the words of the walk -/
theorem asked_inv {l : List Int} (h : PyWqatdz.answers_asked l = true) : ∃ raw, PyFlat.calls PyWqatdz.shape l.length l = some raw ∧ PyWqatdz.answers l = PyFlat.told (PyFlat.played WqatdzNeutral.step WqatdzNeutral.start raw) ∧
    (∀ c ∈ raw, PyInside.call PyWqatdz.bound c = true ∧ WqatdzNeutral.asked1 c = true) ∧ (PyWqatdz.answers l).length ≤ 10000000 := by
  unfold PyWqatdz.answers_asked at h
  cases e : PyFlat.calls PyWqatdz.shape l.length l with
  | none => simp only [e] at h; cases h
  | some raw =>
    simp only [e] at h
    rw [Bool.and_eq_true, Bool.and_eq_true, Bool.and_eq_true, Bool.and_eq_true, whole_map] at h
    obtain ⟨⟨⟨⟨h1, h2⟩, h3⟩, h4⟩, h5⟩ := h
    refine ⟨raw, rfl, ?_, fun c hc => ⟨List.all_eq_true.mp h3 c hc, ?_⟩, of_decide_eq_true h5⟩
    · unfold PyWqatdz.answers PyWqatdz.calls
      rw [e]
      show PyFlat.told (PyFlat.played _ _ (raw.map PyWqatdz.whole)) = _
      rw [whole_map]
    · unfold WqatdzNeutral.asked at h4
      rw [Bool.and_eq_true, Bool.and_eq_true, Bool.and_eq_true, Bool.and_eq_true] at h4
      exact List.all_eq_true.mp h4.1.1.1.1 c hc
end Bcn

/-! # The walk: words of its own over the hand layer -/
namespace Bcw
open PySem PySem.Spec PyProof.Rows L2 Evl

/-! ### rules that the layer lacks -/
/-- a list compared with an empty one -/
def rEqNil (K : PySem.W.Frag) : R2 := fun x y H Q => ∃ a b xs, x = .ref a ∧ y = .ref b ∧ SqL K H a xs ∧ SqL K H b [] ∧ Q (.bl xs.isEmpty) H
def rNeNil (K : PySem.W.Frag) : R2 := fun x y H Q => ∃ a b xs, x = .ref a ∧ y = .ref b ∧ SqL K H a xs ∧ SqL K H b [] ∧ Q (.bl (!xs.isEmpty)) H
section
variable {X : Cx}
theorem op_eqNil (hu : X.A.units + 64 < cLine) : OpR X (compareOp .Eq) (rEqNil X.K) := by
  intro pins s σ H x y v u Q I rx ry h
  obtain ⟨a, b, xs, rfl, rfl, hx, hy, q⟩ := h
  cases rx
  cases ry
  obtain ⟨its, r, pl, hz⟩ := I.list hx
  obtain ⟨its2, r2, pl2, hz2⟩ := I.list hy
  cases r2
  cases r with
  | nil =>
    exact SeqAt.eq_listAt (e := fun _ => true) pl.isList pl2.isList rfl (by omega) (fun j h1 h2 => absurd h1 (Nat.not_lt_zero _)) ⟨.bl _, H, I, rfl, q⟩
  | cons r t =>
    exact SeqAt.eq_list_lengthsAt pl.isList pl2.isList (by simp) (by omega) ⟨.bl _, H, I, rfl, q⟩
theorem op_neNil (hu : X.A.units + 64 < cLine) : OpR X (compareOp .NotEq) (rNeNil X.K) := by
  intro pins s σ H x y v u Q I rx ry h
  obtain ⟨a, b, xs, rfl, rfl, hx, hy, q⟩ := h
  cases rx
  cases ry
  obtain ⟨its, r, pl, hz⟩ := I.list hx
  obtain ⟨its2, r2, pl2, hz2⟩ := I.list hy
  cases r2
  cases r with
  | nil =>
    exact SeqAt.RcNeAt.lists (e := fun _ => true) pl.isList pl2.isList rfl (by omega) (fun j h1 h2 => absurd h1 (Nat.not_lt_zero _)) X.prog X.w X.xe _ ⟨.bl _, H, I, rfl, q⟩
  | cons r t =>
    exact SeqAt.RcNeAt.lists_lengths pl.isList pl2.isList (by simp) (by omega) X.prog X.w X.xe _ ⟨.bl _, H, I, rfl, q⟩
/-- xs[i], 0 ≤ i, for xs[i] += e -/
def gGet (K : PySem.W.Frag) : V → V → Hp → VK → Prop := fun x y H Q => ∃ p xs i v, x = .ref p ∧ y = .int (i : Nat) ∧ SqL K H p xs ∧ xs[i]? = some v ∧ Q v H
theorem get_list : PGet X (gGet X.K) := by
  intro pins s σ H o i ov iv Q I ro ri h
  obtain ⟨p, xs, i, v, rfl, rfl, hq, he, q⟩ := h
  cases ro
  obtain ⟨t, rfl⟩ := ri
  obtain ⟨its, r, pl, hz⟩ := I.list hq
  obtain ⟨w, ew, rw'⟩ := r.get he
  have hl := r.length
  have hn := line63
  have hi : i < xs.length := (List.getElem?_eq_some_iff.mp he).1
  exact wpAny_getItem_list pl.isList (by omega) (by omega) (by simpa using ew) ⟨v, H, I, rw', q⟩
/-- the written part by its letter (within a comprehension) -/
theorem ix_listK {K : PySem.W.Frag} (h : X.K = K) : IxR X (rIxL K) := h ▸ ix_list
theorem ix_tupK {K : PySem.W.Frag} (h : X.K = K) : IxR X (rIxT K) := h ▸ ix_tup
theorem call_len_seqK {K : PySem.W.Frag} (h : X.K = K) : CallR X (.builtin "len") (fun xs H Q => ∃ p ys, xs = [.ref p] ∧ (SqL K H p ys ∨ SqT K H p ys) ∧ Q (.int ys.length) H) := h ▸ call_len_seq
theorem pe_fldK {K : PySem.W.Frag} {e : Expr} {f : Str} {pos : Pos} {ta : TE} (h : X.K = K) (he : PE X e ta) (hb : attributeBase e f X.env (eval e X.env) = eval e X.env) : PE X (.Attribute e f pos) (tFld K ta f) := h ▸ pe_fld he hb
/-- constants of the module -/
theorem pe_gi {x : Str} {i : Int} {pos : Pos} (hm : ∃ t, X.mg x = some (.int i t)) (hg : Gl X x := by rfl) (hd : (x == ("__debug__" : Str)) = false := by decide) : PE X (.Name x pos) (tC (.int i)) :=
  let ⟨_, h⟩ := hm
  pe_glob hg h ⟨_, rfl⟩ hd
theorem pe_gr {x : Str} {a : Addr} {pos : Pos} (hm : X.mg x = some (.ref a)) (hg : Gl X x := by rfl) (hd : (x == ("__debug__" : Str)) = false := by decide) : PE X (.Name x pos) (tC (.ref a)) := pe_glob hg hm rfl hd
end

/-! ### defs in bundles -/
section
variable (P : Program) (w : World) (K : PySem.W.Frag) (mg : Str → Option Value) (base : Heap)
structure DefAt (x : Str) (k : Nat) (ps : List Str) (sp : Sp) : Prop where
  ex : ∃ f fd, mg x = some (.ref f) ∧ FnOk P w K mg base CX0 k f fd ps sp ∧ PySem.W.keepIn K (.ref f) = true ∧ Binds K fd ps []
structure MethAt (C : Addr) (m : Str) (k : Nat) (ps : List Str) (sp : Sp) : Prop where
  ex : ∃ f fd, Meth K C m f ∧ FnOk P w K mg base CX0 k f fd ps sp ∧ Binds K fd ps []
structure MakeAt (x : Str) (C : Addr) (k : Nat) (ps : List Str) (sp : Sp) : Prop where
  ex : ∃ f fd, Mk K C f ∧ mg x = some (.ref C) ∧ FnOk P w K mg base CX0 k f fd ps sp ∧ Binds K fd ps []
end
section
variable {X : Cx} {x m : Str} {k : Nat} {ps : List Str} {sp : Sp} {t : TA} {ta : TE} {p pos apos : Pos} {e o : Expr} {es : List Expr} {C : Addr}
theorem pe_dcall (D : DefAt X.prog X.w X.K X.mg X.base x k ps sp) (hr : Room k X.A) (ha : PA X (e :: es) t) (hg : Gl X x := by rfl) (hdb : (x == ("__debug__" : Str)) = false := by decide)
    (he : starEach (e :: es) X.env = (false, eval e X.env) :: starEach es X.env := by rfl) (hpl : (backTo pos (starEach es X.env)).any (·.1) = false := by rfl) : PE X (.Call (.Name x p) (e :: es) [] pos) (tCall sp [] E0 t) := by
  obtain ⟨f, fd, hm, F, kp, b⟩ := D.ex
  exact pe_call F hr hg hm kp b .nil pass0 ha hdb he hpl
theorem pe_dmake (D : MakeAt X.prog X.w X.K X.mg X.base x C k ps sp) (hr : Room (k + 1) X.A) (ha : PA X (e :: es) t) (hg : Gl X x := by rfl) (hdb : (x == ("__debug__" : Str)) = false := by decide)
    (he : starEach (e :: es) X.env = (false, eval e X.env) :: starEach es X.env := by rfl) (hpl : (backTo pos (starEach es X.env)).any (·.1) = false := by rfl) : PE X (.Call (.Name x p) (e :: es) [] pos) (tMake C sp [] E0 t) := by
  obtain ⟨f, fd, M, hm, F, b⟩ := D.ex
  exact pe_make M F hr hg hm b .nil pass0 ha hdb he hpl
theorem pe_dmake0 (D : MakeAt X.prog X.w X.K X.mg X.base x C k ps sp) (hr : Room (k + 1) X.A) (hg : Gl X x := by rfl) (hdb : (x == ("__debug__" : Str)) = false := by decide) : PE X (.Call (.Name x p) [] [] pos) (tMake C sp [] E0 tNil) := by
  obtain ⟨f, fd, M, hm, F, b⟩ := D.ex
  exact pe_make0 M F hr hg hm b .nil pass0 hdb
theorem pe_dmeth {pl : Sem Bool} (D : MethAt X.prog X.w X.K X.mg X.base C m k ps sp) (c : Cls X.K C) (hr : Room k X.A) (ho : PE X o ta) (ha : PA X (e :: es) t)
    (hst : starEach (e :: es) X.env = (false, eval e X.env) :: starEach es X.env := by rfl) (hpl : (backTo pos (starEach es X.env)).any (·.1) = false := by rfl)
    (ht : eval (.Call (.Attribute o m apos) (e :: es) [] pos) X.env = (do
      let ov ← eval o X.env
      standAt apos.atName
      let (f, first) ← holding [ov] (getMethod ov m pl)
      callWith pos f first (backTo pos (starEach (e :: es) X.env)) (backToKw pos (keywordEach [] X.env))) := by rfl) :
    PE X (.Call (.Attribute o m apos) (e :: es) [] pos) (tMeth C m sp [] E0 ta t) := by
  obtain ⟨f, fd, M, F, b⟩ := D.ex
  exact pe_meth ho c M F hr b .nil pass0 ha hst hpl ht
theorem pe_dmeth0 {pl : Sem Bool} (D : MethAt X.prog X.w X.K X.mg X.base C m k ps sp) (c : Cls X.K C) (hr : Room k X.A) (ho : PE X o ta)
    (ht : eval (.Call (.Attribute o m apos) [] [] pos) X.env = (do
      let ov ← eval o X.env
      standAt apos.atName
      let (f, first) ← holding [ov] (getMethod ov m pl)
      callWith pos f first (backTo pos (starEach [] X.env)) (backToKw pos (keywordEach [] X.env))) := by rfl) :
    PE X (.Call (.Attribute o m apos) [] [] pos) (tMeth C m sp [] E0 ta tNil) := by
  obtain ⟨f, fd, M, F, b⟩ := D.ex
  exact pe_meth0 ho c M F hr b .nil pass0 ht
end
end Bcw

/-! # What evaluates to something made: a value and what stands at new places -/
namespace Bcw
open PySem PySem.Spec PyProof.Rows L2 Evl

/-- what is new in H' -/
def dlt (H H' : Hp) : Hp := fun b => match H b with
  | none => H' b
  | some _ => none
theorem dlt_new {H H' : Hp} {b : Addr} (h : H b = none) : dlt H H' b = H' b := by unfold dlt; rw [h]
theorem dlt_ex (H H' : Hp) : Ex (dlt H H') H' := fun b o e => by
  unfold dlt at e
  split at e
  · exact e
  · cases e
theorem dlt_right {H H1 H2 : Hp} (e : Ex H1 H2) : Ex (dlt H H1) (dlt H H2) := fun b o h => by
  unfold dlt at h
  split at h
  · rename_i z
    rw [dlt_new z]
    exact e b o h
  · cases h
theorem dlt_left {H H1 H2 : Hp} (e : Ex H H1) : Ex (dlt H1 H2) (dlt H H2) := fun b o h => by
  unfold dlt at h
  split at h
  · rename_i z
    rw [dlt_new (fresh_back e z)]
    exact h
  · cases h
theorem dlt_upd {H H1 : Hp} {p : Addr} {o : HO} (h : H p = none) : dlt H (upd H1 p o) p = some o := by rw [dlt_new h, upd_same]
theorem dlt_none {H H' : Hp} {b : Addr} {o : HO} (h : H b = some o) : dlt H H' b = none := by unfold dlt; rw [h]

/-- what is made: a value and its places; it stands in every larger heap -/
abbrev RG := V → Hp → Prop
class Mono (R : RG) : Prop where
  up : ∀ {v : V} {G G' : Hp}, Ex G G' → R v G → R v G'
class MonoA (R : List V → Hp → Prop) : Prop where
  up : ∀ {v : List V} {G G' : Hp}, Ex G G' → R v G → R v G'
def isV (z : V) : RG := fun v _ => v = z
instance : Mono (isV z) := ⟨fun _ h => h⟩
def areV (zs : List V) : List V → Hp → Prop := fun vs _ => vs = zs
instance : MonoA (areV zs) := ⟨fun _ h => h⟩
/-- an object at a new place -/
def isO (o : HO) : RG := fun v G => ∃ p, v = .ref p ∧ G p = some o
instance : Mono (isO o) := ⟨fun e ⟨p, h1, h2⟩ => ⟨p, h1, e _ _ h2⟩⟩
/-- a tuple, a list of items of which RA holds -/
def isT (RA : List V → Hp → Prop) : RG := fun v G => ∃ p vs, v = .ref p ∧ G p = some (.tup vs) ∧ RA vs G
def isL (RA : List V → Hp → Prop) : RG := fun v G => ∃ p vs, v = .ref p ∧ G p = some (.lst vs) ∧ RA vs G
instance [MonoA RA] : Mono (isT RA) := ⟨fun e ⟨p, vs, h1, h2, h3⟩ => ⟨p, vs, h1, e _ _ h2, MonoA.up e h3⟩⟩
instance [MonoA RA] : Mono (isL RA) := ⟨fun e ⟨p, vs, h1, h2, h3⟩ => ⟨p, vs, h1, e _ _ h2, MonoA.up e h3⟩⟩
def consR (R : RG) (RA : List V → Hp → Prop) : List V → Hp → Prop := fun vs G => ∃ x r, vs = x :: r ∧ R x G ∧ RA r G
instance [Mono R] [MonoA RA] : MonoA (consR R RA) := ⟨fun e ⟨x, r, h1, h2, h3⟩ => ⟨x, r, h1, Mono.up e h2, MonoA.up e h3⟩⟩
/-- item by item -/
def each {α : Type} (R : α → RG) (l : List α) : List V → Hp → Prop := fun vs G => Paired (fun v a => R a v G) vs l
theorem Paired.up {α β : Type} {F G : α → β → Prop} (f : ∀ a b, F a b → G a b) : ∀ {l₁ : List α} {l₂ : List β}, Paired F l₁ l₂ → Paired G l₁ l₂
  | _, _, .nil => .nil
  | _, _, .cons r t => .cons (f _ _ r) (Paired.up f t)
instance {α : Type} {R : α → RG} {l : List α} [∀ a, Mono (R a)] : MonoA (each R l) := ⟨fun e h => Paired.up (fun _ _ q => Mono.up e q) h⟩
theorem each.len {α : Type} {R : α → RG} {l : List α} {vs : List V} {G : Hp} (h : each R l vs G) : vs.length = l.length := Paired.length h
theorem each.get {α : Type} {R : α → RG} : ∀ {l : List α} {vs : List V} {G : Hp} {i : Nat} {v : V}, each R l vs G → vs[i]? = some v → ∃ a, l[i]? = some a ∧ R a v G
  | _, _, _, _, _, .nil, e => by simp at e
  | _, _, _, 0, _, .cons r _, e => by simp at e; subst e; exact ⟨_, rfl, r⟩
  | _, _, _, i + 1, v, .cons _ t, e => by
    obtain ⟨a, h1, h2⟩ := each.get (i := i) (v := v) t (by simpa using e)
    exact ⟨a, by simpa using h1, h2⟩
theorem each.at {α : Type} {R : α → RG} : ∀ {l : List α} {vs : List V} {G : Hp} {i : Nat} {a : α}, each R l vs G → l[i]? = some a → ∃ v, vs[i]? = some v ∧ R a v G
  | _, _, _, _, _, .nil, e => by simp at e
  | _, _, _, 0, _, .cons r _, e => by simp at e; subst e; exact ⟨_, rfl, r⟩
  | _, _, _, i + 1, v, .cons _ t, e => by
    obtain ⟨a, h1, h2⟩ := each.at (i := i) (a := v) t (by simpa using e)
    exact ⟨a, by simpa using h1, h2⟩
theorem each.snoc {α : Type} {R : α → RG} {l : List α} {vs : List V} {G : Hp} {a : α} {v : V} (h : each R l vs G) (q : R a v G) : each R (l ++ [a]) (vs ++ [v]) G := Paired.snoc h q
theorem each.app {α : Type} {R : α → RG} : ∀ {l m : List α} {vs ws : List V} {G : Hp}, each R l vs G → each R m ws G → each R (l ++ m) (vs ++ ws) G
  | _, _, _, _, _, .nil, q => q
  | _, _, _, _, _, .cons r t, q => .cons r (each.app t q)
theorem each.ints : ∀ {l : List Int} {vs : List V} {G : Hp}, each (fun i => isV (.int i)) l vs G → vs = l.map V.int
  | _, _, _, .nil => rfl
  | _, _, _, .cons r t => by rw [show _ = V.int _ from r, each.ints t]; rfl
theorem each.of_ints : ∀ (l : List Int) (G : Hp), each (fun i => isV (.int i)) l (l.map V.int) G
  | [], _ => .nil
  | _ :: l, G => .cons rfl (each.of_ints l G)
/-- a tuple of such ints; a pair of ints -/
def tupI (l : List Int) : RG := isO (.tup (l.map V.int))
instance : Mono (tupI l) := inferInstanceAs (Mono (isO _))
def pairI (p : Int × Int) : RG := tupI [p.1, p.2]
instance : Mono (pairI p) := inferInstanceAs (Mono (isO _))

/-! ### evaluation -/
def EvG (te : TE) (σ : L2.St) (H : Hp) (R : RG) : Prop := ∀ H1, Ex H H1 → ∀ Q : VK, (∀ v H2, Ex H1 H2 → R v (dlt H1 H2) → Q v H2) → te σ H1 Q
def EvGA (ta : TA) (σ : L2.St) (H : Hp) (R : List V → Hp → Prop) : Prop := ∀ H1, Ex H H1 → ∀ Q : List V → Hp → Prop, (∀ vs H2, Ex H1 H2 → R vs (dlt H1 H2) → Q vs H2) → ta σ H1 Q
theorem _root_.Evl.Ev.g {te : TE} {σ : L2.St} {H : Hp} {v : V} (h : Ev te σ H v) : EvG te σ H (isV v) := fun H1 e Q q => h H1 e Q fun H2 e2 => q v H2 e2 rfl
theorem EvG.ev {te : TE} {σ : L2.St} {H : Hp} {v : V} (h : EvG te σ H (isV v)) : Ev te σ H v := fun H1 e Q q => h H1 e Q fun u H2 e2 r => by
  cases (show u = v from r)
  exact q H2 e2
theorem _root_.Evl.EvL.g {te : TE} {σ : L2.St} {H : Hp} {xs : List V} (h : EvL te σ H xs) : EvG te σ H (isO (.lst xs)) := fun H1 e Q q => h H1 e Q fun p H2 hp e2 h2 => q _ H2 e2 ⟨p, rfl, by rw [dlt_new hp]; exact h2⟩
theorem _root_.Evl.EvU.g {te : TE} {σ : L2.St} {H : Hp} {xs : List V} (h : EvU te σ H xs) : EvG te σ H (isO (.tup xs)) := fun H1 e Q q => h H1 e Q fun p H2 hp e2 h2 => q _ H2 e2 ⟨p, rfl, by rw [dlt_new hp]; exact h2⟩
theorem fresh_of_dlt {H H' : Hp} {p : Addr} {o : HO} (h : dlt H H' p = some o) : H p = none ∧ H' p = some o := by
  unfold dlt at h
  split at h
  · rename_i z
    exact ⟨z, h⟩
  · cases h
theorem EvG.l {te : TE} {σ : L2.St} {H : Hp} {xs : List V} (h : EvG te σ H (isO (.lst xs))) : EvL te σ H xs := fun H1 e Q q => h H1 e Q fun v H2 e2 ⟨p, ev, hp⟩ => by
  subst ev
  obtain ⟨h1, h2⟩ := fresh_of_dlt hp
  exact q p H2 h1 e2 h2
theorem _root_.Evl.EvA.g {ta : TA} {σ : L2.St} {H : Hp} {vs : List V} (h : EvA ta σ H vs) : EvGA ta σ H (areV vs) := fun H1 e Q q => h H1 e Q fun H2 e2 => q vs H2 e2 rfl
theorem EvG.mono {te : TE} {σ : L2.St} {H H' : Hp} {R : RG} (e : Ex H H') (h : EvG te σ H R) : EvG te σ H' R := fun H1 a Q q => h H1 (e.trans a) Q q
theorem EvG.weak {te : TE} {σ : L2.St} {H : Hp} {R R' : RG} (h : EvG te σ H R) (f : ∀ v G, R v G → R' v G) : EvG te σ H R' := fun H1 e Q q => h H1 e Q fun v H2 e2 r => q v H2 e2 (f _ _ r)
section
variable {σ : L2.St} {H : Hp} {te : TE} {ta tr : TA} {R : RG} {RA : List V → Hp → Prop}
theorem ega_nil : EvGA tNil σ H (areV []) := ea_nil.g
theorem ega_cons [Mono R] [MonoA RA] (h : EvG te σ H R) (hr : EvGA tr σ H RA) : EvGA (tCons te tr) σ H (consR R RA) := fun H1 e Q q =>
  h H1 e _ fun v H2 e2 r => hr H2 (e.trans e2) _ fun vs H3 e3 ra => q (v :: vs) H3 (e2.trans e3) ⟨v, vs, rfl, Mono.up (dlt_right e3) r, MonoA.up (dlt_left e2) ra⟩
theorem eg_tup [MonoA RA] (h : EvGA ta σ H RA) (hl : ∀ vs G, RA vs G → vs.length ≤ 100000) : EvG (tTup ta) σ H (isT RA) := fun H1 e Q q =>
  h H1 e _ fun vs H2 e2 r => ⟨sz_of (hl _ _ r), fun p hp => q _ _ (e2.trans (Ex.new hp)) ⟨p, vs, rfl, by rw [dlt_new (fresh_back e2 hp), upd_same], MonoA.up (dlt_right (Ex.new hp)) r⟩⟩
theorem eg_lst [MonoA RA] (h : EvGA ta σ H RA) (hl : ∀ vs G, RA vs G → vs.length ≤ 100000) : EvG (tLst ta) σ H (isL RA) := fun H1 e Q q =>
  h H1 e _ fun vs H2 e2 r => ⟨sz_of (hl _ _ r), fun p hp => q _ _ (e2.trans (Ex.new hp)) ⟨p, vs, rfl, by rw [dlt_new (fresh_back e2 hp), upd_same], MonoA.up (dlt_right (Ex.new hp)) r⟩⟩

/-! ### promises -/
/-- a def that changes nothing and makes something of which R holds -/
def spG (pre : List V → Hp → RG → Prop) : Sp := fun vs H Q _ => ∃ R, pre vs H R ∧ ∀ v H', Ex H H' → R v (dlt H H') → Q v H'
/-- .. that hands back a value -/
def spV (pre : List V → Hp → V → Prop) : Sp := spG fun vs H R => ∃ z, pre vs H z ∧ R = isV z
/-- .. that hands back True or False, an int -/
theorem eg_call {pre : List V → Hp → RG → Prop} {E : XK} [MonoA RA] (h : EvGA ta σ H RA) (hs : ∀ vs H1, Ex H H1 → RA vs H1 → pre vs H1 R) [Mono R] : EvG (tCall (spG pre) [] E ta) σ H R := fun H1 e Q q =>
  h H1 e _ fun vs H2 e2 ra => by
    show spG pre (vs ++ []) H2 Q E
    rw [List.append_nil]
    exact ⟨R, hs vs H2 (e.trans e2) (MonoA.up (dlt_ex _ _) ra), fun v H3 e3 r => q v H3 (e2.trans e3) (Mono.up (dlt_left e2) r)⟩
theorem ev_callV {pre : List V → Hp → V → Prop} {E : XK} {vs : List V} {z : V} (h : EvA ta σ H vs) (hs : ∀ H1, Ex H H1 → pre vs H1 z) : Ev (tCall (spV pre) [] E ta) σ H z :=
  EvG.ev (eg_call (R := isV z) h.g fun ws H1 e q => by
    cases (show ws = vs from q)
    exact ⟨z, hs H1 e, rfl⟩)
theorem ev_callVG {pre : List V → Hp → V → Prop} {E : XK} {z : V} [MonoA RA] (h : EvGA ta σ H RA) (hs : ∀ vs H1, Ex H H1 → RA vs H1 → pre vs H1 z) : Ev (tCall (spV pre) [] E ta) σ H z :=
  EvG.ev (eg_call (R := isV z) h fun ws H1 e q => ⟨z, hs ws H1 e q, rfl⟩)
/-- o.m(..) of an instance -/
theorem eg_meth {C : Addr} {m : Str} {pre : List V → Hp → RG → Prop} {E : XK} {to : TE} {a dx : Addr} {fs : List (Str × V)} [MonoA RA] (ho : Ev to σ H (.ref a)) (hi : H a = some (.ins C dx fs)) (hl : fs.lookup m = none) (h : EvGA ta σ H RA)
    (hs : ∀ vs H1, Ex H H1 → RA vs H1 → pre (.ref a :: vs) H1 R) [Mono R] : EvG (tMeth C m (spG pre) [] E to ta) σ H R := fun H1 e Q q =>
  ho H1 e _ fun H2 e2 => ⟨a, dx, fs, rfl, (e.trans e2) _ _ hi, hl, h H2 (e.trans e2) _ fun vs H3 e3 ra => by
    show spG pre (.ref a :: (vs ++ [])) H3 Q E
    rw [List.append_nil]
    exact ⟨R, hs vs H3 ((e.trans e2).trans e3) (MonoA.up (dlt_ex _ _) ra), fun v H4 e4 r => q v H4 ((e2.trans e3).trans e4) (Mono.up (dlt_left (e2.trans e3)) r)⟩⟩
theorem ev_methV {C : Addr} {m : Str} {pre : List V → Hp → V → Prop} {E : XK} {to : TE} {a dx : Addr} {fs : List (Str × V)} {vs : List V} {z : V} (ho : Ev to σ H (.ref a)) (hi : H a = some (.ins C dx fs)) (hl : fs.lookup m = none) (h : EvA ta σ H vs)
    (hs : ∀ H1, Ex H H1 → pre (.ref a :: vs) H1 z) : Ev (tMeth C m (spV pre) [] E to ta) σ H z :=
  EvG.ev (eg_meth (R := isV z) ho hi hl h.g fun ws H1 e q => by
    cases (show ws = vs from q)
    exact ⟨z, hs H1 e, rfl⟩)

/-! ### statements -/
variable {D : Ends} {tz tu tw : TS}
theorem s_asgG {i : Nat} (h : EvG te σ H R) (k : ∀ v H1, Ex H H1 → R v (dlt H H1) → D.nx (σ.set i (some v)) H1) : tAsg te (gName i) D σ H := h H (Ex.refl H) _ k
theorem q_asgG {i : Nat} (h : EvG te σ H R) (k : ∀ v H1, Ex H H1 → R v (dlt H H1) → tz D (σ.set i (some v)) H1) : tSeq (tAsg te (gName i)) tz D σ H := s_asgG (D := { D with nx := tz D }) h k
theorem s_retG (h : EvG te σ H R) (k : ∀ v H1, Ex H H1 → R v (dlt H H1) → D.rt v H1) : tRet te D σ H := h H (Ex.refl H) _ k
/-- x = f(..) of a tuple target: the tuple's items, then the stores -/
theorem q_asgT {K : PySem.W.Frag} {n : Nat} {t : TGs} (h : EvG te σ H (isT RA)) (hn : ∀ vs G, RA vs G → vs.length = n) (k : ∀ vs H1, Ex H H1 → RA vs (dlt H H1) → t vs σ H1 (tz D)) : tSeq (tAsg te (gTup K n t)) tz D σ H :=
  h H (Ex.refl H) _ fun v H1 e ⟨p, vs, ev, hp, ra⟩ => ⟨p, vs, ev, st_of (dlt_ex _ _ _ _ hp), hn _ _ ra, k vs H1 e ra⟩
/-- .. of a list that stands -/
theorem q_asgLs {K : PySem.W.Frag} {n : Nat} {t : TGs} {a : Addr} {xs : List V} (h : Ev te σ H (.ref a)) (hx : SqL K H a xs) (hn : xs.length = n) (k : ∀ H1, Ex H H1 → t xs σ H1 (tz D)) : tSeq (tAsg te (gLst K n t)) tz D σ H :=
  h H (Ex.refl H) _ fun H1 e => ⟨a, xs, rfl, ex_l e hx, hn, k H1 e⟩
/-- xs.append(e), e made -/
theorem s_appG {K : PySem.W.Frag} {l : Addr} {xs : List V} {ta : TE} (hl : H l = some (.lst xs)) (ha : Ev ta σ H (.ref l)) (h : EvG te σ H R) (hz : xs.length < 1000000) (k : ∀ v H1, Ex H H1 → R v (dlt H H1) → D.nx σ (upd H1 l (.lst (xs ++ [v])))) [Mono R] :
    tDrop (tBM K "list" rAppend ta (tCons te tNil)) D σ H := ha H (Ex.refl H) _ fun H1 e1 =>
  ⟨Or.inl ⟨rfl, xs, sq_of (e1 l _ hl)⟩, h H1 e1 _ fun v H2 e2 r => ⟨l, xs, v, rfl, rfl, e2 l _ (e1 l _ hl), Nat.lt_of_lt_of_le hz (by decide), k v H2 (e1.trans e2) (Mono.up (dlt_left e1) r)⟩⟩
theorem q_appG {K : PySem.W.Frag} {l : Addr} {xs : List V} {ta : TE} (hl : H l = some (.lst xs)) (ha : Ev ta σ H (.ref l)) (h : EvG te σ H R) (hz : xs.length < 1000000) (k : ∀ v H1, Ex H H1 → R v (dlt H H1) → tz D σ (upd H1 l (.lst (xs ++ [v])))) [Mono R] :
    tSeq (tDrop (tBM K "list" rAppend ta (tCons te tNil))) tz D σ H := s_appG (D := { D with nx := tz D }) hl ha h hz k
/-- xs.extend(e), e a new list -/
theorem s_extG {K : PySem.W.Frag} {l : Addr} {xs : List V} {ta : TE} (hl : H l = some (.lst xs)) (ha : Ev ta σ H (.ref l)) (h : EvG te σ H (isL RA)) (hz : ∀ ys G, RA ys G → xs.length + ys.length ≤ 16000000) (k : ∀ ys H1, Ex H H1 → RA ys (dlt H H1) → D.nx σ (upd H1 l (.lst (xs ++ ys)))) [MonoA RA] :
    tDrop (tBM K "list" rExtend ta (tCons te tNil)) D σ H := ha H (Ex.refl H) _ fun H1 e1 =>
  ⟨Or.inl ⟨rfl, xs, sq_of (e1 l _ hl)⟩, h H1 e1 _ fun v H2 e2 ⟨p, ys, ev, hp, ra⟩ => ⟨l, p, xs, ys, rfl, by rw [ev], e2 l _ (e1 l _ hl), dlt_ex _ _ _ _ hp, Nat.le_trans (hz _ _ ra) (by decide), k ys H2 (e1.trans e2) (MonoA.up (dlt_left e1) ra)⟩⟩
theorem q_extG {K : PySem.W.Frag} {l : Addr} {xs : List V} {ta : TE} (hl : H l = some (.lst xs)) (ha : Ev ta σ H (.ref l)) (h : EvG te σ H (isL RA)) (hz : ∀ ys G, RA ys G → xs.length + ys.length ≤ 16000000) (k : ∀ ys H1, Ex H H1 → RA ys (dlt H H1) → tz D σ (upd H1 l (.lst (xs ++ ys)))) [MonoA RA] :
    tSeq (tDrop (tBM K "list" rExtend ta (tCons te tNil))) tz D σ H := s_extG (D := { D with nx := tz D }) hl ha h hz k
end
/-- new list + a list that stands -/
theorem eg_cat1 {σ : L2.St} {H : Hp} {ta tb : TE} {xs zs : List V} {b : Addr} (ha : EvG ta σ H (isO (.lst xs))) (hb : Ev tb σ H (.ref b)) (hz : H b = some (.lst zs)) (hl : xs.length + zs.length ≤ 16000000) : EvG (tOp rCat ta tb) σ H (isO (.lst (xs ++ zs))) := fun H1 e Q q =>
  ha H1 e _ fun v H2 e2 ⟨p, ev, hp⟩ => hb H2 (e.trans e2) _ fun H3 e3 => ⟨p, b, xs, zs, ev, rfl, e3 _ _ (dlt_ex _ _ _ _ hp), e3 _ _ (e2 _ _ (e _ _ hz)), Nat.le_trans hl (by decide), fun o ho =>
    q _ _ ((e2.trans e3).trans (Ex.new ho)) ⟨o, rfl, dlt_upd (fresh_back (e2.trans e3) ho)⟩⟩
/-- new list + new list -/
theorem eg_cat2 {σ : L2.St} {H : Hp} {ta tb : TE} {xs zs : List V} (ha : EvG ta σ H (isO (.lst xs))) (hb : EvG tb σ H (isO (.lst zs))) (hl : xs.length + zs.length ≤ 16000000) : EvG (tOp rCat ta tb) σ H (isO (.lst (xs ++ zs))) := fun H1 e Q q =>
  ha H1 e _ fun v H2 e2 ⟨p, ev, hp⟩ => hb H2 (e.trans e2) _ fun u H3 e3 ⟨p2, ev2, hp2⟩ => ⟨p, p2, xs, zs, ev, ev2, e3 _ _ (dlt_ex _ _ _ _ hp), dlt_ex _ _ _ _ hp2, Nat.le_trans hl (by decide), fun o ho =>
    q _ _ ((e2.trans e3).trans (Ex.new ho)) ⟨o, rfl, dlt_upd (fresh_back (e2.trans e3) ho)⟩⟩
/-- list(xs) -/
theorem eg_list {K : PySem.W.Frag} {σ : L2.St} {H : Hp} {ta : TE} {p : Addr} {xs : List V} (ha : Ev ta σ H (.ref p)) (h : SqL K H p xs) : EvG (tCB (fun xs H Q => ∃ p ys, xs = [.ref p] ∧ (SqL K H p ys ∨ SqT K H p ys) ∧ ∀ l, H l = none → Q (.ref l) (upd H l (.lst ys))) (tCons ta tNil)) σ H (isO (.lst xs)) := EvL.g (el_list ha h)
theorem eg_listT {K : PySem.W.Frag} {σ : L2.St} {H : Hp} {ta : TE} {p : Addr} {xs : List V} (ha : Ev ta σ H (.ref p)) (h : SqT K H p xs) : EvG (tCB (fun xs H Q => ∃ p ys, xs = [.ref p] ∧ (SqL K H p ys ∨ SqT K H p ys) ∧ ∀ l, H l = none → Q (.ref l) (upd H l (.lst ys))) (tCons ta tNil)) σ H (isO (.lst xs)) := fun H1 e Q q =>
  ha H1 e _ fun H2 e2 => ⟨p, xs, rfl, Or.inr (ex_t (e.trans e2) h), fun l hl => q _ _ (e2.trans (Ex.new hl)) ⟨l, rfl, dlt_upd (fresh_back e2 hl)⟩⟩
/-- a list of values as such a list -/
theorem isO_isL {xs : List V} {v : V} {G : Hp} (h : isO (.lst xs) v G) : isL (areV xs) v G := let ⟨p, h1, h2⟩ := h; ⟨p, xs, h1, h2, rfl⟩
theorem isL_isO {xs : List V} {v : V} {G : Hp} (h : isL (areV xs) v G) : isO (.lst xs) v G := let ⟨p, vs, h1, h2, h3⟩ := h; ⟨p, h1, by cases (show vs = xs from h3); exact h2⟩
theorem isO_isT {xs : List V} {v : V} {G : Hp} (h : isO (.tup xs) v G) : isT (areV xs) v G := let ⟨p, h1, h2⟩ := h; ⟨p, xs, h1, h2, rfl⟩
/-- a def's body: the promise in its letters -/
theorem spG_len {pre : List V → Hp → RG → Prop} {n : Nat} (h : ∀ vs H R, pre vs H R → vs.length = n) : ∀ vs H Q E, spG pre vs H Q E → vs.length = n := fun vs H _ _ ⟨_, p, _⟩ => h _ _ _ p
theorem spV_len {pre : List V → Hp → V → Prop} {n : Nat} (h : ∀ vs H z, pre vs H z → vs.length = n) : ∀ vs H Q E, spV pre vs H Q E → vs.length = n := fun vs H _ _ ⟨_, ⟨_, p, _⟩, _⟩ => h _ _ _ p
end Bcw

/-! # The text by places (printed by gen.py) -/
namespace Bcw
open PySem PySem.Spec PyProof.Rows L2 Evl
def top (i : Nat) : Stmt := PySem.Challenge.pw_beaconcoasts_s01_answers.main.body.getD i (.Pass ⟨0, 0, 0, 0⟩)
abbrev s_is_direction : Stmt := top 2
theorem sc_is_direction : FnScope ["x", "y"] ["x", "y"] (defScope s_is_direction) := ⟨rfl, rfl, rfl, by decide +kernel, rfl, by decide +kernel, by decide +kernel⟩
abbrev s_half_of : Stmt := top 3
theorem sc_half_of : FnScope ["x", "y"] ["x", "y"] (defScope s_half_of) := ⟨rfl, rfl, rfl, by decide +kernel, rfl, by decide +kernel, by decide +kernel⟩
abbrev s_is_ahead : Stmt := top 4
theorem sc_is_ahead : FnScope ["one", "other", "here", "there"] ["one", "other"] (defScope s_is_ahead) := ⟨rfl, rfl, rfl, by decide +kernel, rfl, by decide +kernel, by decide +kernel⟩
abbrev s_colour_by : Stmt := top 5
theorem sc_colour_by : FnScope ["sectors", "way", "found", "direction", "colour"] ["sectors", "way"] (defScope s_colour_by) := ⟨rfl, rfl, rfl, by decide +kernel, rfl, by decide +kernel, by decide +kernel⟩
abbrev s_sectors_of : Stmt := top 6
theorem sc_sectors_of : FnScope ["numbers", "found", "at"] ["numbers"] (defScope s_sectors_of) := ⟨rfl, rfl, rfl, by decide +kernel, rfl, by decide +kernel, by decide +kernel⟩
abbrev s_are_sectors : Stmt := top 7
theorem sc_are_sectors : FnScope ["sectors", "most", "colours", "direction", "colour", "one", "other"] ["sectors", "most", "colours"] (defScope s_are_sectors) := ⟨rfl, rfl, rfl, by decide +kernel, rfl, by decide +kernel, by decide +kernel⟩
abbrev s_places_of : Stmt := top 10
theorem sc_places_of : FnScope ["field", "x", "y", "u", "v", "found", "high", "wide"] ["field"] (defScope s_places_of) := ⟨rfl, rfl, rfl, by decide +kernel, rfl, by decide +kernel, by decide +kernel⟩
abbrev s_is_so : Stmt := top 11
theorem sc_is_so : FnScope ["lights", "coasts", "told", "place", "number", "colour"] ["lights", "coasts", "told", "place"] (defScope s_is_so) := ⟨rfl, rfl, rfl, by decide +kernel, rfl, by decide +kernel, by decide +kernel⟩
abbrev s_places_told : Stmt := top 12
theorem sc_places_told : FnScope ["lights", "coasts", "field", "told", "place"] ["lights", "coasts", "field", "told"] (defScope s_places_told) := ⟨rfl, rfl, rfl, by decide +kernel, rfl, by decide +kernel, by decide +kernel⟩
abbrev s_counts_of : Stmt := top 13
theorem sc_counts_of : FnScope ["light", "coasts", "places", "found", "x", "y", "colour"] ["light", "coasts", "places"] (defScope s_counts_of) := ⟨rfl, rfl, rfl, by decide +kernel, rfl, by decide +kernel, by decide +kernel⟩
abbrev s_best_light : Stmt := top 14
theorem sc_best_light : FnScope ["lights", "coasts", "places", "best", "found", "number", "light", "counts"] ["lights", "coasts", "places"] (defScope s_best_light) := ⟨rfl, rfl, rfl, by decide +kernel, rfl, by decide +kernel, by decide +kernel⟩
abbrev s_changes_along : Stmt := top 15
theorem sc_changes_along : FnScope ["lights", "coasts", "way", "before", "found", "step", "place", "number", "light", "colour"] ["lights", "coasts", "way"] (defScope s_changes_along) := ⟨rfl, rfl, rfl, by decide +kernel, rfl, by decide +kernel, by decide +kernel⟩
abbrev s_side : Stmt := top 17
theorem sc_side : FnScope ["x", "y", "u", "v", "here", "there"] ["x", "y", "u", "v", "here", "there"] (defScope s_side) := ⟨rfl, rfl, rfl, by decide +kernel, rfl, by decide +kernel, by decide +kernel⟩
abbrev s_lie_apart : Stmt := top 18
theorem sc_lie_apart : FnScope ["one", "other", "two", "another"] ["one", "other", "two", "another"] (defScope s_lie_apart) := ⟨rfl, rfl, rfl, by decide +kernel, rfl, by decide +kernel, by decide +kernel⟩
abbrev s_is_sign : Stmt := top 19
theorem sc_is_sign : FnScope ["one", "other"] ["one", "other"] (defScope s_is_sign) := ⟨rfl, rfl, rfl, by decide +kernel, rfl, by decide +kernel, by decide +kernel⟩
abbrev s_have_common : Stmt := top 20
theorem sc_have_common : FnScope ["one", "other", "x", "y", "u", "v", "here", "there", "far", "beyond"] ["one", "other"] (defScope s_have_common) := ⟨rfl, rfl, rfl, by decide +kernel, rfl, by decide +kernel, by decide +kernel⟩
abbrev s_is_hidden : Stmt := top 21
theorem sc_is_hidden : FnScope ["coasts", "straight", "coast"] ["coasts", "straight"] (defScope s_is_hidden) := ⟨rfl, rfl, rfl, by decide +kernel, rfl, by decide +kernel, by decide +kernel⟩
abbrev s_words_of : Stmt := top 33
theorem sc_words_of : FnScope ["text", "found", "byte"] ["text"] (defScope s_words_of) := ⟨rfl, rfl, rfl, by decide +kernel, rfl, by decide +kernel, by decide +kernel⟩
abbrev s_long_of : Stmt := top 34
theorem sc_long_of : FnScope ["figures", "found", "byte"] ["figures"] (defScope s_long_of) := ⟨rfl, rfl, rfl, by decide +kernel, rfl, by decide +kernel, by decide +kernel⟩
abbrev s_phase_of : Stmt := top 35
theorem sc_phase_of : FnScope ["word"] ["word"] (defScope s_phase_of) := ⟨rfl, rfl, rfl, by decide +kernel, rfl, by decide +kernel, by decide +kernel⟩
abbrev s_read_rhythm : Stmt := top 36
theorem sc_read_rhythm : FnScope ["text", "phases", "together", "at", "word", "letter", "long"] ["text"] (defScope s_read_rhythm) := ⟨rfl, rfl, rfl, by decide +kernel, rfl, by decide +kernel, by decide +kernel⟩
abbrev s_is_white_and_dark : Stmt := top 37
theorem sc_is_white_and_dark : FnScope ["phases", "letter", "long"] ["phases"] (defScope s_is_white_and_dark) := ⟨rfl, rfl, rfl, by decide +kernel, rfl, by decide +kernel, by decide +kernel⟩
abbrev s_is_white_at : Stmt := top 38
theorem sc_is_white_at : FnScope ["phases", "time", "left", "letter", "long"] ["phases", "time"] (defScope s_is_white_at) := ⟨rfl, rfl, rfl, by decide +kernel, rfl, by decide +kernel, by decide +kernel⟩
abbrev s_figures_of : Stmt := top 39
theorem sc_figures_of : FnScope ["number", "found"] ["number"] (defScope s_figures_of) := ⟨rfl, rfl, rfl, by decide +kernel, rfl, by decide +kernel, by decide +kernel⟩
abbrev s_text_in : Stmt := top 40
theorem sc_text_in : FnScope ["phases", "colour", "found", "letter", "long"] ["phases", "colour"] (defScope s_text_in) := ⟨rfl, rfl, rfl, by decide +kernel, rfl, by decide +kernel, by decide +kernel⟩
abbrev s_Light_init : Stmt := inClass (top 42) 0
theorem sc_Light_init : FnScope ["self", "x", "y", "far", "phases", "sectors"] ["self", "x", "y", "far", "phases", "sectors"] (defScope s_Light_init) := ⟨rfl, rfl, rfl, by decide +kernel, rfl, by decide +kernel, by decide +kernel⟩
abbrev s_Light_colour_seen : Stmt := inClass (top 42) 1
theorem sc_Light_colour_seen : FnScope ["self", "coasts", "x", "y", "wide", "high", "colour"] ["self", "coasts", "x", "y"] (defScope s_Light_colour_seen) := ⟨rfl, rfl, rfl, by decide +kernel, rfl, by decide +kernel, by decide +kernel⟩
abbrev s_Light_is_white : Stmt := inClass (top 42) 2
theorem sc_Light_is_white : FnScope ["self", "time"] ["self", "time"] (defScope s_Light_is_white) := ⟨rfl, rfl, rfl, by decide +kernel, rfl, by decide +kernel, by decide +kernel⟩
abbrev s_is_place : Stmt := top 62
theorem sc_is_place : FnScope ["x", "y"] ["x", "y"] (defScope s_is_place) := ⟨rfl, rfl, rfl, by decide +kernel, rfl, by decide +kernel, by decide +kernel⟩
abbrev s_pairs_of : Stmt := top 63
theorem sc_pairs_of : FnScope ["told", "at"] ["told"] (defScope s_pairs_of) := ⟨rfl, rfl, rfl, by decide +kernel, rfl, by decide +kernel, by decide +kernel⟩
abbrev s_Hall_init : Stmt := inClass (top 64) 0
theorem sc_Hall_init : FnScope ["self"] ["self"] (defScope s_Hall_init) := ⟨rfl, rfl, rfl, by decide +kernel, rfl, by decide +kernel, by decide +kernel⟩
abbrev s_Hall_light : Stmt := inClass (top 64) 1
theorem sc_Hall_light : FnScope ["self", "numbers", "text", "sectors", "x", "y", "far", "some", "phases", "fault"] ["self", "numbers", "text", "sectors"] (defScope s_Hall_light) := ⟨rfl, rfl, rfl, by decide +kernel, rfl, by decide +kernel, by decide +kernel⟩
abbrev s_Hall_coast : Stmt := inClass (top 64) 2
theorem sc_Hall_coast : FnScope ["self", "numbers", "x", "y", "u", "v"] ["self", "numbers"] (defScope s_Hall_coast) := ⟨rfl, rfl, rfl, by decide +kernel, rfl, by decide +kernel, by decide +kernel⟩
abbrev s_Hall_seen : Stmt := inClass (top 64) 3
theorem sc_Hall_seen : FnScope ["self", "x", "y"] ["self", "x", "y"] (defScope s_Hall_seen) := ⟨rfl, rfl, rfl, by decide +kernel, rfl, by decide +kernel, by decide +kernel⟩
abbrev s_Hall_shown : Stmt := inClass (top 64) 4
theorem sc_Hall_shown : FnScope ["self", "some", "x", "y", "found", "number", "light", "colour"] ["self", "some", "x", "y"] (defScope s_Hall_shown) := ⟨rfl, rfl, rfl, by decide +kernel, rfl, by decide +kernel, by decide +kernel⟩
abbrev s_Hall_at_time : Stmt := inClass (top 64) 5
theorem sc_Hall_at_time : FnScope ["self", "time", "x", "y", "some", "light"] ["self", "time", "x", "y"] (defScope s_Hall_at_time) := ⟨rfl, rfl, rfl, by decide +kernel, rfl, by decide +kernel, by decide +kernel⟩
abbrev s_Hall_rhythm : Stmt := inClass (top 64) 6
theorem sc_Hall_rhythm : FnScope ["self", "number", "x", "y", "colour", "text"] ["self", "number", "x", "y"] (defScope s_Hall_rhythm) := ⟨rfl, rfl, rfl, by decide +kernel, rfl, by decide +kernel, by decide +kernel⟩
abbrev s_Hall_field_fault : Stmt := inClass (top 64) 7
theorem sc_Hall_field_fault : FnScope ["self", "field", "told", "x", "y", "u", "v", "pairs", "number", "colour"] ["self", "field", "told"] (defScope s_Hall_field_fault) := ⟨rfl, rfl, rfl, by decide +kernel, rfl, by decide +kernel, by decide +kernel⟩
abbrev s_Hall_where : Stmt := inClass (top 64) 8
theorem sc_Hall_where : FnScope ["self", "field", "told", "fault", "found"] ["self", "field", "told"] (defScope s_Hall_where) := ⟨rfl, rfl, rfl, by decide +kernel, rfl, by decide +kernel, by decide +kernel⟩
abbrev s_Hall_track : Stmt := inClass (top 64) 9
theorem sc_Hall_track : FnScope ["self", "numbers", "x", "y", "u", "v", "n", "way", "step"] ["self", "numbers"] (defScope s_Hall_track) := ⟨rfl, rfl, rfl, by decide +kernel, rfl, by decide +kernel, by decide +kernel⟩
abbrev s_Hall_tell : Stmt := inClass (top 64) 10
theorem sc_Hall_tell : FnScope ["self", "field", "told", "fault", "places"] ["self", "field", "told"] (defScope s_Hall_tell) := ⟨rfl, rfl, rfl, by decide +kernel, rfl, by decide +kernel, by decide +kernel⟩
abbrev s_Hall_wipe : Stmt := inClass (top 64) 11
theorem sc_Hall_wipe : FnScope ["self"] ["self"] (defScope s_Hall_wipe) := ⟨rfl, rfl, rfl, by decide +kernel, rfl, by decide +kernel, by decide +kernel⟩
abbrev s_answered : Stmt := top 68
theorem sc_answered : FnScope ["hall", "kind", "numbers", "rows"] ["hall", "kind", "numbers", "rows"] (defScope s_answered) := ⟨rfl, rfl, rfl, by decide +kernel, rfl, by decide +kernel, by decide +kernel⟩
abbrev s_rows_at : Stmt := top 69
theorem sc_rows_at : FnScope ["calls", "at", "many", "found", "turn", "size"] ["calls", "at", "many"] (defScope s_rows_at) := ⟨rfl, rfl, rfl, by decide +kernel, rfl, by decide +kernel, by decide +kernel⟩
abbrev s_answers : Stmt := top 70
theorem sc_answers : FnScope ["calls", "hall", "found", "at", "kind", "behind", "numbers", "rows", "answer"] ["calls"] (defScope s_answers) := ⟨rfl, rfl, rfl, by decide +kernel, rfl, by decide +kernel, by decide +kernel⟩
/-- what the top has written: constants, built-ins that are not bound anew, the classes -/
structure Txt (K : PySem.W.Frag) (mg : Str → Option Value) (CL CH : Addr) where
  c_MOST_PART : ∃ t, mg "MOST_PART" = some (.int 1000 t)
  c_COLOURS : ∃ t, mg "COLOURS" = some (.int 5 t)
  c_BLANK : ∃ t, mg "BLANK" = some (.int 32 t)
  c_DARK : ∃ t, mg "DARK" = some (.int 45 t)
  c_WHITE : ∃ t, mg "WHITE" = some (.int 87 t)
  c_NOUGHT : ∃ t, mg "NOUGHT" = some (.int 48 t)
  c_NINE : ∃ t, mg "NINE" = some (.int 57 t)
  c_MOST_LONG : ∃ t, mg "MOST_LONG" = some (.int 600 t)
  c_MOST_PHASES : ∃ t, mg "MOST_PHASES" = some (.int 32 t)
  c_MOST_TOGETHER : ∃ t, mg "MOST_TOGETHER" = some (.int 6000 t)
  c_MOST_FIGURES : ∃ t, mg "MOST_FIGURES" = some (.int 3 t)
  c_FAULT : ∃ t, mg "FAULT" = some (.int (-6) t)
  c_MOST_SPOT : ∃ t, mg "MOST_SPOT" = some (.int 10000 t)
  c_MOST_FAR : ∃ t, mg "MOST_FAR" = some (.int 20000 t)
  c_MOST_BYTES : ∃ t, mg "MOST_BYTES" = some (.int 1024 t)
  c_MOST_SECTORS : ∃ t, mg "MOST_SECTORS" = some (.int 12 t)
  c_MOST_COLOUR : ∃ t, mg "MOST_COLOUR" = some (.int 4 t)
  c_MOST_LIGHTS : ∃ t, mg "MOST_LIGHTS" = some (.int 24 t)
  c_MOST_COASTS : ∃ t, mg "MOST_COASTS" = some (.int 64 t)
  c_MOST_TIME : ∃ t, mg "MOST_TIME" = some (.int 1000000 t)
  c_MOST_PLACES : ∃ t, mg "MOST_PLACES" = some (.int 1024 t)
  c_MOST_STEP : ∃ t, mg "MOST_STEP" = some (.int 1000 t)
  c_MOST_STEPS : ∃ t, mg "MOST_STEPS" = some (.int 500 t)
  a_LETTERS : Addr
  g_LETTERS : mg "LETTERS" = some (.ref a_LETTERS)
  s_LETTERS : ∀ H, SqT K H a_LETTERS [.int 45, .int 87, .int 82, .int 71, .int 89]
  a_WRONG : Addr
  g_WRONG : mg "WRONG" = some (.ref a_WRONG)
  s_WRONG : ∀ H, SqL K H a_WRONG [.int (-1)]
  a_TOO_LONG : Addr
  g_TOO_LONG : mg "TOO_LONG" = some (.ref a_TOO_LONG)
  s_TOO_LONG : ∀ H, SqL K H a_TOO_LONG [.int (-2)]
  a_NOT_SEEN : Addr
  g_NOT_SEEN : mg "NOT_SEEN" = some (.ref a_NOT_SEEN)
  s_NOT_SEEN : ∀ H, SqL K H a_NOT_SEEN [.int (-3)]
  a_NO_LIGHT : Addr
  g_NO_LIGHT : mg "NO_LIGHT" = some (.ref a_NO_LIGHT)
  s_NO_LIGHT : ∀ H, SqL K H a_NO_LIGHT [.int (-4)]
  a_FULL : Addr
  g_FULL : mg "FULL" = some (.ref a_FULL)
  s_FULL : ∀ H, SqL K H a_FULL [.int (-5)]
  a_NO_WHITE : Addr
  g_NO_WHITE : mg "NO_WHITE" = some (.ref a_NO_WHITE)
  s_NO_WHITE : ∀ H, SqL K H a_NO_WHITE [.int (-8)]
  a_NUMBERS : Addr
  g_NUMBERS : mg "NUMBERS" = some (.ref a_NUMBERS)
  s_NUMBERS : ∀ H, SqT K H a_NUMBERS [.int 3, .int 4, .int 2, .int 3, .int 3, .int 4, .int 5, .int 4, .int 0]
  a_ROWS : Addr
  g_ROWS : mg "ROWS" = some (.ref a_ROWS)
  s_ROWS : ∀ H, SqT K H a_ROWS [.int 2, .int 0, .int 0, .int 0, .int 0, .int 1, .int 0, .int 1, .int 0]
  b_len : mg "len" = none
  b_abs : mg "abs" = none
  b_max : mg "max" = none
  b_min : mg "min" = none
  b_sum : mg "sum" = none
  b_list : mg "list" = none
  b_range : mg "range" = none
  b_zip : mg "zip" = none
  b_enumerate : mg "enumerate" = none
  cLight : Cls K CL
  n_Light_x : NoAttr K CL "x"
  n_Light_y : NoAttr K CL "y"
  n_Light_far : NoAttr K CL "far"
  n_Light_phases : NoAttr K CL "phases"
  n_Light_sectors : NoAttr K CL "sectors"
  cHall : Cls K CH
  n_Hall_lights : NoAttr K CH "lights"
  n_Hall_coasts : NoAttr K CH "coasts"
end Bcw

/-! # Loops and comprehensions in words -/
namespace Bcw
open PySem PySem.Spec PyProof.Rows L2 Evl

/-! ### ranges by threes, by twos -/
theorem RgC.by3 {m : Nat} (h : m ≤ 100000) : RgC 0 (m : Int) 3 ((m + 2) / 3) := by
  have hs : Builtin.Range.rangeSize 0 (m : Int) 3 = (((m + 2) / 3 : Nat) : Int) := by
    unfold Builtin.Range.rangeSize
    simp only [show ((3 : Int) > 0) by decide, if_true]
    split <;> omega
  refine ⟨by decide, by decide, ?_, hs⟩
  unfold Builtin.Range.small
  rw [hs]
  have f : ∀ i : Int, -1000000 ≤ i → i ≤ 1000000 → Builtin.Range.rangeFitsLong i = true := fun i a b => by
    unfold Builtin.Range.rangeFitsLong
    rw [Bool.and_eq_true, decide_eq_true_iff, decide_eq_true_iff]
    exact ⟨by omega, by omega⟩
  rw [f 0 (by omega) (by omega), f (m : Int) (by omega) (by omega), f 3 (by omega) (by omega), f (((m + 2) / 3 : Nat) : Int) (by omega) (by omega), if_pos (by decide), f _ (by omega) (by omega), Bool.or_true]
  rfl
theorem RgC.by2 {m : Nat} (h : m ≤ 100000) : RgC 0 ((m : Int) - 1) 2 (m / 2) := by
  have hs : Builtin.Range.rangeSize 0 ((m : Int) - 1) 2 = ((m / 2 : Nat) : Int) := by
    unfold Builtin.Range.rangeSize
    simp only [show ((2 : Int) > 0) by decide, if_true]
    split <;> omega
  refine ⟨by decide, by decide, ?_, hs⟩
  unfold Builtin.Range.small
  rw [hs]
  have f : ∀ i : Int, -1000000 ≤ i → i ≤ 1000000 → Builtin.Range.rangeFitsLong i = true := fun i a b => by
    unfold Builtin.Range.rangeFitsLong
    rw [Bool.and_eq_true, decide_eq_true_iff, decide_eq_true_iff]
    exact ⟨by omega, by omega⟩
  rw [f 0 (by omega) (by omega), f ((m : Int) - 1) (by omega) (by omega), f 2 (by omega) (by omega), f ((m / 2 : Nat) : Int) (by omega) (by omega), if_pos (by decide), f _ (by omega) (by omega), Bool.or_true]
  rfl

section
variable {K : PySem.W.Frag} {σ : L2.St} {H : Hp} {D : Ends} {tz tu : TS} {g : TG}
/-! ### for -/
/-- a target of two names, the item a pair at T -/
theorem g_pair {i j : Nat} {T : Addr} {x y : V} {Q : L2.St → Hp → Prop} (h : SqT K H T [x, y]) (q : Q ((σ.set i (some x)).set j (some y)) H) : gTup K 2 (gCons (gName i) (gCons (gName j) gNil)) (.ref T) σ H Q :=
  ⟨T, _, rfl, h, rfl, _, _, rfl, _, _, rfl, rfl, q⟩
theorem g_two {i j : Nat} {x y : V} {Q : L2.St → Hp → Prop} (q : Q ((σ.set i (some x)).set j (some y)) H) : (gCons (gName i) (gCons (gName j) gNil)) [x, y] σ H Q := ⟨_, _, rfl, _, _, rfl, rfl, q⟩
theorem g_three {i j l : Nat} {x y z : V} {Q : L2.St → Hp → Prop} (q : Q (((σ.set i (some x)).set j (some y)).set l (some z)) H) : (gCons (gName i) (gCons (gName j) (gCons (gName l) gNil))) [x, y, z] σ H Q := ⟨_, _, rfl, _, _, rfl, _, _, rfl, rfl, q⟩
theorem g_four {i j l m : Nat} {x y z u : V} {Q : L2.St → Hp → Prop} (q : Q ((((σ.set i (some x)).set j (some y)).set l (some z)).set m (some u)) H) : (gCons (gName i) (gCons (gName j) (gCons (gName l) (gCons (gName m) gNil)))) [x, y, z, u] σ H Q := ⟨_, _, rfl, _, _, rfl, _, _, rfl, _, _, rfl, rfl, q⟩
theorem g_five {i j l m n : Nat} {x y z u t : V} {Q : L2.St → Hp → Prop} (q : Q (((((σ.set i (some x)).set j (some y)).set l (some z)).set m (some u)).set n (some t)) H) : (gCons (gName i) (gCons (gName j) (gCons (gName l) (gCons (gName m) (gCons (gName n) gNil))))) [x, y, z, u, t] σ H Q := ⟨_, _, rfl, _, _, rfl, _, _, rfl, _, _, rfl, _, _, rfl, rfl, q⟩
/-- for over enumerate of a list that stands -/
theorem s_forE {a : Addr} {xs : List V} {ta : TA} (h : EvA ta σ H [.ref a]) (hx : SqL K H a xs) (Pv : Nat → L2.St → Hp → Prop) (h0 : ∀ H1, Ex H H1 → Pv 0 σ H1) (hl : ∀ i σ' H', i ≤ xs.length → Pv i σ' H' → SqL K H' a xs)
    (hs : ∀ i x T σ' H', xs[i]? = some x → Pv i σ' H' → H' T = none → g (.ref T) σ' (upd H' T (.tup [.int (i : Nat), x])) fun σ2 H2 => tu { D with nx := Pv (i + 1), ct := Pv (i + 1), bk := D.nx } σ2 H2) (hd : ∀ σ' H', Pv xs.length σ' H' → D.nx σ' H') : tFor (iEnum K ta) g tu D σ H :=
  h H (Ex.refl H) _ fun H1 e => ⟨a, xs, rfl, ex_l e hx, for_it walk_enum Pv (h0 H1 e) hl (fun i x σ' H' H2 hi p y => by
    obtain ⟨T, u, v, rfl, hT, rfl, e1, e2⟩ := y
    cases Option.some.inj e1
    exact hs i v T σ' H' e2 p hT) hd⟩
/-- .. of a list that is new -/
theorem s_forEN {RA : List V → Hp → Prop} [MonoA RA] {te : TE} (h : EvG te σ H (isL RA)) (Pv : Addr → List V → Nat → L2.St → Hp → Prop) (h0 : ∀ a xs H1, Ex H H1 → H a = none → H1 a = some (.lst xs) → RA xs (dlt H H1) → Pv a xs 0 σ H1) (hl : ∀ a xs i σ' H', i ≤ xs.length → Pv a xs i σ' H' → SqL K H' a xs)
    (hs : ∀ a xs i x T σ' H', xs[i]? = some x → Pv a xs i σ' H' → H' T = none → g (.ref T) σ' (upd H' T (.tup [.int (i : Nat), x])) fun σ2 H2 => tu { D with nx := Pv a xs (i + 1), ct := Pv a xs (i + 1), bk := D.nx } σ2 H2) (hd : ∀ a xs σ' H', Pv a xs xs.length σ' H' → D.nx σ' H') : tFor (iEnum K (tCons te tNil)) g tu D σ H :=
  h H (Ex.refl H) _ fun v H1 e ⟨a, xs, ev, hp, ra⟩ => by
    subst ev
    obtain ⟨hn, ha⟩ := fresh_of_dlt hp
    exact ⟨a, xs, rfl, sq_of ha, for_it walk_enum (Pv a xs) (h0 a xs H1 e hn ha ra) (hl a xs) (fun i x σ' H' H2 hi p y => by
      obtain ⟨T, u, v, rfl, hT, rfl, e1, e2⟩ := y
      cases Option.some.inj e1
      exact hs a xs i v T σ' H' e2 p hT) (hd a xs)⟩
/-- for over zip of a list that stands and a new one -/
theorem s_forZ {a : Addr} {xs ys : List V} {tl ts : TE} (h : Ev tl σ H (.ref a)) (hx : SqL K H a xs) (h2 : EvL ts σ H ys) (Pv : Addr → Nat → L2.St → Hp → Prop) (h0 : ∀ b H1, Ex H H1 → H b = none → H1 b = some (.lst ys) → Pv b 0 σ H1)
    (hl : ∀ b i σ' H', Pv b i σ' H' → SqL K H' a xs ∧ SqL K H' b ys)
    (hs : ∀ b i x y T σ' H', xs[i]? = some x → ys[i]? = some y → Pv b i σ' H' → H' T = none → g (.ref T) σ' (upd H' T (.tup [x, y])) fun σ2 H2 => tu { D with nx := Pv b (i + 1), ct := Pv b (i + 1), bk := D.nx } σ2 H2) (hd : ∀ b σ' H', Pv b (min xs.length ys.length) σ' H' → D.nx σ' H') :
    tFor (iZip K (tCons tl (tCons ts tNil))) g tu D σ H :=
  h H (Ex.refl H) _ fun H1 e1 => h2 H1 e1 _ fun b H2 hb e2 hb2 => ⟨a, b, xs, ys, rfl, ex_l (e1.trans e2) hx, sq_of hb2, for_it (walk_zip rfl) (Pv b) (h0 b H2 (e1.trans e2) (fresh_back e1 hb) hb2) (fun i σ' H' _ p => hl b i σ' H' p) (fun i x σ' H' H3 hi p y => by
    obtain ⟨T, u, v, rfl, hT, rfl, q1, q2⟩ := y
    exact hs b i u v T σ' H' q1 q2 p hT) (hd b)⟩
/-- for over range(lo, n), range(n) -/
theorem s_forR {ta : TA} {j : Nat} {lo n : Int} (h : EvA ta σ H [.int lo, .int n]) (hn : -100000 ≤ lo ∧ lo ≤ 100000 ∧ -100000 ≤ n ∧ n ≤ 100000) (Pv : Nat → L2.St → Hp → Prop) (h0 : ∀ H1, Ex H H1 → Pv 0 σ H1)
    (hs : ∀ (i : Nat) σ' H', lo + (i : Int) < n → Pv i σ' H' → tu { D with nx := Pv (i + 1), ct := Pv (i + 1), bk := D.nx } (σ'.set j (some (.int (lo + (i : Int))))) H') (hd : ∀ σ' H', Pv (n - lo).toNat σ' H' → D.nx σ' H') : tFor (iRng2 ta) (gName j) tu D σ H :=
  h H (Ex.refl H) _ fun H1 e => ⟨lo, n, rfl, ⟨by omega, by omega, by omega, by omega⟩, for_range (lo := lo) (n := (n - lo).toNat) Pv (h0 H1 e) (fun i σ' H' hi p => hs i σ' H' (by omega) p) hd⟩
theorem s_forC {ta : TA} {j n : Nat} {lo hi c : Int} (h : EvA ta σ H [.int lo, .int hi, .int c]) (hn : RgC lo hi c n) (Pv : Nat → L2.St → Hp → Prop) (h0 : ∀ H1, Ex H H1 → Pv 0 σ H1)
    (hs : ∀ (i : Nat) σ' H', i < n → Pv i σ' H' → tu { D with nx := Pv (i + 1), ct := Pv (i + 1), bk := D.nx } (σ'.set j (some (.int (lo + (i : Nat) * c)))) H') (hd : ∀ σ' H', Pv n σ' H' → D.nx σ' H') : tFor (iRng3 ta) (gName j) tu D σ H :=
  h H (Ex.refl H) _ fun H1 e => ⟨lo, hi, c, n, rfl, hn, for_rangeC (lo := lo) (c := c) (n := n) Pv (h0 H1 e) hs hd⟩

theorem q_forE {a : Addr} {xs : List V} {ta : TA} (h : EvA ta σ H [.ref a]) (hx : SqL K H a xs) (Pv : Nat → L2.St → Hp → Prop) (h0 : ∀ H1, Ex H H1 → Pv 0 σ H1) (hl : ∀ i σ' H', i ≤ xs.length → Pv i σ' H' → SqL K H' a xs)
    (hs : ∀ i x T σ' H', xs[i]? = some x → Pv i σ' H' → H' T = none → g (.ref T) σ' (upd H' T (.tup [.int (i : Nat), x])) fun σ2 H2 => tu { D with nx := Pv (i + 1), ct := Pv (i + 1), bk := tz D } σ2 H2) (hd : ∀ σ' H', Pv xs.length σ' H' → tz D σ' H') : tSeq (tFor (iEnum K ta) g tu) tz D σ H := s_forE (D := { D with nx := tz D }) h hx Pv h0 hl hs hd
theorem q_forEN {RA : List V → Hp → Prop} [MonoA RA] {te : TE} (h : EvG te σ H (isL RA)) (Pv : Addr → List V → Nat → L2.St → Hp → Prop) (h0 : ∀ a xs H1, Ex H H1 → H a = none → H1 a = some (.lst xs) → RA xs (dlt H H1) → Pv a xs 0 σ H1) (hl : ∀ a xs i σ' H', i ≤ xs.length → Pv a xs i σ' H' → SqL K H' a xs)
    (hs : ∀ a xs i x T σ' H', xs[i]? = some x → Pv a xs i σ' H' → H' T = none → g (.ref T) σ' (upd H' T (.tup [.int (i : Nat), x])) fun σ2 H2 => tu { D with nx := Pv a xs (i + 1), ct := Pv a xs (i + 1), bk := tz D } σ2 H2) (hd : ∀ a xs σ' H', Pv a xs xs.length σ' H' → tz D σ' H') : tSeq (tFor (iEnum K (tCons te tNil)) g tu) tz D σ H := s_forEN (D := { D with nx := tz D }) h Pv h0 hl hs hd
theorem q_forZ {a : Addr} {xs ys : List V} {tl ts : TE} (h : Ev tl σ H (.ref a)) (hx : SqL K H a xs) (h2 : EvL ts σ H ys) (Pv : Addr → Nat → L2.St → Hp → Prop) (h0 : ∀ b H1, Ex H H1 → H b = none → H1 b = some (.lst ys) → Pv b 0 σ H1)
    (hl : ∀ b i σ' H', Pv b i σ' H' → SqL K H' a xs ∧ SqL K H' b ys)
    (hs : ∀ b i x y T σ' H', xs[i]? = some x → ys[i]? = some y → Pv b i σ' H' → H' T = none → g (.ref T) σ' (upd H' T (.tup [x, y])) fun σ2 H2 => tu { D with nx := Pv b (i + 1), ct := Pv b (i + 1), bk := tz D } σ2 H2) (hd : ∀ b σ' H', Pv b (min xs.length ys.length) σ' H' → tz D σ' H') : tSeq (tFor (iZip K (tCons tl (tCons ts tNil))) g tu) tz D σ H := s_forZ (D := { D with nx := tz D }) h hx h2 Pv h0 hl hs hd
theorem q_forR {ta : TA} {j : Nat} {lo n : Int} (h : EvA ta σ H [.int lo, .int n]) (hn : -100000 ≤ lo ∧ lo ≤ 100000 ∧ -100000 ≤ n ∧ n ≤ 100000) (Pv : Nat → L2.St → Hp → Prop) (h0 : ∀ H1, Ex H H1 → Pv 0 σ H1)
    (hs : ∀ (i : Nat) σ' H', lo + (i : Int) < n → Pv i σ' H' → tu { D with nx := Pv (i + 1), ct := Pv (i + 1), bk := tz D } (σ'.set j (some (.int (lo + (i : Int))))) H') (hd : ∀ σ' H', Pv (n - lo).toNat σ' H' → tz D σ' H') : tSeq (tFor (iRng2 ta) (gName j) tu) tz D σ H := s_forR (D := { D with nx := tz D }) h hn Pv h0 hs hd
theorem q_forC {ta : TA} {j n : Nat} {lo hi c : Int} (h : EvA ta σ H [.int lo, .int hi, .int c]) (hn : RgC lo hi c n) (Pv : Nat → L2.St → Hp → Prop) (h0 : ∀ H1, Ex H H1 → Pv 0 σ H1)
    (hs : ∀ (i : Nat) σ' H', i < n → Pv i σ' H' → tu { D with nx := Pv (i + 1), ct := Pv (i + 1), bk := tz D } (σ'.set j (some (.int (lo + (i : Nat) * c)))) H') (hd : ∀ σ' H', Pv n σ' H' → tz D σ' H') : tSeq (tFor (iRng3 ta) (gName j) tu) tz D σ H := s_forC (D := { D with nx := tz D }) h hn Pv h0 hs hd

/-! ### comprehensions -/
def YS (src : Nat → Option V) : Nat → Hp → V → Hp → Prop := fun i H x H' => H' = H ∧ src i = some x
/-- where a comprehension's items come from: Φ of how many, which, the heap -/
def EvI (wi : TI) (σ : L2.St) (H : Hp) (Φ : Nat → (Nat → Option V) → Hp → Prop) : Prop := ∀ H1, Ex H H1 → ∀ R : It → Hp → Prop, (∀ J H2 n src, Ex H1 H2 → Walk J n (fun H' => Ex H2 H') (YS src) → Φ n src H2 → R J H2) → wi σ H1 R
theorem ei_list {tl : TE} {a : Addr} {xs : List V} (h : Ev tl σ H (.ref a)) (hx : SqL K H a xs) : EvI (iList K tl) σ H (fun n src _ => n = xs.length ∧ src = fun i => xs[i]?) := fun H1 e R q =>
  h H1 e _ fun H2 e2 => ⟨a, rfl, ⟨xs, ex_l (e.trans e2) hx⟩, q _ H2 xs.length (fun i => xs[i]?) e2 (walk_list.mono (fun H' e3 => ex_l ((e.trans e2).trans e3) hx) fun i H x H' _ _ y => y) ⟨rfl, rfl⟩⟩
theorem ei_new {tl : TE} {RA : List V → Hp → Prop} [MonoA RA] (h : EvG tl σ H (isL RA)) : EvI (iList K tl) σ H (fun n src H2 => ∃ xs, RA xs H2 ∧ n = xs.length ∧ src = fun i => xs[i]?) := fun H1 e R q =>
  h H1 e _ fun v H2 e2 ⟨a, xs, ev, hp, ra⟩ => by
    subst ev
    have ha := dlt_ex _ _ _ _ hp
    exact ⟨a, rfl, ⟨xs, sq_of ha⟩, q _ H2 xs.length (fun i => xs[i]?) e2 (walk_list.mono (fun H' e3 => sq_of (e3 _ _ ha)) fun i H x H' _ _ y => y) ⟨xs, MonoA.up (dlt_ex _ _) ra, rfl, rfl⟩⟩
theorem ei_range1 {ta : TA} {m : Int} (h : EvA ta σ H [.int m]) (hn : -100000 ≤ m ∧ m ≤ 100000) : EvI (iRng1 ta) σ H (fun n src _ => n = m.toNat ∧ src = fun i => some (.int ((i : Nat) : Int))) := fun H1 e R q =>
  h H1 e _ fun H2 e2 => ⟨m, rfl, by omega, by omega, q _ H2 m.toNat _ e2 (walk_range.mono (fun _ _ => trivial) fun i H x H' _ _ y => ⟨y.1, by rw [y.2]; show some (V.int _) = some (V.int _); rw [Int.zero_add]⟩) ⟨rfl, rfl⟩⟩
theorem ei_range2 {ta : TA} {lo m : Int} (h : EvA ta σ H [.int lo, .int m]) (hn : -100000 ≤ lo ∧ lo ≤ 100000 ∧ -100000 ≤ m ∧ m ≤ 100000) : EvI (iRng2 ta) σ H (fun n src _ => n = (m - lo).toNat ∧ src = fun i => some (.int (lo + ((i : Nat) : Int)))) := fun H1 e R q =>
  h H1 e _ fun H2 e2 => ⟨lo, m, rfl, ⟨by omega, by omega, by omega, by omega⟩, q _ H2 _ _ e2 (walk_range.mono (fun _ _ => trivial) fun i H x H' _ _ y => ⟨y.1, by rw [y.2]⟩) ⟨rfl, rfl⟩⟩
theorem ei_rangeC {ta : TA} {lo hi c : Int} {m : Nat} (h : EvA ta σ H [.int lo, .int hi, .int c]) (hn : RgC lo hi c m) : EvI (iRng3 ta) σ H (fun n src _ => n = m ∧ src = fun i => some (.int (lo + ((i : Nat) : Int) * c))) := fun H1 e R q =>
  h H1 e _ fun H2 e2 => ⟨lo, hi, c, m, rfl, hn, q _ H2 m _ e2 (walk_rangeC.mono (fun _ _ => trivial) fun i H x H' _ _ y => ⟨y.1, by rw [y.2]⟩) ⟨rfl, rfl⟩⟩
/-- a comprehension: what it holds behind i turns is F i, item by item R -/
theorem eg_lc {α : Type} {R : α → RG} [∀ a, Mono (R a)] {wi : TI} {tt : TT} {te : TE} {vs : List Nat} {Φ : Nat → (Nat → Option V) → Hp → Prop} (h : EvI wi σ H Φ) (F : Nat → List α) (n : Nat) (hn : ∀ m src H1, Φ m src H1 → m = n) (F0 : F 0 = []) (hz : n ≤ 1000000)
    (turn : ∀ src H1 i x H2, Ex H H1 → Φ n src H1 → i < n → src i = some x → Ex H1 H2 → ∃ σ2, (∀ Q : L2.St → Hp → Prop, Q σ2 H2 → g x (wipe σ vs) H2 Q) ∧ wipe σ2 vs = wipe σ vs ∧
      ((∃ a, EvT tt σ2 H2 true ∧ EvG te σ2 H2 (R a) ∧ F (i + 1) = F i ++ [a]) ∨ (EvT tt σ2 H2 false ∧ F (i + 1) = F i))) : EvG (tLc wi g tt te vs) σ H (isL (each R (F n))) := fun H1 e Q q =>
  h H1 e _ fun J H2 m src e2 w ph => fun Dl hD => by
    have em := hn m src H2 ph
    subst em
    -- the list itself is no part of what its items say
    have H2n : ∀ b, upd H2 Dl (.lst []) b = none → b ≠ Dl ∧ H2 b = none := fun b hb => by
      have nb : b ≠ Dl := fun z => by rw [z, upd_same] at hb; cases hb
      rw [upd_ne nb] at hb
      exact ⟨nb, hb⟩
    refine lc_it w (fun i H' => i ≤ m ∧ Ex H2 H' ∧ ∃ ys, H' Dl = some (.lst ys) ∧ ys.length ≤ i ∧ each R (F i) ys (dlt (upd H2 Dl (.lst [])) H')) ⟨Nat.zero_le _, Ex.new hD, [], upd_same, Nat.le_refl _, by rw [F0]; exact .nil⟩ (fun i H' _ p => p.2.1) (fun i x H' H3 hi p y => ?_) (fun H' p => ?_)
    · obtain ⟨eH, ey⟩ := y
      subst eH
      obtain ⟨_, p1, ys, p3, p4, p5⟩ := p
      obtain ⟨σ2, hg, hw, ht⟩ := turn src H2 i x H3 (e.trans e2) ph hi ey p1
      refine hg _ ⟨hw, ?_⟩
      rcases ht with ⟨a, ht, he, hF⟩ | ⟨ht, hF⟩
      · refine ht H3 (Ex.refl H3) _ fun H4 e4 => ?_
        show te σ2 H4 fun y H5 => _
        refine he H4 e4 _ fun y H5 e5 ra => ⟨ys, e5 _ _ (e4 _ _ p3), Nat.lt_of_lt_of_le (Nat.lt_of_le_of_lt p4 (Nat.lt_of_lt_of_le hi hz)) (by decide), hi, ?_, _, upd_same, ?_, ?_⟩
        · exact Ex.mut ((p1.trans e4).trans e5) hD
        · rw [List.length_append]
          show ys.length + 1 ≤ i + 1
          omega
        · rw [hF]
          refine each.snoc (MonoA.up (fun b o hb => ?_) p5) (Mono.up (fun b o hb => ?_) ra)
          · obtain ⟨f1, f2⟩ := fresh_of_dlt hb
            rw [dlt_new f1, upd_ne (H2n b f1).1]
            exact e5 _ _ (e4 _ _ f2)
          · obtain ⟨f1, f2⟩ := fresh_of_dlt hb
            have nb : b ≠ Dl := fun z => by rw [z, e4 _ _ p3] at f1; cases f1
            have f3 : upd H2 Dl (.lst []) b = none := by
              rw [upd_ne nb]
              exact fresh_back (p1.trans e4) f1
            rw [dlt_new f3, upd_ne nb]
            exact f2
      · refine ht H3 (Ex.refl H3) _ fun H4 e4 => ?_
        show (fun H' => _) H4
        refine ⟨hi, p1.trans e4, ys, e4 _ _ p3, by omega, ?_⟩
        rw [hF]
        exact MonoA.up (dlt_right e4) p5
    · obtain ⟨_, p1, ys, p3, p4, p5⟩ := p
      have hD1 : H1 Dl = none := fresh_back e2 hD
      refine q _ H' (e2.trans p1) ⟨Dl, ys, rfl, by rw [dlt_new hD1]; exact p3, MonoA.up (fun b o hb => ?_) p5⟩
      obtain ⟨f1, f2⟩ := fresh_of_dlt hb
      rw [dlt_new (fresh_back e2 (H2n b f1).2)]
      exact f2
/-- a comprehension that keeps items of a new source: [x for x in new if ..] -/
theorem eg_lcS {α : Type} {R : α → RG} [∀ a, Mono (R a)] {RA : List V → Hp → Prop} [MonoA RA] {tl : TE} {tt : TT} {te : TE} {vs : List Nat} (h : EvG tl σ H (isL RA)) (F : Nat → List α) (n : Nat) (hn : ∀ xs G, RA xs G → xs.length = n) (F0 : F 0 = []) (hz : n ≤ 1000000)
    (turn : ∀ xs G i x H2, RA xs G → Ex G H2 → Ex H H2 → i < n → xs[i]? = some x → ∃ σ2, (∀ Q : L2.St → Hp → Prop, Q σ2 H2 → g x (wipe σ vs) H2 Q) ∧ wipe σ2 vs = wipe σ vs ∧
      ((∃ a z, EvT tt σ2 H2 true ∧ Ev te σ2 H2 z ∧ R a z G ∧ F (i + 1) = F i ++ [a]) ∨ (EvT tt σ2 H2 false ∧ F (i + 1) = F i))) : EvG (tLc (iList K tl) g tt te vs) σ H (isL (each R (F n))) := fun H1 e Q q =>
  h H1 e _ fun v H2 e2 ⟨a, xs, ev, hp, ra⟩ => by
    subst ev
    have ha := dlt_ex _ _ _ _ hp
    have ex := hn xs _ ra
    refine ⟨a, rfl, ⟨xs, sq_of ha⟩, fun Dl hD => ?_⟩
    refine lc_it (n := n) (G := fun H' => SqL K H' a xs) (Y := YAt xs) (by rw [← ex]; exact walk_list) (fun i H' => i ≤ n ∧ Ex H2 H' ∧ ∃ ys, H' Dl = some (.lst ys) ∧ ys.length ≤ i ∧ each R (F i) ys (dlt H1 H2)) ⟨Nat.zero_le _, Ex.new hD, [], upd_same, Nat.le_refl _, by rw [F0]; exact .nil⟩ (fun i H' _ p => sq_of (p.2.1 _ _ ha)) (fun i x H' H3 hi p y => ?_) (fun H' p => ?_)
    · obtain ⟨eH, ey⟩ := y
      subst eH
      obtain ⟨_, p1, ys, p3, p4, p5⟩ := p
      obtain ⟨σ2, hg, hw, ht⟩ := turn xs (dlt H1 H2) i x H3 ra ((dlt_ex _ _).trans p1) ((e.trans e2).trans p1) hi ey
      refine hg _ ⟨hw, ?_⟩
      rcases ht with ⟨a', z, ht, he, hr, hF⟩ | ⟨ht, hF⟩
      · refine ht H3 (Ex.refl H3) _ fun H4 e4 => ?_
        show te σ2 H4 fun y H5 => _
        refine he H4 e4 _ fun H5 e5 => ⟨ys, e5 _ _ (e4 _ _ p3), Nat.lt_of_lt_of_le (Nat.lt_of_le_of_lt p4 (Nat.lt_of_lt_of_le hi hz)) (by decide), hi, ?_, _, upd_same, ?_, ?_⟩
        · exact Ex.mut ((p1.trans e4).trans e5) hD
        · rw [List.length_append]
          show ys.length + 1 ≤ i + 1
          omega
        · rw [hF]
          exact each.snoc p5 hr
      · refine ht H3 (Ex.refl H3) _ fun H4 e4 => ?_
        show (fun H' => _) H4
        refine ⟨hi, p1.trans e4, ys, e4 _ _ p3, by omega, ?_⟩
        rw [hF]
        exact p5
    · obtain ⟨_, p1, ys, p3, p4, p5⟩ := p
      have hD1 : H1 Dl = none := fresh_back e2 hD
      exact q _ H' (e2.trans p1) ⟨Dl, ys, rfl, by rw [dlt_new hD1]; exact p3, MonoA.up (dlt_right p1) p5⟩
/-! ### a list that a loop builds -/
theorem qs {t1 : TS} (h : t1 { D with nx := tz D } σ H) : tSeq t1 tz D σ H := h
theorem q_newL {i : Nat} (k : ∀ l, H l = none → tz D (σ.set i (some (.ref l))) (upd H l (.lst []))) : tSeq (tAsg (tLst tNil) (gName i)) tz D σ H := ⟨Nat.zero_le _, fun l hl => k l hl⟩
/-- H1: ahead of the list; l: its place; what it holds -/
structure Bld {α : Type} (H1 : Hp) (l : Addr) (R : α → RG) (L : List α) (H' : Hp) : Prop where
  ex : Ex H1 H'
  fr : H1 l = none
  at_ : ∃ ys, H' l = some (.lst ys) ∧ each R L ys (dlt (upd H1 l (.lst [])) H')
theorem upd_nil_none {H1 : Hp} {l b : Addr} {o : HO} (h : upd H1 l o b = none) : b ≠ l ∧ H1 b = none := by
  have nb : b ≠ l := fun z => by rw [z, upd_same] at h; cases h
  rw [upd_ne nb] at h
  exact ⟨nb, h⟩
variable {α : Type} {R : α → RG} {L : List α} {H1 H' H2 : Hp} {l : Addr}
theorem Bld.start (h : H1 l = none) : Bld H1 l R [] (upd H1 l (.lst [])) := ⟨Ex.new h, h, [], upd_same, .nil⟩
theorem Bld.ext [∀ a, Mono (R a)] (b : Bld H1 l R L H') (e : Ex H' H2) : Bld H1 l R L H2 := by
  obtain ⟨b1, b2, ys, b3, b4⟩ := b
  exact ⟨b1.trans e, b2, ys, e _ _ b3, MonoA.up (dlt_right e) b4⟩
/-- items that are new since H' -/
theorem Bld.exts [∀ a, Mono (R a)] {ys zs : List V} {M : List α} (b : Bld H1 l R L H') (hl : H' l = some (.lst ys)) (e : Ex H' H2) (q : each R M zs (dlt H' H2)) : Bld H1 l R (L ++ M) (upd H2 l (.lst (ys ++ zs))) := by
  obtain ⟨b1, b2, ys', b3, b4⟩ := b
  rw [hl] at b3
  cases b3
  refine ⟨Ex.mut (b1.trans e) b2, b2, _, upd_same, each.app (MonoA.up (fun b o hb => ?_) b4) (MonoA.up (fun b o hb => ?_) q)⟩
  · obtain ⟨f1, f2⟩ := fresh_of_dlt hb
    rw [dlt_new f1, upd_ne (upd_nil_none f1).1]
    exact e _ _ f2
  · obtain ⟨f1, f2⟩ := fresh_of_dlt hb
    have nb : b ≠ l := fun z => by rw [z, hl] at f1; cases f1
    rw [dlt_new (by rw [upd_ne nb]; exact fresh_back b1 f1), upd_ne nb]
    exact f2
theorem Bld.app [∀ a, Mono (R a)] {ys : List V} {a : α} {v : V} (b : Bld H1 l R L H') (hl : H' l = some (.lst ys)) (e : Ex H' H2) (q : R a v (dlt H' H2)) : Bld H1 l R (L ++ [a]) (upd H2 l (.lst (ys ++ [v]))) := b.exts hl e (.cons q .nil)
theorem Bld.len {ys : List V} (b : Bld H1 l R L H') (hl : H' l = some (.lst ys)) : ys.length = L.length := by
  obtain ⟨ys', b3, b4⟩ := b.at_
  rw [hl] at b3
  cases b3
  exact b4.len
theorem Bld.done [∀ a, Mono (R a)] {H0 : Hp} (b : Bld H1 l R L H') (e : Ex H0 H1) : isL (each R L) (.ref l) (dlt H0 H') := by
  obtain ⟨b1, b2, ys, b3, b4⟩ := b
  refine ⟨l, ys, rfl, by rw [dlt_new (fresh_back e b2)]; exact b3, MonoA.up (fun b o hb => ?_) b4⟩
  obtain ⟨f1, f2⟩ := fresh_of_dlt hb
  rw [dlt_new (fresh_back e (upd_nil_none f1).2)]
  exact f2
/-- what stood ahead of the list stands -/
theorem Bld.old (b : Bld H1 l R L H') {a : Addr} {o : HO} (h : H1 a = some o) : H' a = some o := b.ex _ _ h
end
end Bcw

/-! # directions -/
namespace Bcw
open PySem PySem.Spec PyProof.Rows L2 Evl Bcn BnC

/-! ### small words -/
theorem rv_lt {i j : Int} {H : Hp} : RV (rI0 fun i j => .bl (decide (i < j))) (.int i) (.int j) H (.bl (decide (i < j))) := rv_I0
theorem ev_abs {K : PySem.W.Frag} {σ : L2.St} {H : Hp} {te : TE} {i : Int} (h : Ev te σ H (.int i)) : Ev (tCB (fun xs H Q => ∃ i, xs = [.int i] ∧ Q (.int (if i < 0 then -i else i)) H) (tCons te tNil)) σ H (.int (if i < 0 then -i else i)) :=
  ev_cb (ea_cons h ea_nil) fun H1 _ _ q => ⟨i, rfl, q H1 (Ex.refl H1)⟩
/-- xs[i] of a tuple that was made -/
theorem ev_ixt {K : PySem.W.Frag} {σ : L2.St} {H : Hp} {ta tb : TE} {p : Addr} {xs : List V} {i : Int} {v : V} (h : H p = some (.tup xs)) (ha : Ev ta σ H (.ref p)) (hb : Ev tb σ H (.int i)) (hv : atI xs i = some v) : Ev (tOp (rIxT K) ta tb) σ H v := ev_op ha hb (rv_ixT (st_of h) hv)
theorem ev_ixl {K : PySem.W.Frag} {σ : L2.St} {H : Hp} {ta tb : TE} {p : Addr} {xs : List V} {i : Int} {v : V} (h : SqL K H p xs) (ha : Ev ta σ H (.ref p)) (hb : Ev tb σ H (.int i)) (hv : atI xs i = some v) : Ev (tOp (rIxL K) ta tb) σ H v := ev_op ha hb (rv_ixL h hv)

/-! ### promises -/
def spIsDirection : Sp := spV fun vs _ z => ∃ x y : Int, vs = [.int x, .int y] ∧ z = .bl (isDirB x y)
def spHalf : Sp := spV fun vs _ z => ∃ x y : Int, vs = [.int x, .int y] ∧ z = .int (half (x, y) : Nat)
/-- the numbers of a direction are small enough to be multiplied -/
def Sm (a : Point) : Prop := (-100000 ≤ a.1 ∧ a.1 ≤ 100000) ∧ (-100000 ≤ a.2 ∧ a.2 ≤ 100000)
def spAhead : Sp := spV fun vs H z => ∃ (p q : V) (a b : Point), vs = [p, q] ∧ pairI a p H ∧ pairI b q H ∧ Sm a ∧ Sm b ∧ z = .bl (dirBefore a b)

section
variable {P : Program} {w : World} {K : PySem.W.Frag} {mg : Str → Option Value} {base : Heap} {CL CH : Addr}
theorem ok_is_direction {f : Addr} {fd : FuncData} (F : Fun K "is_direction" "is_direction" s_is_direction f fd) (T : Txt K mg CL CH) : FnOk P w K mg base CX0 1 f fd ["x", "y"] spIsDirection := by
  refine F.ok sc_is_direction (spV_len fun vs H z ⟨_, _, e, _⟩ => by rw [e]; rfl) (fun cdv A outer s H vs Q E hr h => ?_)
  obtain ⟨R, ⟨z, ⟨x, y, rfl, rfl⟩, rfl⟩, k⟩ := h
  refine ⟨_, (pss_one (ps_ret (pe_and (pe_or (pe_cmpR op_ne (pv 0) pe_int (nomark _)) (pe_one (pe_cmpR op_ne (pv 1) pe_int (nomark _)))) (pe_and (pe_cmpR op_le (pe_callB call_abs (by rfl) T.b_abs (by decide +kernel) (pa_cons (pv 0) pa_nil)) (pe_gi T.c_MOST_PART) (nomark _)) (pe_one (pe_cmpR op_le (pe_callB call_abs (by rfl) T.b_abs (by decide +kernel) (pa_cons (pv 1) pa_nil)) (pe_gi T.c_MOST_PART) (nomark _))))))), ?_⟩
  refine s_ret (ev_andV (ev_orV (ev_op (ev_var rfl) ev_c (rv_ne rfl)) fun _ => ev_op (ev_var rfl) ev_c (rv_ne rfl)) fun _ => ev_andV (ev_op (ev_abs (K := K) (ev_var rfl)) ev_c rv_I0) fun _ => ev_op (ev_abs (K := K) (ev_var rfl)) ev_c rv_I0) fun H1 e => ?_
  refine k _ H1 e ?_
  show V.bl _ = V.bl _
  congr 1
  unfold isDirB
  rw [Bool.eq_iff_iff]
  simp only [Bool.and_eq_true, Bool.or_eq_true, decide_eq_true_eq, Bool.not_eq_true', decide_eq_false_iff_not, V.int.injEq]
  constructor
  · rintro ⟨h1, h2, h3⟩
    refine ⟨h1, ?_, ?_⟩
    · split at h2 <;> omega
    · split at h3 <;> omega
  · rintro ⟨h1, h2, h3⟩
    refine ⟨h1, ?_, ?_⟩ <;> split <;> omega
theorem ok_half_of {f : Addr} {fd : FuncData} (F : Fun K "half_of" "half_of" s_half_of f fd) (T : Txt K mg CL CH) : FnOk P w K mg base CX0 1 f fd ["x", "y"] spHalf := by
  refine F.ok sc_half_of (spV_len fun vs H z ⟨_, _, e, _⟩ => by rw [e]; rfl) (fun cdv A outer s H vs Q E hr h => ?_)
  obtain ⟨R, ⟨z, ⟨x, y, rfl, rfl⟩, rfl⟩, k⟩ := h
  refine ⟨_, (pss_cons (ps_if (PW.pt (pw_or (pt_cmpR op_gt (pv 1) pe_int (nomark _)) (pw_or1 (PW.pt (pw_and (pt_cmpR op_eq (pv 1) pe_int (nomark _)) (pw_and1 (pt_cmpR op_gt (pv 0) pe_int (nomark _))))))))
    (pss_one (ps_ret pe_int))
    pss_nil)
    (pss_one (ps_ret pe_int))), ?_⟩
  refine q_when (et_or (et_test (ev_op (ev_var rfl) ev_c rv_I0)) fun _ => et_and (et_test (ev_op (ev_var rfl) ev_c (rv_eq rfl))) fun _ => et_test (ev_op (ev_var rfl) ev_c rv_I0)) (fun h H1 e => ?_) (fun h H1 e => ?_)
  · refine s_ret ev_c fun H2 e2 => k _ _ (e.trans e2) ?_
    simp only [Bool.or_eq_true, Bool.and_eq_true, decide_eq_true_eq, V.int.injEq] at h
    show V.int 0 = V.int _
    rw [half_eq, if_pos h]
    rfl
  · refine s_ret ev_c fun H2 e2 => k _ _ (e.trans e2) ?_
    have h' : ¬ (0 < y ∨ y = 0 ∧ 0 < x) := fun z => by
      have : (decide (0 < y) || (decide (V.int y = V.int 0) && decide (0 < x))) = true := by
        simp only [Bool.or_eq_true, Bool.and_eq_true, decide_eq_true_eq, V.int.injEq]
        exact z
      rw [this] at h
      cases h
    show V.int 1 = V.int _
    rw [half_eq, if_neg h']
    rfl
/-- the two ints of a pair -/
theorem pairI.at {a : Point} {p : V} {H : Hp} (h : pairI a p H) : ∃ l, p = .ref l ∧ H l = some (.tup [.int a.1, .int a.2]) := h
theorem ok_is_ahead {f : Addr} {fd : FuncData} (F : Fun K "is_ahead" "is_ahead" s_is_ahead f fd) (T : Txt K mg CL CH) (D_half_of : DefAt P w K mg base "half_of" 1 ["x", "y"] spHalf) : FnOk P w K mg base CX0 2 f fd ["one", "other"] spAhead := by
  refine F.ok sc_is_ahead (spV_len fun vs H z ⟨_, _, _, _, e, _⟩ => by rw [e]; rfl) (fun cdv A outer s H vs Q E hr h => ?_)
  obtain ⟨R, ⟨z, ⟨_, _, a, b, rfl, ⟨p, rfl, hp⟩, ⟨q, rfl, hq⟩, sa, sb, rfl⟩, rfl⟩, k⟩ := h
  refine ⟨_, (pss_cons (ps_set (i := 2) sc_is_ahead.nd rfl (Or.inl rfl) (pe_dcall D_half_of (hr.mono (by decide)) (pa_cons (pe_ix ix_tup (pv 0) pe_int (fun _ _ => rfl)) (pa_cons (pe_ix ix_tup (pv 0) pe_int (fun _ _ => rfl)) pa_nil))))
    (pss_cons (ps_set (i := 3) sc_is_ahead.nd rfl (Or.inl rfl) (pe_dcall D_half_of (hr.mono (by decide)) (pa_cons (pe_ix ix_tup (pv 1) pe_int (fun _ _ => rfl)) (pa_cons (pe_ix ix_tup (pv 1) pe_int (fun _ _ => rfl)) pa_nil))))
    (pss_cons (ps_if (pt_cmpR op_ne (pv 2) (pv 3) (nomark _))
    (pss_one (ps_ret (pe_cmpR op_lt (pv 2) (pv 3) (nomark _))))
    pss_nil)
    (pss_one (ps_ret (pe_cmpR op_gt (pe_op op_sub (pe_op op_mul (pe_ix ix_tup (pv 0) pe_int (fun _ _ => rfl)) (pe_ix ix_tup (pv 1) pe_int (fun _ _ => rfl))) (pe_op op_mul (pe_ix ix_tup (pv 0) pe_int (fun _ _ => rfl)) (pe_ix ix_tup (pv 1) pe_int (fun _ _ => rfl)))) pe_int (nomark _))))))), ?_⟩
  refine q_asg (ev_callV (ea_cons (ev_ixt hp (ev_var rfl) ev_c rfl) (ea_cons (ev_ixt hp (ev_var rfl) ev_c rfl) ea_nil)) fun _ _ => ⟨a.1, a.2, rfl, rfl⟩) fun H1 e1 => ?_
  refine q_asg (ev_callV (ea_cons (ev_ixt (e1 _ _ hq) (ev_var rfl) ev_c rfl) (ea_cons (ev_ixt (e1 _ _ hq) (ev_var rfl) ev_c rfl) ea_nil)) fun _ _ => ⟨b.1, b.2, rfl, rfl⟩) fun H2 e2 => ?_
  have e12 := e1.trans e2
  have main := ahead_eq a b
  refine q_when (et_test (ev_op (ev_var rfl) (ev_var rfl) (rv_ne rfl))) (fun h H3 e3 => ?_) (fun h H3 e3 => ?_)
  · refine s_ret (ev_op (ev_var rfl) (ev_var rfl) rv_I0) fun H4 e4 => k _ _ ((e12.trans e3).trans e4) ?_
    have h' : half a ≠ half b := fun z => by
      rw [show half (a.1, a.2) = half a from rfl, show half (b.1, b.2) = half b from rfl, z] at h
      simp at h
    rw [if_pos h'] at main
    show V.bl _ = V.bl _
    rw [← main]
    congr 1
    rw [decide_eq_decide]
    exact Int.ofNat_lt
  · have hp3 := e3 _ _ (e12 _ _ hp)
    have hq3 := e3 _ _ (e12 _ _ hq)
    have mul : ∀ {x y : Int}, (-100000 ≤ x ∧ x ≤ 100000) → CMul x y := fun h => .inl ⟨by omega, by omega⟩
    refine s_ret (ev_op (ev_op (ev_op (ev_ixt hp3 (ev_var rfl) ev_c rfl) (ev_ixt hq3 (ev_var rfl) ev_c rfl) (rv_I (mul sa.1))) (ev_op (ev_ixt hp3 (ev_var rfl) ev_c rfl) (ev_ixt hq3 (ev_var rfl) ev_c rfl) (rv_I (mul sa.2))) rv_I0) ev_c rv_I0) fun H4 e4 => k _ _ ((e12.trans e3).trans e4) ?_
    have h' : ¬ half a ≠ half b := fun z => by
      have : (V.int ((half (a.1, a.2) : Nat) : Int)) ≠ V.int ((half (b.1, b.2) : Nat) : Int) := fun e => z (Int.ofNat.inj (V.int.inj e))
      rw [decide_eq_false this] at h
      cases h
    rw [if_neg h'] at main
    show V.bl _ = V.bl _
    rw [← main]
end
end Bcw

/-! # sectors -/
namespace Bcw
open PySem PySem.Spec PyProof.Rows L2 Evl Bcn BnC

/-- a sector: a tuple of a tuple and a number -/
def rawR (r : Raw) : RG := isT (consR (pairI r.1) (consR (isV (.int r.2)) (areV [])))
instance : Mono (rawR r) := inferInstanceAs (Mono (isT _))
theorem rawR.at {r : Raw} {v : V} {H : Hp} (h : rawR r v H) : ∃ l d, v = .ref l ∧ H l = some (.tup [.ref d, .int r.2]) ∧ H d = some (.tup [.int r.1.1, .int r.1.2]) := by
  obtain ⟨l, vs, rfl, hl, x, t, rfl, ⟨d, rfl, hd⟩, y, u, rfl, hy, hu⟩ := h
  cases (show y = _ from hy)
  cases (show u = _ from hu)
  exact ⟨l, d, rfl, hl, hd⟩
theorem each_map {α β : Type} {R : β → RG} {f : α → β} : ∀ {l : List α} {vs : List V} {G : Hp}, each R (l.map f) vs G ↔ each (fun a => R (f a)) l vs G
  | [], vs, G => ⟨fun h => by cases h; exact .nil, fun h => by cases h; exact .nil⟩
  | a :: l, vs, G => ⟨fun h => by
      cases h with
      | cons r t => exact .cons r (each_map.mp t), fun h => by
      cases h with
      | cons r t => exact .cons r (each_map.mpr t)⟩
/-- the last item -/
theorem atI_neg1 {vs : List V} {v : V} (h : vs.getLast? = some v) : atI vs (-1) = some v := by
  obtain ⟨ys, e⟩ := List.getLast?_eq_some_iff.mp h
  rw [e]
  exact atI_last ys v
theorem each.last {α : Type} {R : α → RG} {l : List α} {vs : List V} {G : Hp} {a : α} (h : each R l vs G) (hl : l.getLast? = some a) : ∃ v, vs.getLast? = some v ∧ R a v G := by
  rw [List.getLast?_eq_getElem?] at hl
  obtain ⟨v, h1, h2⟩ := each.at h hl
  exact ⟨v, by rw [List.getLast?_eq_getElem?, h.len]; exact h1, h2⟩
/-- sectors of a light as they stand -/
def secsR (l : List Sector) : RG := isL (each rawR (l.map encS))
instance : Mono (secsR l) := inferInstanceAs (Mono (isL _))
structure GoodS (l : List Sector) : Prop where
  ne : l ≠ []
  ord : inOrder l = true
  sec : ∀ s ∈ l, Nz s.1 ∧ (-1000 ≤ s.1.1 ∧ s.1.1 ≤ 1000) ∧ (-1000 ≤ s.1.2 ∧ s.1.2 ≤ 1000)
def spColourBy : Sp := spV fun vs H z => ∃ (p q : V) (l : List Sector) (a : Point), vs = [p, q] ∧ secsR l p H ∧ pairI a q H ∧ GoodS l ∧ Nz a ∧ Sm a ∧ z = .int (sectorOf l a : Nat)
def spSectorsOf : Sp := spG fun vs H R => ∃ (p : V) (ns : List Int), vs = [p] ∧ isO (.lst (ns.map V.int)) p H ∧ ns.length ≤ 4000 ∧ R = isL (each rawR (rawOf ns))
def spAreSectors : Sp := spV fun vs H z => ∃ (p : V) (l : List Raw), vs = [p, .int 12, .int 4] ∧ isL (each rawR l) p H ∧ l.length ≤ 4000 ∧ z = .bl (areB l)

section
variable {P : Program} {w : World} {K : PySem.W.Frag} {mg : Str → Option Value} {base : Heap} {CL CH : Addr}
theorem ok_colour_by {f : Addr} {fd : FuncData} (F : Fun K "colour_by" "colour_by" s_colour_by f fd) (T : Txt K mg CL CH) (D_is_ahead : DefAt P w K mg base "is_ahead" 2 ["one", "other"] spAhead) : FnOk P w K mg base CX0 3 f fd ["sectors", "way"] spColourBy := by
  refine F.ok sc_colour_by (spV_len fun vs H z ⟨_, _, _, _, e, _⟩ => by rw [e]; rfl) (fun cdv A outer s H vs Q E hr h => ?_)
  obtain ⟨R, ⟨z, ⟨_, q, l, a, rfl, ⟨p, vs, rfl, hp, hl⟩, hq, gs, na, sa, rfl⟩, rfl⟩, k⟩ := h
  refine ⟨_, (pss_cons (ps_set (i := 2) sc_colour_by.nd rfl (Or.inl rfl) (pe_ix ix_tup (pe_ix ix_list (pv 0) (pe_un un_neg pe_int) (fun _ _ => rfl)) pe_int (fun _ _ => rfl)))
    (pss_cons (ps_for PassesOwn.never rfl (pi_list (pv 0))
    (pg_tup rfl (pgs_cons (pg_name (i := 3) sc_colour_by.nd rfl (Or.inl rfl)) (pgs_cons (pg_name (i := 4) sc_colour_by.nd rfl (Or.inl rfl)) pgs_nil)))
    (pss_cons (ps_if (pt_val (pe_dcall D_is_ahead (hr.mono (by decide)) (pa_cons (pv 1) (pa_cons (pv 3) pa_nil))))
    (pss_one (ps_ret (pv 2)))
    pss_nil)
    (pss_one (ps_set (i := 2) sc_colour_by.nd rfl (Or.inl rfl) (pv 4)))))
    (pss_one (ps_ret (pv 2))))), ?_⟩
  obtain ⟨t, ht⟩ : ∃ t, l.getLast? = some t := by
    cases e : l.getLast? with
    | none => exact absurd (List.getLast?_eq_none_iff.mp e) gs.ne
    | some t => exact ⟨t, rfl⟩
  obtain ⟨v, hv, hr⟩ := each.last (each_map.mp hl) ht
  obtain ⟨d, d', rfl, hd, _⟩ := rawR.at hr
  have main := colour_eq na ht gs.ord fun x hx => (gs.sec x hx).1
  refine q_asg (ev_ixt hd (ev_ixl (sq_of hp) (ev_var rfl) (ev_un ev_c ru_neg) (atI_neg1 hv)) ev_c rfl) fun H1 e1 => ?_
  refine q_forL (ev_var rfl) (sq_of (e1 _ _ hp)) (fun i σ' H' => ∃ x y f, σ' = [some (.ref p), some q, some (.int (f : Nat)), x, y] ∧ Ex H1 H' ∧ colLoop a f (l.drop i) = sectorOf l a) (fun H2 e2 => ⟨none, none, _, rfl, e2, main⟩) (fun i σ' H' _ ⟨_, _, _, _, e2, _⟩ => sq_of (e2 _ _ (e1 _ _ hp))) ?_ ?_
  · rintro i x σ' H' hi ⟨y1, y2, f, rfl, e2, hc⟩
    have e12 := e1.trans e2
    obtain ⟨sx, hs, rx⟩ := each.get (each_map.mp hl) hi
    obtain ⟨c, d2, rfl, hc1, hc2⟩ := rawR.at (Mono.up e12 rx)
    refine g_pair (st_of hc1) ?_
    have hdrop : l.drop i = sx :: l.drop (i + 1) := by
      obtain ⟨h1, h2⟩ := List.getElem?_eq_some_iff.mp hs
      rw [List.drop_eq_getElem_cons h1, h2]
    rw [hdrop] at hc
    unfold colLoop at hc
    have sb : Sm sx.1 := by
      obtain ⟨_, b1, b2⟩ := gs.sec sx (List.mem_of_getElem? hs)
      exact ⟨by omega, by omega⟩
    refine q_when (et_B (ev_callV (ea_cons (ev_var rfl) (ea_cons (ev_var rfl) ea_nil)) fun H2 e3 => ⟨q, .ref d2, a, sx.1, rfl, Mono.up (e12.trans e3) hq, ⟨d2, rfl, e3 _ _ hc2⟩, sa, sb, rfl⟩)) (fun hb H2 e3 => ?_) (fun hb H2 e3 => ?_)
    · rw [if_pos hb] at hc
      refine s_ret (ev_var rfl) fun H3 e4 => k _ _ ((e12.trans e3).trans e4) ?_
      show V.int _ = V.int _
      rw [hc]
    · rw [if_neg (by rw [hb]; decide)] at hc
      exact s_asg (ev_var rfl) fun H3 e4 => ⟨_, _, sx.2, rfl, (e2.trans e3).trans e4, hc⟩
  · rintro σ' H' ⟨y1, y2, f, rfl, e2, hc⟩
    rw [hl.len, List.length_map, List.drop_length] at hc
    refine s_ret (ev_var rfl) fun H3 e4 => k _ _ ((e1.trans e2).trans e4) ?_
    show V.int _ = V.int _
    rw [← hc]
    rfl
end
end Bcw

namespace Bcw
open PySem PySem.Spec PyProof.Rows L2 Evl Bcn BnC

theorem ev_lenS {K : PySem.W.Frag} {σ : L2.St} {H : Hp} {ta : TE} {p : Addr} {xs : List V} (h : SqL K H p xs) (ha : Ev ta σ H (.ref p)) : Ev (tCB (fun xs H Q => ∃ p ys, xs = [.ref p] ∧ (SqL K H p ys ∨ SqT K H p ys) ∧ Q (.int ys.length) H) (tCons ta tNil)) σ H (.int (xs.length : Int)) := ev_len ha h
theorem rv_mod {H : Hp} {i j : Int} (h : j ≠ 0) : RV (rI (fun _ j => j ≠ 0) fun i j => .int (i.fmod j)) (.int i) (.int j) H (.int (i.fmod j)) := rv_I h
theorem threes_at : ∀ {l : List Int} {i : Nat}, l.length % 3 = 0 → i < (threes l).length → ∃ x y c, l[3 * i]? = some x ∧ l[3 * i + 1]? = some y ∧ l[3 * i + 2]? = some c ∧ (threes l)[i]? = some ((x, y), c)
  | x :: y :: c :: r, 0, _, _ => ⟨x, y, c, rfl, rfl, rfl, rfl⟩
  | x :: y :: c :: r, i + 1, h, hi => by
    obtain ⟨x', y', c', h1, h2, h3, h4⟩ := threes_at (l := r) (i := i) (by simp only [List.length_cons] at h; omega) (by simpa [threes] using hi)
    have e1 : 3 * (i + 1) = 3 * i + 1 + 1 + 1 := by omega
    refine ⟨x', y', c', ?_, ?_, ?_, h4⟩
    · rw [e1]; exact h1
    · rw [e1]; exact h2
    · rw [e1]; exact h3
  | [], _, _, hi => absurd hi (Nat.not_lt_zero _)
  | [_], _, h, _ => by simp at h
  | [_, _], _, h, _ => by simp at h
theorem take_succ' {α : Type} {l : List α} {i : Nat} {x : α} (h : l[i]? = some x) : l.take (i + 1) = l.take i ++ [x] := by
  obtain ⟨h1, h2⟩ := List.getElem?_eq_some_iff.mp h
  rw [List.take_succ_eq_append_getElem h1, h2]
theorem map_at {l : List Int} {i : Nat} {x : Int} (h : l[i]? = some x) : (l.map V.int)[i]? = some (.int x) := by rw [List.getElem?_map, h]; rfl
/-- an item of a list of ints -/
theorem at_int {l : List Int} {i : Nat} {z : Int} {x : Int} (e : z = (i : Int)) (h : l[i]? = some x) : atI (l.map V.int) z = some (.int x) := at_of e (map_at h)

section
variable {P : Program} {w : World} {K : PySem.W.Frag} {mg : Str → Option Value} {base : Heap} {CL CH : Addr}
theorem ok_sectors_of {f : Addr} {fd : FuncData} (F : Fun K "sectors_of" "sectors_of" s_sectors_of f fd) (T : Txt K mg CL CH) : FnOk P w K mg base CX0 1 f fd ["numbers"] spSectorsOf := by
  refine F.ok sc_sectors_of (spG_len fun vs H z ⟨_, _, e, _⟩ => by rw [e]; rfl) (fun cdv A outer s H vs Q E hr h => ?_)
  obtain ⟨R, ⟨_, ns, rfl, ⟨p, rfl, hp⟩, hlen, rfl⟩, k⟩ := h
  refine ⟨_, (pss_cons (ps_if (pt_cmpR op_ne (pe_op op_modN (pe_callB call_len_seq (by rfl) T.b_len PySem.boot_len (pa_cons (pv 0) pa_nil)) pe_int) pe_int (nomark _))
    (pss_one (ps_ret (pe_lst pa_nil)))
    pss_nil)
    (pss_cons (ps_set (i := 1) sc_sectors_of.nd rfl (Or.inl rfl) (pe_lst pa_nil))
    (pss_cons (ps_for PassesOwn.never rfl (pi_range3 (by rfl) T.b_range (pa_cons pe_int (pa_cons (pe_callB call_len_seq (by rfl) T.b_len PySem.boot_len (pa_cons (pv 0) pa_nil)) (pa_cons pe_int pa_nil))))
    (pg_name (i := 2) sc_sectors_of.nd rfl (Or.inl rfl))
    (pss_one (ps_expr (pe_bm PySem.F.plainAttrs_list PySem.F.slot_list_append PySem.F.type_list_append mt_append (pv 1) (pa_cons (pe_tup (pa_cons (pe_tup (pa_cons (pe_ix ix_list (pv 0) (pv 2) (fun _ _ => rfl)) (pa_cons (pe_ix ix_list (pv 0) (pe_op op_add (pv 2) pe_int) (fun _ _ => rfl)) pa_nil))) (pa_cons (pe_ix ix_list (pv 0) (pe_op op_add (pv 2) pe_int) (fun _ _ => rfl)) pa_nil))) pa_nil)))))
    (pss_one (ps_ret (pv 1)))))), ?_⟩
  have hm : ((ns.map V.int).length : Int).fmod 3 = ((ns.length % 3 : Nat) : Int) := by
    rw [List.length_map, Int.fmod_eq_emod_of_nonneg _ (by decide)]
    omega
  refine q_when (b := !decide (V.int (((ns.map V.int).length : Int).fmod 3) = V.int 0)) (et_test (ev_op (ev_op (ev_lenS (sq_of hp) (ev_var rfl)) ev_c (rv_mod (by decide))) ev_c (rv_ne rfl))) (fun hb H1 e1 => ?_) (fun hb H1 e1 => ?_)
  · have hn : ns.length % 3 ≠ 0 := fun z => by
      rw [hm, z] at hb
      exact absurd hb (by decide)
    refine s_retL (el_lst ea_nil (by decide)) fun l H2 hl e2 hl2 => k _ _ (e1.trans e2) ?_
    refine ⟨l, [], rfl, by rw [dlt_new (fresh_back e1 hl)]; exact hl2, ?_⟩
    unfold rawOf
    rw [if_neg hn]
    exact .nil
  · have hn : ns.length % 3 = 0 := by
      by_cases z : ns.length % 3 = 0
      · exact z
      · rw [hm] at hb
        have : ¬ V.int ((ns.length % 3 : Nat) : Int) = V.int 0 := fun e => z (Int.ofNat.inj (V.int.inj e))
        rw [decide_eq_false this] at hb
        cases hb
    have hro : rawOf ns = threes ns := if_pos hn
    rw [hro] at k
    refine q_newL fun l hl => ?_
    have h1 : H1 p = some (.lst (ns.map V.int)) := e1 _ _ hp
    have hz : (threes ns).length = (ns.length + 2) / 3 := by rw [threes_len]; omega
    have hL : (upd H1 l (.lst [])) p = some (.lst (ns.map V.int)) := by rw [upd_ne (ne_of_none h1 hl)]; exact h1
    have len' : ((ns.map V.int).length : Int) = (ns.length : Int) := by rw [List.length_map]
    refine q_forC (n := (ns.length + 2) / 3) (ea_cons ev_c (ea_cons (ev_lenS (sq_of hL) (ev_var rfl)) (ea_cons ev_c ea_nil))) (by rw [len']; exact RgC.by3 (by omega)) (fun i σ' H' => ∃ y, σ' = [some (.ref p), some (.ref l), y] ∧ Bld H1 l rawR ((threes ns).take i) H') (fun H2 e2 => ⟨none, rfl, (Bld.start hl).ext e2⟩) ?_ ?_
    · rintro i σ' H' hi ⟨y, rfl, b⟩
      obtain ⟨ys, hy, _⟩ := id b.at_
      obtain ⟨x1, x2, x3, g1, g2, g3, g4⟩ := threes_at (i := i) hn (by omega)
      have hb := b.old h1
      have c0 : (0 : Int) + (i : Int) * 3 = ((3 * i : Nat) : Int) := by omega
      have c1 : (0 : Int) + (i : Int) * 3 + 1 = ((3 * i + 1 : Nat) : Int) := by omega
      have c2 : (0 : Int) + (i : Int) * 3 + 2 = ((3 * i + 2 : Nat) : Int) := by omega
      have ylen := b.len hy
      rw [List.length_take] at ylen
      refine s_appG (R := rawR ((x1, x2), x3)) hy (ev_var rfl) (eg_tup (ega_cons (eg_tup (ega_cons (ev_ixl (sq_of hb) (ev_var rfl) (ev_var rfl) (at_int c0 g1)).g (ega_cons (ev_ixl (sq_of hb) (ev_var rfl) (ev_op (ev_var rfl) ev_c rv_I0) (at_int c1 g2)).g ega_nil)) ?_ |>.weak ?_) (ega_cons (ev_ixl (sq_of hb) (ev_var rfl) (ev_op (ev_var rfl) ev_c rv_I0) (at_int c2 g3)).g ega_nil)) ?_) (by omega) fun v H2 e2 r => ⟨_, rfl, ?_⟩
      · rintro vs G ⟨_, _, rfl, _, _, _, rfl, _, rfl⟩; exact Nat.le_of_ble_eq_true rfl
      · rintro v G ⟨q, vs, rfl, hq, _, _, rfl, r1, _, _, rfl, r2, r3⟩
        cases (show _ = _ from r1)
        cases (show _ = _ from r2)
        cases (show _ = _ from r3)
        exact ⟨q, rfl, hq⟩
      · rintro vs G ⟨_, _, rfl, _, _, _, rfl, _, rfl⟩; exact Nat.le_of_ble_eq_true rfl
      · rw [take_succ' g4]
        exact b.app hy e2 r
    · rintro σ' H' ⟨y, rfl, b⟩
      rw [← hz, List.take_length] at b
      exact s_ret (ev_var rfl) fun H2 e2 => k _ _ ((e1.trans b.ex).trans e2) ((b.ext e2).done e1)
end
end Bcw

namespace Bcw
open PySem PySem.Spec PyProof.Rows L2 Evl Bcn BnC

theorem ev_chain {σ : L2.St} {H : Hp} {ta tb tc : TE} {i j k : Int} {f g : Int → Int → Bool} (ha : Ev ta σ H (.int i)) (hb : Ev tb σ H (.int j)) (hc : Ev tc σ H (.int k)) : Ev (tChain (rI0 fun i j => .bl (f i j)) (rI0 fun i j => .bl (g i j)) ta tb tc) σ H (.bl (f i j && g j k)) := fun H1 e Q q =>
  ha H1 e _ fun H2 e2 => hb H2 (e.trans e2) _ fun H3 e3 => ⟨i, j, rfl, rfl, f i j, rfl, by
    cases hf : f i j with
    | false =>
      rw [hf] at q
      exact q H3 (e2.trans e3)
    | true =>
      rw [hf] at q
      show tc σ H3 _
      exact hc H3 ((e.trans e2).trans e3) _ fun H4 e4 => ⟨j, k, rfl, rfl, q H4 ((e2.trans e3).trans e4)⟩⟩
theorem cut_from1 (xs : List V) : cutV xs (some 1) none = xs.drop 1 := by
  unfold cutV
  rw [show HT.sIx xs.length 0 (some 1) = min 1 xs.length from HT.sIx_nat xs.length 0 1, HT.sIx_none]
  cases xs with
  | nil => rfl
  | cons x r =>
    rw [show min 1 (x :: r).length = 1 by
      rw [List.length_cons]
      omega]
    show (List.take ((x :: r).length - 1) r) = r
    rw [List.length_cons, Nat.add_sub_cancel]
    exact List.take_length
theorem ord_drop : ∀ {l : List Raw} {i : Nat} {a b : Raw}, l[i]? = some a → l[i + 1]? = some b → ordRaw (l.drop i) = (dirBefore a.1 b.1 && ordRaw (l.drop (i + 1)))
  | [], _, _, _, h, _ => by simp at h
  | [_], 0, _, _, _, h => by simp at h
  | [_], i + 1, _, _, h, _ => by simp at h
  | x :: y :: r, 0, a, b, h1, h2 => by
    cases Option.some.inj h1
    cases Option.some.inj h2
    rfl
  | x :: y :: r, i + 1, a, b, h1, h2 => ord_drop (l := y :: r) (i := i) h1 h2
theorem ord_end : ∀ {l : List Raw}, ordRaw (l.drop (l.length - 1)) = true
  | [] => rfl
  | [_] => rfl
  | x :: y :: r => ord_end (l := y :: r)

section
variable {P : Program} {w : World} {K : PySem.W.Frag} {mg : Str → Option Value} {base : Heap} {CL CH : Addr}
theorem ok_are_sectors {f : Addr} {fd : FuncData} (F : Fun K "are_sectors" "are_sectors" s_are_sectors f fd) (T : Txt K mg CL CH) (D_is_direction : DefAt P w K mg base "is_direction" 1 ["x", "y"] spIsDirection)
    (D_is_ahead : DefAt P w K mg base "is_ahead" 2 ["one", "other"] spAhead) : FnOk P w K mg base CX0 3 f fd ["sectors", "most", "colours"] spAreSectors := by
  refine F.ok sc_are_sectors (spV_len fun vs H z ⟨_, _, e, _⟩ => by rw [e]; rfl) (fun cdv A outer s H vs Q E hr h => ?_)
  obtain ⟨R, ⟨z, ⟨_, l, rfl, ⟨p, vs, rfl, hp, hl⟩, hlen, rfl⟩, rfl⟩, k⟩ := h
  refine ⟨_, (pss_cons (ps_if (pt_not (pt_chain op_le op_le pe_int (pe_callB call_len_seq (by rfl) T.b_len PySem.boot_len (pa_cons (pv 0) pa_nil)) (pv 1)))
    (pss_one (ps_ret pe_bl))
    pss_nil)
    (pss_cons (ps_for PassesOwn.never rfl (pi_list (pv 0))
    (pg_tup rfl (pgs_cons (pg_name (i := 3) sc_are_sectors.nd rfl (Or.inl rfl)) (pgs_cons (pg_name (i := 4) sc_are_sectors.nd rfl (Or.inl rfl)) pgs_nil)))
    (pss_one (ps_if (PW.pt (pw_or (pt_not (pt_val (pe_dcall D_is_direction (hr.mono (by decide)) (pa_cons (pe_ix ix_tup (pv 3) pe_int (fun _ _ => rfl)) (pa_cons (pe_ix ix_tup (pv 3) pe_int (fun _ _ => rfl)) pa_nil))))) (pw_or1 (pt_not (pt_chain op_le op_le pe_int (pv 4) (pv 2))))))
    (pss_one (ps_ret pe_bl))
    pss_nil)))
    (pss_cons (ps_for PassesOwn.never rfl (pi_zip (by rfl) T.b_zip (pa_cons (pv 0) (pa_cons (pe_slice sl_list (pv 0) (po_some pe_int) po_none) pa_nil)))
    (pg_tup rfl (pgs_cons (pg_name (i := 5) sc_are_sectors.nd rfl (Or.inl rfl)) (pgs_cons (pg_name (i := 6) sc_are_sectors.nd rfl (Or.inl rfl)) pgs_nil)))
    (pss_one (ps_if (pt_not (pt_val (pe_dcall D_is_ahead (hr.mono (by decide)) (pa_cons (pe_ix ix_tup (pv 5) pe_int (fun _ _ => rfl)) (pa_cons (pe_ix ix_tup (pv 6) pe_int (fun _ _ => rfl)) pa_nil)))))
    (pss_one (ps_ret pe_bl))
    pss_nil)))
    (pss_one (ps_ret pe_bl))))), ?_⟩
  have hvl := hl.len
  have no : ∀ {H'}, Ex H H' → areB l = false → ∀ H2, Ex H' H2 → Q (.bl false) H2 := fun e h H2 e2 => k _ _ (e.trans e2) (by rw [h]; rfl)
  refine q_when (et_not (et_test (ev_chain (f := fun i j => decide (i ≤ j)) (g := fun i j => decide (i ≤ j)) ev_c (ev_lenS (sq_of hp) (ev_var rfl)) (ev_var rfl)))) (fun hb H1 e1 => ?_) (fun hb H1 e1 => ?_)
  · refine s_ret ev_c (no e1 ?_)
    have h' : ¬ (1 ≤ l.length ∧ l.length ≤ 12) := fun z => by
      rw [hvl, decide_eq_true (by omega : (1 : Int) ≤ (l.length : Int)), decide_eq_true (by omega : (l.length : Int) ≤ 12)] at hb
      cases hb
    unfold areB
    rw [decide_eq_false h']
    rfl
  have hlen' : 1 ≤ l.length ∧ l.length ≤ 12 := by
    rw [Bool.not_eq_false', Bool.and_eq_true, decide_eq_true_eq, decide_eq_true_eq, hvl] at hb
    omega
  -- the sectors one by one
  refine q_forL (ev_var rfl) (sq_of (e1 _ _ hp)) (fun i σ' H' => ∃ x y, σ' = [some (.ref p), some (.int 12), some (.int 4), x, y, none, none] ∧ Ex H1 H' ∧ (l.take i).all okRaw = true) (fun H2 e2 => ⟨none, none, rfl, e2, rfl⟩) (fun i σ' H' _ ⟨_, _, _, e2, _⟩ => sq_of (e2 _ _ (e1 _ _ hp))) ?_ ?_
  · rintro i x σ' H' hi ⟨y1, y2, rfl, e2, hc⟩
    have e12 := e1.trans e2
    obtain ⟨sx, hs, rx⟩ := each.get hl hi
    obtain ⟨c, d2, rfl, hc1, hc2⟩ := rawR.at (Mono.up e12 rx)
    refine g_pair (st_of hc1) ?_
    refine s_when (et_or (et_not (et_B (ev_callV (ea_cons (ev_ixt hc2 (ev_var rfl) ev_c rfl) (ea_cons (ev_ixt hc2 (ev_var rfl) ev_c rfl) ea_nil)) fun _ _ => ⟨_, _, rfl, rfl⟩))) fun _ => et_not (et_test (ev_chain (f := fun i j => decide (i ≤ j)) (g := fun i j => decide (i ≤ j)) ev_c (ev_var rfl) (ev_var rfl)))) (fun hb H2 e3 => ?_) (fun hb H2 e3 => ?_)
    · refine s_ret ev_c (no (e12.trans e3) ?_)
      have h' : okRaw sx = false := by
        unfold okRaw
        cases z : isDirB sx.1.1 sx.1.2 with
        | false => rfl
        | true =>
          rw [z] at hb
          have hb' : (!(decide (0 ≤ sx.2) && decide (sx.2 ≤ 4))) = true := hb
          rw [Bool.true_and, decide_eq_false_iff_not]
          rintro ⟨z1, z2⟩
          rw [decide_eq_true z1, decide_eq_true z2] at hb'
          cases hb'
      unfold areB
      have : l.all okRaw = false := by
        rw [List.all_eq_false]
        exact ⟨sx, List.mem_of_getElem? hs, by rw [h']; decide⟩
      rw [this, Bool.and_false]
      rfl
    · refine ⟨_, _, rfl, e2.trans e3, ?_⟩
      rw [take_succ' hs, List.all_append, hc]
      rw [Bool.or_eq_false_iff, Bool.not_eq_false', Bool.not_eq_false', Bool.and_eq_true, decide_eq_true_eq, decide_eq_true_eq] at hb
      show (true && (okRaw sx && true)) = true
      unfold okRaw
      rw [hb.1, decide_eq_true hb.2]
      rfl
  · rintro σ' H2 ⟨y1, y2, rfl, e2, hc⟩
    rw [hvl, List.take_length] at hc
    have e12 := e1.trans e2
    have okd : ∀ {i : Nat} {a : Raw}, l[i]? = some a → Sm a.1 := fun {i a} ha => by
      have z := List.all_eq_true.mp hc a (List.mem_of_getElem? ha)
      unfold okRaw isDirB at z
      simp only [Bool.and_eq_true, decide_eq_true_eq] at z
      exact ⟨by omega, by omega⟩
    refine q_forZ (ev_var rfl) (sq_of (e12 _ _ hp)) (el_sl (ev_var rfl) (eo_some ev_c) eo_none (sq_of (e12 _ _ hp))) (fun b i σ' H' => ∃ x y z u, σ' = [some (.ref p), some (.int 12), some (.int 4), z, u, x, y] ∧ Ex H2 H' ∧ H' b = some (.lst (cutV vs (some 1) none)) ∧ ordRaw (l.drop i) = ordRaw l)
      (fun b H3 e3 _ hb => ⟨none, none, _, _, rfl, e3, hb, rfl⟩) (fun b i σ' H' ⟨_, _, _, _, _, e3, hb, _⟩ => ⟨sq_of (e3 _ _ (e12 _ _ hp)), sq_of hb⟩) ?_ ?_
    · rintro b i x y T' σ' H' hx hy ⟨y3, y4, y5, y6, rfl, e3, hb3, ho⟩ hT
      rw [cut_from1, List.getElem?_drop, Nat.add_comm 1 i] at hy
      obtain ⟨sx, hs, rx⟩ := each.get hl hx
      obtain ⟨sy, hs', ry⟩ := each.get hl hy
      have e4 : Ex H' (upd H' T' (.tup [x, y])) := Ex.new hT
      have e14 := (e12.trans e3).trans e4
      obtain ⟨c, d2, rfl, hc1, hc2⟩ := rawR.at (Mono.up e14 rx)
      obtain ⟨c', d2', rfl, hc1', hc2'⟩ := rawR.at (Mono.up e14 ry)
      refine g_pair (st_of upd_same) ?_
      have ho' := ord_drop hs hs'
      refine s_when (et_not (et_B (ev_callV (ea_cons (ev_ixt hc1 (ev_var rfl) ev_c rfl) (ea_cons (ev_ixt hc1' (ev_var rfl) ev_c rfl) ea_nil)) fun H4 e5 => ⟨.ref d2, .ref d2', sx.1, sy.1, rfl, ⟨d2, rfl, e5 _ _ hc2⟩, ⟨d2', rfl, e5 _ _ hc2'⟩, okd hs, okd hs', rfl⟩))) (fun hb H4 e5 => ?_) (fun hb H4 e5 => ?_)
      · refine s_ret ev_c (no (e14.trans e5) ?_)
        rw [Bool.not_eq_true'] at hb
        rw [ho, hb] at ho'
        unfold areB
        rw [ho', Bool.false_and, Bool.and_false]
      · rw [Bool.not_eq_false'] at hb
        refine ⟨_, _, _, _, rfl, (e3.trans e4).trans e5, e5 _ _ (e4 _ _ hb3), ?_⟩
        rw [← ho, ho', hb, Bool.true_and]
    · rintro b σ' H' ⟨y3, y4, y5, y6, rfl, e3, hb3, ho⟩
      refine s_ret ev_c fun H4 e4 => k _ _ ((e12.trans e3).trans e4) ?_
      have hm : min vs.length (cutV vs (some 1) none).length = l.length - 1 := by
        rw [cut_from1, List.length_drop, hvl]
        omega
      rw [hm, ord_end] at ho
      show V.bl true = V.bl _
      unfold areB
      rw [decide_eq_true hlen', hc, ← ho]
      rfl
end
end Bcw

/-! # rhythms -/
namespace Bcw
open PySem PySem.Spec PyProof.Rows L2 Evl Bcn BnC Bn

/-- bytes as a list of ints -/
def bytR (b : Bytes) : RG := isO (.lst ((ofB b).map V.int))
instance : Mono (bytR b) := inferInstanceAs (Mono (isO _))
def phR (x : Phase) : RG := pairI (encP x)
instance : Mono (phR x) := inferInstanceAs (Mono (isO _))
theorem byt_at {b : Bytes} {i : Nat} {v : V} (h : ((ofB b).map V.int)[i]? = some v) : ∃ c, b[i]? = some c ∧ v = .int ((c.toNat : Nat) : Int) := by
  unfold ofB at h
  rw [List.map_map, List.getElem?_map] at h
  cases e : b[i]? with
  | none => rw [e] at h; cases h
  | some c => rw [e] at h; exact ⟨c, rfl, (Option.some.inj h).symm⟩
theorem byt_len (b : Bytes) : ((ofB b).map V.int).length = b.length := by unfold ofB; rw [List.length_map, List.length_map]
theorem ofB_app (a b : Bytes) : ofB (a ++ b) = ofB a ++ ofB b := List.map_append
theorem byt_snoc (a : Bytes) (c : UInt8) : (ofB (a ++ [c])).map V.int = (ofB a).map V.int ++ [.int ((c.toNat : Nat) : Int)] := by rw [ofB_app, List.map_append]; rfl
theorem byt_app (a b : Bytes) : (ofB (a ++ b)).map V.int = (ofB a).map V.int ++ (ofB b).map V.int := by rw [ofB_app, List.map_append]

def spLong : Sp := spV fun vs H z => ∃ (p : V) (b : Bytes), vs = [p] ∧ bytR b p H ∧ z = .int (longN b : Nat)
def spPhase : Sp := spG fun vs H R => ∃ (p : V) (b : Bytes), vs = [p] ∧ bytR b p H ∧ R = pairI (phaseB b)
theorem val_take {b : Bytes} {i : Nat} {c : UInt8} (h : b[i]? = some c) : valB (b.take (i + 1)) = 10 * valB (b.take i) + (c.toNat - 48) := by rw [take_succ' h, val_snoc]

section
variable {P : Program} {w : World} {K : PySem.W.Frag} {mg : Str → Option Value} {base : Heap} {CL CH : Addr}
theorem ok_long_of {f : Addr} {fd : FuncData} (F : Fun K "long_of" "long_of" s_long_of f fd) (T : Txt K mg CL CH) : FnOk P w K mg base CX0 1 f fd ["figures"] spLong := by
  refine F.ok sc_long_of (spV_len fun vs H z ⟨_, _, e, _⟩ => by rw [e]; rfl) (fun cdv A outer s H vs Q E hr h => ?_)
  obtain ⟨R, ⟨z, ⟨_, b, rfl, ⟨p, rfl, hp⟩, rfl⟩, rfl⟩, k⟩ := h
  refine ⟨_, (pss_cons (ps_if (PW.pt (pw_or (pt_not (pt_chain op_le op_le pe_int (pe_callB call_len_seq (by rfl) T.b_len PySem.boot_len (pa_cons (pv 0) pa_nil)) (pe_gi T.c_MOST_FIGURES))) (pw_or1 (pt_cmpR op_eq (pe_ix ix_list (pv 0) pe_int (fun _ _ => rfl)) (pe_gi T.c_NOUGHT) (nomark _)))))
    (pss_one (ps_ret pe_int))
    pss_nil)
    (pss_cons (ps_set (i := 1) sc_long_of.nd rfl (Or.inl rfl) pe_int)
    (pss_cons (ps_for PassesOwn.never rfl (pi_list (pv 0))
    (pg_name (i := 2) sc_long_of.nd rfl (Or.inl rfl))
    (pss_cons (ps_if (pt_not (pt_chain op_le op_le (pe_gi T.c_NOUGHT) (pv 2) (pe_gi T.c_NINE)))
    (pss_one (ps_ret pe_int))
    pss_nil)
    (pss_one (ps_set (i := 1) sc_long_of.nd rfl (Or.inl rfl) (pe_op op_sub (pe_op op_add (pe_op op_mul pe_int (pv 1)) (pv 2)) (pe_gi T.c_NOUGHT))))))
    (pss_cons (ps_if (pt_cmpR op_gt (pv 1) (pe_gi T.c_MOST_LONG) (nomark _))
    (pss_one (ps_ret pe_int))
    pss_nil)
    (pss_one (ps_ret (pv 1))))))), ?_⟩
  have hbl := byt_len b
  have main := longN_eq b
  have fin : ∀ {H'}, Ex H H' → ∀ n : Int, n = (longN b : Nat) → ∀ H2, Ex H' H2 → Q (.int n) H2 := fun e n h H2 e2 => k _ _ (e.trans e2) (by rw [h]; rfl)
  -- the first figure
  have first : ∀ {H' : Hp} {σ : L2.St}, Ex H H' → σ[0]? = some (some (V.ref p)) → 1 ≤ b.length → ∃ c, b.head? = some c ∧ EvT (tTest (tOp rEq (tOp (rIxL K) (tVar 0) (tC (.int 0))) (tC (.int 48)))) σ H' (decide (V.int ((c.toNat : Nat) : Int) = V.int 48)) := fun {H' σ} e hs hb => by
    cases b with
    | nil => exact absurd hb (by decide)
    | cons c r => exact ⟨c, rfl, et_test (ev_op (ev_ixl (sq_of (e _ _ hp)) (ev_var hs) ev_c (at_of (j := 0) rfl rfl)) ev_c (rv_eq rfl))⟩
  have c48 : ∀ c : UInt8, (V.int ((c.toNat : Nat) : Int) = V.int 48) ↔ c = 48 := fun c => by
    rw [V.int.injEq]
    constructor
    · intro h
      rw [← UInt8.ofNat_toNat (x := c), show c.toNat = 48 by omega]
      rfl
    · rintro rfl; rfl
  by_cases hb1 : 1 ≤ b.length ∧ b.length ≤ 3
  · obtain ⟨c0, hc0, ht⟩ := first (H' := H) (σ := [some (.ref p), none, none]) (Ex.refl H) rfl hb1.1
    refine q_when (et_or (et_not (et_test (ev_chain (f := fun i j => decide (i ≤ j)) (g := fun i j => decide (i ≤ j)) ev_c (ev_lenS (sq_of hp) (ev_var rfl)) ev_c))) fun _ => ht) (fun hb H1 e1 => ?_) (fun hb H1 e1 => ?_)
    · refine s_ret ev_c (fin e1 0 ?_)
      rw [hbl, decide_eq_true (by omega : (1 : Int) ≤ (b.length : Int)), decide_eq_true (by omega : (b.length : Int) ≤ 3)] at hb
      have : c0 = 48 := by
        rw [← c48]
        simpa using hb
      rw [main, if_neg (fun z => z.2.2.1 (by rw [hc0, this]))]
      rfl
    have n48 : b.head? ≠ some 48 := by
      rw [Bool.or_eq_false_iff, decide_eq_false_iff_not, c48] at hb
      rw [hc0]
      exact fun z => hb.2 (Option.some.inj z)
    refine q_asg ev_c fun H2 e2 => ?_
    have e12 := e1.trans e2
    refine q_forLn (ev_var rfl) (sq_of (e12 _ _ hp)) (fun i σ' H' => ∃ x, σ' = [some (.ref p), some (.int (valB (b.take i) : Nat)), x] ∧ Ex H2 H' ∧ (b.take i).all isDigit = true) (fun H3 e3 => ⟨none, rfl, e3, rfl⟩) (fun i σ' H' _ ⟨_, _, e3, _⟩ => sq_of (e3 _ _ (e12 _ _ hp))) ?_ ?_
    · rintro i x σ' H' hi ⟨y1, rfl, e3, hd⟩
      obtain ⟨c, hc, rfl⟩ := byt_at hi
      have e13 := e12.trans e3
      refine q_when (et_not (et_test (ev_chain (f := fun i j => decide (i ≤ j)) (g := fun i j => decide (i ≤ j)) ev_c (ev_var rfl) ev_c))) (fun hb H4 e4 => ?_) (fun hb H4 e4 => ?_)
      · refine s_ret ev_c (fin (e13.trans e4) 0 ?_)
        have nd : isDigit c = false := by
          cases z : isDigit c with
          | false => rfl
          | true =>
            have q := (digit_iff c).mp z
            rw [decide_eq_true (by omega : (48 : Int) ≤ (c.toNat : Int)), decide_eq_true (by omega : (c.toNat : Int) ≤ 57)] at hb
            cases hb
        rw [main, if_neg (fun z => by
          have q := List.all_eq_true.mp z.2.2.2.1 c (List.mem_of_getElem? hc)
          rw [nd] at q
          cases q)]
        rfl
      · rw [Bool.not_eq_false', Bool.and_eq_true, decide_eq_true_eq, decide_eq_true_eq] at hb
        have dg : isDigit c = true := (digit_iff c).mpr (by omega)
        refine s_asg (ev_op (ev_op (ev_op ev_c (ev_var rfl) (rv_I (.inl ⟨by decide, by decide⟩))) (ev_var rfl) rv_I0) ev_c rv_I0) fun H5 e5 => ⟨some (.int ((c.toNat : Nat) : Int)), ?_, (e3.trans e4).trans e5, ?_⟩
        · have e : (10 * ((valB (b.take i) : Nat) : Int) + ((c.toNat : Nat) : Int) - 48) = ((valB (b.take (i + 1)) : Nat) : Int) := by
            rw [val_take hc]
            omega
          rw [← e]
          rfl
        · rw [take_succ' hc, List.all_append, hd]
          simp [dg]
    · rintro σ' H' ⟨y1, rfl, e3, hd⟩
      rw [hbl, List.take_length] at *
      have e13 := e12.trans e3
      refine q_when (et_test (ev_op (ev_var rfl) ev_c rv_I0)) (fun hb H4 e4 => ?_) (fun hb H4 e4 => ?_)
      · refine s_ret ev_c (fin (e13.trans e4) 0 ?_)
        rw [decide_eq_true_eq] at hb
        rw [main, if_neg (fun z => by have := z.2.2.2.2; omega)]
        rfl
      · refine s_ret (ev_var rfl) (fin (e13.trans e4) _ ?_)
        rw [decide_eq_false_iff_not] at hb
        rw [main, if_pos ⟨hb1.1, hb1.2, n48, hd, by omega⟩]
  · -- none or too many
    refine q_when (b := true) (fun H1 e1 Q' q' => ?_) (fun _ H1 e1 => s_ret ev_c (fin e1 0 ?_)) (fun z => absurd z (by decide))
    · have h := et_not (et_test (σ := [some (.ref p), none, none]) (ev_chain (H := H) (f := fun i j => decide (i ≤ j)) (g := fun i j => decide (i ≤ j)) (ev_c (v := .int 1)) (ev_lenS (K := K) (sq_of hp) (ev_var (i := 0) rfl)) (ev_c (v := .int 3))))
      have hv : (!(decide ((1 : Int) ≤ (((ofB b).map V.int).length : Int)) && decide ((((ofB b).map V.int).length : Int) ≤ 3))) = true := by
        rw [hbl, Bool.not_eq_true', Bool.and_eq_false_iff, decide_eq_false_iff_not, decide_eq_false_iff_not]
        omega
      rw [hv] at h
      exact h H1 e1 _ fun H2 e2 => q' H2 e2
    · rw [main, if_neg (fun z => hb1 ⟨z.1, z.2.1⟩)]
      rfl
end
end Bcw

namespace Bcw
open PySem PySem.Spec PyProof.Rows L2 Evl Bcn BnC Bn

theorem inV_signs (c : UInt8) : inV (.int ((c.toNat : Nat) : Int)) [.int 45, .int 87, .int 82, .int 71, .int 89] = decide (c ∈ SIGNS) := by
  have e : ∀ n : Nat, n < 256 → (eqV (.int (n : Int)) (.int ((c.toNat : Nat) : Int))) = decide (c = UInt8.ofNat n) := fun n hn => by
    show ((n : Int) == ((c.toNat : Nat) : Int)) = _
    rw [Bool.eq_iff_iff, beq_iff_eq, decide_eq_true_iff]
    constructor
    · intro h
      rw [show n = c.toNat by omega, UInt8.ofNat_toNat]
    · intro h
      rw [h, UInt8.toNat_ofNat', Nat.mod_eq_of_lt (by omega)]
  have e1 := e 45 (by decide); have e2 := e 87 (by decide); have e3 := e 82 (by decide); have e4 := e 71 (by decide); have e5 := e 89 (by decide)
  show (eqV (.int 45) _ || (eqV (.int 87) _ || (eqV (.int 82) _ || (eqV (.int 71) _ || (eqV (.int 89) _ || false))))) = _
  rw [show (V.int 45) = V.int ((45 : Nat) : Int) from rfl, show (V.int 87) = V.int ((87 : Nat) : Int) from rfl, show (V.int 82) = V.int ((82 : Nat) : Int) from rfl, show (V.int 71) = V.int ((71 : Nat) : Int) from rfl, show (V.int 89) = V.int ((89 : Nat) : Int) from rfl, e1, e2, e3, e4, e5]
  rw [Bool.eq_iff_iff]
  simp only [Bool.or_eq_true, decide_eq_true_eq, SIGNS, List.mem_cons, List.not_mem_nil, or_false, Bool.false_eq_true]
  exact Iff.rfl
theorem et_or1 {σ : L2.St} {H : Hp} {t u : TT} (h : EvT t σ H true) : EvT (tOr t u) σ H true := fun H1 e Q q => h H1 e _ fun H2 e2 => q H2 e2
/-- x[1:] of a word -/
theorem ev_longCall {K : PySem.W.Frag} {σ : L2.St} {H : Hp} {p : Addr} {c : UInt8} {r : Bytes} {E : XK} {i : Nat} (hp : H p = some (.lst ((ofB (c :: r)).map V.int))) (hs : σ[i]? = some (some (V.ref p))) :
    Ev (tCall spLong [] E (tCons (tSl (rSlL K) (tVar i) (tPart (tC (.int 1))) tNoPart) tNil)) σ H (.int (longN r : Nat)) :=
  ev_callVG (ega_cons (el_sl (ev_var hs) (eo_some ev_c) eo_none (sq_of hp)).g ega_nil) fun vs H1 e q => by
    obtain ⟨x, t, rfl, hx, ht⟩ := q
    cases (show t = _ from ht)
    refine ⟨x, r, rfl, ?_, rfl⟩
    rw [cut_from1] at hx
    exact hx

section
variable {P : Program} {w : World} {K : PySem.W.Frag} {mg : Str → Option Value} {base : Heap} {CL CH : Addr}
theorem ok_phase_of {f : Addr} {fd : FuncData} (F : Fun K "phase_of" "phase_of" s_phase_of f fd) (T : Txt K mg CL CH) (D_long_of : DefAt P w K mg base "long_of" 1 ["figures"] spLong) : FnOk P w K mg base CX0 2 f fd ["word"] spPhase := by
  refine F.ok sc_phase_of (spG_len fun vs H z ⟨_, _, e, _⟩ => by rw [e]; rfl) (fun cdv A outer s H vs Q E hr h => ?_)
  obtain ⟨R, ⟨_, b, rfl, ⟨p, rfl, hp⟩, rfl⟩, k⟩ := h
  refine ⟨_, (pss_cons (ps_if (PW.pt (pw_or (pt_cmpR (op_eqNil hr.units) (pv 0) (pe_lst pa_nil) (nomark _)) (pw_or (pt_cmpR op_notIn_seq (pe_ix ix_list (pv 0) pe_int (fun _ _ => rfl)) (pe_gr T.g_LETTERS) (by rfl)) (pw_or1 (pt_cmpR op_eq (pe_dcall D_long_of (hr.mono (by decide)) (pa_cons (pe_slice sl_list (pv 0) (po_some pe_int) po_none) pa_nil)) pe_int (nomark _))))))
    (pss_one (ps_ret (pe_tup (pa_cons pe_int (pa_cons pe_int pa_nil)))))
    pss_nil)
    (pss_one (ps_ret (pe_tup (pa_cons (pe_ix ix_list (pv 0) pe_int (fun _ _ => rfl)) (pa_cons (pe_dcall D_long_of (hr.mono (by decide)) (pa_cons (pe_slice sl_list (pv 0) (po_some pe_int) po_none) pa_nil)) pa_nil)))))), ?_⟩
  have fin0 : phaseIn b = none → ∀ H1, Ex H H1 → tRet (tTup (tCons (tC (.int 0)) (tCons (tC (.int 0)) tNil))) { nx := fun _ H' => Q .non H', rt := Q } [some (V.ref p)] H1 := fun h0 H1 e1 =>
    s_retU (eu_tup (ea_cons ev_c (ea_cons ev_c ea_nil)) (by decide)) fun q H2 hq e2 h2 => k _ _ (e1.trans e2) ⟨q, rfl, by
      rw [dlt_new (fresh_back e1 hq), h2]
      unfold phaseB
      rw [h0]
      rfl⟩
  cases b with
  | nil =>
    have e0 : EvT (tTest (tOp (rEqNil K) (tVar 0) (tLst tNil))) [some (V.ref p)] H true := et_test (ev_opL (ev_var rfl) (el_lst ea_nil (by decide)) fun q H1 hq e => rv_val fun H2 e2 Q2 q2 => ⟨p, q, _, rfl, rfl, sq_of (e2 _ _ (e _ _ hp)), sq_of (e2 _ _ hq), q2⟩)
    exact q_when (et_or1 e0) (fun _ H1 e1 => fin0 (phase_none (.inl rfl)) H1 e1) (fun z => absurd z (by decide))
  | cons c r =>
    have e0 : EvT (tTest (tOp (rEqNil K) (tVar 0) (tLst tNil))) [some (V.ref p)] H false := et_test (ev_opL (ev_var rfl) (el_lst ea_nil (by decide)) fun q H1 hq e => rv_val fun H2 e2 Q2 q2 => ⟨p, q, _, rfl, rfl, sq_of (e2 _ _ (e _ _ hp)), sq_of (e2 _ _ hq), q2⟩)
    have hc : ∀ {H'}, Ex H H' → Ev (tOp (rIxL K) (tVar 0) (tC (.int 0))) [some (V.ref p)] H' (.int ((c.toNat : Nat) : Int)) := fun e => ev_ixl (sq_of (e _ _ hp)) (ev_var rfl) ev_c (at_of (j := 0) rfl rfl)
    refine q_when (et_or e0 fun _ => et_or (et_test (ev_op (hc (Ex.refl H)) ev_c (rv_niT (T.s_LETTERS H) rfl rfl))) fun _ => et_test (ev_op (ev_longCall hp rfl) ev_c (rv_eq rfl))) (fun hb H1 e1 => ?_) (fun hb H1 e1 => ?_)
    · refine fin0 (phase_none (.inr ⟨c, r, rfl, ?_⟩)) H1 e1
      rw [inV_signs, Bool.false_or, Bool.or_eq_true, Bool.not_eq_true', decide_eq_false_iff_not, decide_eq_true_iff, V.int.injEq] at hb
      rcases hb with hb | hb
      · exact .inl hb
      · exact .inr (by omega)
    · rw [inV_signs, Bool.false_or, Bool.or_eq_false_iff, Bool.not_eq_false', decide_eq_true_iff, decide_eq_false_iff_not, V.int.injEq] at hb
      obtain ⟨n, h1, h2, h3⟩ := phase_some (c := c) (r := r) hb.1 (fun z => hb.2 (by rw [z]; rfl))
      refine s_retU (eu_tup (ea_cons (hc e1) (ea_cons (ev_longCall (e1 _ _ hp) rfl) ea_nil)) (Nat.le_of_ble_eq_true rfl)) fun q H2 hq e2 hq2 => k _ _ (e1.trans e2) ⟨q, rfl, ?_⟩
      rw [dlt_new (fresh_back e1 hq), hq2]
      unfold phaseB
      rw [h1]
      show some (HO.tup [.int ((c.toNat : Nat) : Int), .int ((longN r : Nat) : Int)]) = some (HO.tup [.int (sgn n), .int ((longN r : Nat) : Int)])
      rw [h3]
end
end Bcw

namespace Bcw
open PySem PySem.Spec PyProof.Rows L2 Evl Bcn BnC Bn

def spWords : Sp := spG fun vs H R => ∃ (p : V) (b : Bytes), vs = [p] ∧ bytR b p H ∧ b.length ≤ 4000 ∧ R = isL (each bytR (split 32 b))
/-- words at places of their own -/
structure Wds (H : Hp) (l : Addr) (n : Nat) (W : List Bytes) (H' : Hp) : Prop where
  ex : Ex H H'
  fr : H l = none
  at_ : ∃ ps : List Addr, H' l = some (.lst (ps.map V.ref)) ∧ (l :: ps).Nodup ∧ (∀ p ∈ ps, H p = none) ∧ ps.length = W.length ∧ ps.length ≤ n + 1 ∧
    (∀ (j : Nat) (p : Addr) (w : Bytes), ps[j]? = some p → W[j]? = some w → H' p = some (.lst ((ofB w).map V.int)) ∧ w.length ≤ n)
theorem Wds.ext {H : Hp} {l : Addr} {n : Nat} {W : List Bytes} {H' H2 : Hp} (h : Wds H l n W H') (e : Ex H' H2) : Wds H l n W H2 := by
  obtain ⟨h1, h2, ps, a1, a2, a3, a4, a5, a6⟩ := h
  exact ⟨h1.trans e, h2, ps, e _ _ a1, a2, a3, a4, a5, fun j p w q1 q2 => ⟨e _ _ (a6 j p w q1 q2).1, (a6 j p w q1 q2).2⟩⟩
theorem Wds.done {H : Hp} {l : Addr} {n : Nat} {W : List Bytes} {H' : Hp} (h : Wds H l n W H') : isL (each bytR W) (.ref l) (dlt H H') := by
  obtain ⟨h1, h2, ps, a1, a2, a3, a4, a5, a6⟩ := h
  refine ⟨l, _, rfl, by rw [dlt_new h2]; exact a1, ?_⟩
  have key : ∀ (ps : List Addr) (W : List Bytes), (∀ p ∈ ps, H p = none) → ps.length = W.length → (∀ (j : Nat) (p : Addr) (w : Bytes), ps[j]? = some p → W[j]? = some w → H' p = some (.lst ((ofB w).map V.int))) → each bytR W (ps.map V.ref) (dlt H H') := by
    intro ps
    induction ps with
    | nil =>
      intro W _ hl _
      cases W with
      | nil => exact .nil
      | cons => cases hl
    | cons p ps ih =>
      intro W hf hl h
      cases W with
      | nil => cases hl
      | cons w W =>
        refine .cons ⟨p, rfl, ?_⟩ (ih W (fun q hq => hf q (List.mem_cons_of_mem _ hq)) (Nat.succ.inj hl) fun j q v h1 h2 => h (j + 1) q v h1 h2)
        rw [dlt_new (hf p List.mem_cons_self)]
        exact h 0 p w rfl rfl
  exact key ps W a3 a4 fun j p w q1 q2 => (a6 j p w q1 q2).1
theorem nodup_ref {ps : List Addr} {i j : Nat} {p : Addr} (h : ps.Nodup) (a : ps[i]? = some p) (b : ps[j]? = some p) : i = j := nd_ix h a b

section
variable {P : Program} {w : World} {K : PySem.W.Frag} {mg : Str → Option Value} {base : Heap} {CL CH : Addr}
theorem ok_words_of {f : Addr} {fd : FuncData} (F : Fun K "words_of" "words_of" s_words_of f fd) (T : Txt K mg CL CH) : FnOk P w K mg base CX0 1 f fd ["text"] spWords := by
  refine F.ok sc_words_of (spG_len fun vs H z ⟨_, _, e, _⟩ => by rw [e]; rfl) (fun cdv A outer s H vs Q E hr h => ?_)
  obtain ⟨R, ⟨_, b, rfl, ⟨p, rfl, hp⟩, hlen, rfl⟩, k⟩ := h
  refine ⟨_, (pss_cons (ps_set (i := 1) sc_words_of.nd rfl (Or.inl rfl) (pe_lst (pa_cons (pe_lst pa_nil) pa_nil)))
    (pss_cons (ps_for PassesOwn.never rfl (pi_list (pv 0))
    (pg_name (i := 2) sc_words_of.nd rfl (Or.inl rfl))
    (pss_one (ps_if (pt_cmpR op_eq (pv 2) (pe_gi T.c_BLANK) (nomark _))
    (pss_one (ps_expr (pe_bm PySem.F.plainAttrs_list PySem.F.slot_list_append PySem.F.type_list_append mt_append (pv 1) (pa_cons (pe_lst pa_nil) pa_nil))))
    (pss_one (ps_expr (pe_bm PySem.F.plainAttrs_list PySem.F.slot_list_append PySem.F.type_list_append mt_append (pe_ix ix_list (pv 1) (pe_un un_neg pe_int) (fun _ _ => rfl)) (pa_cons (pv 2) pa_nil)))))))
    (pss_one (ps_ret (pv 1))))), ?_⟩
  have hbl := byt_len b
  -- found = [[]]
  refine ⟨Nat.zero_le _, fun q hq => ⟨Nat.le_of_ble_eq_true rfl, fun l hl => ?_⟩⟩
  have hlq : l ≠ q := fun z => by rw [z, upd_same] at hl; cases hl
  have hlH : H l = none := by rw [upd_ne hlq] at hl; exact hl
  have start : Wds H l 0 [[]] (upd (upd H q (.lst [])) l (.lst [.ref q])) := by
    refine ⟨(Ex.new hq).trans (Ex.new hl), hlH, [q], upd_same, ?_, ?_, rfl, Nat.le_refl _, ?_⟩
    · simp [hlq]
    · intro r hr
      rw [List.mem_singleton] at hr
      rw [hr]
      exact hq
    · intro j r v h1 h2
      cases j with
      | zero =>
        cases Option.some.inj h1
        cases Option.some.inj h2
        exact ⟨by rw [upd_ne hlq.symm, upd_same]; rfl, Nat.le_refl _⟩
      | succ j => simp at h1
  have hL : ∀ {n W H'}, Wds H l n W H' → SqL K H' p ((ofB b).map V.int) := fun h => sq_of (h.ex _ _ hp)
  refine q_forLn (ev_var rfl) (hL start) (fun i σ' H' => ∃ x, σ' = [some (.ref p), some (.ref l), x] ∧ Wds H l i ((b.take i).foldl wordTurn [[]]) H') (fun H2 e2 => ⟨none, rfl, start.ext e2⟩) (fun i σ' H' _ ⟨_, _, h⟩ => hL h) ?_ ?_
  · rintro i x σ' H' hi ⟨y1, rfl, hw⟩
    obtain ⟨c, hc, rfl⟩ := byt_at hi
    have hib : i < b.length := (List.getElem?_eq_some_iff.mp hc).1
    rw [take_succ' hc, List.foldl_append]
    generalize hW : (b.take i).foldl wordTurn [[]] = W at hw
    have hWn : W ≠ [] := by
      rw [← hW]
      clear hW
      generalize b.take i = u
      have : ∀ (u : Bytes) (a : List Bytes), a ≠ [] → u.foldl wordTurn a ≠ [] := by
        intro u
        induction u with
        | nil => exact fun a h => h
        | cons c u ih => exact fun a _ => ih _ (word_ne c)
      exact this u _ (by simp)
    show tIfS _ _ _ _ _ _
    refine s_if (et_test (ev_op (ev_var rfl) ev_c (rv_eq rfl))) (fun hb H2 e2 => ?_) (fun hb H2 e2 => ?_)
    · -- a blank: one word more
      have hc32 : c = 32 := by
        rw [decide_eq_true_iff, V.int.injEq] at hb
        rw [← UInt8.ofNat_toNat (x := c), show c.toNat = 32 by omega]
        rfl
      have hw2 := hw.ext e2
      obtain ⟨h1, h2, ps, a1, a2, a3, a4, a5, a6⟩ := id hw2
      refine s_appL a1 (ev_var rfl) (el_lst ea_nil (by decide)) (by rw [List.length_map]; omega) fun r H3 hr e3 h3 => ⟨_, rfl, ?_⟩
      have eW : wordTurn W c = W ++ [[]] := if_pos hc32
      show Wds H l (i + 1) (wordTurn W c) _
      rw [eW]
      have hrl : r ≠ l := fun z => by rw [z, a1] at hr; cases hr
      have hrps : r ∉ ps := fun z => by
        obtain ⟨j, hj⟩ := List.mem_iff_getElem?.mp z
        have hjl : j < W.length := by rw [← a4]; exact (List.getElem?_eq_some_iff.mp hj).1
        rw [(a6 j r W[j] hj (List.getElem?_eq_getElem hjl)).1] at hr
        cases hr
      refine ⟨Ex.mut (h1.trans e3) h2, h2, ps ++ [r], by rw [upd_same, List.map_append]; rfl, ?_, ?_, by rw [List.length_append, List.length_append, a4]; rfl, by rw [List.length_append]; show ps.length + 1 ≤ i + 1 + 1; omega, ?_⟩
      · rw [List.nodup_cons] at a2 ⊢
        refine ⟨fun z => ?_, ?_⟩
        · rcases List.mem_append.mp z with z | z
          · exact a2.1 z
          · exact hrl (List.mem_singleton.mp z).symm
        · rw [List.nodup_append]
          refine ⟨a2.2, by simp, fun x hx y hy z => ?_⟩
          rw [List.mem_singleton] at hy
          rw [z, hy] at hx
          exact hrps hx
      · intro q' hq'
        rcases List.mem_append.mp hq' with z | z
        · exact a3 q' z
        · rw [List.mem_singleton.mp z]
          exact fresh_back h1 hr
      · intro j q' v q1 q2
        by_cases hj : j < ps.length
        · rw [List.getElem?_append_left hj] at q1
          rw [List.getElem?_append_left (by rw [← a4]; exact hj)] at q2
          obtain ⟨g1, g2⟩ := a6 j q' v q1 q2
          refine ⟨?_, by omega⟩
          rw [upd_ne (fun (z : q' = l) => (List.nodup_cons.mp a2).1 (by rw [← z]; exact List.mem_of_getElem? q1))]
          exact e3 _ _ g1
        · rw [List.getElem?_append_right (by omega)] at q1
          rw [List.getElem?_append_right (by rw [← a4]; omega), ← a4] at q2
          have hz : j - ps.length = 0 := by
            have := (List.getElem?_eq_some_iff.mp q1).1
            simp at this
            omega
          rw [hz] at q1 q2
          cases Option.some.inj q1
          cases Option.some.inj q2
          refine ⟨?_, Nat.zero_le _⟩
          rw [upd_ne hrl]
          exact h3
    · -- the last word grows
      have hc32 : ¬ c = 32 := fun z => by rw [z] at hb; exact absurd hb (by decide)
      have hw2 := hw.ext e2
      obtain ⟨h1, h2, ps, a1, a2, a3, a4, a5, a6⟩ := id hw2
      have hpsn : ps ≠ [] := fun z => hWn (List.length_eq_zero_iff.mp (by rw [← a4, z]; rfl))
      obtain ⟨ps0, q', rfl⟩ : ∃ ps0 q', ps = ps0 ++ [q'] := ⟨ps.dropLast, ps.getLast hpsn, (List.dropLast_concat_getLast hpsn).symm⟩
      obtain ⟨W0, v', rfl⟩ : ∃ W0 v', W = W0 ++ [v'] := ⟨W.dropLast, W.getLast hWn, (List.dropLast_concat_getLast hWn).symm⟩
      have len0 : ps0.length = W0.length := by simpa using a4
      obtain ⟨g1, g2⟩ := a6 ps0.length q' v' (by simp) (by rw [len0]; simp)
      have eW : wordTurn (W0 ++ [v']) c = W0 ++ [v' ++ [c]] := by
        unfold wordTurn
        rw [if_neg hc32]
        simp
      have hlast : atI ((ps0 ++ [q']).map V.ref) (-1) = some (.ref q') := by
        rw [List.map_append]
        exact atI_last _ _
      refine s_app g1 (ev_ixl (sq_of a1) (ev_var rfl) (ev_un ev_c ru_neg) hlast) (ev_var rfl) (by rw [byt_len]; omega) fun H3 e3 => ⟨_, rfl, ?_⟩
      show Wds H l (i + 1) (wordTurn (W0 ++ [v']) c) _
      rw [eW]
      have nd := List.nodup_cons.mp a2
      have hql : l ≠ q' := fun z => nd.1 (by rw [z]; simp)
      have hqH : H q' = none := a3 q' (by simp)
      refine ⟨Ex.mut (h1.trans e3) hqH, h2, ps0 ++ [q'], by rw [upd_ne hql]; exact e3 _ _ a1, a2, a3, by simp [len0], by omega, ?_⟩
      intro j r v q1 q2
      by_cases hj : j < ps0.length
      · rw [List.getElem?_append_left (by rw [← len0]; exact hj)] at q2
        obtain ⟨f1, f2⟩ := a6 j r v q1 (by rw [List.getElem?_append_left (by rw [← len0]; exact hj)]; exact q2)
        refine ⟨?_, by omega⟩
        rw [upd_ne]
        · exact e3 _ _ f1
        · intro z
          rw [z] at q1
          have := nodup_ref nd.2 q1 (show (ps0 ++ [q'])[ps0.length]? = some q' by simp)
          omega
      · have hz : j = ps0.length := by
          have := (List.getElem?_eq_some_iff.mp q1).1
          simp at this
          omega
        rw [hz] at q1 q2
        have er : r = q' := by simpa using q1.symm
        have ev : v = v' ++ [c] := by
          rw [len0] at q2
          simpa using q2.symm
        rw [er, ev]
        refine ⟨by rw [upd_same, byt_snoc], by rw [List.length_append]; show v'.length + 1 ≤ i + 1; omega⟩
  · rintro σ' H' ⟨y1, rfl, hw⟩
    rw [hbl, List.take_length, words_eq] at hw
    exact s_ret (ev_var rfl) fun H2 e2 => k _ _ (hw.ex.trans e2) (hw.ext e2).done
end
end Bcw

namespace Bcw
open PySem PySem.Spec PyProof.Rows L2 Evl Bcn BnC Bn

/-- what read_rhythm gives: the phases and -1, or anything and the phase at fault -/
def readR (e : Except Nat Rhythm) : RG := match e with
  | .ok r => isT (consR (isL (each phR r)) (consR (isV (.int (-1))) (areV [])))
  | .error k => isT (fun vs _ => ∃ x, vs = [x, .int (k : Nat)])
instance : Mono (readR e) := by
  unfold readR
  cases e with
  | ok r => exact inferInstanceAs (Mono (isT _))
  | error k => exact ⟨fun e ⟨p, vs, h1, h2, h3⟩ => ⟨p, vs, h1, e _ _ h2, h3⟩⟩
def spRead : Sp := spG fun vs H R => ∃ (p : V) (b : Bytes), vs = [p] ∧ bytR b p H ∧ b.length ≤ 1024 ∧ R = readR (readRhythm b)
/-- what is read: the phases so far, then the rest of the words -/
def andThen (l : Rhythm) : Except Nat Rhythm → Except Nat Rhythm
  | .error e => .error e
  | .ok r => .ok (l ++ r)
theorem from_cons (k s : Nat) (b : Bytes) (r : List Bytes) (l : Rhythm) : andThen l (phasesFrom k s (b :: r)) = match phaseIn b with
    | none => .error k
    | some x => if PHASES ≤ k ∨ ROUND < s + x.2 then .error k else andThen (l ++ [x]) (phasesFrom (k + 1) (s + x.2) r) := by
  show andThen l (match phaseIn b with
    | none => .error k
    | some x => if PHASES ≤ k ∨ ROUND < s + x.2 then .error k else match phasesFrom (k + 1) (s + x.2) r with
      | .error e => .error e
      | .ok l => .ok (x :: l)) = _
  cases phaseIn b with
  | none => rfl
  | some x =>
    show andThen l (if PHASES ≤ k ∨ ROUND < s + x.2 then .error k else match phasesFrom (k + 1) (s + x.2) r with
      | .error e => .error e
      | .ok l => .ok (x :: l)) = if PHASES ≤ k ∨ ROUND < s + x.2 then .error k else andThen (l ++ [x]) (phasesFrom (k + 1) (s + x.2) r)
    by_cases h : PHASES ≤ k ∨ ROUND < s + x.2
    · rw [if_pos h, if_pos h]
      rfl
    · rw [if_neg h, if_neg h]
      cases phasesFrom (k + 1) (s + x.2) r with
      | error e => rfl
      | ok q => show Except.ok (l ++ x :: q) = .ok ((l ++ [x]) ++ q); rw [List.append_assoc]; rfl
theorem split_len : ∀ (b : Bytes), (split 32 b).length ≤ b.length + 1
  | [] => Nat.le_refl _
  | c :: b => by
    have ih := split_len b
    unfold split
    split
    · simp
    · rename_i w l e
      rw [e] at ih
      simp only [List.length_cons] at ih ⊢
      split <;> simp <;> omega

section
variable {P : Program} {w : World} {K : PySem.W.Frag} {mg : Str → Option Value} {base : Heap} {CL CH : Addr}
theorem ok_read_rhythm {f : Addr} {fd : FuncData} (F : Fun K "read_rhythm" "read_rhythm" s_read_rhythm f fd) (T : Txt K mg CL CH) (D_words_of : DefAt P w K mg base "words_of" 1 ["text"] spWords) (D_phase_of : DefAt P w K mg base "phase_of" 2 ["word"] spPhase) :
    FnOk P w K mg base CX0 3 f fd ["text"] spRead := by
  refine F.ok sc_read_rhythm (spG_len fun vs H z ⟨_, _, e, _⟩ => by rw [e]; rfl) (fun cdv A outer s H vs Q E hr h => ?_)
  obtain ⟨R, ⟨_, b, rfl, hb, hlen, rfl⟩, k⟩ := h
  refine ⟨_, (pss_cons (ps_set (i := 1) sc_read_rhythm.nd rfl (Or.inl rfl) (pe_lst pa_nil))
    (pss_cons (ps_set (i := 2) sc_read_rhythm.nd rfl (Or.inl rfl) pe_int)
    (pss_cons (ps_for PassesOwn.never rfl (pi_enum (by rfl) T.b_enumerate (pa_cons (pe_dcall D_words_of (hr.mono (by decide)) (pa_cons (pv 0) pa_nil)) pa_nil))
    (pg_tup rfl (pgs_cons (pg_name (i := 3) sc_read_rhythm.nd rfl (Or.inl rfl)) (pgs_cons (pg_name (i := 4) sc_read_rhythm.nd rfl (Or.inl rfl)) pgs_nil)))
    (pss_cons (ps_asg (pe_dcall D_phase_of (hr.mono (by decide)) (pa_cons (pv 4) pa_nil)) (pg_tup rfl (pgs_cons (pg_name (i := 5) sc_read_rhythm.nd rfl (Or.inl rfl)) (pgs_cons (pg_name (i := 6) sc_read_rhythm.nd rfl (Or.inl rfl)) pgs_nil))))
    (pss_cons (ps_aug (i := 2) sc_read_rhythm.nd rfl (Or.inl rfl) (pv 6) ip_add)
    (pss_cons (ps_if (PW.pt (pw_or (pt_cmpR op_eq (pv 6) pe_int (nomark _)) (pw_or (pt_cmpR op_eq (pv 3) (pe_gi T.c_MOST_PHASES) (nomark _)) (pw_or1 (pt_cmpR op_gt (pv 2) (pe_gi T.c_MOST_TOGETHER) (nomark _))))))
    (pss_one (ps_ret (pe_tup (pa_cons (pv 1) (pa_cons (pv 3) pa_nil)))))
    pss_nil)
    (pss_one (ps_expr (pe_bm PySem.F.plainAttrs_list PySem.F.slot_list_append PySem.F.type_list_append mt_append (pv 1) (pa_cons (pe_tup (pa_cons (pv 5) (pa_cons (pv 6) pa_nil))) pa_nil))))))))
    (pss_one (ps_ret (pe_tup (pa_cons (pv 1) (pa_cons (pe_un un_neg pe_int) pa_nil)))))))), ?_⟩
  rename_i p0
  have hsl := split_len b
  refine q_newL fun l hl => ?_
  refine q_asg ev_c fun H1 e1 => ?_
  have b0 : Bld H l phR [] H1 := (Bld.start hl).ext e1
  have e01 : Ex H H1 := b0.ex
  have hwords : EvG (tCall spWords [] E0 (tCons (tVar 0) tNil)) [some p0, some (.ref l), some (.int 0), none, none, none, none] H1 (isL (each bytR (split 32 b))) :=
    eg_call (ea_cons (ev_var rfl) ea_nil).g fun vs H2 e2 q => by
      cases (show vs = _ from q)
      exact ⟨p0, b, rfl, Mono.up (e01.trans e2) hb, by omega, rfl⟩
  have hl1 : H1 l = some (.lst []) := e1 _ _ upd_same
  refine q_forEN hwords
    (fun a xs i σ' H' => ∃ x y u v, ∃ (done : Rhythm), σ' = [some p0, some (.ref l), some (.int (total done : Nat)), x, y, u, v] ∧ (∃ G, Ex G H' ∧ G l = none ∧ G a = some (.lst xs) ∧ each bytR (split 32 b) xs G) ∧ Bld H l phR done H' ∧ done.length = i ∧ i ≤ 32 ∧ readRhythm b = andThen done (phasesFrom i (total done) ((split 32 b).drop i)))
    (fun a xs H2 e2 ha ha2 hx => ⟨none, none, none, none, [], rfl, ⟨dlt H1 H2, dlt_ex _ _, dlt_none hl1, (dlt_new ha).trans ha2, hx⟩, b0.ext e2, rfl, Nat.zero_le _, ?_⟩) (fun a xs i σ' H' _ ⟨_, _, _, _, _, _, ⟨G, g1, g2, g3, _⟩, _⟩ => sq_of (g1 _ _ g3)) ?_ ?_
  · show readRhythm b = andThen [] (phasesFrom 0 0 (split 32 b))
    unfold readRhythm
    cases phasesFrom 0 0 (split 32 b) <;> rfl
  · rintro a xs i x T' σ' H' hi ⟨y1, y2, y3, y4, done, rfl, ⟨G, g1, g2, g3, hx⟩, bl, hdl, hi32, main⟩ hT
    obtain ⟨wd, hw, rx⟩ := each.get hx hi
    have e3 : Ex H' (upd H' T' (.tup [.int (i : Nat), x])) := Ex.new hT
    generalize hH3 : upd H' T' (.tup [.int (i : Nat), x]) = H3 at e3
    have hT3 : H3 T' = some (.tup [.int (i : Nat), x]) := by rw [← hH3, upd_same]
    refine g_pair (st_of hT3) ?_
    have hdrop : (split 32 b).drop i = wd :: (split 32 b).drop (i + 1) := by
      obtain ⟨h1, h2⟩ := List.getElem?_eq_some_iff.mp hw
      rw [List.drop_eq_getElem_cons h1, h2]
    rw [hdrop, from_cons] at main
    -- letter, long = phase_of(word)
    have hph : EvG (tCall spPhase [] E0 (tCons (tVar 4) tNil)) [some p0, some (.ref l), some (.int (total done : Nat)), some (.int (i : Nat)), some x, y3, y4] H3 (pairI (phaseB wd)) :=
      eg_call (ea_cons (ev_var rfl) ea_nil).g fun vs H2 e2 q => by
        cases (show vs = _ from q)
        exact ⟨x, wd, rfl, Mono.up ((g1.trans e3).trans e2) rx, rfl⟩
    refine hph H3 (Ex.refl H3) _ fun v H4 e4 ⟨t, ev, ht⟩ => ?_
    subst ev
    refine ⟨t, _, rfl, st_of (dlt_ex _ _ _ _ ht), rfl, g_two ?_⟩
    refine q_aug (f := fun i j => i + j) rfl (ev_var rfl) fun H5 e5 => ?_
    have e35 := (e3.trans e4).trans e5
    have bl5 := bl.ext e35
    -- the end of a faulty text
    have fault : readRhythm b = .error i → ∀ (s2 s6 : Option V) (H6 : Hp), Ex H5 H6 → tRet (tTup (tCons (tVar 1) (tCons (tVar 3) tNil))) { nx := fun _ H' => Q .non H', rt := Q } [some p0, some (.ref l), s2, some (.int (i : Nat)), some x, s6, some (.int (phaseB wd).2)] H6 := fun he s2 s6 H6 e6 =>
      s_retU (eu_tup (ea_cons (ev_var rfl) (ea_cons (ev_var rfl) ea_nil)) (Nat.le_of_ble_eq_true rfl)) fun q H7 hq e7 h7 => k _ _ ((bl5.ex.trans e6).trans e7) (by
        rw [he]
        exact ⟨q, _, rfl, by rw [dlt_new (fresh_back (bl5.ex.trans e6) hq)]; exact h7, _, rfl⟩)
    refine q_when (et_or (et_test (ev_op (ev_var rfl) ev_c (rv_eq rfl))) fun _ => et_or (et_test (ev_op (ev_var rfl) ev_c (rv_eq rfl))) fun _ => et_test (ev_op (ev_var rfl) ev_c rv_I0)) (fun hb H6 e6 => ?_) (fun hb H6 e6 => ?_)
    · refine fault ?_ _ _ H6 e6
      rw [Bool.or_eq_true, Bool.or_eq_true, decide_eq_true_iff, decide_eq_true_iff, decide_eq_true_iff, V.int.injEq, V.int.injEq] at hb
      rw [main]
      unfold phaseB at hb
      cases hp : phaseIn wd with
      | none => rfl
      | some ph =>
        rw [hp] at hb
        have pin := phase_in hp
        show (if PHASES ≤ i ∨ ROUND < total done + ph.2 then Except.error i else _) = _
        rw [if_pos]
        rcases hb with hb | hb | hb
        · exact absurd (show ((ph.2 : Nat) : Int) = 0 from hb) (by omega)
        · exact .inl (show 32 ≤ i by omega)
        · refine .inr (show 6000 < total done + ph.2 from ?_)
          have hb' : (6000 : Int) < ((total done : Nat) : Int) + ((ph.2 : Nat) : Int) := hb
          omega
    · rw [Bool.or_eq_false_iff, Bool.or_eq_false_iff, decide_eq_false_iff_not, decide_eq_false_iff_not, decide_eq_false_iff_not, V.int.injEq, V.int.injEq] at hb
      obtain ⟨hb1, hb2, hb3⟩ := hb
      unfold phaseB at hb1 hb3 ht
      cases hp : phaseIn wd with
      | none =>
        rw [hp] at hb1
        exact absurd rfl hb1
      | some ph =>
        rw [hp] at hb1 hb3 ht main
        have bl6 := bl5.ext e6
        obtain ⟨ys, hy, _⟩ := id bl6.at_
        have ylen := bl6.len hy
        have hb3' : ¬ (6000 : Int) < ((total done : Nat) : Int) + ((ph.2 : Nat) : Int) := hb3
        have main' : readRhythm b = andThen (done ++ [ph]) (phasesFrom (i + 1) (total done + ph.2) ((split 32 b).drop (i + 1))) := by
          rw [main]
          show (if PHASES ≤ i ∨ ROUND < total done + ph.2 then Except.error i else _) = _
          rw [if_neg]
          rintro (z | z)
          · exact hb2 (by have : 32 ≤ i := z; omega)
          · have : 6000 < total done + ph.2 := z
            omega
        refine s_appU hy (ev_var rfl) (eu_tup (ea_cons (ev_var rfl) (ea_cons (ev_var rfl) ea_nil)) (Nat.le_of_ble_eq_true rfl)) (by omega) fun q H7 hq e7 h7 => ⟨some (.int (i : Nat)), some x, some (.int (phaseB wd).1), some (.int (phaseB wd).2), done ++ [ph], ?_, ⟨G, Ex.mut (((g1.trans e35).trans e6).trans e7) g2, g2, g3, hx⟩, bl6.app hy e7 ?_, by rw [List.length_append, hdl]; rfl, by omega, ?_⟩
        · have et : total (done ++ [ph]) = total done + ph.2 := by unfold total; rw [List.map_append, List.sum_append]; simp
          rw [et]
          unfold phaseB
          rw [hp]
          rfl
        · refine ⟨q, rfl, ?_⟩
          rw [dlt_new hq, h7]
          unfold phaseB
          rw [hp]
          rfl
        · have et : total (done ++ [ph]) = total done + ph.2 := by unfold total; rw [List.map_append, List.sum_append]; simp
          rw [et]
          exact main'
  · rintro a xs σ' H' ⟨y1, y2, y3, y4, done, rfl, ⟨G, g1, g2, g3, hx⟩, bl, hdl, hi32, main⟩
    rw [hx.len, List.drop_length] at main
    have main' : readRhythm b = .ok done := by rw [main]; show Except.ok (done ++ []) = _; rw [List.append_nil]
    refine s_retG (eg_tup (ega_cons (ev_var rfl).g (ega_cons (ev_un ev_c ru_neg).g ega_nil)) ?_) fun v H2 e2 r => k _ _ (bl.ex.trans e2) ?_
    · rintro vs G ⟨_, _, rfl, _, _, _, rfl, _, rfl⟩; exact Nat.le_of_ble_eq_true rfl
    · rw [main']
      obtain ⟨t, vs, rfl, ht, _, _, rfl, r1, _, _, rfl, r2, r3⟩ := r
      cases (show _ = _ from r1)
      cases (show _ = _ from r2)
      cases (show _ = _ from r3)
      refine ⟨t, _, rfl, dlt_left bl.ex _ _ ht, _, _, rfl, (bl.ext e2).done (Ex.refl H), _, _, rfl, rfl, rfl⟩
end
end Bcw

namespace Bcw
open PySem PySem.Spec PyProof.Rows L2 Evl Bcn BnC Bn

def spWhiteDark : Sp := spV fun vs H z => ∃ (p : V) (r : Rhythm), vs = [p] ∧ isL (each phR r) p H ∧ (∀ x ∈ r, x.1 < 5) ∧ z = .bl (!(r.any fun (x : Phase) => decide (1 < x.1)))
structure GoodR (r : Rhythm) : Prop where
  ph : ∀ x ∈ r, x.1 ≤ 1 ∧ 1 ≤ x.2 ∧ x.2 ≤ 600
  ne : r ≠ []
  len : r.length ≤ 32
def spWhiteAt : Sp := spV fun vs H z => ∃ (p : V) (r : Rhythm) (t : Nat), vs = [p, .int (t : Nat)] ∧ isL (each phR r) p H ∧ GoodR r ∧ z = .bl (decide (colourAt r t ≠ 0))
def spFigures : Sp := spG fun vs H R => ∃ n : Nat, vs = [.int (n : Nat)] ∧ 1 ≤ n ∧ n ≤ 10000 ∧ R = bytR (decimal n)
def spTextIn : Sp := spG fun vs H R => ∃ (p : V) (r : Rhythm) (c : Nat), vs = [p, .int (c : Nat)] ∧ isL (each phR r) p H ∧ GoodR r ∧ 1 ≤ c ∧ c ≤ 4 ∧ R = bytR (Rhythm.text (r.map fun (x : Phase) => (if x.1 = 0 then 0 else c, x.2)))
theorem phR.at {x : Phase} {v : V} {H : Hp} (h : phR x v H) : ∃ t, v = .ref t ∧ H t = some (.tup [.int (sgn x.1), .int (x.2 : Nat)]) := h
theorem sgn_white : ∀ k, k < 5 → ((sgn k ≠ 87 ∧ sgn k ≠ 45) ↔ 1 < k) := by decide
theorem sgn_87 : ∀ k, k ≤ 1 → (sgn k = 87 ↔ k ≠ 0) := by decide
theorem sgn_0 : sgn 0 = 45 := by decide
theorem ev_sumG {K : PySem.W.Frag} {σ : L2.St} {H : Hp} {te : TE} {ns : List Int} (h : EvG te σ H (isL (each (fun i => isV (.int i)) ns))) : Ev (tCB (rSum K) (tCons te tNil)) σ H (.int ns.sum) := fun H1 e Q q =>
  h H1 e _ fun v H2 e2 ⟨a, vs, ev, hp, ra⟩ => ⟨a, ns, by rw [ev], by rw [← each.ints ra]; exact sq_of (dlt_ex _ _ _ _ hp), q H2 e2⟩

section
variable {P : Program} {w : World} {K : PySem.W.Frag} {mg : Str → Option Value} {base : Heap} {CL CH : Addr}
theorem ok_is_white_and_dark {f : Addr} {fd : FuncData} (F : Fun K "is_white_and_dark" "is_white_and_dark" s_is_white_and_dark f fd) (T : Txt K mg CL CH) : FnOk P w K mg base CX0 1 f fd ["phases"] spWhiteDark := by
  refine F.ok sc_is_white_and_dark (spV_len fun vs H z ⟨_, _, e, _⟩ => by rw [e]; rfl) (fun cdv A outer s H vs Q E hr h => ?_)
  obtain ⟨R, ⟨z, ⟨_, r, rfl, ⟨p, vs, rfl, hp, hl⟩, h5, rfl⟩, rfl⟩, k⟩ := h
  refine ⟨_, (pss_cons (ps_for PassesOwn.never rfl (pi_list (pv 0))
    (pg_tup rfl (pgs_cons (pg_name (i := 1) sc_is_white_and_dark.nd rfl (Or.inl rfl)) (pgs_cons (pg_name (i := 2) sc_is_white_and_dark.nd rfl (Or.inl rfl)) pgs_nil)))
    (pss_one (ps_if (PW.pt (pw_and (pt_cmpR op_ne (pv 1) (pe_gi T.c_WHITE) (nomark _)) (pw_and1 (pt_cmpR op_ne (pv 1) (pe_gi T.c_DARK) (nomark _)))))
    (pss_one (ps_ret pe_bl))
    pss_nil)))
    (pss_one (ps_ret pe_bl))), ?_⟩
  refine q_forL (ev_var rfl) (sq_of hp) (fun i σ' H' => ∃ x y, σ' = [some (.ref p), x, y] ∧ Ex H H' ∧ ((r.drop i).any fun (x : Phase) => decide (1 < x.1)) = (r.any fun (x : Phase) => decide (1 < x.1))) (fun H2 e2 => ⟨none, none, rfl, e2, rfl⟩) (fun i σ' H' _ ⟨_, _, _, e2, _⟩ => sq_of (e2 _ _ hp)) ?_ ?_
  · rintro i x σ' H' hi ⟨y1, y2, rfl, e2, hc⟩
    obtain ⟨ph, hs, rx⟩ := each.get hl hi
    obtain ⟨t, rfl, ht⟩ := phR.at (Mono.up e2 rx)
    have hdrop : r.drop i = ph :: r.drop (i + 1) := by
      obtain ⟨h1, h2⟩ := List.getElem?_eq_some_iff.mp hs
      rw [List.drop_eq_getElem_cons h1, h2]
    rw [hdrop, List.any_cons] at hc
    have hw := sgn_white ph.1 (h5 ph (List.mem_of_getElem? hs))
    refine g_pair (st_of ht) ?_
    refine s_when (et_and (et_test (ev_op (ev_var rfl) ev_c (rv_ne rfl))) fun _ => et_test (ev_op (ev_var rfl) ev_c (rv_ne rfl))) (fun hb H2 e3 => ?_) (fun hb H2 e3 => ?_)
    · rw [Bool.and_eq_true, Bool.not_eq_true', Bool.not_eq_true', decide_eq_false_iff_not, decide_eq_false_iff_not, V.int.injEq, V.int.injEq] at hb
      rw [decide_eq_true (hw.mp hb)] at hc
      exact s_ret ev_c fun H3 e4 => k _ _ ((e2.trans e3).trans e4) (by rw [← hc]; rfl)
    · have : ¬ 1 < ph.1 := fun z => by
        obtain ⟨z1, z2⟩ := hw.mpr z
        rw [decide_eq_false (fun e => z1 (V.int.inj e)), decide_eq_false (fun e => z2 (V.int.inj e))] at hb
        cases hb
      rw [decide_eq_false this, Bool.false_or] at hc
      exact ⟨_, _, rfl, e2.trans e3, hc⟩
  · rintro σ' H' ⟨y1, y2, rfl, e2, hc⟩
    rw [hl.len, List.drop_length] at hc
    exact s_ret ev_c fun H3 e4 => k _ _ (e2.trans e4) (by rw [← hc]; rfl)
theorem ok_is_white_at {f : Addr} {fd : FuncData} (F : Fun K "is_white_at" "is_white_at" s_is_white_at f fd) (T : Txt K mg CL CH) : FnOk P w K mg base CX0 1 f fd ["phases", "time"] spWhiteAt := by
  refine F.ok sc_is_white_at (spV_len fun vs H z ⟨_, _, _, e, _⟩ => by rw [e]; rfl) (fun cdv A outer s H vs Q E hr h => ?_)
  obtain ⟨R, ⟨z, ⟨_, r, tm, rfl, ⟨p, vs, rfl, hp, hl⟩, gr, rfl⟩, rfl⟩, k⟩ := h
  refine ⟨_, (pss_cons (ps_set (i := 2) sc_is_white_at.nd rfl (Or.inl rfl) (pe_op op_modN (pv 1) (pe_callB (cr_sum rfl) (by rfl) T.b_sum (by decide +kernel) (pa_cons (pe_lc (own := [("letter", 3), ("long", 4)]) (g := (gTup K 2 (gCons (gName 3) (gCons (gName 4) gNil)))) (tt := tYes) rfl sc_is_white_at.nd (pi_list (pv 0)) (blkOk_by (own := [("letter", 3), ("long", 4)]) (N := ["phases", "time", "left", "letter", "long"]) (sc := defScope s_is_white_at) (by decide +kernel)) (fun _ _ _ _ _ => (pg_tup rfl (pgs_cons (pg_name (i := 3) sc_is_white_at.nd rfl (Or.inl rfl)) (pgs_cons (pg_name (i := 4) sc_is_white_at.nd rfl (Or.inl rfl)) pgs_nil)))) (fun _ _ _ _ _ => pts_nil) (fun _ _ _ _ _ => (pv 4))) pa_nil))))
    (pss_cons (ps_for PassesOwn.never rfl (pi_list (pv 0))
    (pg_tup rfl (pgs_cons (pg_name (i := 3) sc_is_white_at.nd rfl (Or.inl rfl)) (pgs_cons (pg_name (i := 4) sc_is_white_at.nd rfl (Or.inl rfl)) pgs_nil)))
    (pss_cons (ps_if (pt_cmpR op_lt (pv 2) (pv 4) (nomark _))
    (pss_one (ps_ret (pe_cmpR op_eq (pv 3) (pe_gi T.c_WHITE) (nomark _))))
    pss_nil)
    (pss_one (ps_aug (i := 2) sc_is_white_at.nd rfl (Or.inl rfl) (pv 4) ip_sub))))
    (pss_one (ps_ret pe_bl)))), ?_⟩
  have hvl := hl.len
  have tp := total_pos gr.ne fun x hx => (gr.ph x hx).2.1
  have hsum : (r.map fun (x : Phase) => ((x.2 : Nat) : Int)).sum = ((total r : Nat) : Int) := by
    unfold total
    clear tp gr hl k hvl
    induction r with
    | nil => rfl
    | cons x r ih => rw [List.map_cons, List.sum_cons, ih, List.map_cons, List.sum_cons]; omega
  have hlc : EvG (tLc (iList K (tVar 0)) (gTup K 2 (gCons (gName 3) (gCons (gName 4) gNil))) tYes (tVar 4) [3, 4]) [some (.ref p), some (.int (tm : Nat)), none, none, none] H (isL (each (fun i => isV (.int i)) (r.map fun (x : Phase) => ((x.2 : Nat) : Int)))) := by
    have q := eg_lc (R := fun i => isV (.int i)) (σ := [some (.ref p), some (.int (tm : Nat)), none, none, none]) (g := gTup K 2 (gCons (gName 3) (gCons (gName 4) gNil))) (tt := tYes) (te := tVar 4) (vs := [3, 4]) (ei_list (K := K) (tl := tVar 0) (ev_var rfl) (sq_of hp)) (fun i => (r.take i).map fun (x : Phase) => ((x.2 : Nat) : Int)) vs.length (fun m src H1 h => h.1) rfl (by rw [hvl]; have := gr.len; omega)
      (fun src H1 i x H2 e1 ph hi hx e2 => by
        obtain ⟨_, rfl⟩ := ph
        obtain ⟨a, hs, rx⟩ := each.get hl hx
        obtain ⟨t, rfl, ht⟩ := phR.at (Mono.up (e1.trans e2) rx)
        refine ⟨_, fun Q q => g_pair (st_of ht) q, rfl, .inl ⟨((a.2 : Nat) : Int), fun H3 e3 Q q => q H3 (Ex.refl H3), (ev_var rfl).g, ?_⟩⟩
        rw [take_succ' hs, List.map_append]
        rfl)
    rw [hvl, List.take_length] at q
    exact q
  have hmod : ((tm : Nat) : Int).fmod ((total r : Nat) : Int) = ((tm % total r : Nat) : Int) := by
    rw [Int.fmod_eq_emod_of_nonneg _ (by omega)]
    rfl
  refine q_asg (ev_op (z := .int ((tm % total r : Nat) : Int)) (ev_var rfl) (ev_sumG hlc) (by
    rw [hsum]
    have := rv_mod (H := H) (i := ((tm : Nat) : Int)) (j := ((total r : Nat) : Int)) (by omega)
    rw [hmod] at this
    exact this)) fun H1 e1 => ?_
  refine q_forL (ev_var rfl) (sq_of (e1 _ _ hp)) (fun i σ' H' => ∃ x y, ∃ left : Nat, σ' = [some (.ref p), some (.int (tm : Nat)), some (.int (left : Nat)), x, y] ∧ Ex H1 H' ∧ colourIn (r.drop i) left = colourAt r tm) (fun H2 e2 => ⟨none, none, _, rfl, e2, rfl⟩) (fun i σ' H' _ ⟨_, _, _, _, e2, _⟩ => sq_of (e2 _ _ (e1 _ _ hp))) ?_ ?_
  · rintro i x σ' H' hi ⟨y1, y2, left, rfl, e2, hc⟩
    have e12 := e1.trans e2
    obtain ⟨ph, hs, rx⟩ := each.get hl hi
    obtain ⟨t, rfl, ht⟩ := phR.at (Mono.up e12 rx)
    have hdrop : r.drop i = ph :: r.drop (i + 1) := by
      obtain ⟨h1, h2⟩ := List.getElem?_eq_some_iff.mp hs
      rw [List.drop_eq_getElem_cons h1, h2]
    rw [hdrop] at hc
    have hc' : (if left < ph.2 then ph.1 else colourIn (r.drop (i + 1)) (left - ph.2)) = colourAt r tm := hc
    refine g_pair (st_of ht) ?_
    refine q_when (et_test (ev_op (ev_var rfl) (ev_var rfl) rv_I0)) (fun hb H2 e3 => ?_) (fun hb H2 e3 => ?_)
    · rw [decide_eq_true_iff] at hb
      rw [if_pos (by omega)] at hc'
      refine s_ret (ev_op (ev_var rfl) ev_c (rv_eq rfl)) fun H3 e4 => k _ _ ((e12.trans e3).trans e4) ?_
      show V.bl _ = V.bl _
      rw [← hc']
      congr 1
      rw [decide_eq_decide, V.int.injEq]
      exact sgn_87 ph.1 (gr.ph ph (List.mem_of_getElem? hs)).1
    · rw [decide_eq_false_iff_not] at hb
      rw [if_neg (by omega)] at hc'
      refine s_aug (f := fun i j => i - j) rfl (ev_var rfl) fun H3 e4 => ⟨some (.int (sgn ph.1)), some (.int (ph.2 : Nat)), left - ph.2, ?_, (e2.trans e3).trans e4, hc'⟩
      rw [show ((left - ph.2 : Nat) : Int) = ((left : Nat) : Int) - ((ph.2 : Nat) : Int) by omega]
      rfl
  · rintro σ' H' ⟨y1, y2, left, rfl, e2, hc⟩
    rw [hvl, List.drop_length] at hc
    refine s_ret ev_c fun H3 e4 => k _ _ ((e1.trans e2).trans e4) ?_
    show V.bl false = V.bl _
    rw [← hc]
    rfl
end
end Bcw

namespace Bcw
open PySem PySem.Spec PyProof.Rows L2 Evl Bcn BnC Bn

theorem digits_len : ∀ (f n : Nat), (digitsIn f n).length ≤ f
  | 0, _ => Nat.le_refl _
  | f + 1, n => by
    unfold digitsIn
    rw [List.length_append]
    have ih := digits_len f (n / 10)
    split
    · simp
    · simp only [List.length_cons, List.length_nil]; omega
theorem figs_succ (m : Nat) (h : 1 ≤ m) : figs m = UInt8.ofNat (48 + m % 10) :: figs (m / 10) := by
  obtain ⟨n, rfl⟩ : ∃ n, m = n + 1 := ⟨m - 1, by omega⟩
  rw [figs]
theorem figs_len : ∀ (n : Nat), (figs n).length ≤ n
  | 0 => by rw [figs]; exact Nat.le_refl _
  | n + 1 => by
    rw [figs_succ (n + 1) (by omega), List.length_cons]
    have := figs_len ((n + 1) / 10)
    omega
theorem text_len (c : Nat) : ∀ (l a : Rhythm) , (∀ x ∈ l, x.2 ≤ 600) → (l.foldl (textTurn c) []).length ≤ 603 * l.length := by
  intro l _ hl
  have key : ∀ (l : Rhythm) (a : Bytes), (∀ x ∈ l, x.2 ≤ 600) → (l.foldl (textTurn c) a).length ≤ a.length + 603 * l.length := by
    intro l
    induction l with
    | nil => intro a _; simp
    | cons x l ih =>
      intro a h
      rw [List.foldl_cons]
      have h1 := ih (textTurn c a x) fun y hy => h y (List.mem_cons_of_mem _ hy)
      have h2 : (textTurn c a x).length ≤ a.length + 603 := by
        have d := digits_len (x.2 + 1) x.2
        have := h x List.mem_cons_self
        unfold textTurn Phase.text decimal
        rw [List.length_append, List.length_cons]
        split <;> simp <;> omega
      rw [List.length_cons]
      omega
  simpa using key l [] hl

section
variable {P : Program} {w : World} {K : PySem.W.Frag} {mg : Str → Option Value} {base : Heap} {CL CH : Addr}
theorem ok_figures_of {f : Addr} {fd : FuncData} (F : Fun K "figures_of" "figures_of" s_figures_of f fd) (T : Txt K mg CL CH) : FnOk P w K mg base CX0 1 f fd ["number"] spFigures := by
  refine F.ok sc_figures_of (spG_len fun vs H z ⟨_, e, _⟩ => by rw [e]; rfl) (fun cdv A outer s H vs Q E hr h => ?_)
  obtain ⟨R, ⟨n, rfl, h1, h2, rfl⟩, k⟩ := h
  refine ⟨_, (pss_cons (ps_set (i := 1) sc_figures_of.nd rfl (Or.inl rfl) (pe_lst pa_nil))
    (pss_cons (ps_while PassesOwn.never (pt_cmpR op_gt (pv 0) pe_int (nomark _))
    (pss_cons (ps_expr (pe_bm PySem.F.plainAttrs_list PySem.F.slot_list_append PySem.F.type_list_append mt_append (pv 1) (pa_cons (pe_op op_add (pe_gi T.c_NOUGHT) (pe_op op_modN (pv 0) pe_int)) pa_nil)))
    (pss_one (ps_set (i := 0) sc_figures_of.nd rfl (Or.inl rfl) (pe_op op_fdiv (pv 0) pe_int)))))
    (pss_one (ps_ret (pe_revL (pv 1)))))), ?_⟩
  refine q_newL fun l hl => ?_
  have fl := figs_len n
  refine q_while (fun m σ' H' => ∃ done : Bytes, σ' = [some (.int (m : Nat)), some (.ref l)] ∧ Ex H H' ∧ H' l = some (.lst ((ofB done).map V.int)) ∧ done ++ figs m = figs n) n ⟨[], rfl, Ex.new hl, upd_same, rfl⟩ ?_
  rintro m σ' H' ⟨done, rfl, e1, hd, he⟩
  refine ⟨decide ((0 : Int) < ((m : Nat) : Int)), et_test (ev_op (ev_var rfl) ev_c rv_I0), fun hb H1 e2 => ?_, fun hb H1 e2 => ?_⟩
  · rw [decide_eq_true_iff] at hb
    have hm : 1 ≤ m := by omega
    refine ⟨fun σ2 H2 => ∃ done : Bytes, σ2 = [some (.int ((m / 10 : Nat) : Nat)), some (.ref l)] ∧ Ex H H2 ∧ H2 l = some (.lst ((ofB done).map V.int)) ∧ done ++ figs (m / 10) = figs n, fun σ2 H2 h => ⟨m / 10, by omega, h⟩, ?_⟩
    rw [figs_succ m hm] at he
    have dl : done.length ≤ 10000 := by
      have := congrArg List.length he
      rw [List.length_append, List.length_cons] at this
      omega
    have e48 : ((48 : Int) + ((m : Nat) : Int).fmod 10) = (((UInt8.ofNat (48 + m % 10)).toNat : Nat) : Int) := by
      rw [ofNat48 (Nat.mod_lt _ (by decide)), Int.fmod_eq_emod_of_nonneg _ (by decide)]
      rfl
    refine q_app (e2 _ _ hd) (ev_var rfl) (ev_op ev_c (ev_op (ev_var rfl) ev_c (rv_mod (by decide))) rv_I0) (by rw [byt_len]; omega) fun H2 e3 => ?_
    refine s_asg (ev_op (ev_var rfl) ev_c (rv_I (C := CDiv) ⟨by decide, by decide⟩)) fun H3 e4 => ⟨done ++ [UInt8.ofNat (48 + m % 10)], ?_, ?_, ?_, ?_⟩
    · show [some (V.int (((m : Nat) : Int) / 10)), _] = _
      rw [show ((m : Nat) : Int) / 10 = ((m / 10 : Nat) : Int) from rfl]
    · exact (Ex.mut ((e1.trans e2).trans e3) hl).trans e4
    · rw [byt_snoc, ← e48]
      exact e4 _ _ upd_same
    · rw [List.append_assoc]
      exact he
  · rw [decide_eq_false_iff_not] at hb
    have hm : m = 0 := by omega
    rw [hm, figs, List.append_nil] at he
    refine ⟨_, rfl, l, _, rfl, sq_of (e2 _ _ hd), fun q hq => ?_⟩
    refine k _ _ ((e1.trans e2).trans (Ex.new hq)) ⟨q, rfl, ?_⟩
    rw [dlt_upd (fresh_back (e1.trans e2) hq), he, ← figs_rev n h1]
    unfold ofB
    rw [List.map_reverse, List.map_reverse]
theorem ok_text_in {f : Addr} {fd : FuncData} (F : Fun K "text_in" "text_in" s_text_in f fd) (T : Txt K mg CL CH) (D_figures_of : DefAt P w K mg base "figures_of" 1 ["number"] spFigures) : FnOk P w K mg base CX0 2 f fd ["phases", "colour"] spTextIn := by
  refine F.ok sc_text_in (spG_len fun vs H z ⟨_, _, _, e, _⟩ => by rw [e]; rfl) (fun cdv A outer s H vs Q E hr h => ?_)
  obtain ⟨R, ⟨_, r, c, rfl, ⟨p, vs, rfl, hp, hl⟩, gr, c1, c4, rfl⟩, k⟩ := h
  refine ⟨_, (pss_cons (ps_set (i := 2) sc_text_in.nd rfl (Or.inl rfl) (pe_lst pa_nil))
    (pss_cons (ps_for PassesOwn.never rfl (pi_list (pv 0))
    (pg_tup rfl (pgs_cons (pg_name (i := 3) sc_text_in.nd rfl (Or.inl rfl)) (pgs_cons (pg_name (i := 4) sc_text_in.nd rfl (Or.inl rfl)) pgs_nil)))
    (pss_cons (ps_if (pt_cmpR (op_neNil hr.units) (pv 2) (pe_lst pa_nil) (nomark _))
    (pss_one (ps_expr (pe_bm PySem.F.plainAttrs_list PySem.F.slot_list_append PySem.F.type_list_append mt_append (pv 2) (pa_cons (pe_gi T.c_BLANK) pa_nil))))
    pss_nil)
    (pss_cons (ps_if (pt_cmpR op_eq (pv 3) (pe_gi T.c_WHITE) (nomark _))
    (pss_one (ps_set (i := 3) sc_text_in.nd rfl (Or.inl rfl) (pe_ix ix_tup (pe_gr T.g_LETTERS) (pv 1) (fun _ _ => rfl))))
    pss_nil)
    (pss_cons (ps_expr (pe_bm PySem.F.plainAttrs_list PySem.F.slot_list_append PySem.F.type_list_append mt_append (pv 2) (pa_cons (pv 3) pa_nil)))
    (pss_one (ps_expr (pe_bm PySem.F.plainAttrs_list PySem.F.slot_list_extend PySem.F.type_list_extend mt_extend (pv 2) (pa_cons (pe_dcall D_figures_of (hr.mono (by decide)) (pa_cons (pv 4) pa_nil)) pa_nil))))))))
    (pss_one (ps_ret (pv 2))))), ?_⟩
  have hvl := hl.len
  rw [← text_eq] at k
  refine q_newL fun l hl0 => ?_
  have hL : ∀ {H'}, Ex H H' → SqL K H' p vs := fun e => sq_of (e _ _ hp)
  refine q_forL (ev_var rfl) (hL (Ex.new hl0)) (fun i σ' H' => ∃ x y, σ' = [some (.ref p), some (.int (c : Nat)), some (.ref l), x, y] ∧ Ex H H' ∧ H' l = some (.lst ((ofB ((r.take i).foldl (textTurn c) [])).map V.int))) (fun H2 e2 => ⟨none, none, rfl, (Ex.new hl0).trans e2, e2 _ _ upd_same⟩) (fun i σ' H' _ ⟨_, _, _, e, _⟩ => hL e) ?_ ?_
  · rintro i x σ' H' hi ⟨y1, y2, rfl, e1, hd⟩
    obtain ⟨ph, hs, rx⟩ := each.get hl hi
    obtain ⟨t, rfl, ht⟩ := phR.at (Mono.up e1 rx)
    have gp := gr.ph ph (List.mem_of_getElem? hs)
    have hil : i < r.length := (List.getElem?_eq_some_iff.mp hs).1
    have tl := text_len c (r.take i) [] fun x hx => (gr.ph x (List.mem_of_mem_take hx)).2.2
    have hrl := gr.len
    rw [List.length_take] at tl
    rw [take_succ' hs, List.foldl_append]
    generalize (r.take i).foldl (textTurn c) [] = acc at hd tl
    show gTup K 2 _ _ _ _ _
    have acl : acc.length ≤ 20000 := by omega
    refine g_pair (st_of ht) ?_
    -- the blank ahead of it
    have hne : EvT (tTest (tOp (rNeNil K) (tVar 2) (tLst tNil))) [some (.ref p), some (.int (c : Nat)), some (.ref l), some (.int (sgn ph.1)), some (.int (ph.2 : Nat))] H' (!(((ofB acc).map V.int).isEmpty)) := et_test (ev_opL (ev_var rfl) (el_lst ea_nil (by decide)) fun q H1 hq e => rv_val fun H2 e2 Q2 q2 => ⟨l, q, _, rfl, rfl, sq_of (e2 _ _ (e _ _ hd)), sq_of (e2 _ _ hq), q2⟩)
    -- what follows the blank
    have rest : ∀ (a1 : Bytes) (H1 : Hp), Ex H H1 → H1 l = some (.lst ((ofB a1).map V.int)) → a1 = (if acc = [] then [] else acc ++ [32]) → ∀ (D : Ends), (∀ (x y : Option V) (H2 : Hp), Ex H H2 → H2 l = some (.lst ((ofB (textTurn c acc ph)).map V.int)) → D.nx [some (.ref p), some (.int (c : Nat)), some (.ref l), x, y] H2) →
        tSeq (tIfS (tTest (tOp rEq (tVar 3) (tC (.int 87)))) (tAsg (tOp (rIxT K) (tC (.ref T.a_LETTERS)) (tVar 1)) (gName 3)) tNext) (tSeq (tDrop (tBM K "list" rAppend (tVar 2) (tCons (tVar 3) tNil))) (tDrop (tBM K "list" rExtend (tVar 2) (tCons (tCall spFigures [] E0 (tCons (tVar 4) tNil)) tNil)))) D [some (.ref p), some (.int (c : Nat)), some (.ref l), some (.int (sgn ph.1)), some (.int (ph.2 : Nat))] H1 := by
      intro a1 H1 e2 h1 ha D kD
      have a1l : a1.length ≤ 20001 := by
        rw [ha]
        split
        · simp
        · rw [List.length_append]; show acc.length + 1 ≤ _; omega
      have fin : ∀ (z : Option V) (H2 : Hp), z = some (.int (sgn (if ph.1 = 0 then 0 else c))) → Ex H1 H2 → tSeq (tDrop (tBM K "list" rAppend (tVar 2) (tCons (tVar 3) tNil))) (tDrop (tBM K "list" rExtend (tVar 2) (tCons (tCall spFigures [] E0 (tCons (tVar 4) tNil)) tNil))) D [some (.ref p), some (.int (c : Nat)), some (.ref l), z, some (.int (ph.2 : Nat))] H2 := by
        intro z H2 hz e3
        subst hz
        refine q_app (e3 _ _ h1) (ev_var rfl) (ev_var rfl) (by rw [byt_len]; omega) fun H3 e4 => ?_
        have hlu := @upd_same H3 l (.lst ((ofB a1).map V.int ++ [.int (sgn (if ph.1 = 0 then 0 else c))]))
        refine s_extG hlu (ev_var rfl) (RA := areV ((ofB (decimal ph.2)).map V.int)) ?_ ?_ fun ys H4 e5 hy => ?_
        · refine EvG.weak (R := bytR (decimal ph.2)) (eg_call (ea_cons (ev_var rfl) ea_nil).g fun vs H5 e6 q => ?_) fun v G h => isO_isL h
          cases (show vs = _ from q)
          exact ⟨ph.2, rfl, by omega, by omega, rfl⟩
        · intro ys G hy
          cases (show ys = _ from hy)
          have := digits_len (ph.2 + 1) ph.2
          rw [List.length_append, byt_len, byt_len]
          unfold decimal
          show a1.length + 1 + _ ≤ _
          omega
        · cases (show ys = _ from hy)
          refine kD _ _ _ ?_ ?_
          · exact Ex.mut ((Ex.mut ((e2.trans e3).trans e4) hl0).trans e5) hl0
          · rw [upd_same]
            unfold textTurn
            rw [← ha, byt_app]
            unfold Phase.text
            rw [List.append_assoc]
            rfl
      refine q_when (et_test (ev_op (ev_var rfl) ev_c (rv_eq rfl))) (fun hb H2 e3 => ?_) (fun hb H2 e3 => ?_)
      · rw [decide_eq_true_iff, V.int.injEq, sgn_87 ph.1 gp.1] at hb
        have hat : atI [V.int 45, .int 87, .int 82, .int 71, .int 89] ((c : Nat) : Int) = some (.int (sgn c)) := by
          have : ∀ c, c < 5 → atI [V.int 45, .int 87, .int 82, .int 71, .int 89] ((c : Nat) : Int) = some (.int (sgn c)) := by decide
          exact this c (by omega)
        refine s_asg (ev_op ev_c (ev_var rfl) (rv_ixT (T.s_LETTERS _) hat)) fun H3 e4 => fin _ _ ?_ (e3.trans e4)
        rw [if_neg hb]
      · rw [decide_eq_false_iff_not, V.int.injEq, sgn_87 ph.1 gp.1] at hb
        refine fin _ _ ?_ e3
        rw [if_pos (by omega), show ph.1 = 0 by omega]
    have kD : ∀ (x y : Option V) (H2 : Hp), Ex H H2 → H2 l = some (.lst ((ofB (textTurn c acc ph)).map V.int)) → ∃ x' y', [some (V.ref p), some (.int (c : Nat)), some (.ref l), x, y] = [some (.ref p), some (.int (c : Nat)), some (.ref l), x', y'] ∧ Ex H H2 ∧ H2 l = some (.lst ((ofB ([ph].foldl (textTurn c) acc)).map V.int)) := fun x y H2 e h => ⟨x, y, rfl, e, h⟩
    refine q_if hne (fun hb H1 e2 => ?_) (fun hb H1 e2 => ?_)
    · have hacc : acc ≠ [] := fun z => by rw [z] at hb; cases hb
      refine s_app (e2 _ _ hd) (ev_var rfl) ev_c (by rw [byt_len]; omega) fun H2 e3 => ?_
      refine rest (acc ++ [32]) _ (Ex.mut ((e1.trans e2).trans e3) hl0) (by rw [upd_same, byt_snoc]; rfl) (by rw [if_neg hacc]) _ kD
    · have hacc : acc = [] := by
        cases acc with
        | nil => rfl
        | cons a b => cases hb
      exact rest [] H1 (e1.trans e2) (by rw [← hacc]; exact e2 _ _ hd) (by rw [if_pos hacc]) _ kD
  · rintro σ' H' ⟨y1, y2, rfl, e1, hd⟩
    rw [hvl, List.take_length] at hd
    refine s_ret (ev_var rfl) fun H2 e2 => k _ _ (e1.trans e2) ⟨l, rfl, ?_⟩
    rw [dlt_new hl0]
    exact e2 _ _ hd
end
end Bcw

/-! # coasts -/
namespace Bcw
open PySem PySem.Spec PyProof.Rows L2 Evl Bcn BnC

/-- places' numbers -/
def Pl (i : Int) : Prop := -20000 ≤ i ∧ i ≤ 20000
def spSide : Sp := spV fun vs _ z => ∃ x y u v h t : Int, vs = [.int x, .int y, .int u, .int v, .int h, .int t] ∧ (Pl x ∧ Pl y ∧ Pl u ∧ Pl v ∧ Pl h ∧ Pl t) ∧ z = .int (side (x, y) (u, v) (h, t))
def spApart : Sp := spV fun vs _ z => ∃ a b c d : Int, vs = [.int a, .int b, .int c, .int d] ∧ z = .bl (apartB a b c d)
def spSign : Sp := spV fun vs _ z => ∃ a b : Int, vs = [.int a, .int b] ∧ z = .bl (signB a b)
def spCommon : Sp := spV fun vs H z => ∃ (p q : V) (x y u v h t f b : Int), vs = [p, q] ∧ tupI [x, y, u, v] p H ∧ tupI [h, t, f, b] q H ∧ (Pl x ∧ Pl y ∧ Pl u ∧ Pl v ∧ Pl h ∧ Pl t ∧ Pl f ∧ Pl b) ∧ z = .bl (commonB x y u v h t f b)
def cstR (c : Coast) : RG := tupI [c.1.1, c.1.2, c.2.1, c.2.2]
instance : Mono (cstR c) := inferInstanceAs (Mono (isO _))
def spHidden : Sp := spV fun vs H z => ∃ (p q : V) (cs : List Coast) (h t f b : Int), vs = [p, q] ∧ isL (each cstR cs) p H ∧ tupI [h, t, f, b] q H ∧ (Pl h ∧ Pl t ∧ Pl f ∧ Pl b) ∧ (∀ c ∈ cs, GoodC c) ∧ z = .bl (hiddenB cs h t f b)
theorem ev_max {σ : L2.St} {H : Hp} {ta tb : TE} {i j : Int} (ha : Ev ta σ H (.int i)) (hb : Ev tb σ H (.int j)) : Ev (tCB (fun xs H Q => ∃ i j, xs = [.int i, .int j] ∧ Q (.int (if j > i then j else i)) H) (tCons ta (tCons tb tNil))) σ H (.int (mx i j)) :=
  ev_cb (ea_cons ha (ea_cons hb ea_nil)) fun H1 _ _ q => ⟨i, j, rfl, q H1 (Ex.refl H1)⟩
theorem ev_min {σ : L2.St} {H : Hp} {ta tb : TE} {i j : Int} (ha : Ev ta σ H (.int i)) (hb : Ev tb σ H (.int j)) : Ev (tCB (fun xs H Q => ∃ i j, xs = [.int i, .int j] ∧ Q (.int (if j < i then j else i)) H) (tCons ta (tCons tb tNil))) σ H (.int (mn i j)) :=
  ev_cb (ea_cons ha (ea_cons hb ea_nil)) fun H1 _ _ q => ⟨i, j, rfl, q H1 (Ex.refl H1)⟩

section
variable {P : Program} {w : World} {K : PySem.W.Frag} {mg : Str → Option Value} {base : Heap} {CL CH : Addr}
theorem ok_side {f : Addr} {fd : FuncData} (F : Fun K "side" "side" s_side f fd) (T : Txt K mg CL CH) : FnOk P w K mg base CX0 1 f fd ["x", "y", "u", "v", "here", "there"] spSide := by
  refine F.ok sc_side (spV_len fun vs H z ⟨_, _, _, _, _, _, e, _⟩ => by rw [e]; rfl) (fun cdv A outer s H vs Q E hr h => ?_)
  obtain ⟨R, ⟨z, ⟨x, y, u, v, h, t, rfl, ⟨b1, b2, b3, b4, b5, b6⟩, rfl⟩, rfl⟩, k⟩ := h
  refine ⟨_, (pss_one (ps_ret (pe_op op_sub (pe_op op_mul (pe_op op_sub (pv 2) (pv 0)) (pe_op op_sub (pv 5) (pv 1))) (pe_op op_mul (pe_op op_sub (pv 3) (pv 1)) (pe_op op_sub (pv 4) (pv 0)))))), ?_⟩
  unfold Pl at *
  exact s_ret (ev_op (ev_op (ev_op (ev_var rfl) (ev_var rfl) rv_I0) (ev_op (ev_var rfl) (ev_var rfl) rv_I0) (rv_I (.inl ⟨by omega, by omega⟩))) (ev_op (ev_op (ev_var rfl) (ev_var rfl) rv_I0) (ev_op (ev_var rfl) (ev_var rfl) rv_I0) (rv_I (.inl ⟨by omega, by omega⟩))) rv_I0) fun H1 e => k _ H1 e rfl
theorem ok_lie_apart {f : Addr} {fd : FuncData} (F : Fun K "lie_apart" "lie_apart" s_lie_apart f fd) (T : Txt K mg CL CH) : FnOk P w K mg base CX0 1 f fd ["one", "other", "two", "another"] spApart := by
  refine F.ok sc_lie_apart (spV_len fun vs H z ⟨_, _, _, _, e, _⟩ => by rw [e]; rfl) (fun cdv A outer s H vs Q E hr h => ?_)
  obtain ⟨R, ⟨z, ⟨a, b, c, d, rfl, rfl⟩, rfl⟩, k⟩ := h
  refine ⟨_, (pss_one (ps_ret (pe_or (pe_cmpR op_lt (pe_callB (call_max2 rfl) (by rfl) T.b_max (by decide +kernel) (pa_cons (pv 0) (pa_cons (pv 1) pa_nil))) (pe_callB (call_min2 rfl) (by rfl) T.b_min (by decide +kernel) (pa_cons (pv 2) (pa_cons (pv 3) pa_nil))) (nomark _)) (pe_one (pe_cmpR op_lt (pe_callB (call_max2 rfl) (by rfl) T.b_max (by decide +kernel) (pa_cons (pv 2) (pa_cons (pv 3) pa_nil))) (pe_callB (call_min2 rfl) (by rfl) T.b_min (by decide +kernel) (pa_cons (pv 0) (pa_cons (pv 1) pa_nil))) (nomark _)))))), ?_⟩
  exact s_ret (ev_orV (ev_op (ev_max (ev_var rfl) (ev_var rfl)) (ev_min (ev_var rfl) (ev_var rfl)) rv_I0) fun _ => ev_op (ev_max (ev_var rfl) (ev_var rfl)) (ev_min (ev_var rfl) (ev_var rfl)) rv_I0) fun H1 e => k _ H1 e rfl
theorem ok_is_sign {f : Addr} {fd : FuncData} (F : Fun K "is_sign" "is_sign" s_is_sign f fd) (T : Txt K mg CL CH) : FnOk P w K mg base CX0 1 f fd ["one", "other"] spSign := by
  refine F.ok sc_is_sign (spV_len fun vs H z ⟨_, _, e, _⟩ => by rw [e]; rfl) (fun cdv A outer s H vs Q E hr h => ?_)
  obtain ⟨R, ⟨z, ⟨a, b, rfl, rfl⟩, rfl⟩, k⟩ := h
  refine ⟨_, (pss_one (ps_ret (pe_or (pe_and (pe_cmpR op_gt (pv 0) pe_int (nomark _)) (pe_one (pe_cmpR op_gt (pv 1) pe_int (nomark _)))) (pe_one (pe_and (pe_cmpR op_lt (pv 0) pe_int (nomark _)) (pe_one (pe_cmpR op_lt (pv 1) pe_int (nomark _)))))))), ?_⟩
  exact s_ret (ev_orV (ev_andV (ev_op (ev_var rfl) ev_c rv_I0) fun _ => ev_op (ev_var rfl) ev_c rv_I0) fun _ => ev_andV (ev_op (ev_var rfl) ev_c rv_I0) fun _ => ev_op (ev_var rfl) ev_c rv_I0) fun H1 e => k _ H1 e rfl
theorem ok_have_common {f : Addr} {fd : FuncData} (F : Fun K "have_common" "have_common" s_have_common f fd) (T : Txt K mg CL CH) (D_side : DefAt P w K mg base "side" 1 ["x", "y", "u", "v", "here", "there"] spSide)
    (D_lie_apart : DefAt P w K mg base "lie_apart" 1 ["one", "other", "two", "another"] spApart) (D_is_sign : DefAt P w K mg base "is_sign" 1 ["one", "other"] spSign) : FnOk P w K mg base CX0 2 f fd ["one", "other"] spCommon := by
  refine F.ok sc_have_common (spV_len fun vs H z ⟨_, _, _, _, _, _, _, _, _, _, e, _⟩ => by rw [e]; rfl) (fun cdv A outer s H vs Q E hr h => ?_)
  obtain ⟨R, ⟨z, ⟨_, _, x, y, u, v, h, t, ff, b, rfl, ⟨p, rfl, hp⟩, ⟨q, rfl, hq⟩, ⟨b1, b2, b3, b4, b5, b6, b7, b8⟩, rfl⟩, rfl⟩, k⟩ := h
  refine ⟨_, (pss_cons (ps_asg (pv 0) (pg_tup rfl (pgs_cons (pg_name (i := 2) sc_have_common.nd rfl (Or.inl rfl)) (pgs_cons (pg_name (i := 3) sc_have_common.nd rfl (Or.inl rfl)) (pgs_cons (pg_name (i := 4) sc_have_common.nd rfl (Or.inl rfl)) (pgs_cons (pg_name (i := 5) sc_have_common.nd rfl (Or.inl rfl)) pgs_nil))))))
    (pss_cons (ps_asg (pv 1) (pg_tup rfl (pgs_cons (pg_name (i := 6) sc_have_common.nd rfl (Or.inl rfl)) (pgs_cons (pg_name (i := 7) sc_have_common.nd rfl (Or.inl rfl)) (pgs_cons (pg_name (i := 8) sc_have_common.nd rfl (Or.inl rfl)) (pgs_cons (pg_name (i := 9) sc_have_common.nd rfl (Or.inl rfl)) pgs_nil))))))
    (pss_cons (ps_if (PW.pt (pw_or (pt_val (pe_dcall D_lie_apart (hr.mono (by decide)) (pa_cons (pv 2) (pa_cons (pv 4) (pa_cons (pv 6) (pa_cons (pv 8) pa_nil)))))) (pw_or1 (pt_val (pe_dcall D_lie_apart (hr.mono (by decide)) (pa_cons (pv 3) (pa_cons (pv 5) (pa_cons (pv 7) (pa_cons (pv 9) pa_nil)))))))))
    (pss_one (ps_ret pe_bl))
    pss_nil)
    (pss_cons (ps_if (pt_val (pe_dcall D_is_sign (hr.mono (by decide)) (pa_cons (pe_dcall D_side (hr.mono (by decide)) (pa_cons (pv 2) (pa_cons (pv 3) (pa_cons (pv 4) (pa_cons (pv 5) (pa_cons (pv 6) (pa_cons (pv 7) pa_nil))))))) (pa_cons (pe_dcall D_side (hr.mono (by decide)) (pa_cons (pv 2) (pa_cons (pv 3) (pa_cons (pv 4) (pa_cons (pv 5) (pa_cons (pv 8) (pa_cons (pv 9) pa_nil))))))) pa_nil))))
    (pss_one (ps_ret pe_bl))
    pss_nil)
    (pss_one (ps_ret (pe_not (pe_dcall D_is_sign (hr.mono (by decide)) (pa_cons (pe_dcall D_side (hr.mono (by decide)) (pa_cons (pv 6) (pa_cons (pv 7) (pa_cons (pv 8) (pa_cons (pv 9) (pa_cons (pv 2) (pa_cons (pv 3) pa_nil))))))) (pa_cons (pe_dcall D_side (hr.mono (by decide)) (pa_cons (pv 6) (pa_cons (pv 7) (pa_cons (pv 8) (pa_cons (pv 9) (pa_cons (pv 4) (pa_cons (pv 5) pa_nil))))))) pa_nil)))))))))), ?_⟩
  have ap : ∀ {σ : L2.St} {H : Hp} {ta tb tc td : TE} {a b c d : Int} {E : XK}, Ev ta σ H (.int a) → Ev tb σ H (.int b) → Ev tc σ H (.int c) → Ev td σ H (.int d) → Ev (tCall spApart [] E (tCons ta (tCons tb (tCons tc (tCons td tNil))))) σ H (.bl (apartB a b c d)) :=
    fun h1 h2 h3 h4 => ev_callV (ea_cons h1 (ea_cons h2 (ea_cons h3 (ea_cons h4 ea_nil)))) fun _ _ => ⟨_, _, _, _, rfl, rfl⟩
  have sd : ∀ {σ : L2.St} {H : Hp} {ta tb tc td te tf : TE} {a b c d e f : Int} {E : XK}, Ev ta σ H (.int a) → Ev tb σ H (.int b) → Ev tc σ H (.int c) → Ev td σ H (.int d) → Ev te σ H (.int e) → Ev tf σ H (.int f) → (Pl a ∧ Pl b ∧ Pl c ∧ Pl d ∧ Pl e ∧ Pl f) →
      Ev (tCall spSide [] E (tCons ta (tCons tb (tCons tc (tCons td (tCons te (tCons tf tNil))))))) σ H (.int (side (a, b) (c, d) (e, f))) :=
    fun h1 h2 h3 h4 h5 h6 hb => ev_callV (ea_cons h1 (ea_cons h2 (ea_cons h3 (ea_cons h4 (ea_cons h5 (ea_cons h6 ea_nil)))))) fun _ _ => ⟨_, _, _, _, _, _, rfl, hb, rfl⟩
  have sg : ∀ {σ : L2.St} {H : Hp} {ta tb : TE} {a b : Int} {E : XK}, Ev ta σ H (.int a) → Ev tb σ H (.int b) → Ev (tCall spSign [] E (tCons ta (tCons tb tNil))) σ H (.bl (signB a b)) := fun h1 h2 => ev_callV (ea_cons h1 (ea_cons h2 ea_nil)) fun _ _ => ⟨_, _, rfl, rfl⟩
  -- x, y, u, v = one; here, there, far, beyond = other
  refine ⟨_, rfl, p, _, rfl, st_of hp, rfl, g_four ?_⟩
  refine ⟨_, rfl, q, _, rfl, st_of hq, rfl, g_four ?_⟩
  refine q_when (et_or (et_B (ap (ev_var rfl) (ev_var rfl) (ev_var rfl) (ev_var rfl))) fun _ => et_B (ap (ev_var rfl) (ev_var rfl) (ev_var rfl) (ev_var rfl))) (fun h0 H1 e1 => ?_) (fun h0 H1 e1 => ?_)
  · exact s_ret ev_c fun H2 e2 => k _ _ (e1.trans e2) (by unfold commonB; rw [if_pos h0]; rfl)
  refine q_when (et_B (sg (sd (ev_var rfl) (ev_var rfl) (ev_var rfl) (ev_var rfl) (ev_var rfl) (ev_var rfl) ⟨b1, b2, b3, b4, b5, b6⟩) (sd (ev_var rfl) (ev_var rfl) (ev_var rfl) (ev_var rfl) (ev_var rfl) (ev_var rfl) ⟨b1, b2, b3, b4, b7, b8⟩))) (fun h1 H2 e2 => ?_) (fun h1 H2 e2 => ?_)
  · exact s_ret ev_c fun H3 e3 => k _ _ ((e1.trans e2).trans e3) (by unfold commonB; rw [if_neg (by rw [h0]; decide), if_pos h1]; rfl)
  · exact s_ret (ev_notV (sg (sd (ev_var rfl) (ev_var rfl) (ev_var rfl) (ev_var rfl) (ev_var rfl) (ev_var rfl) ⟨b5, b6, b7, b8, b1, b2⟩) (sd (ev_var rfl) (ev_var rfl) (ev_var rfl) (ev_var rfl) (ev_var rfl) (ev_var rfl) ⟨b5, b6, b7, b8, b3, b4⟩)))
      fun H3 e3 => k _ _ ((e1.trans e2).trans e3) (by unfold commonB; rw [if_neg (by rw [h0]; decide), if_neg (by rw [h1]; decide)]; rfl)
theorem ok_is_hidden {f : Addr} {fd : FuncData} (F : Fun K "is_hidden" "is_hidden" s_is_hidden f fd) (T : Txt K mg CL CH) (D_have_common : DefAt P w K mg base "have_common" 2 ["one", "other"] spCommon) : FnOk P w K mg base CX0 3 f fd ["coasts", "straight"] spHidden := by
  refine F.ok sc_is_hidden (spV_len fun vs H z ⟨_, _, _, _, _, _, _, e, _⟩ => by rw [e]; rfl) (fun cdv A outer s H vs Q E hr h => ?_)
  obtain ⟨R, ⟨z, ⟨_, q, cs, h, t, ff, b, rfl, ⟨p, vs, rfl, hp, hl⟩, hq, ⟨b1, b2, b3, b4⟩, gc, rfl⟩, rfl⟩, k⟩ := h
  refine ⟨_, (pss_cons (ps_for PassesOwn.never rfl (pi_list (pv 0))
    (pg_name (i := 2) sc_is_hidden.nd rfl (Or.inl rfl))
    (pss_one (ps_if (pt_val (pe_dcall D_have_common (hr.mono (by decide)) (pa_cons (pv 2) (pa_cons (pv 1) pa_nil))))
    (pss_one (ps_ret pe_bl))
    pss_nil)))
    (pss_one (ps_ret pe_bl))), ?_⟩
  refine q_forL (ev_var rfl) (sq_of hp) (fun i σ' H' => ∃ x, σ' = [some (.ref p), some q, x] ∧ Ex H H' ∧ hiddenB (cs.drop i) h t ff b = hiddenB cs h t ff b) (fun H2 e2 => ⟨none, rfl, e2, rfl⟩) (fun i σ' H' _ ⟨_, _, e2, _⟩ => sq_of (e2 _ _ hp)) ?_ ?_
  · rintro i x σ' H' hi ⟨y1, rfl, e2, hc⟩
    obtain ⟨c, hs, rx⟩ := each.get hl hi
    have g := gc c (List.mem_of_getElem? hs)
    obtain ⟨⟨g1, g2⟩, ⟨g3, g4⟩, ⟨g5, g6⟩, ⟨g7, g8⟩, _⟩ := g
    have hdrop : cs.drop i = c :: cs.drop (i + 1) := by
      obtain ⟨h1, h2⟩ := List.getElem?_eq_some_iff.mp hs
      rw [List.drop_eq_getElem_cons h1, h2]
    rw [hdrop] at hc
    have hc' : (commonB c.1.1 c.1.2 c.2.1 c.2.2 h t ff b || hiddenB (cs.drop (i + 1)) h t ff b) = hiddenB cs h t ff b := hc
    refine s_when (et_B (ev_callV (ea_cons (ev_var rfl) (ea_cons (ev_var rfl) ea_nil)) fun H2 e3 => ⟨x, q, _, _, _, _, _, _, _, _, rfl, Mono.up (e2.trans e3) rx, Mono.up (e2.trans e3) hq, ⟨⟨by omega, by omega⟩, ⟨by omega, by omega⟩, ⟨by omega, by omega⟩, ⟨by omega, by omega⟩, b1, b2, b3, b4⟩, rfl⟩)) (fun hb H2 e3 => ?_) (fun hb H2 e3 => ?_)
    · rw [hb] at hc'
      exact s_ret ev_c fun H3 e4 => k _ _ ((e2.trans e3).trans e4) (by rw [← hc']; rfl)
    · rw [hb] at hc'
      exact ⟨_, rfl, e2.trans e3, hc'⟩
  · rintro σ' H' ⟨y1, rfl, e2, hc⟩
    rw [hl.len, List.drop_length] at hc
    exact s_ret ev_c fun H3 e4 => k _ _ (e2.trans e4) (by rw [← hc]; rfl)
end
end Bcw

/-! # lights -/
namespace Bcw
open PySem PySem.Spec PyProof.Rows L2 Evl Bcn BnC Bn

theorem lk_here {k : Str} {v : V} {r : List (Str × V)} : List.lookup k ((k, v) :: r) = some v := by
  have e : (k == k) = true := beq_self_eq_true k
  simp only [List.lookup, e]
theorem lk_past {k g : Str} {v : V} {r : List (Str × V)} (h : (k == g) = false) : List.lookup k ((g, v) :: r) = List.lookup k r := by
  simp only [List.lookup, h]
theorem put_here {f : Str} {v x : V} {r : List (Str × V)} : putF f v ((f, x) :: r) = (f, v) :: r := if_pos rfl
theorem put_past {f g : Str} {v x : V} {r : List (Str × V)} (h : ¬ g = f) : putF f v ((g, x) :: r) = (g, x) :: putF f v r := if_neg h
theorem put_nil {f : Str} {v : V} : putF f v [] = [(f, v)] := rfl
/-- e.f of an instance -/
theorem ev_fld {K : PySem.W.Frag} {σ : L2.St} {H : Hp} {te : TE} {f : Str} {a C dx : Addr} {fs : List (Str × V)} {v : V} (h : Ev te σ H (.ref a)) (hi : H a = some (.ins C dx fs)) (c : Cls K C) (n : NoAttr K C f) (hl : fs.lookup f = some v) : Ev (tFld K te f) σ H v := fun H1 e Q q =>
  h H1 e _ fun H2 e2 => ⟨a, C, dx, fs, v, rfl, (e.trans e2) _ _ hi, c, n, hl, q H2 e2⟩

def lgtF (x y far : Int) (p s : V) : List (Str × V) := [("x", .int x), ("y", .int y), ("far", .int far), ("phases", p), ("sectors", s)]
section
variable {x y far : Int} {p s : V}
theorem lgtF_x : (lgtF x y far p s).lookup ("x" : Str) = some (.int x) := lk_here
theorem lgtF_y : (lgtF x y far p s).lookup ("y" : Str) = some (.int y) := (lk_past (by decide +kernel)).trans lk_here
theorem lgtF_far : (lgtF x y far p s).lookup ("far" : Str) = some (.int far) := (lk_past (by decide +kernel)).trans ((lk_past (by decide +kernel)).trans lk_here)
theorem lgtF_ph : (lgtF x y far p s).lookup ("phases" : Str) = some p := (lk_past (by decide +kernel)).trans ((lk_past (by decide +kernel)).trans ((lk_past (by decide +kernel)).trans lk_here))
theorem lgtF_se : (lgtF x y far p s).lookup ("sectors" : Str) = some s := (lk_past (by decide +kernel)).trans ((lk_past (by decide +kernel)).trans ((lk_past (by decide +kernel)).trans ((lk_past (by decide +kernel)).trans lk_here)))
theorem lgtF_no {m : Str} (h1 : (m == ("x" : Str)) = false) (h2 : (m == ("y" : Str)) = false) (h3 : (m == ("far" : Str)) = false) (h4 : (m == ("phases" : Str)) = false) (h5 : (m == ("sectors" : Str)) = false) : (lgtF x y far p s).lookup m = none :=
  (lk_past h1).trans ((lk_past h2).trans ((lk_past h3).trans ((lk_past h4).trans ((lk_past h5).trans rfl))))
theorem lgtF_cs : (lgtF x y far p s).lookup ("colour_seen" : Str) = none := lgtF_no (by decide +kernel) (by decide +kernel) (by decide +kernel) (by decide +kernel) (by decide +kernel)
theorem lgtF_iw : (lgtF x y far p s).lookup ("is_white" : Str) = none := lgtF_no (by decide +kernel) (by decide +kernel) (by decide +kernel) (by decide +kernel) (by decide +kernel)
end
/-- a light as it stands -/
def lightR (CL : Addr) (l : Light) : RG := fun v G => ∃ a dx p s, v = .ref a ∧ G a = some (.ins CL dx (lgtF l.place.1 l.place.2 (l.range : Nat) p s)) ∧ isL (each phR l.rhythm) p G ∧ secsR l.sectors s G
instance : Mono (lightR CL l) := ⟨fun e ⟨a, dx, p, s, h1, h2, h3, h4⟩ => ⟨a, dx, p, s, h1, e _ _ h2, Mono.up e h3, Mono.up e h4⟩⟩
def spLightInit (CL : Addr) : Sp := fun vs H Q _ => ∃ (a dx : Addr) (x y far : Int) (p s : V), vs = [.ref a, .int x, .int y, .int far, p, s] ∧ H a = some (.ins CL dx []) ∧
  ∀ H' : Hp, H' a = some (.ins CL dx (lgtF x y far p s)) → (∀ b o, H b = some o → b ≠ a → H' b = some o) → Q .non H'
/-- a place in the fields' bounds -/
def InF (i : Int) : Prop := -10000 ≤ i ∧ i ≤ 10000
def spColourSeen (CL : Addr) : Sp := spV fun vs H z => ∃ (lv cv : V) (l : Light) (cs : List Coast) (x y : Int), vs = [lv, cv, .int x, .int y] ∧ lightR CL l lv H ∧ isL (each cstR cs) cv H ∧ GoodL l ∧ (∀ c ∈ cs, GoodC c) ∧ InF x ∧ InF y ∧ z = .int (seenFrom cs l (x, y) : Nat)
def spIsWhite (CL : Addr) : Sp := spV fun vs H z => ∃ (lv : V) (l : Light) (t : Nat), vs = [lv, .int (t : Nat)] ∧ lightR CL l lv H ∧ GoodL l ∧ z = .bl (decide (colourAt l.rhythm t ≠ 0))

section
variable {P : Program} {w : World} {K : PySem.W.Frag} {mg : Str → Option Value} {base : Heap} {CL CH : Addr}
theorem ok_light_init {f : Addr} {fd : FuncData} (F : Fun K "__init__" "Light.__init__" s_Light_init f fd) (T : Txt K mg CL CH) : FnOk P w K mg base CX0 1 f fd ["self", "x", "y", "far", "phases", "sectors"] (spLightInit CL) := by
  refine F.ok sc_Light_init (fun vs H Q E ⟨_, _, _, _, _, _, _, e, _⟩ => by rw [e]; rfl) (fun cdv A outer s H vs Q E hr h => ?_)
  obtain ⟨a, dx, x, y, far, p, s', rfl, ha, k⟩ := h
  refine ⟨_, (pss_cons (ps_fld (pv 0) (pv 1) rfl)
    (pss_cons (ps_fld (pv 0) (pv 2) rfl)
    (pss_cons (ps_fld (pv 0) (pv 3) rfl)
    (pss_cons (ps_fld (pv 0) (pv 4) rfl)
    (pss_one (ps_fld (pv 0) (pv 5) rfl)))))), ?_⟩
  refine ⟨_, rfl, _, rfl, a, CL, dx, [], rfl, ha, T.cLight, T.n_Light_x, Nat.le_of_ble_eq_true rfl, ?_⟩
  refine ⟨_, rfl, _, rfl, a, CL, dx, _, rfl, upd_same, T.cLight, T.n_Light_y, Nat.le_of_ble_eq_true rfl, ?_⟩
  refine ⟨_, rfl, _, rfl, a, CL, dx, _, rfl, upd_same, T.cLight, T.n_Light_far, Nat.le_of_ble_eq_true rfl, ?_⟩
  refine ⟨_, rfl, _, rfl, a, CL, dx, _, rfl, upd_same, T.cLight, T.n_Light_phases, Nat.le_of_ble_eq_true rfl, ?_⟩
  refine ⟨_, rfl, _, rfl, a, CL, dx, _, rfl, upd_same, T.cLight, T.n_Light_sectors, Nat.le_of_ble_eq_true rfl, ?_⟩
  refine k _ (upd_same.trans ?_) fun b o e hb => ?_
  · rfl
  · rw [upd_ne hb, upd_ne hb, upd_ne hb, upd_ne hb, upd_ne hb]
    exact e
theorem ok_colour_seen {f : Addr} {fd : FuncData} (F : Fun K "colour_seen" "Light.colour_seen" s_Light_colour_seen f fd) (T : Txt K mg CL CH) (D_colour_by : DefAt P w K mg base "colour_by" 3 ["sectors", "way"] spColourBy) (D_is_hidden : DefAt P w K mg base "is_hidden" 3 ["coasts", "straight"] spHidden) :
    FnOk P w K mg base CX0 4 f fd ["self", "coasts", "x", "y"] (spColourSeen CL) := by
  refine F.ok sc_Light_colour_seen (spV_len fun vs H z ⟨_, _, _, _, _, _, e, _⟩ => by rw [e]; rfl) (fun cdv A outer s H vs Q E hr h => ?_)
  obtain ⟨R, ⟨z, ⟨_, cv, l, cs, x, y, rfl, ⟨a, dx, p, sv, rfl, ha, hph, hse⟩, hcs, gl, gc, bx, bz, rfl⟩, rfl⟩, k⟩ := h
  refine ⟨_, (pss_cons (ps_set (i := 4) sc_Light_colour_seen.nd rfl (Or.inl rfl) (pe_op op_sub (pv 2) (pe_fld (pv 0) rfl)))
    (pss_cons (ps_set (i := 5) sc_Light_colour_seen.nd rfl (Or.inl rfl) (pe_op op_sub (pv 3) (pe_fld (pv 0) rfl)))
    (pss_cons (ps_if (PW.pt (pw_or (PW.pt (pw_and (pt_cmpR op_eq (pv 4) pe_int (nomark _)) (pw_and1 (pt_cmpR op_eq (pv 5) pe_int (nomark _))))) (pw_or1 (pt_cmpR op_gt (pe_op op_add (pe_op op_mul (pv 4) (pv 4)) (pe_op op_mul (pv 5) (pv 5))) (pe_op op_mul (pe_fld (pv 0) rfl) (pe_fld (pv 0) rfl)) (nomark _)))))
    (pss_one (ps_ret pe_int))
    pss_nil)
    (pss_cons (ps_set (i := 6) sc_Light_colour_seen.nd rfl (Or.inl rfl) (pe_dcall D_colour_by (hr.mono (by decide)) (pa_cons (pe_fld (pv 0) rfl) (pa_cons (pe_tup (pa_cons (pv 4) (pa_cons (pv 5) pa_nil))) pa_nil))))
    (pss_cons (ps_if (PW.pt (pw_or (pt_cmpR op_eq (pv 6) pe_int (nomark _)) (pw_or1 (pt_val (pe_dcall D_is_hidden (hr.mono (by decide)) (pa_cons (pv 1) (pa_cons (pe_tup (pa_cons (pe_fld (pv 0) rfl) (pa_cons (pe_fld (pv 0) rfl) (pa_cons (pv 2) (pa_cons (pv 3) pa_nil))))) pa_nil)))))))
    (pss_one (ps_ret pe_int))
    pss_nil)
    (pss_one (ps_ret (pv 6)))))))), ?_⟩
  obtain ⟨g1, g2, g3, g4, g5, g6, g7, _, _, _⟩ := gl
  unfold InF at bx bz
  refine q_asg (ev_op (ev_var rfl) (ev_fld (ev_var rfl) ha T.cLight T.n_Light_x lgtF_x) rv_I0) fun H1 e1 => ?_
  refine q_asg (ev_op (ev_var rfl) (ev_fld (ev_var rfl) (e1 _ _ ha) T.cLight T.n_Light_y lgtF_y) rv_I0) fun H2 e2 => ?_
  have e12 := e1.trans e2
  have far : ∀ {H'} {σ : L2.St}, Ex H H' → σ[0]? = some (some (V.ref a)) → Ev (tFld K (tVar 0) "far") σ H' (.int (l.range : Nat)) := fun e hs => ev_fld (ev_var hs) (e _ _ ha) T.cLight T.n_Light_far lgtF_far
  refine q_when (et_or (et_and (et_test (ev_op (ev_var rfl) ev_c (rv_eq rfl))) fun _ => et_test (ev_op (ev_var rfl) ev_c (rv_eq rfl))) fun _ => et_test (ev_op (ev_op (ev_op (ev_var rfl) (ev_var rfl) (rv_I (.inl ⟨by omega, by omega⟩))) (ev_op (ev_var rfl) (ev_var rfl) (rv_I (.inl ⟨by omega, by omega⟩))) rv_I0) (ev_op (far e12 rfl) (far e12 rfl) (rv_I (.inl ⟨by omega, by omega⟩))) rv_I0)) (fun hb H3 e3 => ?_) (fun hb H3 e3 => ?_)
  · rw [Bool.or_eq_true, Bool.and_eq_true, decide_eq_true_iff, decide_eq_true_iff, decide_eq_true_iff, V.int.injEq, V.int.injEq] at hb
    exact s_ret ev_c fun H4 e4 => k _ _ ((e12.trans e3).trans e4) (by rw [seen_off hb]; rfl)
  have hb' : ¬((x - l.place.1 = 0 ∧ y - l.place.2 = 0) ∨ (l.range : Int) * (l.range : Int) < (x - l.place.1) * (x - l.place.1) + (y - l.place.2) * (y - l.place.2)) := fun z => by
    have : (decide (V.int (x - l.place.1) = V.int 0) && decide (V.int (y - l.place.2) = V.int 0) || decide ((l.range : Int) * (l.range : Int) < (x - l.place.1) * (x - l.place.1) + (y - l.place.2) * (y - l.place.2))) = true := by
      rw [Bool.or_eq_true, Bool.and_eq_true, decide_eq_true_iff, decide_eq_true_iff, decide_eq_true_iff, V.int.injEq, V.int.injEq]
      exact z
    rw [this] at hb
    cases hb
  have main := seen_on gc hb'
  have e13 := e12.trans e3
  -- the colour of the sector
  have hcol : Ev (tCall spColourBy [] E0 (tCons (tFld K (tVar 0) "sectors") (tCons (tTup (tCons (tVar 4) (tCons (tVar 5) tNil))) tNil))) [some (.ref a), some cv, some (.int x), some (.int y), some (.int (x - l.place.1)), some (.int (y - l.place.2)), none] H3 (.int (sectorOf l.sectors (x - l.place.1, y - l.place.2) : Nat)) := by
    refine ev_callVG (ega_cons (ev_fld (ev_var rfl) (e13 _ _ ha) T.cLight T.n_Light_sectors lgtF_se).g (ega_cons (eu_tup (ea_cons (ev_var rfl) (ea_cons (ev_var rfl) ea_nil)) (Nat.le_of_ble_eq_true rfl)).g ega_nil)) fun vs H4 e4 q => ?_
    obtain ⟨_, _, rfl, q1, wv, _, rfl, q2, q3⟩ := q
    cases (show _ = _ from q1)
    cases (show _ = _ from q3)
    refine ⟨sv, wv, l.sectors, (x - l.place.1, y - l.place.2), rfl, Mono.up (e13.trans e4) hse, q2, ⟨g4, g6, fun s hs => ⟨(g7 s hs).1, (g7 s hs).2.1, (g7 s hs).2.2.1⟩⟩, fun z => hb' (.inl z), ⟨by show -100000 ≤ x - l.place.1 ∧ x - l.place.1 ≤ 100000; omega, by show -100000 ≤ y - l.place.2 ∧ y - l.place.2 ≤ 100000; omega⟩, rfl⟩
  refine q_asg hcol fun H4 e4 => ?_
  have e14 := e13.trans e4
  have hhid : Ev (tCall spHidden [] E0 (tCons (tVar 1) (tCons (tTup (tCons (tFld K (tVar 0) "x") (tCons (tFld K (tVar 0) "y") (tCons (tVar 2) (tCons (tVar 3) tNil))))) tNil))) [some (.ref a), some cv, some (.int x), some (.int y), some (.int (x - l.place.1)), some (.int (y - l.place.2)), some (.int (sectorOf l.sectors (x - l.place.1, y - l.place.2) : Nat))] H4 (.bl (hiddenB cs l.place.1 l.place.2 x y)) := by
    refine ev_callVG (ega_cons (ev_var rfl).g (ega_cons (eu_tup (ea_cons (ev_fld (ev_var rfl) (e14 _ _ ha) T.cLight T.n_Light_x lgtF_x) (ea_cons (ev_fld (ev_var rfl) (e14 _ _ ha) T.cLight T.n_Light_y lgtF_y) (ea_cons (ev_var rfl) (ea_cons (ev_var rfl) ea_nil)))) (Nat.le_of_ble_eq_true rfl)).g ega_nil)) fun vs H5 e5 q => ?_
    obtain ⟨_, _, rfl, q1, wv, _, rfl, q2, q3⟩ := q
    cases (show _ = _ from q1)
    cases (show _ = _ from q3)
    exact ⟨cv, wv, cs, _, _, _, _, rfl, Mono.up (e14.trans e5) hcs, q2, ⟨⟨by omega, by omega⟩, ⟨by omega, by omega⟩, ⟨by omega, by omega⟩, ⟨by omega, by omega⟩⟩, gc, rfl⟩
  refine q_when (et_or (et_test (ev_op (ev_var rfl) ev_c (rv_eq rfl))) fun _ => et_B hhid) (fun hb H5 e5 => ?_) (fun hb H5 e5 => ?_)
  · rw [Bool.or_eq_true, decide_eq_true_iff, V.int.injEq] at hb
    refine s_ret ev_c fun H6 e6 => k _ _ ((e14.trans e5).trans e6) ?_
    rw [main, if_pos (hb.imp (fun z => by omega) id)]
    rfl
  · rw [Bool.or_eq_false_iff, decide_eq_false_iff_not, V.int.injEq] at hb
    refine s_ret (ev_var rfl) fun H6 e6 => k _ _ ((e14.trans e5).trans e6) ?_
    rw [main, if_neg (fun z => z.elim (fun z => hb.1 (by rw [z]; rfl)) (fun z => by rw [hb.2] at z; cases z))]
    rfl
theorem ok_is_white {f : Addr} {fd : FuncData} (F : Fun K "is_white" "Light.is_white" s_Light_is_white f fd) (T : Txt K mg CL CH) (D_is_white_at : DefAt P w K mg base "is_white_at" 1 ["phases", "time"] spWhiteAt) : FnOk P w K mg base CX0 2 f fd ["self", "time"] (spIsWhite CL) := by
  refine F.ok sc_Light_is_white (spV_len fun vs H z ⟨_, _, _, e, _⟩ => by rw [e]; rfl) (fun cdv A outer s H vs Q E hr h => ?_)
  obtain ⟨R, ⟨z, ⟨_, l, t, rfl, ⟨a, dx, p, sv, rfl, ha, hph, hse⟩, gl, rfl⟩, rfl⟩, k⟩ := h
  refine ⟨_, (pss_one (ps_ret (pe_dcall D_is_white_at (hr.mono (by decide)) (pa_cons (pe_fld (pv 0) rfl) (pa_cons (pv 1) pa_nil))))), ?_⟩
  exact s_ret (ev_callV (ea_cons (ev_fld (ev_var rfl) ha T.cLight T.n_Light_phases lgtF_ph) (ea_cons (ev_var rfl) ea_nil)) fun H1 e1 => ⟨p, l.rhythm, t, rfl, Mono.up e1 hph, ⟨gl.ph, gl.phn, gl.phl⟩, rfl⟩) fun H1 e1 => k _ _ e1 rfl
end
end Bcw

/-! # fields -/
namespace Bcw
open PySem PySem.Spec PyProof.Rows L2 Evl Bcn BnC Bn

abbrev lightsR (CL : Addr) (ls : List Light) : RG := isL (each (lightR CL) ls)
abbrev coastsR (cs : List Coast) : RG := isL (each cstR cs)
def toldR (x : Nat × Nat) : RG := pairI ((x.1 : Int), (x.2 : Int))
instance : Mono (toldR x) := inferInstanceAs (Mono (isO _))
abbrev pointsR (ps : List Point) : RG := isL (each pairI ps)
structure GoodF (x y u v : Int) : Prop where
  bx : InF x
  bz : InF y
  bu : InF u
  bv : InF v
  xu : x ≤ u
  yv : y ≤ v
  few : (u - x + 1) * (v - y + 1) ≤ 1024
theorem GoodF.wide {x y u v : Int} (g : GoodF x y u v) : u - x + 1 ≤ 1024 ∧ v - y + 1 ≤ 1024 ∧ (u - x + 1).toNat * (v - y + 1).toNat ≤ 1024 := by
  obtain ⟨_, _, _, _, h1, h2, h3⟩ := g
  have a : 1 ≤ u - x + 1 := by omega
  have b : 1 ≤ v - y + 1 := by omega
  generalize u - x + 1 = m at *
  generalize v - y + 1 = n at *
  refine ⟨?_, ?_, ?_⟩
  · have : m * 1 ≤ m * n := Int.mul_le_mul_of_nonneg_left b (by omega)
    omega
  · have : 1 * n ≤ m * n := Int.mul_le_mul_of_nonneg_right a (by omega)
    omega
  · have : ((m.toNat * n.toNat : Nat) : Int) = m * n := by
      rw [Int.natCast_mul, Int.toNat_of_nonneg (by omega), Int.toNat_of_nonneg (by omega)]
    omega
theorem GoodF.len {x y u v : Int} (g : GoodF x y u v) : (field (x, y) (u, v)).length ≤ 1024 := by
  rw [field_len, Nat.mul_comm]
  exact g.wide.2.2
def spPlaces : Sp := spG fun vs H R => ∃ (p : V) (x y u v : Int), vs = [p] ∧ isO (.lst [.int x, .int y, .int u, .int v]) p H ∧ GoodF x y u v ∧ R = pointsR (field (x, y) (u, v))
structure GoodT (ls : List Light) (t : Told) : Prop where
  num : ∀ x ∈ t, x.1 < ls.length
  few : t.length ≤ 24
def spIsSo (CL : Addr) : Sp := spV fun vs H z => ∃ (lv cv tv pl : V) (ls : List Light) (cs : List Coast) (t : Told) (a : Point), vs = [lv, cv, tv, pl] ∧ lightsR CL ls lv H ∧ coastsR cs cv H ∧ isL (each toldR t) tv H ∧ pairI a pl H ∧ GoodLs ls ∧ GoodCs cs ∧ GoodT ls t ∧ InF a.1 ∧ InF a.2 ∧ z = .bl (agrees cs ls t a)
def spPlacesTold (CL : Addr) : Sp := spG fun vs H R => ∃ (lv cv fv tv : V) (ls : List Light) (cs : List Coast) (t : Told) (x y u v : Int), vs = [lv, cv, fv, tv] ∧ lightsR CL ls lv H ∧ coastsR cs cv H ∧ isL (each toldR t) tv H ∧ isO (.lst [.int x, .int y, .int u, .int v]) fv H ∧ GoodF x y u v ∧ GoodLs ls ∧ GoodCs cs ∧ GoodT ls t ∧ R = pointsR (wheres cs ls t (x, y) (u, v))

section
variable {P : Program} {w : World} {K : PySem.W.Frag} {mg : Str → Option Value} {base : Heap} {CL CH : Addr}
theorem ok_places_of {f : Addr} {fd : FuncData} (F : Fun K "places_of" "places_of" s_places_of f fd) (T : Txt K mg CL CH) : FnOk P w K mg base CX0 1 f fd ["field"] spPlaces := by
  refine F.ok sc_places_of (spG_len fun vs H z ⟨_, _, _, _, _, e, _⟩ => by rw [e]; rfl) (fun cdv A outer s H vs Q E hr h => ?_)
  obtain ⟨R, ⟨_, x, y, u, v, rfl, ⟨p, rfl, hp⟩, gf, rfl⟩, k⟩ := h
  refine ⟨_, (pss_cons (ps_asg (pv 0) (pg_lst rfl (pgs_cons (pg_name (i := 1) sc_places_of.nd rfl (Or.inl rfl)) (pgs_cons (pg_name (i := 2) sc_places_of.nd rfl (Or.inl rfl)) (pgs_cons (pg_name (i := 3) sc_places_of.nd rfl (Or.inl rfl)) (pgs_cons (pg_name (i := 4) sc_places_of.nd rfl (Or.inl rfl)) pgs_nil))))))
    (pss_cons (ps_set (i := 5) sc_places_of.nd rfl (Or.inl rfl) (pe_lst pa_nil))
    (pss_cons (ps_for PassesOwn.never rfl (pi_range2 (by rfl) T.b_range (pa_cons (pv 2) (pa_cons (pe_op op_add (pv 4) pe_int) pa_nil)))
    (pg_name (i := 6) sc_places_of.nd rfl (Or.inr rfl))
    (pss_one (ps_expr (pe_bm PySem.F.plainAttrs_list PySem.F.slot_list_extend PySem.F.type_list_extend mt_extend (pv 5) (pa_cons (pe_lc (own := [("wide", 7)]) (g := (gName 7)) (tt := tYes) rfl sc_places_of.nd (pi_range2 (by rfl) T.b_range (pa_cons (pv 1) (pa_cons (pe_op op_add (pv 3) pe_int) pa_nil))) (blkOk_by (own := [("wide", 7)]) (N := ["field", "x", "y", "u", "v", "found", "high", "wide"]) (sc := defScope s_places_of) (by decide +kernel)) (fun _ _ _ _ _ => (pg_name (i := 7) sc_places_of.nd rfl (Or.inl rfl))) (fun _ _ _ _ _ => pts_nil) (fun _ _ _ _ _ => (pe_tup (pa_cons (pv 7) (pa_cons (pv 6) pa_nil))))) pa_nil)))))
    (pss_one (ps_ret (pv 5)))))), ?_⟩
  obtain ⟨w1, w2, w3⟩ := gf.wide
  obtain ⟨bx, bz, bu, bv, xu, yv, _⟩ := gf
  unfold InF at bx bz bu bv
  rw [field_eq] at k
  refine q_asgLs (ev_var rfl) (sq_of hp) rfl fun H1 e1 => g_four ?_
  refine q_newL fun l hl => ?_
  refine q_forR (ev_var rfl |> fun h => ea_cons h (ea_cons (ev_op (ev_var rfl) ev_c rv_I0) ea_nil)) (by omega) (fun i σ' H' => ∃ a b, σ' = [some (.ref p), some (.int x), some (.int y), some (.int u), some (.int v), some (.ref l), a, b] ∧ Bld H1 l pairI ((List.range i).flatMap (rowF x u y)) H') (fun H2 e2 => ⟨none, none, rfl, (Bld.start hl).ext e2⟩) ?_ ?_
  · rintro i σ' H' hi ⟨a, b, rfl, bl⟩
    obtain ⟨ys, hy, _⟩ := id bl.at_
    have ylen := bl.len hy
    rw [flat_len _ _ (rowF_len x u y)] at ylen
    have hlc : EvG (tLc (iRng2 (tCons (tVar 1) (tCons (tOp (rI0 fun i j => .int (i + j)) (tVar 3) (tC (.int 1))) tNil))) (gName 7) tYes (tTup (tCons (tVar 7) (tCons (tVar 6) tNil))) [7]) [some (.ref p), some (.int x), some (.int y), some (.int u), some (.int v), some (.ref l), some (.int (y + (i : Nat))), b] H' (isL (each pairI (rowF x u y i))) := by
      have q := eg_lc (R := pairI) (σ := [some (.ref p), some (.int x), some (.int y), some (.int u), some (.int v), some (.ref l), some (.int (y + (i : Nat))), b]) (H := H') (g := gName 7) (tt := tYes) (te := tTup (tCons (tVar 7) (tCons (tVar 6) tNil))) (vs := [7])
        (ei_range2 (ea_cons (ev_var (i := 1) rfl) (ea_cons (ev_op (ta := tVar 3) (tb := tC (.int 1)) (r := rI0 fun i j => .int (i + j)) (ev_var rfl) ev_c rv_I0) ea_nil)) (by omega)) (fun n => (List.range n).map fun (k : Nat) => (x + (k : Int), y + (i : Int))) (u - x + 1).toNat (fun m src H1 h => by rw [h.1]; congr 1; omega) rfl (by omega)
        (fun src H2 n z H3 e2 ph hn hz e3 => by
          obtain ⟨_, rfl⟩ := ph
          cases Option.some.inj hz
          refine ⟨_, fun Q q => q, rfl, .inl ⟨(x + (n : Int), y + (i : Int)), fun H3 e3 Q q => q H3 (Ex.refl H3), ?_, ?_⟩⟩
          · exact (eu_tup (ea_cons (ev_var rfl) (ea_cons (ev_var rfl) ea_nil)) (Nat.le_of_ble_eq_true rfl)).g
          · rw [List.range_succ, List.map_append]
            rfl)
      exact q
    refine s_extG hy (ev_var rfl) hlc (fun zs G hz => ?_) fun zs H2 e2 hz => ⟨_, _, rfl, ?_⟩
    · rw [hz.len, rowF_len, ylen]
      have h1 : i + 1 ≤ (v - y + 1).toNat := by omega
      have h2 : (i + 1) * (u - x + 1).toNat ≤ (v - y + 1).toNat * (u - x + 1).toNat := Nat.mul_le_mul_right _ h1
      rw [Nat.mul_comm (v - y + 1).toNat, Nat.succ_mul] at h2
      omega
    · rw [range_flat]
      exact bl.exts hy e2 hz
  · rintro σ' H' ⟨a, b, rfl, bl⟩
    rw [show v + 1 - y = v - y + 1 by omega] at bl
    exact s_ret (ev_var rfl) fun H2 e2 => k _ _ ((e1.trans bl.ex).trans e2) ((bl.ext e2).done e1)
theorem ok_is_so {f : Addr} {fd : FuncData} (F : Fun K "is_so" "is_so" s_is_so f fd) (T : Txt K mg CL CH) (D_Light_colour_seen : MethAt P w K mg base CL "colour_seen" 4 ["self", "coasts", "x", "y"] (spColourSeen CL)) : FnOk P w K mg base CX0 5 f fd ["lights", "coasts", "told", "place"] (spIsSo CL) := by
  refine F.ok sc_is_so (spV_len fun vs H z ⟨_, _, _, _, _, _, _, _, e, _⟩ => by rw [e]; rfl) (fun cdv A outer s H vs Q E hr h => ?_)
  obtain ⟨R, ⟨z, ⟨_, cv, _, pl, ls, cs, t, a, rfl, ⟨lp, lvs, rfl, hlp, hls⟩, hcs, ⟨tp, tvs, rfl, htp, hts⟩, ⟨ap, rfl, hap⟩, gls, gcs, gt, b1, b2, rfl⟩, rfl⟩, k⟩ := h
  refine ⟨_, (pss_cons (ps_for PassesOwn.never rfl (pi_list (pv 2))
    (pg_tup rfl (pgs_cons (pg_name (i := 4) sc_is_so.nd rfl (Or.inl rfl)) (pgs_cons (pg_name (i := 5) sc_is_so.nd rfl (Or.inl rfl)) pgs_nil)))
    (pss_one (ps_if (pt_cmpR op_ne (pe_dmeth D_Light_colour_seen T.cLight (hr.mono (by decide)) (pe_ix ix_list (pv 0) (pv 4) (fun _ _ => rfl)) (pa_cons (pv 1) (pa_cons (pe_ix ix_tup (pv 3) pe_int (fun _ _ => rfl)) (pa_cons (pe_ix ix_tup (pv 3) pe_int (fun _ _ => rfl)) pa_nil)))) (pv 5) (nomark _))
    (pss_one (ps_ret pe_bl))
    pss_nil)))
    (pss_one (ps_ret pe_bl))), ?_⟩
  refine q_forL (ev_var rfl) (sq_of htp) (fun i σ' H' => ∃ x y, σ' = [some (.ref lp), some cv, some (.ref tp), some (.ref ap), x, y] ∧ Ex H H' ∧ agrees cs ls (t.drop i) a = agrees cs ls t a) (fun H2 e2 => ⟨none, none, rfl, e2, rfl⟩) (fun i σ' H' _ ⟨_, _, _, e2, _⟩ => sq_of (e2 _ _ htp)) ?_ ?_
  · rintro i x σ' H' hi ⟨y1, y2, rfl, e2, hc⟩
    obtain ⟨tx, hs, rx⟩ := each.get hts hi
    obtain ⟨q, rfl, hq⟩ := (Mono.up e2 rx : toldR tx x H')
    have hdrop : t.drop i = tx :: t.drop (i + 1) := by
      obtain ⟨h1, h2⟩ := List.getElem?_eq_some_iff.mp hs
      rw [List.drop_eq_getElem_cons h1, h2]
    have hnum := gt.num tx (List.mem_of_getElem? hs)
    obtain ⟨l, hl⟩ : ∃ l, ls[tx.1]? = some l := ⟨_, List.getElem?_eq_getElem hnum⟩
    obtain ⟨lv, hlv, hlr⟩ := each.at hls hl
    obtain ⟨la, dx, pp, sv, rfl, hla, _, _⟩ := id hlr
    rw [hdrop] at hc
    have hc' : ((match ls[tx.1]? with
      | none => false
      | some l => seenFrom cs l a == tx.2) && agrees cs ls (t.drop (i + 1)) a) = agrees cs ls t a := hc
    rw [hl] at hc'
    refine g_pair (st_of hq) ?_
    refine s_when (et_test (ev_op (ev_methV (ev_ixl (sq_of (e2 _ _ hlp)) (ev_var rfl) (ev_var rfl) (at_of rfl hlv)) (e2 _ _ hla) lgtF_cs (ea_cons (ev_var rfl) (ea_cons (ev_ixt (e2 _ _ hap) (ev_var rfl) ev_c rfl) (ea_cons (ev_ixt (e2 _ _ hap) (ev_var rfl) ev_c rfl) ea_nil)))
      fun H2 e3 => ⟨_, cv, l, cs, a.1, a.2, rfl, Mono.up (e2.trans e3) hlr, Mono.up (e2.trans e3) hcs, gls.1 l (List.mem_of_getElem? hl), gcs.1, b1, b2, rfl⟩) (ev_var rfl) (rv_ne rfl))) (fun hb H2 e3 => ?_) (fun hb H2 e3 => ?_)
    · rw [Bool.not_eq_true', decide_eq_false_iff_not, V.int.injEq] at hb
      have : (seenFrom cs l a == tx.2) = false := by
        rw [beq_eq_false_iff_ne]
        exact fun z => hb (by rw [show ((a.1, a.2) : Point) = a from rfl, z])
      refine s_ret ev_c fun H3 e4 => k _ _ ((e2.trans e3).trans e4) ?_
      show V.bl false = V.bl _
      rw [← hc']
      show V.bl false = V.bl ((seenFrom cs l a == tx.2) && _)
      rw [this]
      rfl
    · rw [Bool.not_eq_false', decide_eq_true_iff, V.int.injEq] at hb
      have : (seenFrom cs l a == tx.2) = true := by
        rw [beq_iff_eq]
        have hb' : ((seenFrom cs l a : Nat) : Int) = ((tx.2 : Nat) : Int) := hb
        omega
      refine ⟨_, _, rfl, e2.trans e3, ?_⟩
      rw [← hc']
      show _ = ((seenFrom cs l a == tx.2) && _)
      rw [this, Bool.true_and]
  · rintro σ' H' ⟨y1, y2, rfl, e2, hc⟩
    rw [hts.len, List.drop_length] at hc
    exact s_ret ev_c fun H3 e4 => k _ _ (e2.trans e4) (by rw [← hc]; rfl)
theorem ok_places_told {f : Addr} {fd : FuncData} (F : Fun K "places_told" "places_told" s_places_told f fd) (T : Txt K mg CL CH) (D_places_of : DefAt P w K mg base "places_of" 1 ["field"] spPlaces) (D_is_so : DefAt P w K mg base "is_so" 5 ["lights", "coasts", "told", "place"] (spIsSo CL)) :
    FnOk P w K mg base CX0 6 f fd ["lights", "coasts", "field", "told"] (spPlacesTold CL) := by
  refine F.ok sc_places_told (spG_len fun vs H z ⟨_, _, _, _, _, _, _, _, _, _, _, e, _⟩ => by rw [e]; rfl) (fun cdv A outer s H vs Q E hr h => ?_)
  obtain ⟨R, ⟨lv, cv, fv, tv, ls, cs, t, x, y, u, v, rfl, hlv, hcv, htv, hfv, gf, gls, gcs, gt, rfl⟩, k⟩ := h
  refine ⟨_, (pss_one (ps_ret (pe_lc (own := [("place", 4)]) (g := (gName 4)) rfl sc_places_told.nd (pi_list (pe_dcall D_places_of (hr.mono (by decide)) (pa_cons (pv 2) pa_nil))) (blkOk_by (own := [("place", 4)]) (N := ["lights", "coasts", "field", "told", "place"]) (sc := defScope s_places_told) (by decide +kernel)) (fun _ _ _ _ _ => (pg_name (i := 4) sc_places_told.nd rfl (Or.inl rfl))) (fun _ _ _ _ _ => pts_one (pt_val (pe_dcall D_is_so (hr.mono (by decide)) (pa_cons (pv 0) (pa_cons (pv 1) (pa_cons (pv 3) (pa_cons (pv 4) pa_nil))))))) (fun _ _ _ _ _ => (pv 4))))), ?_⟩
  have hlen := gf.len
  refine s_retG (R := pointsR (wheres cs ls t (x, y) (u, v))) ?_ fun v H1 e1 r => k _ _ e1 r
  have hsrc : EvG (tCall spPlaces [] E0 (tCons (tVar 2) tNil)) [some lv, some cv, some fv, some tv, none] H (isL (each pairI (field (x, y) (u, v)))) :=
    eg_call (ea_cons (ev_var rfl) ea_nil).g fun vs H2 e2 q => by
      cases (show vs = _ from q)
      exact ⟨fv, x, y, u, v, rfl, Mono.up e2 hfv, gf, rfl⟩
  obtain ⟨⟨_, _⟩, ⟨_, _⟩, ⟨_, _⟩, ⟨_, _⟩, _, _, _⟩ := gf
  have q := eg_lcS (K := K) (R := pairI) (σ := [some lv, some cv, some fv, some tv, none]) (H := H) (g := gName 4) (tt := tB (tCall (spIsSo CL) [] E0 (tCons (tVar 0) (tCons (tVar 1) (tCons (tVar 3) (tCons (tVar 4) tNil)))))) (te := tVar 4) (vs := [4])
    hsrc (fun n => ((field (x, y) (u, v)).take n).filter (agrees cs ls t)) (field (x, y) (u, v)).length (fun xs G h => h.len) rfl (by omega)
    (fun xs G n z H3 h1 eG e3 hn hz => by
      obtain ⟨a, ha, hr⟩ := each.get h1 hz
      have hm := mem_field (List.mem_of_getElem? ha)
      have ht : EvT (tB (tCall (spIsSo CL) [] E0 (tCons (tVar 0) (tCons (tVar 1) (tCons (tVar 3) (tCons (tVar 4) tNil)))))) ((wipe [some lv, some cv, some fv, some tv, none] [4]).set 4 (some z)) H3 (agrees cs ls t a) :=
        et_B (ev_callV (ea_cons (ev_var rfl) (ea_cons (ev_var rfl) (ea_cons (ev_var rfl) (ea_cons (ev_var rfl) ea_nil)))) fun H4 e4 => ⟨lv, cv, tv, z, ls, cs, t, a, rfl, Mono.up (e3.trans e4) hlv, Mono.up (e3.trans e4) hcv, Mono.up (e3.trans e4) htv, Mono.up (eG.trans e4) hr, gls, gcs, gt, ⟨by omega, by omega⟩, ⟨by omega, by omega⟩, rfl⟩)
      refine ⟨_, fun Q q => q, rfl, ?_⟩
      rw [take_succ' ha, List.filter_append]
      cases e : agrees cs ls t a with
      | true =>
        rw [e] at ht
        refine .inl ⟨a, z, ht, ev_var rfl, hr, ?_⟩
        rw [List.filter_cons, if_pos e]
        rfl
      | false =>
        rw [e] at ht
        refine .inr ⟨ht, ?_⟩
        rw [List.filter_cons, if_neg (by rw [e]; decide)]
        simp)
  rw [List.take_length] at q
  exact q
end
end Bcw

namespace Bcw
open PySem PySem.Spec PyProof.Rows L2 Evl Bcn BnC Bn

/-- naturals as a list of ints -/
def natsV (l : List Nat) : List V := l.map fun (n : Nat) => V.int (n : Nat)
def spCounts (CL : Addr) : Sp := spG fun vs H R => ∃ (lv cv pv' : V) (l : Light) (cs : List Coast) (ps : List Point), vs = [lv, cv, pv'] ∧ lightR CL l lv H ∧ coastsR cs cv H ∧ pointsR ps pv' H ∧ GoodL l ∧ GoodCs cs ∧ (∀ p ∈ ps, InF p.1 ∧ InF p.2) ∧ ps.length ≤ 1024 ∧ R = isO (.lst (natsV (cnt cs l ps)))
def bestFold (cs : List Coast) (ls : List Light) (ps : List Point) : Option (Nat × List Nat) := (ls.zipIdx.map fun (x : Light × Nat) => (x.2, cnt cs x.1 ps)).foldl bestTurn none
def bestV (b : Option (Nat × List Nat)) : List V := match b with
  | none => [.int (-1)]
  | some b => .int (b.1 : Nat) :: natsV b.2
def spBest (CL : Addr) : Sp := spG fun vs H R => ∃ (lv cv pv' : V) (ls : List Light) (cs : List Coast) (ps : List Point), vs = [lv, cv, pv'] ∧ lightsR CL ls lv H ∧ coastsR cs cv H ∧ pointsR ps pv' H ∧ GoodLs ls ∧ GoodCs cs ∧ (∀ p ∈ ps, InF p.1 ∧ InF p.2) ∧ ps.length ≤ 1024 ∧ R = isO (.lst (bestV (bestFold cs ls ps)))
theorem ev_maxL {K : PySem.W.Frag} {σ : L2.St} {H : Hp} {te : TE} {a : Addr} {l : List Nat} (h : Ev te σ H (.ref a)) (hl : H a = some (.lst (natsV l))) (hn : 0 < l.length) : Ev (tCB (rMax K) (tCons te tNil)) σ H (.int ((l.foldl max 0 : Nat) : Int)) := fun H1 e Q q =>
  h H1 e _ fun H2 e2 => ⟨a, l.map fun (n : Nat) => (n : Int), rfl, by rw [List.map_map]; exact sq_of ((e.trans e2) _ _ hl), by rw [List.length_map]; exact hn, fun m hm hle => by
    rw [max_is hm hle]
    exact q H2 e2⟩
theorem replicate_nats (n : Nat) : (List.range n).map (fun _ => (0 : Int)) = List.replicate n 0 := by
  apply List.ext_getElem?
  intro i
  rw [List.getElem?_map, List.getElem?_replicate]
  by_cases h : i < n
  · rw [List.getElem?_range h, if_pos h]; rfl
  · rw [if_neg h, List.getElem?_eq_none (by simpa using h)]; rfl

section
variable {P : Program} {w : World} {K : PySem.W.Frag} {mg : Str → Option Value} {base : Heap} {CL CH : Addr}
theorem ok_counts_of {f : Addr} {fd : FuncData} (F : Fun K "counts_of" "counts_of" s_counts_of f fd) (T : Txt K mg CL CH) (D_Light_colour_seen : MethAt P w K mg base CL "colour_seen" 4 ["self", "coasts", "x", "y"] (spColourSeen CL)) : FnOk P w K mg base CX0 5 f fd ["light", "coasts", "places"] (spCounts CL) := by
  refine F.ok sc_counts_of (spG_len fun vs H z ⟨_, _, _, _, _, _, e, _⟩ => by rw [e]; rfl) (fun cdv A outer s H vs Q E hr h => ?_)
  obtain ⟨R, ⟨lv, cv, _, l, cs, ps, rfl, hlr, hcs, ⟨p, pvs, rfl, hp, hps⟩, gl, gcs, inp, hlen, rfl⟩, k⟩ := h
  refine ⟨_, (pss_cons (ps_setLc (i := 3) (own := [("colour", 6)]) (g := (gName 6)) (tt := tYes) rfl sc_counts_of.nd rfl rfl (sw_true rfl rfl rfl (by decide +kernel)) (pi_range1 (by rfl) T.b_range (pa_cons (pe_gi T.c_COLOURS) pa_nil)) (blkOk_by (own := [("colour", 6)]) (N := ["light", "coasts", "places", "found", "x", "y", "colour"]) (sc := defScope s_counts_of) (by decide +kernel)) (fun _ _ _ _ _ => (pg_name (i := 6) sc_counts_of.nd rfl (Or.inl rfl))) (fun _ _ _ _ _ => pts_nil) (fun _ _ _ _ _ => pe_int))
    (pss_cons (ps_for PassesOwn.never rfl (pi_list (pv 2))
    (pg_tup rfl (pgs_cons (pg_name (i := 4) sc_counts_of.nd rfl (Or.inl rfl)) (pgs_cons (pg_name (i := 5) sc_counts_of.nd rfl (Or.inl rfl)) pgs_nil)))
    (pss_one (ps_augS (pv 3) (pe_dmeth D_Light_colour_seen T.cLight (hr.mono (by decide)) (pv 0) (pa_cons (pv 1) (pa_cons (pv 4) (pa_cons (pv 5) pa_nil)))) get_list pe_int ip_add set_list)))
    (pss_one (ps_ret (pv 3))))), ?_⟩
  obtain ⟨la, dx, pp, sv, rfl, hla, _, _⟩ := id hlr
  have hlc : EvG (tLc (iRng1 (tCons (tC (.int 5)) tNil)) (gName 6) tYes (tC (.int 0)) [6]) [some (.ref la), some cv, some (.ref p), none, none, none, none] H (isL (each (fun i => isV (.int i)) ([0, 0, 0, 0, 0] : List Int))) := by
    have q := eg_lc (R := fun i => isV (.int i)) (σ := [some (.ref la), some cv, some (.ref p), none, none, none, none]) (H := H) (g := gName 6) (tt := tYes) (te := tC (.int 0)) (vs := [6]) (ei_range1 (ta := tCons (tC (.int 5)) tNil) (m := 5) (ea_cons ev_c ea_nil) (by omega)) (fun n => (List.range n).map (fun _ => (0 : Int))) 5 (fun m src H1 h => by rw [h.1]; rfl) rfl (by omega)
      (fun src H2 n z H3 e2 ph hn hz e3 => by
        refine ⟨_, fun Q q => q, ?_, .inl ⟨0, fun H3 e3 Q q => q H3 (Ex.refl H3), ev_c.g, ?_⟩⟩
        · rfl
        · rw [List.range_succ, List.map_append]
          rfl)
    exact q
  refine q_asgG hlc fun v H1 e1 ⟨f, fvs, ev, hf, hfv⟩ => ?_
  subst ev
  obtain ⟨hf0, hf1⟩ := fresh_of_dlt hf
  rw [each.ints hfv] at hf1
  have hP : ∀ {H'}, Ex H H' → SqL K H' p pvs := fun e => sq_of (e _ _ hp)
  refine q_forL (ev_var rfl) (hP e1) (fun i σ' H' => ∃ x y, σ' = [some (.ref la), some cv, some (.ref p), some (.ref f), x, y, none] ∧ Ex H H' ∧ H' f = some (.lst (natsV (cnt cs l (ps.take i))))) (fun H2 e2 => ⟨none, none, rfl, e1.trans e2, e2 _ _ hf1⟩) (fun i σ' H' _ ⟨_, _, _, e, _⟩ => hP e) ?_ ?_
  · rintro i x σ' H' hi ⟨y1, y2, rfl, e2, hcn⟩
    obtain ⟨a, ha, hr⟩ := each.get hps hi
    obtain ⟨t, rfl, ht⟩ := (Mono.up e2 hr : pairI a x H')
    have hin := inp a (List.mem_of_getElem? ha)
    refine g_pair (st_of ht) ?_
    have hseen : seenFrom cs l a < 5 := Nat.lt_succ_of_le (seen_le gl cs a)
    have hget : ∃ n, (cnt cs l (ps.take i))[seenFrom cs l a]? = some n := ⟨_, cnt_get cs l _ hseen⟩
    obtain ⟨n, hn⟩ := hget
    have hcall : Ev (tMeth CL "colour_seen" (spColourSeen CL) [] E0 (tVar 0) (tCons (tVar 1) (tCons (tVar 4) (tCons (tVar 5) tNil)))) [some (.ref la), some cv, some (.ref p), some (.ref f), some (.int a.1), some (.int a.2), none] H' (.int (seenFrom cs l a : Nat)) :=
      ev_methV (ev_var rfl) (e2 _ _ hla) lgtF_cs (ea_cons (ev_var rfl) (ea_cons (ev_var rfl) (ea_cons (ev_var rfl) ea_nil))) fun H2 e3 => ⟨_, cv, l, cs, a.1, a.2, rfl, Mono.up (e2.trans e3) hlr, Mono.up (e2.trans e3) hcs, gl, gcs.1, hin.1, hin.2, rfl⟩
    refine ⟨_, rfl, ?_⟩
    refine hcall H' (Ex.refl H') _ fun H2 e3 => ?_
    have hcn2 := e3 _ _ hcn
    refine ⟨f, natsV (cnt cs l (ps.take i)), seenFrom cs l a, .int (n : Nat), rfl, rfl, sq_of hcn2, by unfold natsV; rw [List.getElem?_map, hn]; rfl, ?_⟩
    refine ⟨(n : Int), 1, rfl, rfl, f, natsV (cnt cs l (ps.take i)), ((seenFrom cs l a : Nat) : Int), seenFrom cs l a, rfl, rfl, hcn2, ixN_nat (by unfold natsV; rw [List.length_map, cnt_len]; exact hseen), _, _, rfl, Ex.mut (e2.trans e3) hf0, ?_⟩
    rw [upd_same, take_succ' ha, cnt_snoc cs l _ a n hseen hn]
    unfold natsV
    rw [List.map_set]
    rfl
  · rintro σ' H' ⟨y1, y2, rfl, e2, hcn⟩
    rw [hps.len, List.take_length] at hcn
    refine s_ret (ev_var rfl) fun H3 e4 => k _ _ (e2.trans e4) ⟨f, rfl, ?_⟩
    rw [dlt_new hf0]
    exact e4 _ _ hcn
theorem ok_best_light {f : Addr} {fd : FuncData} (F : Fun K "best_light" "best_light" s_best_light f fd) (T : Txt K mg CL CH) (D_counts_of : DefAt P w K mg base "counts_of" 5 ["light", "coasts", "places"] (spCounts CL)) : FnOk P w K mg base CX0 6 f fd ["lights", "coasts", "places"] (spBest CL) := by
  refine F.ok sc_best_light (spG_len fun vs H z ⟨_, _, _, _, _, _, e, _⟩ => by rw [e]; rfl) (fun cdv A outer s H vs Q E hr h => ?_)
  obtain ⟨R, ⟨_, cv, pv', ls, cs, ps, rfl, ⟨lp, lvs, rfl, hlp, hls⟩, hcs, hps, gls, gcs, inp, hlen, rfl⟩, k⟩ := h
  refine ⟨_, (pss_cons (ps_set (i := 3) sc_best_light.nd rfl (Or.inl rfl) (pe_un un_neg pe_int))
    (pss_cons (ps_set (i := 4) sc_best_light.nd rfl (Or.inl rfl) (pe_lst pa_nil))
    (pss_cons (ps_for PassesOwn.never rfl (pi_enum (by rfl) T.b_enumerate (pa_cons (pv 0) pa_nil))
    (pg_tup rfl (pgs_cons (pg_name (i := 5) sc_best_light.nd rfl (Or.inl rfl)) (pgs_cons (pg_name (i := 6) sc_best_light.nd rfl (Or.inl rfl)) pgs_nil)))
    (pss_cons (ps_set (i := 7) sc_best_light.nd rfl (Or.inl rfl) (pe_dcall D_counts_of (hr.mono (by decide)) (pa_cons (pv 6) (pa_cons (pv 1) (pa_cons (pv 2) pa_nil)))))
    (pss_one (ps_if (PW.pt (pw_or (pt_cmpR op_lt (pv 3) pe_int (nomark _)) (pw_or1 (pt_cmpR op_lt (pe_callB (cr_max rfl) (by rfl) T.b_max (by decide +kernel) (pa_cons (pv 7) pa_nil)) (pe_callB (cr_max rfl) (by rfl) T.b_max (by decide +kernel) (pa_cons (pv 4) pa_nil)) (nomark _)))))
    (pss_cons (ps_set (i := 3) sc_best_light.nd rfl (Or.inl rfl) (pv 5))
    (pss_one (ps_set (i := 4) sc_best_light.nd rfl (Or.inl rfl) (pv 7))))
    pss_nil))))
    (pss_one (ps_ret (pe_op op_cat (pe_lst (pa_cons (pv 3) pa_nil)) (pv 4))))))), ?_⟩
  refine q_asg (ev_un ev_c ru_neg) fun H1 e1 => ?_
  refine q_newL fun l0 hl0 => ?_
  have e01 := e1.trans (Ex.new (o := .lst []) hl0)
  generalize hH2 : upd H1 l0 (.lst []) = H2 at e01
  have hl2 : H2 l0 = some (.lst []) := by rw [← hH2, upd_same]
  clear hH2
  have hL : ∀ {H'}, Ex H H' → SqL K H' lp lvs := fun e => sq_of (e _ _ hlp)
  -- the state behind the first i lights
  let st (i : Nat) : Option (Nat × List Nat) := bestFold cs (ls.take i) ps
  have st0 : st 0 = none := rfl
  have stS : ∀ {i : Nat} {l : Light}, ls[i]? = some l → st (i + 1) = bestTurn (st i) (i, cnt cs l ps) := fun {i l} h => by
    show bestFold cs (ls.take (i + 1)) ps = _
    unfold bestFold
    rw [zipIdx_take h, List.map_append, List.foldl_append]
    rfl
  have stL : ∀ (i : Nat) (b : Nat) (c : List Nat), st i = some (b, c) → c.length = 5 := fun i => by
    have : ∀ (l : List (Nat × List Nat)) (a : Option (Nat × List Nat)), (∀ x ∈ l, x.2.length = 5) → (∀ b c, a = some (b, c) → c.length = 5) → ∀ b c, l.foldl bestTurn a = some (b, c) → c.length = 5 := by
      intro l
      induction l with
      | nil => exact fun a _ h => h
      | cons x l ih =>
        intro a hx ha
        refine ih _ (fun y hy => hx y (List.mem_cons_of_mem _ hy)) fun b c e => ?_
        unfold bestTurn at e
        split at e
        · have := Option.some.inj e
          have q := hx x List.mem_cons_self
          rw [this] at q
          exact q
        · rename_i y
          split at e
          · have := Option.some.inj e
            have q := hx x List.mem_cons_self
            rw [this] at q
            exact q
          · have := Option.some.inj e
            exact ha b c (by rw [this])
    refine this _ none (fun x hx => ?_) (fun b c e => by cases e)
    rw [List.mem_map] at hx
    obtain ⟨y, _, rfl⟩ := hx
    exact cnt_len _ _ _
  let bv (i : Nat) : Int := match st i with
    | none => -1
    | some b => (b.1 : Nat)
  let fv (i : Nat) : List V := match st i with
    | none => []
    | some b => natsV b.2
  refine q_forE (ea_cons (ev_var rfl) ea_nil) (hL e01) (fun i σ' H' => ∃ x y z, ∃ q : Addr, σ' = [some (.ref lp), some cv, some pv', some (.int (bv i)), some (.ref q), x, y, z] ∧ Ex H H' ∧ H' q = some (.lst (fv i))) (fun H3 e3 => ⟨none, none, none, l0, rfl, e01.trans e3, e3 _ _ hl2⟩) (fun i σ' H' _ ⟨_, _, _, _, _, e, _⟩ => hL e) ?_ ?_
  · rintro i x T' σ' H' hi ⟨y1, y2, y3, q, rfl, e3, hq⟩ hT
    obtain ⟨l, hl, hlr⟩ := each.get hls hi
    have gl := gls.1 l (List.mem_of_getElem? hl)
    have e4 : Ex H' (upd H' T' (.tup [.int (i : Nat), x])) := Ex.new hT
    refine g_pair (st_of upd_same) ?_
    have hcall : EvG (tCall (spCounts CL) [] E0 (tCons (tVar 6) (tCons (tVar 1) (tCons (tVar 2) tNil)))) [some (.ref lp), some cv, some pv', some (.int (bv i)), some (.ref q), some (.int (i : Nat)), some x, y3] (upd H' T' (.tup [.int (i : Nat), x])) (isO (.lst (natsV (cnt cs l ps)))) :=
      eg_call (ea_cons (ev_var rfl) (ea_cons (ev_var rfl) (ea_cons (ev_var rfl) ea_nil))).g fun vs H5 e5 hv => by
        cases (show vs = _ from hv)
        have e := (e3.trans e4).trans e5
        exact ⟨x, cv, pv', l, cs, ps, rfl, Mono.up e hlr, Mono.up e hcs, Mono.up e hps, gl, gcs, inp, hlen, rfl⟩
    refine q_asgG hcall fun v H5 e5 ⟨cq, ev, hcq⟩ => ?_
    subst ev
    have hcq5 := dlt_ex _ _ _ _ hcq
    have e35 := (e3.trans e4).trans e5
    have hq5 := e5 _ _ (e4 _ _ hq)
    have main := stS hl
    have clen := cnt_len cs l ps
    cases hst : st i with
    | none =>
      have hbv : bv i = -1 := by show (match st i with | none => (-1 : Int) | some b => ((b.1 : Nat) : Int)) = -1; rw [hst]
      have main' : st (i + 1) = some (i, cnt cs l ps) := by rw [main, hst]; rfl
      refine s_when (et_or1 (et_test (ev_is (ev_op (ev_var rfl) ev_c rv_I0) (show V.bl (decide (bv i < 0)) = .bl true by rw [hbv]; rfl)))) (fun _ H6 e6 => ?_) (fun z => absurd z (by decide))
      refine q_asg (ev_var rfl) fun H7 e7 => s_asg (ev_var rfl) fun H8 e8 => ⟨some (.int (i : Nat)), some x, some (.ref cq), cq, ?_, ((e35.trans e6).trans e7).trans e8, ?_⟩
      · show _ = [some (.ref lp), some cv, some pv', some (.int (match st (i + 1) with | none => (-1 : Int) | some b => ((b.1 : Nat) : Int))), some (.ref cq), _, _, _]
        rw [main']
        rfl
      · show H8 cq = some (.lst (match st (i + 1) with | none => [] | some b => natsV b.2))
        rw [main']
        exact e8 _ _ (e7 _ _ (e6 _ _ hcq5))
    | some b =>
      obtain ⟨b1, b2⟩ := b
      have bl := stL i b1 b2 hst
      have hbv : bv i = (b1 : Nat) := by show (match st i with | none => (-1 : Int) | some b => ((b.1 : Nat) : Int)) = _; rw [hst]
      have hfv : fv i = natsV b2 := by show (match st i with | none => [] | some b => natsV b.2) = _; rw [hst]
      rw [hfv] at hq5
      have hlt : EvT (tTest (tOp (rI0 fun i j => .bl (decide (i < j))) (tVar 3) (tC (.int 0)))) [some (.ref lp), some cv, some pv', some (.int (bv i)), some (.ref q), some (.int (i : Nat)), some x, some (.ref cq)] H5 false := et_test (ev_is (ev_op (ev_var rfl) ev_c rv_I0) (show V.bl (decide (bv i < 0)) = .bl false by rw [hbv, decide_eq_false (by omega)]))
      refine s_when (et_or hlt fun _ => et_test (ev_op (ev_maxL (ev_var rfl) hcq5 (by omega)) (ev_maxL (ev_var rfl) hq5 (by omega)) rv_I0)) (fun hb H6 e6 => ?_) (fun hb H6 e6 => ?_)
      · have hb' : (cnt cs l ps).foldl max 0 < b2.foldl max 0 := by
          rw [Bool.false_or, decide_eq_true_iff] at hb
          omega
        have main' : st (i + 1) = some (i, cnt cs l ps) := by
          rw [main, hst]
          show (if (cnt cs l ps).foldl max 0 < b2.foldl max 0 then some (i, cnt cs l ps) else some (b1, b2)) = _
          rw [if_pos hb']
        refine q_asg (ev_var rfl) fun H7 e7 => s_asg (ev_var rfl) fun H8 e8 => ⟨some (.int (i : Nat)), some x, some (.ref cq), cq, ?_, ((e35.trans e6).trans e7).trans e8, ?_⟩
        · show _ = [some (.ref lp), some cv, some pv', some (.int (match st (i + 1) with | none => (-1 : Int) | some b => ((b.1 : Nat) : Int))), some (.ref cq), _, _, _]
          rw [main']
          rfl
        · show H8 cq = some (.lst (match st (i + 1) with | none => [] | some b => natsV b.2))
          rw [main']
          exact e8 _ _ (e7 _ _ (e6 _ _ hcq5))
      · have hb' : ¬ (cnt cs l ps).foldl max 0 < b2.foldl max 0 := by
          rw [Bool.false_or, decide_eq_false_iff_not] at hb
          omega
        have main' : st (i + 1) = some (b1, b2) := by
          rw [main, hst]
          show (if (cnt cs l ps).foldl max 0 < b2.foldl max 0 then some (i, cnt cs l ps) else some (b1, b2)) = _
          rw [if_neg hb']
        refine ⟨some (.int (i : Nat)), some x, some (.ref cq), q, ?_, e35.trans e6, ?_⟩
        · show _ = [some (.ref lp), some cv, some pv', some (.int (match st (i + 1) with | none => (-1 : Int) | some b => ((b.1 : Nat) : Int))), some (.ref q), _, _, _]
          rw [main', hbv]
          rfl
        · show H6 q = some (.lst (match st (i + 1) with | none => [] | some b => natsV b.2))
          rw [main']
          exact e6 _ _ hq5
  · rintro σ' H' ⟨y1, y2, y3, q, rfl, e3, hq⟩
    have hst : st lvs.length = bestFold cs ls ps := by
      show bestFold cs (ls.take lvs.length) ps = _
      rw [hls.len, List.take_length]
    refine ⟨_, rfl, Nat.le_of_ble_eq_true rfl, fun r hr => ⟨_, rfl, r, q, [.int (bv lvs.length)], fv lvs.length, rfl, rfl, upd_same, by rw [upd_ne (ne_of_none hq hr)]; exact hq, ?_, fun o ho => ?_⟩⟩
    · show 1 + (fv lvs.length).length ≤ sizeLine
      have : (fv lvs.length).length ≤ 5 := by
        show (match st lvs.length with | none => ([] : List V) | some b => natsV b.2).length ≤ 5
        cases h : st lvs.length with
        | none => exact Nat.zero_le _
        | some b => unfold natsV; rw [List.length_map, stL _ b.1 b.2 h]; exact Nat.le_refl _
      exact Nat.le_trans (Nat.add_le_add_left this 1) (by decide)
    · have er : Ex H (upd H' r (.lst [.int (bv lvs.length)])) := e3.trans (Ex.new hr)
      refine k _ _ (er.trans (Ex.new ho)) ⟨o, rfl, ?_⟩
      rw [dlt_upd (fresh_back er ho), ← hst]
      show some (HO.lst ([.int (match st lvs.length with | none => (-1 : Int) | some b => ((b.1 : Nat) : Int))] ++ (match st lvs.length with | none => [] | some b => natsV b.2))) = some (HO.lst (bestV (st lvs.length)))
      cases st lvs.length <;> rfl
end
end Bcw

namespace Bcw
open PySem PySem.Spec PyProof.Rows L2 Evl Bcn BnC Bn

def intsV (l : List Int) : List V := l.map V.int
/-- how many changes, and they -/
def changesV (l : List (Nat × Nat × Nat)) : List Int := (l.length : Int) :: flat3 l
def spChanges (CL : Addr) : Sp := spG fun vs H R => ∃ (lv cv wv : V) (ls : List Light) (cs : List Coast) (way : List Point), vs = [lv, cv, wv] ∧ lightsR CL ls lv H ∧ coastsR cs cv H ∧ pointsR way wv H ∧ GoodLs ls ∧ GoodCs cs ∧ (∀ p ∈ way, InF p.1 ∧ InF p.2) ∧ way.length ≤ 501 ∧ R = isO (.lst (intsV (changesV (changes cs ls [] 0 way))))
theorem set_mid {α : Type} {a b : List α} {j : Nat} {c d : α} (h : a[j]? = some c) (h' : b[j]? = some d) : (a.take j ++ b.drop j).set j c = a.take (j + 1) ++ b.drop (j + 1) := by
  obtain ⟨h1, h2⟩ := List.getElem?_eq_some_iff.mp h
  obtain ⟨h3, h4⟩ := List.getElem?_eq_some_iff.mp h'
  have hl : (a.take j).length = j := by rw [List.length_take]; omega
  have e : b.drop j = b[j] :: b.drop (j + 1) := List.drop_eq_getElem_cons h3
  rw [List.set_append_right _ _ (by omega), hl, Nat.sub_self, e, List.take_succ_eq_append_getElem h1, h2, List.append_assoc]
  rfl
theorem get_mid {α : Type} {a b : List α} {j : Nat} {c d : α} (h : a[j]? = some c) (h' : b[j]? = some d) : (a.take j ++ b.drop j)[j]? = some d := by
  obtain ⟨h1, h2⟩ := List.getElem?_eq_some_iff.mp h
  have hl : (a.take j).length = j := by rw [List.length_take]; omega
  rw [List.getElem?_append_right (by omega), hl, Nat.sub_self, List.getElem?_drop]
  exact h'
theorem same_mid {α : Type} {a b : List α} {j : Nat} {c : α} (h : a[j]? = some c) (h' : b[j]? = some c) : a.take j ++ b.drop j = a.take (j + 1) ++ b.drop (j + 1) := by
  rw [← set_mid h h']
  apply List.ext_getElem?
  intro i
  by_cases e : i = j
  · subst e
    have hlen : i < (a.take i ++ b.drop i).length := by
      have := (List.getElem?_eq_some_iff.mp (get_mid h h')).1
      exact this
    rw [List.getElem?_set_self hlen, get_mid h h']
  · rw [List.getElem?_set_ne (fun z => e z.symm)]
theorem nats_get {l : List Nat} {i n : Nat} (h : l[i]? = some n) : (natsV l)[i]? = some (.int (n : Nat)) := by unfold natsV; rw [List.getElem?_map, h]; rfl

section
variable {P : Program} {w : World} {K : PySem.W.Frag} {mg : Str → Option Value} {base : Heap} {CL CH : Addr}
theorem ok_changes_along {f : Addr} {fd : FuncData} (F : Fun K "changes_along" "changes_along" s_changes_along f fd) (T : Txt K mg CL CH) (D_Light_colour_seen : MethAt P w K mg base CL "colour_seen" 4 ["self", "coasts", "x", "y"] (spColourSeen CL)) : FnOk P w K mg base CX0 5 f fd ["lights", "coasts", "way"] (spChanges CL) := by
  refine F.ok sc_changes_along (spG_len fun vs H z ⟨_, _, _, _, _, _, e, _⟩ => by rw [e]; rfl) (fun cdv A outer s H vs Q E hr h => ?_)
  obtain ⟨R, ⟨_, cv, _, ls, cs, way, rfl, ⟨lp, lvs, rfl, hlp, hls⟩, hcs, ⟨wp, wvs, rfl, hwp, hws⟩, gls, gcs, inp, hlen, rfl⟩, k⟩ := h
  refine ⟨_, (pss_cons (ps_setLc (i := 3) (own := [("light", 8)]) (g := (gName 8)) (tt := tYes) rfl sc_changes_along.nd rfl rfl (sw_true rfl rfl rfl (by decide +kernel)) (pi_list (pv 0)) (blkOk_by (own := [("light", 8)]) (N := ["lights", "coasts", "way", "before", "found", "step", "place", "number", "light", "colour"]) (sc := defScope s_changes_along) (by decide +kernel)) (fun _ _ _ _ _ => (pg_name (i := 8) sc_changes_along.nd rfl (Or.inl rfl))) (fun _ _ _ _ _ => pts_nil) (fun _ _ _ _ _ => pe_int))
    (pss_cons (ps_set (i := 4) sc_changes_along.nd rfl (Or.inl rfl) (pe_lst pa_nil))
    (pss_cons (ps_for PassesOwn.never rfl (pi_enum (by rfl) T.b_enumerate (pa_cons (pv 2) pa_nil))
    (pg_tup rfl (pgs_cons (pg_name (i := 5) sc_changes_along.nd rfl (Or.inl rfl)) (pgs_cons (pg_name (i := 6) sc_changes_along.nd rfl (Or.inl rfl)) pgs_nil)))
    (pss_one (ps_for PassesOwn.never rfl (pi_enum (by rfl) T.b_enumerate (pa_cons (pv 0) pa_nil))
    (pg_tup rfl (pgs_cons (pg_name (i := 7) sc_changes_along.nd rfl (Or.inl rfl)) (pgs_cons (pg_name (i := 8) sc_changes_along.nd rfl (Or.inl rfl)) pgs_nil)))
    (pss_cons (ps_set (i := 9) sc_changes_along.nd rfl (Or.inl rfl) (pe_dmeth D_Light_colour_seen T.cLight (hr.mono (by decide)) (pv 8) (pa_cons (pv 1) (pa_cons (pe_ix ix_tup (pv 6) pe_int (fun _ _ => rfl)) (pa_cons (pe_ix ix_tup (pv 6) pe_int (fun _ _ => rfl)) pa_nil)))))
    (pss_one (ps_if (pt_cmpR op_ne (pv 9) (pe_ix ix_list (pv 3) (pv 7) (fun _ _ => rfl)) (nomark _))
    (pss_cons (ps_expr (pe_bm PySem.F.plainAttrs_list PySem.F.slot_list_extend PySem.F.type_list_extend mt_extend (pv 4) (pa_cons (pe_lst (pa_cons (pv 5) (pa_cons (pv 7) (pa_cons (pv 9) pa_nil)))) pa_nil)))
    (pss_one (ps_asg (pv 9) (pg_sub (pv 3) (pv 7) set_list))))
    pss_nil))))))
    (pss_one (ps_ret (pe_op op_cat (pe_lst (pa_cons (pe_op op_fdiv (pe_callB call_len_seq (by rfl) T.b_len PySem.boot_len (pa_cons (pv 4) pa_nil)) pe_int) pa_nil)) (pv 4))))))), ?_⟩
  have lvl := hls.len
  have wvl := hws.len
  -- before = [0 for light in lights]
  have hlc : EvG (tLc (iList K (tVar 0)) (gName 8) tYes (tC (.int 0)) [8]) [some (.ref lp), some cv, some (.ref wp), none, none, none, none, none, none, none] H (isL (each (fun i => isV (.int i)) ((List.range ls.length).map (fun _ => (0 : Int))))) := by
    have q := eg_lc (R := fun i => isV (.int i)) (σ := [some (.ref lp), some cv, some (.ref wp), none, none, none, none, none, none, none]) (H := H) (g := gName 8) (tt := tYes) (te := tC (.int 0)) (vs := [8]) (ei_list (K := K) (tl := tVar 0) (ev_var rfl) (sq_of hlp)) (fun n => (List.range n).map (fun _ => (0 : Int))) ls.length (fun m src H1 h => by rw [h.1, lvl]) rfl (by have := gls.2; omega)
      (fun src H2 n z H3 e2 ph hn hz e3 => by
        refine ⟨_, fun Q q => q, ?_, .inl ⟨0, fun H3 e3 Q q => q H3 (Ex.refl H3), ev_c.g, ?_⟩⟩
        · rfl
        · rw [List.range_succ, List.map_append]
          rfl)
    exact q
  refine q_asgG hlc fun v H1 e1 ⟨B, bvs, ev, hB, hbv⟩ => ?_
  subst ev
  obtain ⟨hB0, hB1⟩ := fresh_of_dlt hB
  rw [each.ints hbv, replicate_nats] at hB1
  have hB1' : H1 B = some (.lst (natsV (List.replicate ls.length 0))) := by
    rw [hB1]
    unfold natsV
    rw [List.map_replicate, List.map_replicate]
    rfl
  refine q_newL fun L hL => ?_
  have hBL : B ≠ L := ne_of_none hB1 hL
  have hL0 : H L = none := fresh_back e1 hL
  have e2 : Ex H (upd H1 L (.lst [])) := e1.trans (Ex.new hL)
  have hLp : ∀ {H'}, Ex H H' → SqL K H' lp lvs := fun e => sq_of (e _ _ hlp)
  have hWp : ∀ {H'}, Ex H H' → SqL K H' wp wvs := fun e => sq_of (e _ _ hwp)
  have main0 := changes_zero cs ls ls.length way
  refine q_forE (ea_cons (ev_var rfl) ea_nil) (hWp e2) (fun i σ' H' => ∃ s5 s6 s7 s8 s9, σ' = [some (.ref lp), some cv, some (.ref wp), some (.ref B), some (.ref L), s5, s6, s7, s8, s9] ∧ Ex H H' ∧ ∃ (bf : List Nat) (done : List (Nat × Nat × Nat)), H' B = some (.lst (natsV bf)) ∧ bf.length = ls.length ∧ H' L = some (.lst (intsV (flat3 done))) ∧ done.length ≤ i * 24 ∧ changes cs ls [] 0 way = done ++ changes cs ls bf i (way.drop i))
    (fun H3 e3 => ⟨none, none, none, none, none, rfl, e2.trans e3, List.replicate ls.length 0, [], e3 _ _ (by rw [upd_ne hBL]; exact hB1'), by simp, e3 _ _ upd_same, Nat.zero_le _, main0⟩) (fun i σ' H' _ ⟨_, _, _, _, _, _, e, _⟩ => hWp e) ?_ ?_
  · rintro i x T' σ' H' hi ⟨s5, s6, s7, s8, s9, rfl, e3, bf, done, hBf, hbl, hLd, hdl, main⟩ hT
    obtain ⟨a, ha, har⟩ := each.get hws hi
    have hin := inp a (List.mem_of_getElem? ha)
    have hiw : i < way.length := (List.getElem?_eq_some_iff.mp ha).1
    have e4 : Ex H' (upd H' T' (.tup [.int (i : Nat), x])) := Ex.new hT
    refine g_pair (st_of upd_same) ?_
    generalize hH4 : upd H' T' (.tup [.int (i : Nat), x]) = H4 at e4
    clear hH4
    have e34 := e3.trans e4
    have hdrop : way.drop i = a :: way.drop (i + 1) := by
      obtain ⟨h1, h2⟩ := List.getElem?_eq_some_iff.mp ha
      rw [List.drop_eq_getElem_cons h1, h2]
    rw [hdrop, changes_cons] at main
    obtain ⟨at', eat, hat⟩ := (Mono.up e34 har : pairI a x H4)
    subst eat
    have hnl : (nowF cs ls a).length = ls.length := by unfold nowF; rw [List.length_map]
    refine s_forE (ea_cons (ev_var rfl) ea_nil) (hLp e34) (fun j σ' H' => ∃ s7 s8 s9, σ' = [some (.ref lp), some cv, some (.ref wp), some (.ref B), some (.ref L), some (.int (i : Nat)), some (.ref at'), s7, s8, s9] ∧ Ex H H' ∧ H' at' = some (.tup [.int a.1, .int a.2]) ∧ H' B = some (.lst (natsV ((nowF cs ls a).take j ++ bf.drop j))) ∧ H' L = some (.lst (intsV (flat3 (done ++ newly i bf ((nowF cs ls a).take j))))))
      (fun H5 e5 => ⟨_, _, _, rfl, e34.trans e5, e5 _ _ hat, e5 _ _ (e4 _ _ hBf), by rw [show newly i bf ((nowF cs ls a).take 0) = [] from rfl, List.append_nil]; exact e5 _ _ (e4 _ _ hLd)⟩) (fun j σ' H' _ ⟨_, _, _, _, e, _⟩ => hLp e) ?_ ?_
    · rintro j y T2 σ' H5 hj ⟨t7, t8, t9, rfl, e5, hat5, hB5, hL5⟩ hT2
      obtain ⟨l, hl, hlr⟩ := each.get hls hj
      have gl := gls.1 l (List.mem_of_getElem? hl)
      have hjl : j < ls.length := (List.getElem?_eq_some_iff.mp hl).1
      have e6 : Ex H5 (upd H5 T2 (.tup [.int (j : Nat), y])) := Ex.new hT2
      refine g_pair (st_of upd_same) ?_
      generalize hH6 : upd H5 T2 (.tup [.int (j : Nat), y]) = H6 at e6
      clear hH6
      have e56 := e5.trans e6
      obtain ⟨la, dx, pp, sv, ely, hla, _, _⟩ := id (Mono.up e56 hlr : lightR CL l y H6)
      subst ely
      have hnow : (nowF cs ls a)[j]? = some (seenFrom cs l a) := by unfold nowF; rw [List.getElem?_map, hl]; rfl
      obtain ⟨d, hd⟩ : ∃ d, bf[j]? = some d := ⟨_, List.getElem?_eq_getElem (by omega)⟩
      have hgetD : bf.getD j 0 = d := by rw [List.getD_eq_getElem?_getD, hd]; rfl
      have hnew := newly_take (i := i) (had := bf) hnow
      rw [hgetD] at hnew
      refine q_asg (ev_methV (ev_var rfl) hla lgtF_cs (ea_cons (ev_var rfl) (ea_cons (ev_ixt (e6 _ _ hat5) (ev_var rfl) ev_c rfl) (ea_cons (ev_ixt (e6 _ _ hat5) (ev_var rfl) ev_c rfl) ea_nil))) fun H7 e7 => ⟨_, cv, l, cs, a.1, a.2, rfl, Mono.up (e56.trans e7) hlr, Mono.up (e56.trans e7) hcs, gl, gcs.1, hin.1, hin.2, rfl⟩) fun H7 e7 => ?_
      have e57 := e56.trans e7
      have hB7 := e7 _ _ (e6 _ _ hB5)
      have hL7 := e7 _ _ (e6 _ _ hL5)
      have hat7 := e7 _ _ (e6 _ _ hat5)
      refine s_when (et_test (ev_op (ev_var rfl) (ev_ixl (sq_of hB7) (ev_var rfl) (ev_var rfl) (at_of rfl (nats_get (get_mid hnow hd)))) (rv_ne rfl))) (fun hb H8 e8 => ?_) (fun hb H8 e8 => ?_)
      · rw [Bool.not_eq_true', decide_eq_false_iff_not, V.int.injEq] at hb
        have hne : (d != seenFrom cs l a) = true := by
          rw [bne_iff_ne]
          exact fun z => hb (by rw [z])
        rw [hne, if_pos rfl] at hnew
        have hlt : (done ++ newly i bf ((nowF cs ls a).take j)).length ≤ 20000 := by
          have h1 := newly_len i bf ((nowF cs ls a).take j)
          rw [List.length_take] at h1
          rw [List.length_append]
          have := gls.2
          have : i * 24 ≤ 501 * 24 := Nat.mul_le_mul_right _ (by omega)
          omega
        refine q_extG (RA := areV [.int (i : Nat), .int (j : Nat), .int (seenFrom cs l a : Nat)]) (e8 _ _ hL7) (ev_var rfl) (EvG.weak (el_lst (ea_cons (ev_var rfl) (ea_cons (ev_var rfl) (ea_cons (ev_var rfl) ea_nil))) (Nat.le_of_ble_eq_true rfl)).g fun v G h => isO_isL h) (fun ys G hy => ?_) fun ys H9 e9 hy => ?_
        · cases (show ys = _ from hy)
          unfold intsV
          rw [List.length_map, flat3_len]
          show 3 * _ + 3 ≤ _
          omega
        · cases (show ys = _ from hy)
          have hB9 : (upd H9 L (.lst (intsV (flat3 (done ++ newly i bf ((nowF cs ls a).take j))) ++ [.int (i : Nat), .int (j : Nat), .int (seenFrom cs l a : Nat)]))) B = some (.lst (natsV ((nowF cs ls a).take j ++ bf.drop j))) := by
            rw [upd_ne hBL]
            exact e9 _ _ (e8 _ _ hB7)
          refine s_setL hB9 (ev_var rfl) (ev_var rfl) (ev_var rfl) (by unfold natsV; rw [List.length_map, List.length_append, List.length_take, List.length_drop]; omega) fun H10 e10 => ⟨_, _, _, rfl, ?_, ?_, ?_, ?_⟩
          · exact Ex.mut ((Ex.mut ((e57.trans e8).trans e9) hL0).trans e10) hB0
          · have n1 : at' ≠ B := fun z => by rw [z] at hat7; rw [hB7] at hat7; cases hat7
            have n2 : at' ≠ L := fun z => by rw [z] at hat7; rw [hL7] at hat7; cases hat7
            rw [upd_ne n1]
            exact e10 _ _ (by rw [upd_ne n2]; exact e9 _ _ (e8 _ _ hat7))
          · rw [upd_same, ← set_mid hnow hd]
            unfold natsV
            rw [List.map_set]
          · rw [upd_ne hBL.symm, hnew, ← List.append_assoc, flat3_app (done ++ _)]
            refine e10 _ _ ?_
            rw [upd_same]
            unfold intsV
            rw [List.map_append]
            rfl
      · rw [Bool.not_eq_false', decide_eq_true_iff, V.int.injEq] at hb
        have hd' : seenFrom cs l a = d := by
          have hb' : ((seenFrom cs l a : Nat) : Int) = ((d : Nat) : Int) := hb
          omega
        have hne : (d != seenFrom cs l a) = false := by rw [hd']; simp
        rw [hne, if_neg (by decide), List.append_nil] at hnew
        refine ⟨_, _, _, rfl, e57.trans e8, e8 _ _ hat7, ?_, ?_⟩
        · rw [← same_mid hnow (by rw [hd']; exact hd)]
          exact e8 _ _ hB7
        · rw [hnew]
          exact e8 _ _ hL7
    · rintro σ' H5 ⟨t7, t8, t9, rfl, e5, hat5, hB5, hL5⟩
      rw [lvl, ← hnl, List.take_length] at hB5 hL5
      rw [hnl, ← hbl, List.drop_length, List.append_nil] at hB5
      refine ⟨_, _, _, _, _, rfl, e5, nowF cs ls a, done ++ newly i bf (nowF cs ls a), hB5, hnl, hL5, ?_, ?_⟩
      · rw [List.length_append]
        have := newly_len i bf (nowF cs ls a)
        have := gls.2
        rw [Nat.succ_mul]
        omega
      · rw [main, List.append_assoc]
  · rintro σ' H' ⟨s5, s6, s7, s8, s9, rfl, e3, bf, done, hBf, hbl, hLd, hdl, main⟩
    rw [wvl, List.drop_length] at main
    have main' : changes cs ls [] 0 way = done := by rw [main]; exact List.append_nil _
    have hdl' : done.length ≤ 12024 := by
      have : wvs.length * 24 ≤ 501 * 24 := Nat.mul_le_mul_right _ (by omega)
      omega
    have hlen3 : Ev (tOp (rI CDiv fun i j => .int (i / j)) (tCB (fun xs H Q => ∃ p ys, xs = [.ref p] ∧ (SqL K H p ys ∨ SqT K H p ys) ∧ Q (.int ys.length) H) (tCons (tVar 4) tNil)) (tC (.int 3))) [some (.ref lp), some cv, some (.ref wp), some (.ref B), some (.ref L), s5, s6, s7, s8, s9] H' (.int (done.length : Nat)) := by
      refine ev_is (ev_op (ev_lenS (sq_of hLd) (ev_var rfl)) ev_c (rv_I ⟨by decide, by decide⟩)) ?_
      unfold intsV
      rw [List.length_map, flat3_len]
      congr 1
      omega
    refine s_retG (eg_cat1 (el_lst (ea_cons hlen3 ea_nil) (Nat.le_of_ble_eq_true rfl)).g (ev_var rfl) hLd ?_) fun v H6 e6 r => k _ _ (e3.trans e6) ?_
    · unfold intsV
      rw [List.length_map, flat3_len]
      show 1 + 3 * done.length ≤ 16000000
      omega
    · rw [main']
      exact Mono.up (dlt_left e3) r
end
end Bcw

/-! # the hall -/
namespace Bcw
open PySem PySem.Spec PyProof.Rows L2 Evl Bcn BnC Bn

def halF (L C : Addr) : List (Str × V) := [("lights", .ref L), ("coasts", .ref C)]
section
variable {L C : Addr}
theorem halF_l : (halF L C).lookup ("lights" : Str) = some (.ref L) := lk_here
theorem halF_c : (halF L C).lookup ("coasts" : Str) = some (.ref C) := (lk_past (by decide +kernel)).trans lk_here
theorem halF_no {m : Str} (h1 : (m == ("lights" : Str)) = false) (h2 : (m == ("coasts" : Str)) = false) : (halF L C).lookup m = none := (lk_past h1).trans ((lk_past h2).trans rfl)
theorem halF_light : (halF L C).lookup ("light" : Str) = none := halF_no (by decide +kernel) (by decide +kernel)
theorem halF_coast : (halF L C).lookup ("coast" : Str) = none := halF_no (by decide +kernel) (by decide +kernel)
theorem halF_seen : (halF L C).lookup ("seen" : Str) = none := halF_no (by decide +kernel) (by decide +kernel)
theorem halF_shown : (halF L C).lookup ("shown" : Str) = none := halF_no (by decide +kernel) (by decide +kernel)
theorem halF_at_time : (halF L C).lookup ("at_time" : Str) = none := halF_no (by decide +kernel) (by decide +kernel)
theorem halF_rhythm : (halF L C).lookup ("rhythm" : Str) = none := halF_no (by decide +kernel) (by decide +kernel)
theorem halF_ff : (halF L C).lookup ("field_fault" : Str) = none := halF_no (by decide +kernel) (by decide +kernel)
theorem halF_where : (halF L C).lookup ("where" : Str) = none := halF_no (by decide +kernel) (by decide +kernel)
theorem halF_track : (halF L C).lookup ("track" : Str) = none := halF_no (by decide +kernel) (by decide +kernel)
theorem halF_tell : (halF L C).lookup ("tell" : Str) = none := halF_no (by decide +kernel) (by decide +kernel)
theorem halF_wipe : (halF L C).lookup ("wipe" : Str) = none := halF_no (by decide +kernel) (by decide +kernel)
end
/-- the hall as it stands: G holds what never changes (the lights, the coasts); a, L, C are the places that change -/
structure HallAt (CL CH : Addr) (G H : Hp) (a L C : Addr) (s : Wqatdz.State) : Prop where
  ex : Ex G H
  ins : ∃ dx, H a = some (.ins CH dx (halF L C))
  li : ∃ vs, H L = some (.lst vs) ∧ each (lightR CL) s.lights vs G
  co : ∃ ws, H C = some (.lst ws) ∧ each cstR s.coasts ws G
  ga : G a = none
  gl : G L = none
  gc : G C = none
  ne : L ≠ C
  good : GoodSt s
section
variable {CL CH : Addr} {G H H' : Hp} {a L C : Addr} {s : Wqatdz.State}
theorem HallAt.up (h : HallAt CL CH G H a L C s) (e : Ex H H') : HallAt CL CH G H' a L C s := by
  obtain ⟨h1, ⟨dx, h2⟩, ⟨vs, h3, h4⟩, ⟨ws, h5, h6⟩, h7, h8, h9, h10, h11⟩ := h
  exact ⟨h1.trans e, ⟨dx, e _ _ h2⟩, ⟨vs, e _ _ h3, h4⟩, ⟨ws, e _ _ h5, h6⟩, h7, h8, h9, h10, h11⟩
theorem HallAt.lights (h : HallAt CL CH G H a L C s) : lightsR CL s.lights (.ref L) H := let ⟨vs, h1, h2⟩ := h.li; ⟨L, vs, rfl, h1, MonoA.up h.ex h2⟩
theorem HallAt.coasts (h : HallAt CL CH G H a L C s) : coastsR s.coasts (.ref C) H := let ⟨vs, h1, h2⟩ := h.co; ⟨C, vs, rfl, h1, MonoA.up h.ex h2⟩
theorem HallAt.evL {K : PySem.W.Frag} {mg : Str → Option Value} (h : HallAt CL CH G H a L C s) (T : Txt K mg CL CH) {σ : L2.St} {te : TE} (he : Ev te σ H (.ref a)) : Ev (tFld K te "lights") σ H (.ref L) := let ⟨_, hi⟩ := h.ins; ev_fld he hi T.cHall T.n_Hall_lights halF_l
theorem HallAt.evC {K : PySem.W.Frag} {mg : Str → Option Value} (h : HallAt CL CH G H a L C s) (T : Txt K mg CL CH) {σ : L2.St} {te : TE} (he : Ev te σ H (.ref a)) : Ev (tFld K te "coasts") σ H (.ref C) := let ⟨_, hi⟩ := h.ins; ev_fld he hi T.cHall T.n_Hall_coasts halF_c
end
/-- what an asking method hands back: a new list of the answer's numbers -/
abbrev ansR (A : Wqatdz.Ans) : RG := isO (.lst (intsV (ansL A)))
def spIsPlace : Sp := spV fun vs _ z => ∃ x y : Int, vs = [.int x, .int y] ∧ z = .bl (Wqatdz.isPlace (x, y))
def spPairs : Sp := spG fun vs H R => ∃ (p : V) (l : List Int), vs = [p] ∧ isO (.lst (intsV l)) p H ∧ l.length ≤ 4000 ∧ R = isL (each pairI (pairsI l))
def spHallInit (CL CH : Addr) : Sp := fun vs H Q _ => ∃ (a dx : Addr), vs = [.ref a] ∧ H a = some (.ins CH dx []) ∧
  ∀ (H' : Hp) (L C : Addr), HallAt CL CH (fun _ => none) H' a L C Wqatdz.start → (∀ b o, H b = some o → b ≠ a → H' b = some o) → H L = none → H C = none → Q .non H'
/-- a light that may be none -/
def optR (CL : Addr) (o : Option Light) : RG := match o with
  | none => isV .non
  | some l => lightR CL l
instance : Mono (optR CL o) := by
  unfold optR
  cases o with
  | none => exact inferInstanceAs (Mono (isV .non))
  | some l => exact inferInstanceAs (Mono (lightR CL l))
def seenO (cs : List Coast) (p : Point) (o : Option Light) : Nat := match o with
  | none => 0
  | some l => seenFrom cs l p
def spShown (CL CH : Addr) : Sp := spG fun vs H R => ∃ (a L C : Addr) (G : Hp) (s : Wqatdz.State) (sv : V) (os : List (Option Light)) (x y : Int), vs = [.ref a, sv, .int x, .int y] ∧ HallAt CL CH G H a L C s ∧ isL (each (optR CL) os) sv H ∧ os.length ≤ 24 ∧ (∀ o ∈ os, ∀ l, o = some l → GoodL l) ∧ InF x ∧ InF y ∧
  R = ansR (Wqatdz.shown (os.map (seenO s.coasts (x, y))))
def spSeen (CL CH : Addr) : Sp := spG fun vs H R => ∃ (a L C : Addr) (G : Hp) (s : Wqatdz.State) (x y : Int), vs = [.ref a, .int x, .int y] ∧ HallAt CL CH G H a L C s ∧ R = ansR (Wqatdz.told s (.seen x y))
def spAtTime (CL CH : Addr) : Sp := spG fun vs H R => ∃ (a L C : Addr) (G : Hp) (s : Wqatdz.State) (z x y : Int), vs = [.ref a, .int z, .int x, .int y] ∧ HallAt CL CH G H a L C s ∧ 0 ≤ z ∧ R = ansR (Wqatdz.told s (.at_ z.toNat x y))
def spRhythm (CL CH : Addr) : Sp := spG fun vs H R => ∃ (a L C : Addr) (G : Hp) (s : Wqatdz.State) (i x y : Int), vs = [.ref a, .int i, .int x, .int y] ∧ HallAt CL CH G H a L C s ∧ 0 ≤ i ∧ R = ansR (Wqatdz.told s (.rhythm i.toNat x y))
theorem shown_ans (l : List Nat) : ansL (Wqatdz.shown l) = ((lit l).length : Int) :: flat2 (lit l) := rfl
theorem place_in {x y : Int} (h : Wqatdz.isPlace (x, y) = true) : InF x ∧ InF y := (place_iff x y).mp h

section
variable {P : Program} {w : World} {K : PySem.W.Frag} {mg : Str → Option Value} {base : Heap} {CL CH : Addr}
theorem ok_is_place {f : Addr} {fd : FuncData} (F : Fun K "is_place" "is_place" s_is_place f fd) (T : Txt K mg CL CH) : FnOk P w K mg base CX0 1 f fd ["x", "y"] spIsPlace := by
  refine F.ok sc_is_place (spV_len fun vs H z ⟨_, _, e, _⟩ => by rw [e]; rfl) (fun cdv A outer s H vs Q E hr h => ?_)
  obtain ⟨R, ⟨z, ⟨x, y, rfl, rfl⟩, rfl⟩, k⟩ := h
  refine ⟨_, (pss_one (ps_ret (pe_and (pe_cmpR op_le (pe_callB call_abs (by rfl) T.b_abs (by decide +kernel) (pa_cons (pv 0) pa_nil)) (pe_gi T.c_MOST_SPOT) (nomark _)) (pe_one (pe_cmpR op_le (pe_callB call_abs (by rfl) T.b_abs (by decide +kernel) (pa_cons (pv 1) pa_nil)) (pe_gi T.c_MOST_SPOT) (nomark _)))))), ?_⟩
  refine s_ret (ev_andV (ev_op (ev_abs (K := K) (ev_var rfl)) ev_c rv_I0) fun _ => ev_op (ev_abs (K := K) (ev_var rfl)) ev_c rv_I0) fun H1 e => ?_
  refine k _ H1 e ?_
  show V.bl _ = V.bl _
  congr 1
  rw [Bool.eq_iff_iff, place_iff]
  simp only [Bool.and_eq_true, decide_eq_true_eq]
  constructor
  · rintro ⟨h2, h3⟩
    exact ⟨by split at h2 <;> omega, by split at h3 <;> omega⟩
  · rintro ⟨h2, h3⟩
    refine ⟨?_, ?_⟩ <;> split <;> omega
theorem ok_pairs_of {f : Addr} {fd : FuncData} (F : Fun K "pairs_of" "pairs_of" s_pairs_of f fd) (T : Txt K mg CL CH) : FnOk P w K mg base CX0 1 f fd ["told"] spPairs := by
  refine F.ok sc_pairs_of (spG_len fun vs H z ⟨_, _, e, _⟩ => by rw [e]; rfl) (fun cdv A outer s H vs Q E hr h => ?_)
  obtain ⟨R, ⟨_, l, rfl, ⟨p, rfl, hp⟩, hlen, rfl⟩, k⟩ := h
  refine ⟨_, (pss_one (ps_ret (pe_lc (own := [("at", 1)]) (g := (gName 1)) (tt := tYes) rfl sc_pairs_of.nd (pi_range3 (by rfl) T.b_range (pa_cons pe_int (pa_cons (pe_op op_sub (pe_callB call_len_seq (by rfl) T.b_len PySem.boot_len (pa_cons (pv 0) pa_nil)) pe_int) (pa_cons pe_int pa_nil)))) (blkOk_by (own := [("at", 1)]) (N := ["told", "at"]) (sc := defScope s_pairs_of) (by decide +kernel)) (fun _ _ _ _ _ => (pg_name (i := 1) sc_pairs_of.nd rfl (Or.inl rfl))) (fun _ _ _ _ _ => pts_nil) (fun _ _ _ _ _ => (pe_tup (pa_cons (pe_ix (ix_listK (K := K) rfl) (pv 0) (pv 1) (fun _ _ => rfl)) (pa_cons (pe_ix (ix_listK (K := K) rfl) (pv 0) (pe_op op_add (pv 1) pe_int) (fun _ _ => rfl)) pa_nil))))))), ?_⟩
  have pl := pairsI_len l
  have hll : ((intsV l).length : Int) = (l.length : Int) := by unfold intsV; rw [List.length_map]
  refine s_retG (R := isL (each pairI (pairsI l))) ?_ fun v H1 e1 r => k _ _ e1 r
  have q := eg_lc (R := pairI) (σ := [some (.ref p), none]) (H := H) (g := gName 1) (tt := tYes) (te := tTup (tCons (tOp (rIxL K) (tVar 0) (tVar 1)) (tCons (tOp (rIxL K) (tVar 0) (tOp (rI0 fun i j => .int (i + j)) (tVar 1) (tC (.int 1)))) tNil))) (vs := [1])
    (ei_rangeC (ta := tCons (tC (.int 0)) (tCons (tOp (rI0 fun i j => .int (i - j)) (tCB (fun xs H Q => ∃ p ys, xs = [.ref p] ∧ (SqL K H p ys ∨ SqT K H p ys) ∧ Q (.int ys.length) H) (tCons (tVar 0) tNil)) (tC (.int 1))) (tCons (tC (.int 2)) tNil))) (ea_cons ev_c (ea_cons (ev_op (ev_lenS (sq_of hp) (ev_var rfl)) ev_c rv_I0) (ea_cons ev_c ea_nil))) (m := l.length / 2) (by rw [hll]; exact RgC.by2 (by omega)))
    (fun n => (pairsI l).take n) (l.length / 2) (fun m src H1 h => h.1) rfl (by omega)
    (fun src H2 n z H3 e2 ph hn hz e3 => by
      obtain ⟨_, rfl⟩ := ph
      cases Option.some.inj hz
      obtain ⟨u, v, g1, g2, g3⟩ := pairsI_at (l := l) (i := n) (by omega)
      have hb := e3 _ _ (e2 _ _ hp)
      have c0 : (0 : Int) + (n : Int) * 2 = ((2 * n : Nat) : Int) := by omega
      have c1 : (0 : Int) + (n : Int) * 2 + 1 = ((2 * n + 1 : Nat) : Int) := by omega
      refine ⟨_, fun Q q => q, rfl, .inl ⟨(u, v), fun H3 e3 Q q => q H3 (Ex.refl H3), ?_, take_succ' g3⟩⟩
      exact (eu_tup (ea_cons (ev_ixl (sq_of hb) (ev_var rfl) (ev_var rfl) (at_int c0 g1)) (ea_cons (ev_ixl (sq_of hb) (ev_var rfl) (ev_op (ev_var rfl) ev_c rv_I0) (at_int c1 g2)) ea_nil)) (Nat.le_of_ble_eq_true rfl)).g)
  rw [← pl, List.take_length] at q
  exact q
theorem ok_hall_init {f : Addr} {fd : FuncData} (F : Fun K "__init__" "Hall.__init__" s_Hall_init f fd) (T : Txt K mg CL CH) : FnOk P w K mg base CX0 1 f fd ["self"] (spHallInit CL CH) := by
  refine F.ok sc_Hall_init (fun vs H Q E ⟨_, _, e, _⟩ => by rw [e]; rfl) (fun cdv A outer s H vs Q E hr h => ?_)
  obtain ⟨a, dx, rfl, ha, k⟩ := h
  refine ⟨_, (pss_cons (ps_fld (pv 0) (pe_lst pa_nil) rfl)
    (pss_one (ps_fld (pv 0) (pe_lst pa_nil) rfl))), ?_⟩
  refine ⟨Nat.zero_le _, fun L hL => ?_⟩
  have naL : a ≠ L := ne_of_none ha hL
  refine ⟨_, rfl, a, CH, dx, [], rfl, by rw [upd_ne naL]; exact ha, T.cHall, T.n_Hall_lights, Nat.le_of_ble_eq_true rfl, ?_⟩
  refine ⟨Nat.zero_le _, fun C hC => ?_⟩
  have h1 : (upd (upd H L (.lst [])) a (.ins CH dx (putF "lights" (.ref L) []))) a = some (.ins CH dx [("lights", .ref L)]) := upd_same
  have naC : a ≠ C := ne_of_none h1 hC
  have hLC : L ≠ C := ne_of_none (show (upd (upd H L (.lst [])) a (.ins CH dx (putF "lights" (.ref L) []))) L = some (.lst []) by rw [upd_ne naL.symm, upd_same]) hC
  have hC0 : H C = none := by rw [upd_ne naC.symm, upd_ne hLC.symm] at hC; exact hC
  refine ⟨_, rfl, a, CH, dx, _, rfl, by rw [upd_ne naC]; exact upd_same, T.cHall, T.n_Hall_coasts, Nat.le_of_ble_eq_true rfl, ?_⟩
  refine k _ L C ⟨fun _ _ h => (nomatch h), ⟨dx, upd_same⟩, ⟨[], ?_, .nil⟩, ⟨[], ?_, .nil⟩, rfl, rfl, rfl, hLC, ⟨⟨fun _ h => (nomatch h), Nat.zero_le _⟩, ⟨fun _ h => (nomatch h), Nat.zero_le _⟩⟩⟩ (fun b o hb nb => ?_) hL hC0
  · rw [upd_ne naL.symm, upd_ne hLC, upd_ne naL.symm, upd_same]
  · rw [upd_ne naC.symm, upd_same]
  · rw [upd_ne nb, upd_ne (ne_of_none hb hC0), upd_ne nb, upd_ne (ne_of_none hb hL)]
    exact hb
theorem ok_shown {f : Addr} {fd : FuncData} (F : Fun K "shown" "Hall.shown" s_Hall_shown f fd) (T : Txt K mg CL CH) (D_Light_colour_seen : MethAt P w K mg base CL "colour_seen" 4 ["self", "coasts", "x", "y"] (spColourSeen CL)) : FnOk P w K mg base CX0 5 f fd ["self", "some", "x", "y"] (spShown CL CH) := by
  refine F.ok sc_Hall_shown (spG_len fun vs H z ⟨_, _, _, _, _, _, _, _, _, e, _⟩ => by rw [e]; rfl) (fun cdv A outer s H vs Q E hr h => ?_)
  obtain ⟨R, ⟨a, L, C, G, st, _, os, x, y, rfl, hh, ⟨sp, svs, rfl, hsp, hos⟩, hos24, gos, bx, bz, rfl⟩, k⟩ := h
  refine ⟨_, (pss_cons (ps_set (i := 4) sc_Hall_shown.nd rfl (Or.inl rfl) (pe_lst pa_nil))
    (pss_cons (ps_for PassesOwn.never rfl (pi_enum (by rfl) T.b_enumerate (pa_cons (pv 1) pa_nil))
    (pg_tup rfl (pgs_cons (pg_name (i := 5) sc_Hall_shown.nd rfl (Or.inl rfl)) (pgs_cons (pg_name (i := 6) sc_Hall_shown.nd rfl (Or.inl rfl)) pgs_nil)))
    (pss_cons (ps_set (i := 7) sc_Hall_shown.nd rfl (Or.inl rfl) pe_int)
    (pss_cons (ps_if (pt_cmpR op_notN (pv 6) pe_non (nomark _))
    (pss_one (ps_set (i := 7) sc_Hall_shown.nd rfl (Or.inl rfl) (pe_dmeth D_Light_colour_seen T.cLight (hr.mono (by decide)) (pv 6) (pa_cons (pe_fld (pv 0) rfl) (pa_cons (pv 2) (pa_cons (pv 3) pa_nil))))))
    pss_nil)
    (pss_one (ps_if (pt_cmpR op_ne (pv 7) pe_int (nomark _))
    (pss_one (ps_expr (pe_bm PySem.F.plainAttrs_list PySem.F.slot_list_extend PySem.F.type_list_extend mt_extend (pv 4) (pa_cons (pe_lst (pa_cons (pv 5) (pa_cons (pv 7) pa_nil))) pa_nil))))
    pss_nil)))))
    (pss_one (ps_ret (pe_op op_cat (pe_lst (pa_cons (pe_op op_fdiv (pe_callB call_len_seq (by rfl) T.b_len PySem.boot_len (pa_cons (pv 4) pa_nil)) pe_int) pa_nil)) (pv 4)))))), ?_⟩
  have svl := hos.len
  refine q_newL fun l hl => ?_
  have e1 : Ex H (upd H l (.lst [])) := Ex.new hl
  have hS : ∀ {H'}, Ex H H' → SqL K H' sp svs := fun e => sq_of (e _ _ hsp)
  let cols := os.map (seenO st.coasts (x, y))
  refine q_forE (ea_cons (ev_var rfl) ea_nil) (hS e1) (fun i σ' H' => ∃ s5 s6 s7, σ' = [some (.ref a), some (.ref sp), some (.int x), some (.int y), some (.ref l), s5, s6, s7] ∧ Ex H H' ∧ H' l = some (.lst (intsV (flat2 (lit (cols.take i))))))
    (fun H2 e2 => ⟨none, none, none, rfl, e1.trans e2, e2 _ _ upd_same⟩) (fun i σ' H' _ ⟨_, _, _, _, e, _⟩ => hS e) ?_ ?_
  · rintro i v T' σ' H' hi ⟨s5, s6, s7, rfl, e2, hl2⟩ hT
    obtain ⟨o, ho, hor⟩ := each.get hos hi
    have hc : cols[i]? = some (seenO st.coasts (x, y) o) := by show (os.map _)[i]? = _; rw [List.getElem?_map, ho]; rfl
    have e3 : Ex H' (upd H' T' (.tup [.int (i : Nat), v])) := Ex.new hT
    refine g_pair (st_of upd_same) ?_
    generalize hH3 : upd H' T' (.tup [.int (i : Nat), v]) = H3 at e3
    clear hH3
    have e23 := e2.trans e3
    have hiL : i < os.length := (List.getElem?_eq_some_iff.mp ho).1
    have hlit := lit_take hc
    -- what is done with the colour
    have rest : ∀ (n : Nat) (H4 : Hp), n = seenO st.coasts (x, y) o → Ex H3 H4 → ∀ (D : Ends), (∀ (t5 t6 t7 : Option V) (H5 : Hp), Ex H H5 → H5 l = some (.lst (intsV (flat2 (lit (cols.take (i + 1)))))) → D.nx [some (.ref a), some (.ref sp), some (.int x), some (.int y), some (.ref l), t5, t6, t7] H5) →
        tIfS (tTest (tOp rNe (tVar 7) (tC (.int 0)))) (tDrop (tBM K "list" rExtend (tVar 4) (tCons (tLst (tCons (tVar 5) (tCons (tVar 7) tNil))) tNil))) tNext D [some (.ref a), some (.ref sp), some (.int x), some (.int y), some (.ref l), some (.int (i : Nat)), some v, some (.int (n : Nat))] H4 := by
      intro n H4 hn e4 D kD
      subst hn
      have hl4 := e4 _ _ (e3 _ _ hl2)
      refine s_when (et_test (ev_op (ev_var rfl) ev_c (rv_ne rfl))) (fun hb H5 e5 => ?_) (fun hb H5 e5 => ?_)
      · rw [Bool.not_eq_true', decide_eq_false_iff_not, V.int.injEq] at hb
        have hne : (seenO st.coasts (x, y) o != 0) = true := by
          rw [bne_iff_ne]
          exact fun z => hb (by rw [z]; rfl)
        rw [hne, if_pos rfl] at hlit
        refine s_extG (RA := areV [.int (i : Nat), .int (seenO st.coasts (x, y) o : Nat)]) (e5 _ _ hl4) (ev_var rfl) (EvG.weak (el_lst (ea_cons (ev_var rfl) (ea_cons (ev_var rfl) ea_nil)) (Nat.le_of_ble_eq_true rfl)).g fun v G h => isO_isL h) (fun ys G hy => ?_) fun ys H6 e6 hy => ?_
        · cases (show ys = _ from hy)
          have h1 := lit_len (cols.take i)
          rw [List.length_take] at h1
          unfold intsV
          rw [List.length_map, flat2_len]
          show 2 * _ + 2 ≤ _
          omega
        · cases (show ys = _ from hy)
          refine kD _ _ _ _ (Ex.mut (((e23.trans e4).trans e5).trans e6) hl) ?_
          rw [upd_same, hlit, flat2_app]
          unfold intsV
          rw [List.map_append]
          rfl
      · rw [Bool.not_eq_false', decide_eq_true_iff, V.int.injEq] at hb
        have hne : (seenO st.coasts (x, y) o != 0) = false := by
          have : seenO st.coasts (x, y) o = 0 := by omega
          rw [this]
          rfl
        rw [hne, if_neg (by decide), List.append_nil] at hlit
        refine kD _ _ _ _ ((e23.trans e4).trans e5) ?_
        rw [hlit]
        exact e5 _ _ hl4
    have kD : ∀ (t5 t6 t7 : Option V) (H5 : Hp), Ex H H5 → H5 l = some (.lst (intsV (flat2 (lit (cols.take (i + 1)))))) → ∃ s5 s6 s7, [some (V.ref a), some (.ref sp), some (.int x), some (.int y), some (.ref l), t5, t6, t7] = [some (.ref a), some (.ref sp), some (.int x), some (.int y), some (.ref l), s5, s6, s7] ∧ Ex H H5 ∧ H5 l = some (.lst (intsV (flat2 (lit (cols.take (i + 1)))))) := fun t5 t6 t7 H5 h1 h2 => ⟨_, _, _, rfl, h1, h2⟩
    refine q_asg ev_c fun H4 e4 => ?_
    cases o with
    | none =>
      have hv : v = .non := hor
      subst hv
      refine q_when (b := false) (et_test (ev_is (ev_op (z := .bl (!decide (V.non = V.non))) (ev_var rfl) ev_c (rv_val fun H5 e5 Q q => ⟨rfl, q⟩)) (by simp))) (fun z => absurd z (by decide)) (fun _ H5 e5 => rest 0 H5 rfl (e4.trans e5) _ kD)
    | some lg =>
      have hlr : lightR CL lg v H := hor
      obtain ⟨la, dx, pp, sv, rfl, hla, _, _⟩ := id hlr
      have glg := gos _ (List.mem_of_getElem? ho) lg rfl
      refine q_when (b := true) (et_test (ev_is (ev_op (z := .bl (!decide (V.ref la = V.non))) (ev_var rfl) ev_c (rv_val fun H5 e5 Q q => ⟨rfl, q⟩)) (by simp))) (fun _ H5 e5 => ?_) (fun z => absurd z (by decide))
      have e25 := (e23.trans e4).trans e5
      have hh5 := hh.up e25
      refine s_asg (ev_methV (ev_var rfl) (e25 _ _ hla) lgtF_cs (ea_cons (hh5.evC T (ev_var rfl)) (ea_cons (ev_var rfl) (ea_cons (ev_var rfl) ea_nil))) fun H6 e6 => ⟨_, .ref C, lg, st.coasts, x, y, rfl, Mono.up (e25.trans e6) hlr, (hh5.up e6).coasts, glg, hh.good.cs.1, bx, bz, rfl⟩) fun H6 e6 => ?_
      exact rest _ H6 rfl ((e4.trans e5).trans e6) _ kD
  · rintro σ' H' ⟨s5, s6, s7, rfl, e2, hl2⟩
    have hcl : cols.length = svs.length := by show (os.map _).length = _; rw [List.length_map, svl]
    rw [← hcl, List.take_length] at hl2
    have hlen2 : Ev (tOp (rI CDiv fun i j => .int (i / j)) (tCB (fun xs H Q => ∃ p ys, xs = [.ref p] ∧ (SqL K H p ys ∨ SqT K H p ys) ∧ Q (.int ys.length) H) (tCons (tVar 4) tNil)) (tC (.int 2))) [some (.ref a), some (.ref sp), some (.int x), some (.int y), some (.ref l), s5, s6, s7] H' (.int ((lit cols).length : Nat)) := by
      refine ev_is (ev_op (ev_lenS (sq_of hl2) (ev_var rfl)) ev_c (rv_I ⟨by decide, by decide⟩)) ?_
      unfold intsV
      rw [List.length_map, flat2_len]
      congr 1
      omega
    have h1 := lit_len cols
    refine s_retG (eg_cat1 (el_lst (ea_cons hlen2 ea_nil) (Nat.le_of_ble_eq_true rfl)).g (ev_var rfl) hl2 ?_) fun v H6 e6 r => k _ _ (e2.trans e6) ?_
    · unfold intsV
      rw [List.length_map, flat2_len]
      show 1 + 2 * (lit cols).length ≤ 16000000
      omega
    · exact Mono.up (dlt_left e2) r
end
end Bcw

namespace Bcw
open PySem PySem.Spec PyProof.Rows L2 Evl Bcn BnC Bn

/-- return list(WRONG) and its like -/
theorem s_retK {K : PySem.W.Frag} {D : Ends} {σ : L2.St} {H : Hp} {a : Addr} {n : Int} (hs : ∀ H, SqL K H a [.int n]) (k : ∀ v H1, Ex H H1 → isO (.lst (intsV [n])) v (dlt H H1) → D.rt v H1) :
    tRet (tCB (fun xs H Q => ∃ p ys, xs = [.ref p] ∧ (SqL K H p ys ∨ SqT K H p ys) ∧ ∀ l, H l = none → Q (.ref l) (upd H l (.lst ys))) (tCons (tC (.ref a)) tNil)) D σ H :=
  s_retG (eg_list ev_c (hs H)) k
theorem et_place {σ : L2.St} {H : Hp} {ta tb : TE} {E : XK} {x y : Int} (h1 : Ev ta σ H (.int x)) (h2 : Ev tb σ H (.int y)) : EvT (tB (tCall spIsPlace [] E (tCons ta (tCons tb tNil)))) σ H (Wqatdz.isPlace (x, y)) :=
  et_B (ev_callV (ea_cons h1 (ea_cons h2 ea_nil)) fun _ _ => ⟨x, y, rfl, rfl⟩)
theorem each_some {CL : Addr} {ls : List Light} {vs : List V} {G : Hp} (h : each (lightR CL) ls vs G) : each (optR CL) (ls.map some) vs G := each_map.mpr h
section
variable {P : Program} {w : World} {K : PySem.W.Frag} {mg : Str → Option Value} {base : Heap} {CL CH : Addr}
theorem ok_seen {f : Addr} {fd : FuncData} (F : Fun K "seen" "Hall.seen" s_Hall_seen f fd) (T : Txt K mg CL CH) (D_is_place : DefAt P w K mg base "is_place" 1 ["x", "y"] spIsPlace) (D_Hall_shown : MethAt P w K mg base CH "shown" 5 ["self", "some", "x", "y"] (spShown CL CH)) :
    FnOk P w K mg base CX0 6 f fd ["self", "x", "y"] (spSeen CL CH) := by
  refine F.ok sc_Hall_seen (spG_len fun vs H z ⟨_, _, _, _, _, _, _, e, _⟩ => by rw [e]; rfl) (fun cdv A outer s H vs Q E hr h => ?_)
  obtain ⟨R, ⟨a, L, C, G, st, x, y, rfl, hh, rfl⟩, k⟩ := h
  refine ⟨_, (pss_cons (ps_if (pt_not (pt_val (pe_dcall D_is_place (hr.mono (by decide)) (pa_cons (pv 1) (pa_cons (pv 2) pa_nil)))))
    (pss_one (ps_ret (pe_callTy call_list_of (by rfl) T.b_list (by decide +kernel) (pa_cons (pe_gr T.g_WRONG) pa_nil))))
    pss_nil)
    (pss_one (ps_ret (pe_dmeth D_Hall_shown T.cHall (hr.mono (by decide)) (pv 0) (pa_cons (pe_callTy call_list_of (by rfl) T.b_list (by decide +kernel) (pa_cons (pe_fld (pv 0) rfl) pa_nil)) (pa_cons (pv 1) (pa_cons (pv 2) pa_nil))))))), ?_⟩
  have main : Wqatdz.told st (.seen x y) = if Wqatdz.isPlace (x, y) = false then Wqatdz.BAD else Wqatdz.shown (st.lights.map fun (l : Light) => seenFrom st.coasts l (x, y)) := rfl
  refine q_when (et_not (et_place (ev_var rfl) (ev_var rfl))) (fun hb H1 e1 => ?_) (fun hb H1 e1 => ?_)
  · rw [Bool.not_eq_true'] at hb
    rw [main, if_pos hb] at k
    exact s_retK T.s_WRONG fun v H2 e2 r => k _ _ (e1.trans e2) (Mono.up (dlt_left e1) r)
  · rw [Bool.not_eq_false'] at hb
    rw [main, if_neg (by rw [hb]; decide)] at k
    have hh1 := hh.up e1
    obtain ⟨vs, hL, hls⟩ := hh1.li
    obtain ⟨dx, hi⟩ := hh1.ins
    refine s_retG (R := ansR (Wqatdz.shown (st.lights.map fun (l : Light) => seenFrom st.coasts l (x, y)))) (eg_meth (ev_var rfl) hi halF_shown (ega_cons (eg_list (hh1.evL T (ev_var rfl)) (sq_of hL)) (ega_cons (ev_var rfl).g (ega_cons (ev_var rfl).g ega_nil))) fun us H2 e2 q => ?_) fun v H2 e2 r => k _ _ (e1.trans e2) (Mono.up (dlt_left e1) r)
    obtain ⟨sv, _, rfl, ⟨p, rfl, hp⟩, _, _, rfl, q1, _, _, rfl, q2, q3⟩ := q
    cases (show _ = _ from q1)
    cases (show _ = _ from q2)
    cases (show _ = _ from q3)
    have hh2 := hh1.up e2
    refine ⟨a, L, C, G, st, .ref p, st.lights.map some, x, y, rfl, hh2, ⟨p, vs, rfl, hp, each_some (MonoA.up hh2.ex hls)⟩, by rw [List.length_map]; exact hh.good.ls.2, fun o ho l e => ?_, (place_in hb).1, (place_in hb).2, ?_⟩
    · rw [List.mem_map] at ho
      obtain ⟨l', hl', rfl⟩ := ho
      cases Option.some.inj e
      exact hh.good.ls.1 _ hl'
    · rw [List.map_map]
      rfl
theorem ok_at_time {f : Addr} {fd : FuncData} (F : Fun K "at_time" "Hall.at_time" s_Hall_at_time f fd) (T : Txt K mg CL CH) (D_is_place : DefAt P w K mg base "is_place" 1 ["x", "y"] spIsPlace) (D_Light_is_white : MethAt P w K mg base CL "is_white" 2 ["self", "time"] (spIsWhite CL))
    (D_Hall_shown : MethAt P w K mg base CH "shown" 5 ["self", "some", "x", "y"] (spShown CL CH)) : FnOk P w K mg base CX0 6 f fd ["self", "time", "x", "y"] (spAtTime CL CH) := by
  refine F.ok sc_Hall_at_time (spG_len fun vs H z ⟨_, _, _, _, _, _, _, _, e, _⟩ => by rw [e]; rfl) (fun cdv A outer s H vs Q E hr h => ?_)
  obtain ⟨R, ⟨a, L, C, G, st, z, x, y, rfl, hh, hz, rfl⟩, k⟩ := h
  refine ⟨_, (pss_cons (ps_if (PW.pt (pw_or (pt_cmpR op_gt (pv 1) (pe_gi T.c_MOST_TIME) (nomark _)) (pw_or1 (pt_not (pt_val (pe_dcall D_is_place (hr.mono (by decide)) (pa_cons (pv 2) (pa_cons (pv 3) pa_nil))))))))
    (pss_one (ps_ret (pe_callTy call_list_of (by rfl) T.b_list (by decide +kernel) (pa_cons (pe_gr T.g_WRONG) pa_nil))))
    pss_nil)
    (pss_cons (ps_set (i := 4) sc_Hall_at_time.nd rfl (Or.inl rfl) (pe_lst pa_nil))
    (pss_cons (ps_for PassesOwn.never rfl (pi_list (pe_fld (pv 0) rfl))
    (pg_name (i := 5) sc_Hall_at_time.nd rfl (Or.inl rfl))
    (pss_one (ps_if (pt_val (pe_dmeth D_Light_is_white T.cLight (hr.mono (by decide)) (pv 5) (pa_cons (pv 1) pa_nil)))
    (pss_one (ps_expr (pe_bm PySem.F.plainAttrs_list PySem.F.slot_list_append PySem.F.type_list_append mt_append (pv 4) (pa_cons (pv 5) pa_nil))))
    (pss_one (ps_expr (pe_bm PySem.F.plainAttrs_list PySem.F.slot_list_append PySem.F.type_list_append mt_append (pv 4) (pa_cons pe_non pa_nil)))))))
    (pss_one (ps_ret (pe_dmeth D_Hall_shown T.cHall (hr.mono (by decide)) (pv 0) (pa_cons (pv 4) (pa_cons (pv 2) (pa_cons (pv 3) pa_nil))))))))), ?_⟩
  have main : Wqatdz.told st (.at_ z.toNat x y) = if 1000000 < z.toNat ∨ Wqatdz.isPlace (x, y) = false then Wqatdz.BAD else Wqatdz.shown (st.lights.map fun (l : Light) => l.at_ st.coasts (x, y) z.toNat) := rfl
  refine q_when (et_or (et_test (ev_op (ev_var rfl) ev_c rv_I0)) fun _ => et_not (et_place (ev_var rfl) (ev_var rfl))) (fun hb H1 e1 => ?_) (fun hb H1 e1 => ?_)
  · rw [Bool.or_eq_true, decide_eq_true_iff, Bool.not_eq_true'] at hb
    rw [main, if_pos (hb.imp (fun h => by omega) id)] at k
    exact s_retK T.s_WRONG fun v H2 e2 r => k _ _ (e1.trans e2) (Mono.up (dlt_left e1) r)
  · rw [Bool.or_eq_false_iff, decide_eq_false_iff_not, Bool.not_eq_false'] at hb
    rw [main, if_neg (fun h => h.elim (fun h => by omega) (fun h => by rw [hb.2] at h; cases h))] at k
    have hh1 := hh.up e1
    obtain ⟨vs, hL, hls⟩ := hh1.li
    refine q_newL fun l hl => ?_
    have e2 : Ex H1 (upd H1 l (.lst [])) := Ex.new hl
    have e12 := e1.trans e2
    have hh2 := hh1.up e2
    let os : List (Option Light) := st.lights.map fun l => if colourAt l.rhythm z.toNat = 0 then none else some l
    have hLs : ∀ {H'}, Ex H1 H' → SqL K H' L vs := fun e => sq_of (e _ _ hL)
    refine q_forLn (hh2.evL T (ev_var rfl)) (hLs e2) (fun i σ' H' => ∃ t, σ' = [some (.ref a), some (.int z), some (.int x), some (.int y), some (.ref l), t] ∧ Ex H1 H' ∧ ∃ ys, H' l = some (.lst ys) ∧ each (optR CL) (os.take i) ys H1) (fun H3 e3 => ⟨none, rfl, e2.trans e3, [], e3 _ _ upd_same, .nil⟩) (fun i σ' H' _ ⟨_, _, e, _⟩ => hLs e) ?_ ?_
    · rintro i v σ' H' hi ⟨t, rfl, e3, ys, hys, hyr⟩
      obtain ⟨lg, hlg, hlr⟩ := each.get hls hi
      have hlr1 : lightR CL lg v H1 := Mono.up hh1.ex hlr
      obtain ⟨la, dx, pp, sv, rfl, hla, _, _⟩ := id hlr1
      have glg := hh.good.ls.1 lg (List.mem_of_getElem? hlg)
      have hil : i < st.lights.length := (List.getElem?_eq_some_iff.mp hlg).1
      have h24 := hh.good.ls.2
      have hos : os[i]? = some (if colourAt lg.rhythm z.toNat = 0 then none else some lg) := by show (st.lights.map _)[i]? = _; rw [List.getElem?_map, hlg]; rfl
      have yl := hyr.len
      rw [List.length_take] at yl
      have hzz : V.int z = V.int (z.toNat : Nat) := by rw [Int.toNat_of_nonneg hz]
      refine s_if (et_B (ev_methV (vs := [.int z]) (ev_var rfl) (e3 _ _ hla) lgtF_iw (ea_cons (ev_var rfl) ea_nil) fun H4 e4 => ⟨_, lg, z.toNat, by rw [hzz], Mono.up (e3.trans e4) hlr1, glg, rfl⟩)) (fun hb2 H4 e4 => ?_) (fun hb2 H4 e4 => ?_)
      · rw [decide_eq_true_iff] at hb2
        rw [if_neg hb2] at hos
        refine s_app (e4 _ _ hys) (ev_var rfl) (ev_var rfl) (by omega) fun H5 e5 => ⟨_, rfl, Ex.mut ((e3.trans e4).trans e5) hl, _, upd_same, ?_⟩
        rw [take_succ' hos]
        exact each.snoc hyr hlr1
      · rw [decide_eq_false_iff_not, Decidable.not_not] at hb2
        rw [if_pos hb2] at hos
        refine s_app (e4 _ _ hys) (ev_var rfl) ev_c (by omega) fun H5 e5 => ⟨_, rfl, Ex.mut ((e3.trans e4).trans e5) hl, _, upd_same, ?_⟩
        rw [take_succ' hos]
        exact each.snoc hyr rfl
    · rintro σ' H' ⟨t, rfl, e3, ys, hys, hyr⟩
      have hol : os.length = vs.length := by show (st.lights.map _).length = _; rw [List.length_map, hls.len]
      rw [← hol, List.take_length] at hyr
      have hh3 := hh1.up e3
      obtain ⟨dx, hi⟩ := hh3.ins
      refine s_retG (R := ansR (Wqatdz.shown (st.lights.map fun (l : Light) => l.at_ st.coasts (x, y) z.toNat))) (eg_meth (ev_var rfl) hi halF_shown (ea_cons (ev_var rfl) (ea_cons (ev_var rfl) (ea_cons (ev_var rfl) ea_nil))).g fun us H4 e4 q => ?_) fun v H4 e4 r => k _ _ ((e1.trans e3).trans e4) (Mono.up (dlt_left (e1.trans e3)) r)
      cases (show us = _ from q)
      refine ⟨a, L, C, G, st, .ref l, os, x, y, rfl, hh3.up e4, ⟨l, ys, rfl, e4 _ _ hys, MonoA.up (e3.trans e4) hyr⟩, by rw [hol, hls.len]; exact hh.good.ls.2, fun o ho l' e => ?_, (place_in hb.2).1, (place_in hb.2).2, ?_⟩
      · have ho' : o ∈ st.lights.map fun l => if colourAt l.rhythm z.toNat = 0 then none else some l := ho
        rw [List.mem_map] at ho'
        obtain ⟨l'', hl'', rfl⟩ := ho'
        split at e
        · cases e
        · cases Option.some.inj e
          exact hh.good.ls.1 _ hl''
      · have : os.map (seenO st.coasts (x, y)) = st.lights.map fun (l : Light) => l.at_ st.coasts (x, y) z.toNat := by
          show (st.lights.map _).map _ = _
          rw [List.map_map]
          refine List.map_congr_left fun l' _ => ?_
          show seenO st.coasts (x, y) (if colourAt l'.rhythm z.toNat = 0 then none else some l') = l'.at_ st.coasts (x, y) z.toNat
          unfold Light.at_
          split <;> rfl
        rw [this]
theorem ok_rhythm {f : Addr} {fd : FuncData} (F : Fun K "rhythm" "Hall.rhythm" s_Hall_rhythm f fd) (T : Txt K mg CL CH) (D_is_place : DefAt P w K mg base "is_place" 1 ["x", "y"] spIsPlace) (D_Light_colour_seen : MethAt P w K mg base CL "colour_seen" 4 ["self", "coasts", "x", "y"] (spColourSeen CL))
    (D_text_in : DefAt P w K mg base "text_in" 2 ["phases", "colour"] spTextIn) : FnOk P w K mg base CX0 5 f fd ["self", "number", "x", "y"] (spRhythm CL CH) := by
  refine F.ok sc_Hall_rhythm (spG_len fun vs H z ⟨_, _, _, _, _, _, _, _, e, _⟩ => by rw [e]; rfl) (fun cdv A outer s H vs Q E hr h => ?_)
  obtain ⟨R, ⟨a, L, C, G, st, i, x, y, rfl, hh, hi0, rfl⟩, k⟩ := h
  refine ⟨_, (pss_cons (ps_if (pt_not (pt_val (pe_dcall D_is_place (hr.mono (by decide)) (pa_cons (pv 2) (pa_cons (pv 3) pa_nil)))))
    (pss_one (ps_ret (pe_callTy call_list_of (by rfl) T.b_list (by decide +kernel) (pa_cons (pe_gr T.g_WRONG) pa_nil))))
    pss_nil)
    (pss_cons (ps_if (pt_cmpR op_ge (pv 1) (pe_callB call_len_seq (by rfl) T.b_len PySem.boot_len (pa_cons (pe_fld (pv 0) rfl) pa_nil)) (nomark _))
    (pss_one (ps_ret (pe_callTy call_list_of (by rfl) T.b_list (by decide +kernel) (pa_cons (pe_gr T.g_NO_LIGHT) pa_nil))))
    pss_nil)
    (pss_cons (ps_set (i := 4) sc_Hall_rhythm.nd rfl (Or.inl rfl) (pe_dmeth D_Light_colour_seen T.cLight (hr.mono (by decide)) (pe_ix ix_list (pe_fld (pv 0) rfl) (pv 1) (fun _ _ => rfl)) (pa_cons (pe_fld (pv 0) rfl) (pa_cons (pv 2) (pa_cons (pv 3) pa_nil)))))
    (pss_cons (ps_if (pt_cmpR op_eq (pv 4) pe_int (nomark _))
    (pss_one (ps_ret (pe_callTy call_list_of (by rfl) T.b_list (by decide +kernel) (pa_cons (pe_gr T.g_NOT_SEEN) pa_nil))))
    pss_nil)
    (pss_cons (ps_set (i := 5) sc_Hall_rhythm.nd rfl (Or.inl rfl) (pe_dcall D_text_in (hr.mono (by decide)) (pa_cons (pe_fld (pe_ix ix_list (pe_fld (pv 0) rfl) (pv 1) (fun _ _ => rfl)) rfl) (pa_cons (pv 4) pa_nil))))
    (pss_one (ps_ret (pe_op op_cat (pe_lst (pa_cons (pe_callB call_len_seq (by rfl) T.b_len PySem.boot_len (pa_cons (pv 5) pa_nil)) pa_nil)) (pv 5))))))))), ?_⟩
  have main : Wqatdz.told st (.rhythm i.toNat x y) = if Wqatdz.isPlace (x, y) = false then Wqatdz.BAD else (match st.lights[i.toNat]? with
    | none => Wqatdz.NONE
    | some l => match l.rhythmAt st.coasts (x, y) with
      | none => Wqatdz.NO
      | some r => Wqatdz.tells (Wqatdz.int (Rhythm.text r).length) ((Rhythm.text r).map fun (c : UInt8) => Wqatdz.int c.toNat)) := rfl
  refine q_when (et_not (et_place (ev_var rfl) (ev_var rfl))) (fun hb H1 e1 => ?_) (fun hb H1 e1 => ?_)
  · rw [Bool.not_eq_true'] at hb
    rw [main, if_pos hb] at k
    exact s_retK T.s_WRONG fun v H2 e2 r => k _ _ (e1.trans e2) (Mono.up (dlt_left e1) r)
  rw [Bool.not_eq_false'] at hb
  rw [main, if_neg (by rw [hb]; decide)] at k
  have hh1 := hh.up e1
  obtain ⟨vs, hL, hls⟩ := hh1.li
  have vl := hls.len
  refine q_when (et_test (ev_op (ev_var rfl) (ev_lenS (sq_of hL) (hh1.evL T (ev_var rfl))) rv_I0)) (fun hb2 H2 e2 => ?_) (fun hb2 H2 e2 => ?_)
  · rw [decide_eq_true_iff] at hb2
    rw [List.getElem?_eq_none (by omega)] at k
    exact s_retK T.s_NO_LIGHT fun v H3 e3 r => k _ _ ((e1.trans e2).trans e3) (Mono.up (dlt_left (e1.trans e2)) r)
  rw [decide_eq_false_iff_not] at hb2
  obtain ⟨lg, hlg⟩ : ∃ lg, st.lights[i.toNat]? = some lg := ⟨_, List.getElem?_eq_getElem (by omega)⟩
  obtain ⟨lv, hlv, hlr⟩ := each.at hls hlg
  have hlr1 : lightR CL lg lv H1 := Mono.up hh1.ex hlr
  obtain ⟨la, dx, pp, sv, rfl, hla, hph, _⟩ := id hlr1
  have glg := hh.good.ls.1 lg (List.mem_of_getElem? hlg)
  rw [hlg] at k
  have hix : ∀ {σ : L2.St} {H'}, Ex H1 H' → σ[0]? = some (some (V.ref a)) → σ[1]? = some (some (V.int i)) → Ev (tOp (rIxL K) (tFld K (tVar 0) "lights") (tVar 1)) σ H' (.ref la) := fun e h0 h1 => ev_ixl (sq_of (e _ _ hL)) ((hh1.up e).evL T (ev_var h0)) (ev_var h1) (at_of (j := i.toNat) (by omega) hlv)
  refine q_asg (ev_methV (hix e2 rfl rfl) (e2 _ _ hla) lgtF_cs (ea_cons ((hh1.up e2).evC T (ev_var rfl)) (ea_cons (ev_var rfl) (ea_cons (ev_var rfl) ea_nil))) fun H3 e3 => ⟨_, .ref C, lg, st.coasts, x, y, rfl, Mono.up (e2.trans e3) hlr1, (hh1.up (e2.trans e3)).coasts, glg, hh.good.cs.1, (place_in hb).1, (place_in hb).2, rfl⟩) fun H3 e3 => ?_
  have e23 := e2.trans e3
  refine q_when (et_test (ev_op (ev_var rfl) ev_c (rv_eq rfl))) (fun hb3 H4 e4 => ?_) (fun hb3 H4 e4 => ?_)
  · rw [decide_eq_true_iff, V.int.injEq] at hb3
    have h0 : seenFrom st.coasts lg (x, y) = 0 := by omega
    have : lg.rhythmAt st.coasts (x, y) = none := if_pos h0
    rw [show (match (some lg : Option Light) with
      | none => Wqatdz.NONE
      | some l => match l.rhythmAt st.coasts (x, y) with
        | none => Wqatdz.NO
        | some r => Wqatdz.tells (Wqatdz.int (Rhythm.text r).length) ((Rhythm.text r).map fun (c : UInt8) => Wqatdz.int c.toNat)) = Wqatdz.NO by
      show (match lg.rhythmAt st.coasts (x, y) with
        | none => Wqatdz.NO
        | some r => Wqatdz.tells (Wqatdz.int (Rhythm.text r).length) ((Rhythm.text r).map fun (c : UInt8) => Wqatdz.int c.toNat)) = _
      rw [this]] at k
    exact s_retK T.s_NOT_SEEN fun v H5 e5 r => k _ _ (((e1.trans e23).trans e4).trans e5) (Mono.up (dlt_left ((e1.trans e23).trans e4)) r)
  rw [decide_eq_false_iff_not, V.int.injEq] at hb3
  have h0 : seenFrom st.coasts lg (x, y) ≠ 0 := by omega
  have hra : lg.rhythmAt st.coasts (x, y) = some (lg.rhythm.map fun (p : Phase) => (if p.1 = 0 then 0 else seenFrom st.coasts lg (x, y), p.2)) := if_neg h0
  generalize htx : Rhythm.text (lg.rhythm.map fun (p : Phase) => (if p.1 = 0 then 0 else seenFrom st.coasts lg (x, y), p.2)) = tx at *
  rw [show (match (some lg : Option Light) with
      | none => Wqatdz.NONE
      | some l => match l.rhythmAt st.coasts (x, y) with
        | none => Wqatdz.NO
        | some r => Wqatdz.tells (Wqatdz.int (Rhythm.text r).length) ((Rhythm.text r).map fun (c : UInt8) => Wqatdz.int c.toNat)) = Wqatdz.tells (Wqatdz.int tx.length) (tx.map fun (c : UInt8) => Wqatdz.int c.toNat) by
      show (match lg.rhythmAt st.coasts (x, y) with
        | none => Wqatdz.NO
        | some r => Wqatdz.tells (Wqatdz.int (Rhythm.text r).length) ((Rhythm.text r).map fun (c : UInt8) => Wqatdz.int c.toNat)) = _
      rw [hra]
      show Wqatdz.tells (Wqatdz.int (Rhythm.text _).length) ((Rhythm.text _).map fun (c : UInt8) => Wqatdz.int c.toNat) = _
      rw [htx]] at k
  have e24 := e23.trans e4
  have htxt : EvG (tCall spTextIn [] E0 (tCons (tFld K (tOp (rIxL K) (tFld K (tVar 0) "lights") (tVar 1)) "phases") (tCons (tVar 4) tNil))) [some (.ref a), some (.int i), some (.int x), some (.int y), some (.int (seenFrom st.coasts lg (x, y) : Nat)), none] H4 (bytR tx) :=
    eg_call (ea_cons (ev_fld (hix e24 rfl rfl) (e24 _ _ hla) T.cLight T.n_Light_phases lgtF_ph) (ea_cons (ev_var rfl) ea_nil)).g fun us H5 e5 q => by
      cases (show us = _ from q)
      exact ⟨pp, lg.rhythm, seenFrom st.coasts lg (x, y), rfl, Mono.up (e24.trans e5) hph, ⟨glg.ph, glg.phn, glg.phl⟩, by omega, seen_le glg _ _, by rw [htx]⟩
  refine q_asgG htxt fun v H5 e5 ⟨p, ev, hp⟩ => ?_
  subst ev
  have hp5 := dlt_ex _ _ _ _ hp
  have e15 := (e1.trans e24).trans e5
  have txl : tx.length ≤ 20000 := by
    rw [← htx, ← text_eq]
    have := text_len (seenFrom st.coasts lg (x, y)) lg.rhythm [] fun x hx => (glg.ph x hx).2.2
    have := glg.phl
    omega
  refine s_retG (eg_cat1 (el_lst (ea_cons (ev_lenS (sq_of hp5) (ev_var rfl)) ea_nil) (Nat.le_of_ble_eq_true rfl)).g (ev_var rfl) hp5 ?_) fun v H6 e6 r => k _ _ (e15.trans e6) ?_
  · rw [byt_len]
    show 1 + tx.length ≤ _
    omega
  · rw [byt_len] at r
    have hEq : ([V.int ((tx.length : Nat) : Int)] ++ List.map V.int (ofB tx)) = intsV (ansL (Wqatdz.tells (Wqatdz.int tx.length) (tx.map fun (c : UInt8) => Wqatdz.int c.toNat))) := rfl
    rw [hEq] at r
    exact Mono.up (dlt_left e15) r
end
end Bcw

namespace Bcw
open PySem PySem.Spec PyProof.Rows L2 Evl Bcn BnC Bn

theorem et_neNil {K : PySem.W.Frag} {σ : L2.St} {H : Hp} {ta : TE} {RA : List V → Hp → Prop} (ha : EvG ta σ H (isL RA)) (n : Nat) (hn : ∀ vs G, RA vs G → vs.length = n) : EvT (tTest (tOp (rNeNil K) ta (tLst tNil))) σ H (decide (n ≠ 0)) := fun H1 e Q q =>
  ha H1 e _ fun v H2 e2 ⟨p, vs, ev, hp, ra⟩ => ⟨Nat.zero_le _, fun r hr => ⟨p, r, vs, ev, rfl, sq_of (Ex.new hr _ _ (dlt_ex _ _ _ _ hp)), sq_of upd_same, decide (n ≠ 0), by
    have := hn vs _ ra
    cases vs with
    | nil => rw [← this]; rfl
    | cons a b => rw [← this]; rfl, q _ (e2.trans (Ex.new hr))⟩⟩
theorem et_eqNil {K : PySem.W.Frag} {σ : L2.St} {H : Hp} {ta : TE} {p : Addr} {xs : List V} (ha : Ev ta σ H (.ref p)) (h : SqL K H p xs) : EvT (tTest (tOp (rEqNil K) ta (tLst tNil))) σ H xs.isEmpty := fun H1 e Q q =>
  ha H1 e _ fun H2 e2 => ⟨Nat.zero_le _, fun r hr => ⟨p, r, xs, rfl, rfl, ex_l (e.trans (e2.trans (Ex.new hr))) h, sq_of upd_same, _, rfl, q _ (e2.trans (Ex.new hr))⟩⟩
def spFault (CL CH : Addr) : Sp := spV fun vs H z => ∃ (a L C : Addr) (G : Hp) (s : Wqatdz.State) (fv tv : V) (x y u v : Int) (t : List Int), vs = [.ref a, fv, tv] ∧ HallAt CL CH G H a L C s ∧ isO (.lst [.int x, .int y, .int u, .int v]) fv H ∧ isO (.lst (intsV t)) tv H ∧ t.length ≤ 4000 ∧ z = .int (faultI s x y u v t)
theorem any_iff {α : Type} {l : List α} {f : α → Bool} : (l.filter f).length ≠ 0 ↔ l.any f = true := by
  rw [Ne, List.length_eq_zero_iff, List.filter_eq_nil_iff, List.any_eq_true]
  constructor
  · intro h
    by_cases c : ∃ x, x ∈ l ∧ f x = true
    · exact c
    · exact absurd (fun a ha hf => c ⟨a, ha, hf⟩) h
  · rintro ⟨x, h1, h2⟩ h
    exact h x h1 h2

section
variable {P : Program} {w : World} {K : PySem.W.Frag} {mg : Str → Option Value} {base : Heap} {CL CH : Addr}
theorem ok_field_fault {f : Addr} {fd : FuncData} (F : Fun K "field_fault" "Hall.field_fault" s_Hall_field_fault f fd) (T : Txt K mg CL CH) (D_is_place : DefAt P w K mg base "is_place" 1 ["x", "y"] spIsPlace) (D_pairs_of : DefAt P w K mg base "pairs_of" 1 ["told"] spPairs) :
    FnOk P w K mg base CX0 2 f fd ["self", "field", "told"] (spFault CL CH) := by
  refine F.ok sc_Hall_field_fault (spV_len fun vs H z ⟨_, _, _, _, _, _, _, _, _, _, _, _, e, _⟩ => by rw [e]; rfl) (fun cdv A outer s H vs Q E hr h => ?_)
  obtain ⟨R, ⟨z, ⟨a, L, C, G, st, _, _, x, y, u, v, t, rfl, hh, ⟨fp, rfl, hf⟩, ⟨tp, rfl, ht⟩, htl, rfl⟩, rfl⟩, k⟩ := h
  refine ⟨_, (pss_cons (ps_asg (pv 1) (pg_lst rfl (pgs_cons (pg_name (i := 3) sc_Hall_field_fault.nd rfl (Or.inl rfl)) (pgs_cons (pg_name (i := 4) sc_Hall_field_fault.nd rfl (Or.inl rfl)) (pgs_cons (pg_name (i := 5) sc_Hall_field_fault.nd rfl (Or.inl rfl)) (pgs_cons (pg_name (i := 6) sc_Hall_field_fault.nd rfl (Or.inl rfl)) pgs_nil))))))
    (pss_cons (ps_if (PW.pt (pw_or (pt_not (pt_val (pe_dcall D_is_place (hr.mono (by decide)) (pa_cons (pv 3) (pa_cons (pv 4) pa_nil))))) (pw_or (pt_not (pt_val (pe_dcall D_is_place (hr.mono (by decide)) (pa_cons (pv 5) (pa_cons (pv 6) pa_nil))))) (pw_or (pt_cmpR op_lt (pv 5) (pv 3) (nomark _)) (pw_or1 (pt_cmpR op_lt (pv 6) (pv 4) (nomark _)))))))
    (pss_one (ps_ret (pe_un un_neg pe_int)))
    pss_nil)
    (pss_cons (ps_if (PW.pt (pw_or (pt_cmpR op_gt (pe_op op_mul (pe_op op_add (pe_op op_sub (pv 5) (pv 3)) pe_int) (pe_op op_add (pe_op op_sub (pv 6) (pv 4)) pe_int)) (pe_gi T.c_MOST_PLACES) (nomark _)) (pw_or (pt_cmpR op_ne (pe_op op_modN (pe_callB call_len_seq (by rfl) T.b_len PySem.boot_len (pa_cons (pv 2) pa_nil)) pe_int) pe_int (nomark _)) (pw_or1 (pt_cmpR op_gt (pe_callB call_len_seq (by rfl) T.b_len PySem.boot_len (pa_cons (pv 2) pa_nil)) (pe_op op_mul pe_int (pe_gi T.c_MOST_LIGHTS)) (nomark _))))))
    (pss_one (ps_ret (pe_un un_neg pe_int)))
    pss_nil)
    (pss_cons (ps_set (i := 7) sc_Hall_field_fault.nd rfl (Or.inl rfl) (pe_dcall D_pairs_of (hr.mono (by decide)) (pa_cons (pv 2) pa_nil)))
    (pss_cons (ps_if (pt_cmpR (op_neNil hr.units) (pe_lc (own := [("number", 8), ("colour", 9)]) (g := (gTup K 2 (gCons (gName 8) (gCons (gName 9) gNil)))) rfl sc_Hall_field_fault.nd (pi_list (pv 7)) (blkOk_by (own := [("number", 8), ("colour", 9)]) (N := ["self", "field", "told", "x", "y", "u", "v", "pairs", "number", "colour"]) (sc := defScope s_Hall_field_fault) (by decide +kernel)) (fun _ _ _ _ _ => (pg_tup rfl (pgs_cons (pg_name (i := 8) sc_Hall_field_fault.nd rfl (Or.inl rfl)) (pgs_cons (pg_name (i := 9) sc_Hall_field_fault.nd rfl (Or.inl rfl)) pgs_nil)))) (fun _ _ _ _ _ => pts_one (pt_cmpR op_gt (pv 9) (pe_gi T.c_MOST_COLOUR) (nomark _))) (fun _ _ _ _ _ => (pv 9))) (pe_lst pa_nil) (nomark _))
    (pss_one (ps_ret (pe_un un_neg pe_int)))
    pss_nil)
    (pss_cons (ps_if (pt_cmpR (op_neNil hr.units) (pe_lc (own := [("number", 8), ("colour", 9)]) (g := (gTup K 2 (gCons (gName 8) (gCons (gName 9) gNil)))) rfl sc_Hall_field_fault.nd (pi_list (pv 7)) (blkOk_by (own := [("number", 8), ("colour", 9)]) (N := ["self", "field", "told", "x", "y", "u", "v", "pairs", "number", "colour"]) (sc := defScope s_Hall_field_fault) (by decide +kernel)) (fun _ _ _ _ _ => (pg_tup rfl (pgs_cons (pg_name (i := 8) sc_Hall_field_fault.nd rfl (Or.inl rfl)) (pgs_cons (pg_name (i := 9) sc_Hall_field_fault.nd rfl (Or.inl rfl)) pgs_nil)))) (fun _ _ _ _ _ => pts_one (pt_cmpR op_ge (pv 8) (pe_callB (call_len_seqK (K := K) rfl) (by rfl) T.b_len PySem.boot_len (pa_cons (pe_fldK (K := K) rfl (pv 0) rfl) pa_nil)) (nomark _))) (fun _ _ _ _ _ => (pv 8))) (pe_lst pa_nil) (nomark _))
    (pss_one (ps_ret (pe_un un_neg pe_int)))
    pss_nil)
    (pss_one (ps_ret pe_int)))))))), ?_⟩
  refine q_asgLs (ev_var rfl) (sq_of hf) rfl fun H1 e1 => g_four ?_
  have neg1 : ∀ {H'} {σ : L2.St}, Ex H H' → faultI st x y u v t = -1 → tRet (tUn (rU fun i => .int (-i)) (tC (.int 1))) { nx := fun _ H' => Q .non H', rt := Q } σ H' := fun e h => s_ret (ev_un ev_c ru_neg) fun H2 e2 => k _ _ (e.trans e2) (by rw [h]; rfl)
  refine q_when (et_or (et_not (et_place (ev_var rfl) (ev_var rfl))) fun _ => et_or (et_not (et_place (ev_var rfl) (ev_var rfl))) fun _ => et_or (et_test (ev_op (ev_var rfl) (ev_var rfl) rv_I0)) fun _ => et_test (ev_op (ev_var rfl) (ev_var rfl) rv_I0)) (fun hb H2 e2 => ?_) (fun hb H2 e2 => ?_)
  · refine neg1 (e1.trans e2) ?_
    rw [Bool.or_eq_true, Bool.or_eq_true, Bool.or_eq_true, Bool.not_eq_true', Bool.not_eq_true', decide_eq_true_iff, decide_eq_true_iff] at hb
    unfold faultI
    rw [if_pos hb]
  rw [Bool.or_eq_false_iff, Bool.or_eq_false_iff, Bool.or_eq_false_iff, Bool.not_eq_false', Bool.not_eq_false', decide_eq_false_iff_not, decide_eq_false_iff_not] at hb
  obtain ⟨b1, b2, b3, b4⟩ := hb
  have c1 : ¬ (Wqatdz.isPlace (x, y) = false ∨ Wqatdz.isPlace (u, v) = false ∨ u < x ∨ v < y) := by
    rw [b1, b2]
    rintro (z | z | z | z)
    · cases z
    · cases z
    · exact b3 z
    · exact b4 z
  obtain ⟨p1, p2⟩ := (place_iff x y).mp b1
  obtain ⟨p3, p4⟩ := (place_iff u v).mp b2
  have e12 := e1.trans e2
  have tl : ((intsV t).length : Int) = (t.length : Int) := by unfold intsV; rw [List.length_map]
  have hmod : ((intsV t).length : Int).fmod 2 = ((t.length % 2 : Nat) : Int) := by
    rw [tl, Int.fmod_eq_emod_of_nonneg _ (by decide)]
    omega
  refine q_when (et_or (et_test (ev_op (ev_op (ev_op (ev_op (ev_var rfl) (ev_var rfl) rv_I0) ev_c rv_I0) (ev_op (ev_op (ev_var rfl) (ev_var rfl) rv_I0) ev_c rv_I0) (rv_I (.inl ⟨by omega, by omega⟩))) ev_c rv_I0)) fun _ => et_or (et_test (ev_op (ev_op (ev_lenS (sq_of (e12 _ _ ht)) (ev_var rfl)) ev_c (rv_mod (by decide))) ev_c (rv_ne rfl))) fun _ => et_test (ev_op (ev_lenS (sq_of (e12 _ _ ht)) (ev_var rfl)) (ev_op ev_c ev_c (rv_I (.inl ⟨by decide, by decide⟩))) rv_I0)) (fun hb H3 e3 => ?_) (fun hb H3 e3 => ?_)
  · refine neg1 (e12.trans e3) ?_
    rw [hmod, tl, Bool.or_eq_true, Bool.or_eq_true, decide_eq_true_iff, Bool.not_eq_true', decide_eq_false_iff_not, decide_eq_true_iff, V.int.injEq] at hb
    unfold faultI
    rw [if_neg c1, if_pos (hb.imp id (Or.imp (fun h => by omega) (fun h => by omega)))]
  rw [hmod, tl, Bool.or_eq_false_iff, Bool.or_eq_false_iff, decide_eq_false_iff_not, Bool.not_eq_false', decide_eq_true_iff, decide_eq_false_iff_not, V.int.injEq] at hb
  obtain ⟨b5, b6, b7⟩ := hb
  have c2 : ¬ (1024 < (u - x + 1) * (v - y + 1) ∨ t.length % 2 ≠ 0 ∨ 48 < t.length) := by
    rintro (z | z | z)
    · exact b5 z
    · omega
    · omega
  have e13 := e12.trans e3
  have hpr : EvG (tCall spPairs [] E0 (tCons (tVar 2) tNil)) [some (.ref a), some (.ref fp), some (.ref tp), some (.int x), some (.int y), some (.int u), some (.int v), none, none, none] H3 (isL (each pairI (pairsI t))) :=
    eg_call (ea_cons (ev_var rfl) ea_nil).g fun us H4 e4 q => by
      cases (show us = _ from q)
      exact ⟨.ref tp, t, rfl, ⟨tp, rfl, e4 _ _ (e13 _ _ ht)⟩, htl, rfl⟩
  refine q_asgG hpr fun pv H4 e4 ⟨pp, pvs, epv, hpp, hps⟩ => ?_
  subst epv
  have e14 := e13.trans e4
  have hpp4 := dlt_ex _ _ _ _ hpp
  have hps4 : each pairI (pairsI t) pvs H4 := MonoA.up (dlt_ex _ _) hps
  have ppl := pairsI_len t
  have psl := hps4.len
  -- a comprehension over the pairs
  have comp : ∀ {H' : Hp} {tt : TT} {te : TE} (fb : Int × Int → Bool) (fe : Int × Int → Int), Ex H4 H' → (∀ (pr : Int × Int) (H5 : Hp), Ex H' H5 → EvT tt [some (.ref a), some (.ref fp), some (.ref tp), some (.int x), some (.int y), some (.int u), some (.int v), some (.ref pp), some (.int pr.1), some (.int pr.2)] H5 (fb pr)) →
      (∀ (pr : Int × Int) (H5 : Hp), Ev te [some (.ref a), some (.ref fp), some (.ref tp), some (.int x), some (.int y), some (.int u), some (.int v), some (.ref pp), some (.int pr.1), some (.int pr.2)] H5 (.int (fe pr))) →
      EvG (tLc (iList K (tVar 7)) (gTup K 2 (gCons (gName 8) (gCons (gName 9) gNil))) tt te [8, 9]) [some (.ref a), some (.ref fp), some (.ref tp), some (.int x), some (.int y), some (.int u), some (.int v), some (.ref pp), none, none] H' (isL (each (fun i => isV (.int i)) (((pairsI t).filter fb).map fe))) := by
    intro H' tt te fb fe e ht2 he2
    have q := eg_lc (R := fun i => isV (.int i)) (σ := [some (.ref a), some (.ref fp), some (.ref tp), some (.int x), some (.int y), some (.int u), some (.int v), some (.ref pp), none, none]) (H := H') (g := gTup K 2 (gCons (gName 8) (gCons (gName 9) gNil))) (tt := tt) (te := te) (vs := [8, 9])
      (ei_list (K := K) (tl := tVar 7) (ev_var rfl) (sq_of (e _ _ hpp4))) (fun n => (((pairsI t).take n).filter fb).map fe) (pairsI t).length (fun m src H1 h => by rw [h.1, psl]) rfl (by omega)
      (fun src H5 n z H6 e5 ph hn hz e6 => by
        obtain ⟨_, rfl⟩ := ph
        obtain ⟨pr, hpr, hprr⟩ := each.get hps4 hz
        obtain ⟨q, rfl, hq⟩ := (Mono.up ((e.trans e5).trans e6) hprr : pairI pr z H6)
        have htt := ht2 pr H6 (e5.trans e6)
        refine ⟨_, fun Q q => g_pair (st_of hq) q, rfl, ?_⟩
        rw [take_succ' hpr, List.filter_append, List.map_append]
        cases ef : fb pr with
        | true =>
          rw [ef] at htt
          refine .inl ⟨fe pr, htt, (he2 pr H6).g, ?_⟩
          rw [List.filter_cons, if_pos ef]
          rfl
        | false =>
          rw [ef] at htt
          refine .inr ⟨htt, ?_⟩
          rw [List.filter_cons, if_neg (by rw [ef]; decide)]
          simp)
    rw [List.take_length] at q
    exact q
  refine q_when (et_neNil (comp (fun p => decide (4 < p.2)) (fun p => p.2) (Ex.refl H4) (fun pr H5 e5 => et_test (ev_op (ev_var rfl) ev_c rv_I0)) (fun pr H5 => ev_var rfl)) _ (fun vs G h => h.len)) (fun hb H5 e5 => ?_) (fun hb H5 e5 => ?_)
  · refine neg1 (e14.trans e5) ?_
    rw [decide_eq_true_iff, List.length_map, any_iff] at hb
    unfold faultI
    rw [if_neg c1, if_neg c2, if_pos hb]
  rw [decide_eq_false_iff_not, List.length_map, any_iff, Bool.not_eq_true] at hb
  have c3 : ¬ ((pairsI t).any fun p => decide (4 < p.2)) = true := by rw [hb]; decide
  have hh5 := hh.up (e14.trans e5)
  obtain ⟨lvs, hL, hls⟩ := hh5.li
  have lvl := hls.len
  refine q_when (et_neNil (comp (fun p => decide ((st.lights.length : Int) ≤ p.1)) (fun p => p.1) e5 (fun pr H6 e6 => by
      have hh6 := hh5.up e6
      have q := et_test (ev_op (r := rI0 fun i j => .bl (decide (j ≤ i))) (ev_var (σ := [some (.ref a), some (.ref fp), some (.ref tp), some (.int x), some (.int y), some (.int u), some (.int v), some (.ref pp), some (.int pr.1), some (.int pr.2)]) (H := H6) (i := 8) rfl) (ev_lenS (K := K) (sq_of (e6 _ _ hL)) (hh6.evL T (ev_var (i := 0) rfl))) rv_I0)
      rw [lvl] at q
      exact q) (fun pr H6 => ev_var rfl)) _ (fun vs G h => h.len)) (fun hb2 H6 e6 => ?_) (fun hb2 H6 e6 => ?_)
  · rw [decide_eq_true_iff, List.length_map, any_iff] at hb2
    refine s_ret (ev_un ev_c ru_neg) fun H7 e7 => k _ _ (((e14.trans e5).trans e6).trans e7) ?_
    unfold faultI
    rw [if_neg c1, if_neg c2, if_neg c3, if_pos hb2]
    rfl
  · rw [decide_eq_false_iff_not, List.length_map, any_iff] at hb2
    refine s_ret ev_c fun H7 e7 => k _ _ (((e14.trans e5).trans e6).trans e7) ?_
    unfold faultI
    rw [if_neg c1, if_neg c2, if_neg c3, if_neg hb2]
    rfl
end
end Bcw

namespace Bcw
open PySem PySem.Spec PyProof.Rows L2 Evl Bcn BnC Bn

def FieldArgs (vs : List V) (H : Hp) (a : Addr) (x y u v : Int) (t : List Int) : Prop := ∃ fv tv : V, vs = [.ref a, fv, tv] ∧ isO (.lst [.int x, .int y, .int u, .int v]) fv H ∧ isO (.lst (intsV t)) tv H ∧ t.length ≤ 4000 ∧ ∀ z ∈ t, 0 ≤ z
def spWhere (CL CH : Addr) : Sp := spG fun vs H R => ∃ (a L C : Addr) (G : Hp) (s : Wqatdz.State) (x y u v : Int) (t : List Int), FieldArgs vs H a x y u v t ∧ HallAt CL CH G H a L C s ∧ R = ansR (Wqatdz.told s (.where_ x y u v (t.map Int.toNat)))
def spTell (CL CH : Addr) : Sp := spG fun vs H R => ∃ (a L C : Addr) (G : Hp) (s : Wqatdz.State) (x y u v : Int) (t : List Int), FieldArgs vs H a x y u v t ∧ HallAt CL CH G H a L C s ∧ R = ansR (Wqatdz.told s (.tell x y u v (t.map Int.toNat)))
def spTrack (CL CH : Addr) : Sp := spG fun vs H R => ∃ (a L C : Addr) (G : Hp) (s : Wqatdz.State) (nv : V) (x y u v n : Int), vs = [.ref a, nv] ∧ isO (.lst [.int x, .int y, .int u, .int v, .int n]) nv H ∧ HallAt CL CH G H a L C s ∧ 0 ≤ n ∧ R = ansR (Wqatdz.told s (.track x y u v n.toNat))
theorem field_len3 {vs : List V} {H : Hp} {a : Addr} {x y u v : Int} {t : List Int} (h : FieldArgs vs H a x y u v t) : vs.length = 3 := by
  obtain ⟨_, _, e, _⟩ := h
  rw [e]
  rfl
theorem good_field {x y u v : Int} (h1 : Wqatdz.isPlace (x, y) = true) (h2 : Wqatdz.isPlace (u, v) = true) (h3 : x ≤ u) (h4 : y ≤ v) (h5 : (u - x + 1) * (v - y + 1) ≤ 1024) : GoodF x y u v :=
  ⟨(place_in h1).1, (place_in h1).2, (place_in h2).1, (place_in h2).2, h3, h4, h5⟩
/-- places_told of the hall, as where and tell call it -/
theorem eg_told {K : PySem.W.Frag} {mg : Str → Option Value} {CL CH : Addr} (T : Txt K mg CL CH) {G H : Hp} {a L C fp tp : Addr} {s : Wqatdz.State} {s3 s4 : Option V} {x y u v : Int} {t : List Int} {w : Told} (hh : HallAt CL CH G H a L C s) (hf : H fp = some (.lst [.int x, .int y, .int u, .int v])) (ht : H tp = some (.lst (intsV t))) (htl : t.length ≤ 4000)
    (hw : pairsI t = w.map encT) (hw24 : w.length ≤ 24) (hwn : ∀ p ∈ w, p.1 < s.lights.length) (gf : GoodF x y u v) :
    EvG (tCall (spPlacesTold CL) [] E0 (tCons (tFld K (tVar 0) "lights") (tCons (tFld K (tVar 0) "coasts") (tCons (tVar 1) (tCons (tCall spPairs [] E0 (tCons (tVar 2) tNil)) tNil))))) [some (.ref a), some (.ref fp), some (.ref tp), s3, s4] H (pointsR (wheres s.coasts s.lights w (x, y) (u, v))) := by
  have hpr : EvG (tCall spPairs [] E0 (tCons (tVar 2) tNil)) [some (V.ref a), some (.ref fp), some (.ref tp), s3, s4] H (isL (each pairI (pairsI t))) :=
    eg_call (ea_cons (ev_var rfl) ea_nil).g fun us H4 e4 q => by
      cases (show us = _ from q)
      exact ⟨.ref tp, t, rfl, ⟨tp, rfl, e4 _ _ ht⟩, htl, rfl⟩
  refine eg_call (ega_cons (hh.evL T (ev_var rfl)).g (ega_cons (hh.evC T (ev_var rfl)).g (ega_cons (ev_var rfl).g (ega_cons hpr ega_nil)))) fun us H1 e1 q => ?_
  obtain ⟨_, _, rfl, q1, _, _, rfl, q2, _, _, rfl, q3, pv', _, rfl, q4, q5⟩ := q
  cases (show _ = _ from q1)
  cases (show _ = _ from q2)
  cases (show _ = _ from q3)
  cases (show _ = _ from q5)
  have hh1 := hh.up e1
  obtain ⟨pp, pvs, epv, hpp, hps⟩ := q4
  subst epv
  rw [hw] at hps
  exact ⟨.ref L, .ref C, .ref fp, .ref pp, s.lights, s.coasts, w, x, y, u, v, rfl, hh1.lights, hh1.coasts, ⟨pp, pvs, rfl, hpp, (each_map (R := pairI) (f := encT)).mp hps⟩, ⟨fp, rfl, e1 _ _ hf⟩, gf, hh.good.ls, hh.good.cs, ⟨hwn, hw24⟩, rfl⟩
theorem wheres_in {cs : List Coast} {ls : List Light} {w : Told} {x y u v : Int} (gf : GoodF x y u v) : (∀ p ∈ wheres cs ls w (x, y) (u, v), InF p.1 ∧ InF p.2) ∧ (wheres cs ls w (x, y) (u, v)).length ≤ 1024 := by
  refine ⟨fun p hp => ?_, ?_⟩
  · have := mem_field (List.mem_filter.mp hp).1
    obtain ⟨⟨_, _⟩, ⟨_, _⟩, ⟨_, _⟩, ⟨_, _⟩, _, _, _⟩ := gf
    exact ⟨⟨by omega, by omega⟩, ⟨by omega, by omega⟩⟩
  · exact Nat.le_trans (List.length_filter_le _ _) gf.len

section
variable {P : Program} {w : World} {K : PySem.W.Frag} {mg : Str → Option Value} {base : Heap} {CL CH : Addr}
theorem ok_where {f : Addr} {fd : FuncData} (F : Fun K "where" "Hall.where" s_Hall_where f fd) (T : Txt K mg CL CH) (D_Hall_field_fault : MethAt P w K mg base CH "field_fault" 2 ["self", "field", "told"] (spFault CL CH)) (D_pairs_of : DefAt P w K mg base "pairs_of" 1 ["told"] spPairs)
    (D_places_told : DefAt P w K mg base "places_told" 6 ["lights", "coasts", "field", "told"] (spPlacesTold CL)) : FnOk P w K mg base CX0 7 f fd ["self", "field", "told"] (spWhere CL CH) := by
  refine F.ok sc_Hall_where (spG_len fun vs H z ⟨_, _, _, _, _, _, _, _, _, _, e, _⟩ => field_len3 e) (fun cdv A outer s H vs Q E hr h => ?_)
  obtain ⟨R, ⟨a, L, C, G, st, x, y, u, v, t, ⟨_, _, rfl, ⟨fp, rfl, hf⟩, ⟨tp, rfl, ht⟩, htl, htz⟩, hh, rfl⟩, k⟩ := h
  refine ⟨_, (pss_cons (ps_set (i := 3) sc_Hall_where.nd rfl (Or.inl rfl) (pe_dmeth D_Hall_field_fault T.cHall (hr.mono (by decide)) (pv 0) (pa_cons (pv 1) (pa_cons (pv 2) pa_nil))))
    (pss_cons (ps_if (pt_cmpR op_lt (pv 3) pe_int (nomark _))
    (pss_one (ps_ret (pe_lst (pa_cons (pv 3) pa_nil))))
    pss_nil)
    (pss_cons (ps_set (i := 4) sc_Hall_where.nd rfl (Or.inl rfl) (pe_dcall D_places_told (hr.mono (by decide)) (pa_cons (pe_fld (pv 0) rfl) (pa_cons (pe_fld (pv 0) rfl) (pa_cons (pv 1) (pa_cons (pe_dcall D_pairs_of (hr.mono (by decide)) (pa_cons (pv 2) pa_nil)) pa_nil))))))
    (pss_cons (ps_if (pt_cmpR (op_eqNil hr.units) (pv 4) (pe_lst pa_nil) (nomark _))
    (pss_one (ps_ret (pe_lst (pa_cons pe_int pa_nil))))
    pss_nil)
    (pss_one (ps_ret (pe_op op_cat (pe_op op_cat (pe_lst (pa_cons (pe_callB call_len_seq (by rfl) T.b_len PySem.boot_len (pa_cons (pv 4) pa_nil)) pa_nil)) (pe_callTy call_list_of (by rfl) T.b_list (by decide +kernel) (pa_cons (pe_ix ix_list (pv 4) pe_int (fun _ _ => rfl)) pa_nil))) (pe_callTy call_list_of (by rfl) T.b_list (by decide +kernel) (pa_cons (pe_ix ix_list (pv 4) (pe_un un_neg pe_int) (fun _ _ => rfl)) pa_nil))))))))), ?_⟩
  obtain ⟨dx, hi⟩ := hh.ins
  refine q_asg (ev_methV (ev_var rfl) hi halF_ff (ea_cons (ev_var rfl) (ea_cons (ev_var rfl) ea_nil)) fun H1 e1 => ⟨a, L, C, G, st, .ref fp, .ref tp, x, y, u, v, t, rfl, hh.up e1, ⟨fp, rfl, e1 _ _ hf⟩, ⟨tp, rfl, e1 _ _ ht⟩, htl, rfl⟩) fun H1 e1 => ?_
  let fl : Told → Wqatdz.Ans := fun w => let l := wheres st.coasts st.lights w (x, y) (u, v)
    Wqatdz.tells (Wqatdz.int l.length) (match l.head?, l.getLast? with
      | some a, some b => [a.1, a.2, b.1, b.2]
      | _, _ => [])
  have main : Wqatdz.told st (.where_ x y u v (t.map Int.toNat)) = Wqatdz.ofField st (x, y) (u, v) (t.map Int.toNat) fl := rfl
  rw [main] at k
  rcases ofField_eq (s := st) (x := x) (y := y) (u := u) (v := v) htz fl with ⟨hf1, hf2⟩ | ⟨hf1, hf2⟩ | ⟨hf1, wt, hw, hw24, hwn, q1, q2, q3, q4, q5, hf2⟩
  · rw [hf2] at k
    rw [hf1]
    refine q_when (b := true) (et_test (ev_op (ev_var rfl) ev_c rv_I0)) (fun _ H2 e2 => ?_) (fun z => absurd z (by decide))
    exact s_retG (el_lst (ea_cons (ev_var rfl) ea_nil) (Nat.le_of_ble_eq_true rfl)).g fun v H3 e3 r => k _ _ ((e1.trans e2).trans e3) (Mono.up (dlt_left (e1.trans e2)) r)
  · rw [hf2] at k
    rw [hf1]
    refine q_when (b := true) (et_test (ev_op (ev_var rfl) ev_c rv_I0)) (fun _ H2 e2 => ?_) (fun z => absurd z (by decide))
    exact s_retG (el_lst (ea_cons (ev_var rfl) ea_nil) (Nat.le_of_ble_eq_true rfl)).g fun v H3 e3 r => k _ _ ((e1.trans e2).trans e3) (Mono.up (dlt_left (e1.trans e2)) r)
  rw [hf2] at k
  rw [hf1]
  have gf := good_field q1 q2 q3 q4 q5
  refine q_when (b := false) (et_test (ev_op (ev_var rfl) ev_c rv_I0)) (fun z => absurd z (by decide)) (fun _ H2 e2 => ?_)
  have e12 := e1.trans e2
  have hh2 := hh.up e12
  refine q_asgG (eg_told T hh2 (e12 _ _ hf) (e12 _ _ ht) htl hw hw24 hwn gf) fun pv H3 e3 ⟨pp, pvs, epv, hpp, hps⟩ => ?_
  subst epv
  have hpp3 := dlt_ex _ _ _ _ hpp
  have hps3 : each pairI (wheres st.coasts st.lights wt (x, y) (u, v)) pvs H3 := MonoA.up (dlt_ex _ _) hps
  have psl := hps3.len
  have e13 := e12.trans e3
  generalize hl : wheres st.coasts st.lights wt (x, y) (u, v) = l at *
  have k' : ∀ v H', Ex H H' → ansR (Wqatdz.tells (Wqatdz.int l.length) (match l.head?, l.getLast? with
      | some a, some b => [a.1, a.2, b.1, b.2]
      | _, _ => [])) v (dlt H H') → Q v H' := by
    rw [← hl]
    exact k
  have llen : l.length ≤ 1024 := by rw [← hl]; exact (wheres_in gf).2
  refine q_when (et_eqNil (ev_var rfl) (sq_of hpp3)) (fun hb H4 e4 => ?_) (fun hb H4 e4 => ?_)
  · have ln : l = [] := by
      cases pvs with
      | nil => exact List.length_eq_zero_iff.mp psl.symm
      | cons a b => cases hb
    rw [ln] at k'
    exact s_retG (el_lst (ea_cons ev_c ea_nil) (Nat.le_of_ble_eq_true rfl)).g fun v H5 e5 r => k' _ _ ((e13.trans e4).trans e5) (Mono.up (dlt_left (e13.trans e4)) r)
  · have ln : l ≠ [] := fun z => by
      rw [z] at psl
      rw [List.length_eq_zero_iff.mp psl] at hb
      cases hb
    obtain ⟨p1, l', el⟩ := List.exists_cons_of_ne_nil ln
    obtain ⟨p2, hlast⟩ : ∃ p2, l.getLast? = some p2 := ⟨l.getLast ln, List.getLast?_eq_some_getLast ln⟩
    have h1 : l[0]? = some p1 := by rw [el]; rfl
    have h1' : l.head? = some p1 := by rw [el]; rfl
    rw [h1', hlast] at k'
    obtain ⟨v1, hv1, r1⟩ := each.at hps3 h1
    obtain ⟨v2, hv2, r2⟩ := each.last hps3 hlast
    obtain ⟨a1, rfl, ha1⟩ := r1
    obtain ⟨a2, rfl, ha2⟩ := r2
    have hpp4 := e4 _ _ hpp3
    refine s_retG (eg_cat2 (eg_cat2 (el_lst (ea_cons (ev_lenS (sq_of hpp4) (ev_var rfl)) ea_nil) (Nat.le_of_ble_eq_true rfl)).g (eg_listT (ev_ixl (sq_of hpp4) (ev_var rfl) ev_c (at_of (j := 0) rfl hv1)) (st_of (e4 _ _ ha1))) ?_) (eg_listT (ev_ixl (sq_of hpp4) (ev_var rfl) (ev_un ev_c ru_neg) (atI_neg1 hv2)) (st_of (e4 _ _ ha2))) ?_) fun v H5 e5 r => k' _ _ ((e13.trans e4).trans e5) ?_
    · exact Nat.le_of_ble_eq_true rfl
    · exact Nat.le_of_ble_eq_true rfl
    · rw [psl] at r
      exact Mono.up (dlt_left (e13.trans e4)) r
theorem ok_tell {f : Addr} {fd : FuncData} (F : Fun K "tell" "Hall.tell" s_Hall_tell f fd) (T : Txt K mg CL CH) (D_Hall_field_fault : MethAt P w K mg base CH "field_fault" 2 ["self", "field", "told"] (spFault CL CH)) (D_pairs_of : DefAt P w K mg base "pairs_of" 1 ["told"] spPairs)
    (D_places_told : DefAt P w K mg base "places_told" 6 ["lights", "coasts", "field", "told"] (spPlacesTold CL)) (D_best_light : DefAt P w K mg base "best_light" 6 ["lights", "coasts", "places"] (spBest CL)) : FnOk P w K mg base CX0 7 f fd ["self", "field", "told"] (spTell CL CH) := by
  refine F.ok sc_Hall_tell (spG_len fun vs H z ⟨_, _, _, _, _, _, _, _, _, _, e, _⟩ => field_len3 e) (fun cdv A outer s H vs Q E hr h => ?_)
  obtain ⟨R, ⟨a, L, C, G, st, x, y, u, v, t, ⟨_, _, rfl, ⟨fp, rfl, hf⟩, ⟨tp, rfl, ht⟩, htl, htz⟩, hh, rfl⟩, k⟩ := h
  refine ⟨_, (pss_cons (ps_set (i := 3) sc_Hall_tell.nd rfl (Or.inl rfl) (pe_dmeth D_Hall_field_fault T.cHall (hr.mono (by decide)) (pv 0) (pa_cons (pv 1) (pa_cons (pv 2) pa_nil))))
    (pss_cons (ps_if (pt_cmpR op_lt (pv 3) pe_int (nomark _))
    (pss_one (ps_ret (pe_lst (pa_cons (pv 3) pa_nil))))
    pss_nil)
    (pss_cons (ps_set (i := 4) sc_Hall_tell.nd rfl (Or.inl rfl) (pe_dcall D_places_told (hr.mono (by decide)) (pa_cons (pe_fld (pv 0) rfl) (pa_cons (pe_fld (pv 0) rfl) (pa_cons (pv 1) (pa_cons (pe_dcall D_pairs_of (hr.mono (by decide)) (pa_cons (pv 2) pa_nil)) pa_nil))))))
    (pss_cons (ps_if (PW.pt (pw_or (pt_cmpR (op_eqNil hr.units) (pv 4) (pe_lst pa_nil) (nomark _)) (pw_or1 (pt_cmpR (op_eqNil hr.units) (pe_fld (pv 0) rfl) (pe_lst pa_nil) (nomark _)))))
    (pss_one (ps_ret (pe_callTy call_list_of (by rfl) T.b_list (by decide +kernel) (pa_cons (pe_gr T.g_NOT_SEEN) pa_nil))))
    pss_nil)
    (pss_one (ps_ret (pe_dcall D_best_light (hr.mono (by decide)) (pa_cons (pe_fld (pv 0) rfl) (pa_cons (pe_fld (pv 0) rfl) (pa_cons (pv 4) pa_nil)))))))))), ?_⟩
  obtain ⟨dx, hi⟩ := hh.ins
  refine q_asg (ev_methV (ev_var rfl) hi halF_ff (ea_cons (ev_var rfl) (ea_cons (ev_var rfl) ea_nil)) fun H1 e1 => ⟨a, L, C, G, st, .ref fp, .ref tp, x, y, u, v, t, rfl, hh.up e1, ⟨fp, rfl, e1 _ _ hf⟩, ⟨tp, rfl, e1 _ _ ht⟩, htl, rfl⟩) fun H1 e1 => ?_
  let fl : Told → Wqatdz.Ans := fun w => let l := wheres st.coasts st.lights w (x, y) (u, v)
    if l = [] then Wqatdz.NO else match Wqatdz.bestOf st l with
    | none => Wqatdz.NO
    | some b => Wqatdz.tells (Wqatdz.int b.1) (b.2.map Wqatdz.int)
  have main : Wqatdz.told st (.tell x y u v (t.map Int.toNat)) = Wqatdz.ofField st (x, y) (u, v) (t.map Int.toNat) fl := rfl
  rw [main] at k
  rcases ofField_eq (s := st) (x := x) (y := y) (u := u) (v := v) htz fl with ⟨hf1, hf2⟩ | ⟨hf1, hf2⟩ | ⟨hf1, wt, hw, hw24, hwn, q1, q2, q3, q4, q5, hf2⟩
  · rw [hf2] at k
    rw [hf1]
    refine q_when (b := true) (et_test (ev_op (ev_var rfl) ev_c rv_I0)) (fun _ H2 e2 => ?_) (fun z => absurd z (by decide))
    exact s_retG (el_lst (ea_cons (ev_var rfl) ea_nil) (Nat.le_of_ble_eq_true rfl)).g fun v H3 e3 r => k _ _ ((e1.trans e2).trans e3) (Mono.up (dlt_left (e1.trans e2)) r)
  · rw [hf2] at k
    rw [hf1]
    refine q_when (b := true) (et_test (ev_op (ev_var rfl) ev_c rv_I0)) (fun _ H2 e2 => ?_) (fun z => absurd z (by decide))
    exact s_retG (el_lst (ea_cons (ev_var rfl) ea_nil) (Nat.le_of_ble_eq_true rfl)).g fun v H3 e3 r => k _ _ ((e1.trans e2).trans e3) (Mono.up (dlt_left (e1.trans e2)) r)
  rw [hf2] at k
  rw [hf1]
  have gf := good_field q1 q2 q3 q4 q5
  refine q_when (b := false) (et_test (ev_op (ev_var rfl) ev_c rv_I0)) (fun z => absurd z (by decide)) (fun _ H2 e2 => ?_)
  have e12 := e1.trans e2
  have hh2 := hh.up e12
  refine q_asgG (eg_told T hh2 (e12 _ _ hf) (e12 _ _ ht) htl hw hw24 hwn gf) fun pv H3 e3 ⟨pp, pvs, epv, hpp, hps⟩ => ?_
  subst epv
  have hpp3 := dlt_ex _ _ _ _ hpp
  have hps3 : each pairI (wheres st.coasts st.lights wt (x, y) (u, v)) pvs H3 := MonoA.up (dlt_ex _ _) hps
  have psl := hps3.len
  have e13 := e12.trans e3
  obtain ⟨win, wlen⟩ := wheres_in (cs := st.coasts) (ls := st.lights) (w := wt) gf
  generalize hl : wheres st.coasts st.lights wt (x, y) (u, v) = l at *
  have k' : ∀ v H', Ex H H' → ansR (if l = [] then Wqatdz.NO else match Wqatdz.bestOf st l with
    | none => Wqatdz.NO
    | some b => Wqatdz.tells (Wqatdz.int b.1) (b.2.map Wqatdz.int)) v (dlt H H') → Q v H' := by
    rw [← hl]
    exact k
  have hh3 := hh2.up e3
  obtain ⟨lvs, hL, hls⟩ := hh3.li
  refine q_when (et_or (et_eqNil (ev_var rfl) (sq_of hpp3)) fun _ => et_eqNil (hh3.evL T (ev_var rfl)) (sq_of hL)) (fun hb H4 e4 => ?_) (fun hb H4 e4 => ?_)
  · have hno : (if l = [] then Wqatdz.NO else match Wqatdz.bestOf st l with
      | none => Wqatdz.NO
      | some b => Wqatdz.tells (Wqatdz.int b.1) (b.2.map Wqatdz.int)) = Wqatdz.NO := by
      rw [Bool.or_eq_true] at hb
      rcases hb with hb | hb
      · have ln : l = [] := by
          cases pvs with
          | nil => exact List.length_eq_zero_iff.mp psl.symm
          | cons a b => cases hb
        rw [if_pos ln]
      · have ln : st.lights = [] := by
          have := hls.len
          cases lvs with
          | nil => exact List.length_eq_zero_iff.mp this.symm
          | cons a b => cases hb
        have : Wqatdz.bestOf st l = none := by rw [best_eq, ln]; rfl
        rw [this]
        split <;> rfl
    rw [hno] at k'
    exact s_retK T.s_NOT_SEEN fun v H5 e5 r => k' _ _ ((e13.trans e4).trans e5) (Mono.up (dlt_left (e13.trans e4)) r)
  · rw [Bool.or_eq_false_iff] at hb
    have ln : l ≠ [] := fun z => by
      rw [z] at psl
      rw [List.length_eq_zero_iff.mp psl] at hb
      cases hb.1
    have lln : st.lights ≠ [] := fun z => by
      have := hls.len
      rw [z] at this
      rw [List.length_eq_zero_iff.mp this] at hb
      cases hb.2
    rw [if_neg ln] at k'
    have hbest : Wqatdz.bestOf st l = bestFold st.coasts st.lights l := best_eq st l
    have hsome : ∃ b, bestFold st.coasts st.lights l = some b := by
      obtain ⟨l0, lr, e⟩ := List.exists_cons_of_ne_nil lln
      unfold bestFold
      rw [e]
      have : ∀ (xs : List (Nat × List Nat)) (a : Nat × List Nat), ∃ b, xs.foldl bestTurn (some a) = some b := by
        intro xs
        induction xs with
        | nil => exact fun a => ⟨a, rfl⟩
        | cons x xs ih =>
          intro a
          rw [List.foldl_cons]
          unfold bestTurn
          show ∃ b, xs.foldl bestTurn (if x.2.foldl max 0 < a.2.foldl max 0 then some x else some a) = some b
          split
          · exact ih x
          · exact ih a
      exact this _ _
    obtain ⟨b, hb2⟩ := hsome
    rw [hbest, hb2] at k'
    have hh4 := hh3.up e4
    refine s_retG (R := isO (.lst (bestV (bestFold st.coasts st.lights l)))) (eg_call (ea_cons (hh4.evL T (ev_var rfl)) (ea_cons (hh4.evC T (ev_var rfl)) (ea_cons (ev_var rfl) ea_nil))).g fun us H5 e5 q => ?_) fun v H5 e5 r => k' _ _ ((e13.trans e4).trans e5) ?_
    · cases (show us = _ from q)
      have hh5 := hh4.up e5
      exact ⟨.ref L, .ref C, .ref pp, st.lights, st.coasts, l, rfl, hh5.lights, hh5.coasts, ⟨pp, pvs, rfl, e5 _ _ (e4 _ _ hpp3), MonoA.up (e4.trans e5) hps3⟩, hh.good.ls, hh.good.cs, win, wlen, rfl⟩
    · rw [hb2] at r
      have : bestV (some b) = intsV (ansL (Wqatdz.tells (Wqatdz.int b.1) (b.2.map Wqatdz.int))) := by
        show V.int _ :: natsV b.2 = V.int _ :: intsV (b.2.map Wqatdz.int)
        unfold natsV intsV
        rw [List.map_map]
        rfl
      rw [this] at r
      exact Mono.up (dlt_left (e13.trans e4)) r
end
end Bcw

namespace Bcw
open PySem PySem.Spec PyProof.Rows L2 Evl Bcn BnC Bn

theorem near_iff (m z : Int) : Wqatdz.near m z = true ↔ -m ≤ z ∧ z ≤ m := by
  unfold Wqatdz.near
  rw [Bool.and_eq_true, decide_eq_true_iff, decide_eq_true_iff]
theorem track_ans (l : List (Nat × Nat × Nat)) : ansL (Wqatdz.tells (Wqatdz.int l.length) (l.flatMap fun (c : Nat × Nat × Nat) => [Wqatdz.int c.1, Wqatdz.int c.2.1, Wqatdz.int c.2.2])) = changesV l := rfl
section
variable {P : Program} {w : World} {K : PySem.W.Frag} {mg : Str → Option Value} {base : Heap} {CL CH : Addr}
theorem ok_track {f : Addr} {fd : FuncData} (F : Fun K "track" "Hall.track" s_Hall_track f fd) (T : Txt K mg CL CH) (D_is_place : DefAt P w K mg base "is_place" 1 ["x", "y"] spIsPlace) (D_changes_along : DefAt P w K mg base "changes_along" 5 ["lights", "coasts", "way"] (spChanges CL)) :
    FnOk P w K mg base CX0 6 f fd ["self", "numbers"] (spTrack CL CH) := by
  refine F.ok sc_Hall_track (spG_len fun vs H z ⟨_, _, _, _, _, _, _, _, _, _, _, e, _⟩ => by rw [e]; rfl) (fun cdv A outer s H vs Q E hr h => ?_)
  obtain ⟨R, ⟨a, L, C, G, st, _, x, y, u, v, n, rfl, ⟨np, rfl, hnp⟩, hh, hn, rfl⟩, k⟩ := h
  refine ⟨_, (pss_cons (ps_asg (pv 1) (pg_lst rfl (pgs_cons (pg_name (i := 2) sc_Hall_track.nd rfl (Or.inr rfl)) (pgs_cons (pg_name (i := 3) sc_Hall_track.nd rfl (Or.inr rfl)) (pgs_cons (pg_name (i := 4) sc_Hall_track.nd rfl (Or.inr rfl)) (pgs_cons (pg_name (i := 5) sc_Hall_track.nd rfl (Or.inr rfl)) (pgs_cons (pg_name (i := 6) sc_Hall_track.nd rfl (Or.inl rfl)) pgs_nil)))))))
    (pss_cons (ps_if (PW.pt (pw_or (pt_cmpR op_gt (pv 6) (pe_gi T.c_MOST_STEPS) (nomark _)) (pw_or (pt_cmpR op_gt (pe_callB call_abs (by rfl) T.b_abs (by decide +kernel) (pa_cons (pv 4) pa_nil)) (pe_gi T.c_MOST_STEP) (nomark _)) (pw_or1 (pt_cmpR op_gt (pe_callB call_abs (by rfl) T.b_abs (by decide +kernel) (pa_cons (pv 5) pa_nil)) (pe_gi T.c_MOST_STEP) (nomark _))))))
    (pss_one (ps_ret (pe_callTy call_list_of (by rfl) T.b_list (by decide +kernel) (pa_cons (pe_gr T.g_WRONG) pa_nil))))
    pss_nil)
    (pss_cons (ps_if (PW.pt (pw_or (pt_not (pt_val (pe_dcall D_is_place (hr.mono (by decide)) (pa_cons (pv 2) (pa_cons (pv 3) pa_nil))))) (pw_or1 (pt_not (pt_val (pe_dcall D_is_place (hr.mono (by decide)) (pa_cons (pe_op op_add (pv 2) (pe_op op_mul (pv 6) (pv 4))) (pa_cons (pe_op op_add (pv 3) (pe_op op_mul (pv 6) (pv 5))) pa_nil))))))))
    (pss_one (ps_ret (pe_callTy call_list_of (by rfl) T.b_list (by decide +kernel) (pa_cons (pe_gr T.g_WRONG) pa_nil))))
    pss_nil)
    (pss_cons (ps_setLc (i := 7) (own := [("step", 8)]) (g := (gName 8)) (tt := tYes) rfl sc_Hall_track.nd rfl rfl (sw_true rfl rfl rfl (by decide +kernel)) (pi_range1 (by rfl) T.b_range (pa_cons (pe_op op_add (pv 6) pe_int) pa_nil)) (blkOk_by (own := [("step", 8)]) (N := ["self", "numbers", "x", "y", "u", "v", "n", "way", "step"]) (sc := defScope s_Hall_track) (by decide +kernel)) (fun _ _ _ _ _ => (pg_name (i := 8) sc_Hall_track.nd rfl (Or.inl rfl))) (fun _ _ _ _ _ => pts_nil) (fun _ _ _ _ _ => (pe_tup (pa_cons (pe_op op_add (pv 2) (pe_op op_mul (pv 8) (pv 4))) (pa_cons (pe_op op_add (pv 3) (pe_op op_mul (pv 8) (pv 5))) pa_nil)))))
    (pss_one (ps_ret (pe_dcall D_changes_along (hr.mono (by decide)) (pa_cons (pe_fld (pv 0) rfl) (pa_cons (pe_fld (pv 0) rfl) (pa_cons (pv 7) pa_nil)))))))))), ?_⟩
  have main : Wqatdz.told st (.track x y u v n.toNat) = if Wqatdz.isPlace (x, y) = false ∨ Wqatdz.near 1000 u = false ∨ Wqatdz.near 1000 v = false ∨ 500 < n.toNat ∨ Wqatdz.isPlace (x + (n.toNat : Int) * u, y + (n.toNat : Int) * v) = false then Wqatdz.BAD else Wqatdz.tells (Wqatdz.int (changes st.coasts st.lights [] 0 (wayOf (x, y) (u, v) n.toNat)).length) ((changes st.coasts st.lights [] 0 (wayOf (x, y) (u, v) n.toNat)).flatMap fun (c : Nat × Nat × Nat) => [Wqatdz.int c.1, Wqatdz.int c.2.1, Wqatdz.int c.2.2]) := rfl
  rw [Int.toNat_of_nonneg hn] at main
  refine q_asgLs (ev_var rfl) (sq_of hnp) rfl fun H1 e1 => g_five ?_
  refine q_when (et_or (et_test (ev_op (ev_var rfl) ev_c rv_I0)) fun _ => et_or (et_test (ev_op (ev_abs (K := K) (ev_var rfl)) ev_c rv_I0)) fun _ => et_test (ev_op (ev_abs (K := K) (ev_var rfl)) ev_c rv_I0)) (fun hb H2 e2 => ?_) (fun hb H2 e2 => ?_)
  · rw [Bool.or_eq_true, Bool.or_eq_true, decide_eq_true_iff, decide_eq_true_iff, decide_eq_true_iff] at hb
    rw [main, if_pos] at k
    · exact s_retK T.s_WRONG fun v H3 e3 r => k _ _ ((e1.trans e2).trans e3) (Mono.up (dlt_left (e1.trans e2)) r)
    · rcases hb with hb | hb | hb
      · exact .inr (.inr (.inr (.inl (by omega))))
      · refine .inr (.inl ?_)
        cases e : Wqatdz.near 1000 u with
        | false => rfl
        | true =>
          rw [near_iff] at e
          split at hb <;> omega
      · refine .inr (.inr (.inl ?_))
        cases e : Wqatdz.near 1000 v with
        | false => rfl
        | true =>
          rw [near_iff] at e
          split at hb <;> omega
  rw [Bool.or_eq_false_iff, Bool.or_eq_false_iff, decide_eq_false_iff_not, decide_eq_false_iff_not, decide_eq_false_iff_not] at hb
  obtain ⟨b1, b2, b3⟩ := hb
  have bu : -1000 ≤ u ∧ u ≤ 1000 := by split at b2 <;> omega
  have bv : -1000 ≤ v ∧ v ≤ 1000 := by split at b3 <;> omega
  refine q_when (et_or (et_not (et_place (ev_var rfl) (ev_var rfl))) fun _ => et_not (et_place (ev_op (ev_var rfl) (ev_op (ev_var rfl) (ev_var rfl) (rv_I (.inl ⟨by omega, by omega⟩))) rv_I0) (ev_op (ev_var rfl) (ev_op (ev_var rfl) (ev_var rfl) (rv_I (.inl ⟨by omega, by omega⟩))) rv_I0))) (fun hb H3 e3 => ?_) (fun hb H3 e3 => ?_)
  · rw [Bool.or_eq_true, Bool.not_eq_true', Bool.not_eq_true'] at hb
    rw [main, if_pos] at k
    · exact s_retK T.s_WRONG fun v H4 e4 r => k _ _ (((e1.trans e2).trans e3).trans e4) (Mono.up (dlt_left ((e1.trans e2).trans e3)) r)
    · rcases hb with hb | hb
      · exact .inl hb
      · exact .inr (.inr (.inr (.inr hb)))
  rw [Bool.or_eq_false_iff, Bool.not_eq_false', Bool.not_eq_false'] at hb
  obtain ⟨p1, p2⟩ := hb
  rw [main, if_neg] at k
  · replace k : ∀ v' H', Ex H H' → isO (.lst (intsV (changesV (changes st.coasts st.lights [] 0 (wayOf (x, y) (u, v) n.toNat))))) v' (dlt H H') → Q v' H' := k
    have e13 := (e1.trans e2).trans e3
    have q := eg_lc (R := pairI) (σ := [some (.ref a), some (.ref np), some (.int x), some (.int y), some (.int u), some (.int v), some (.int n), none, none]) (H := H3) (g := gName 8) (tt := tYes)
      (te := tTup (tCons (tOp (rI0 fun i j => .int (i + j)) (tVar 2) (tOp (rI CMul fun i j => .int (i * j)) (tVar 8) (tVar 4))) (tCons (tOp (rI0 fun i j => .int (i + j)) (tVar 3) (tOp (rI CMul fun i j => .int (i * j)) (tVar 8) (tVar 5))) tNil))) (vs := [8])
      (ei_range1 (ta := tCons (tOp (rI0 fun i j => .int (i + j)) (tVar 6) (tC (.int 1))) tNil) (m := n + 1) (ea_cons (ev_op (ev_var rfl) ev_c rv_I0) ea_nil) (by omega))
      (fun m => (List.range m).map fun (i : Nat) => ((x + (i : Int) * u, y + (i : Int) * v) : Int × Int)) (n.toNat + 1) (fun m src H1 h => by rw [h.1]; omega) rfl (by omega)
      (fun src H5 i z H6 e5 ph hi hz e6 => by
        obtain ⟨_, rfl⟩ := ph
        cases Option.some.inj hz
        refine ⟨_, fun Q q => q, rfl, .inl ⟨(x + (i : Int) * u, y + (i : Int) * v), fun H7 e7 Q q => q H7 (Ex.refl H7), ?_, ?_⟩⟩
        · exact (eu_tup (ea_cons (ev_op (ev_var rfl) (ev_op (ev_var rfl) (ev_var rfl) (rv_I (.inl ⟨by omega, by omega⟩))) rv_I0) (ea_cons (ev_op (ev_var rfl) (ev_op (ev_var rfl) (ev_var rfl) (rv_I (.inl ⟨by omega, by omega⟩))) rv_I0) ea_nil)) (Nat.le_of_ble_eq_true rfl)).g
        · rw [List.range_succ, List.map_append]
          rfl)
    refine q_asgG q fun pv H4 e4 ⟨pp, pvs, epv, hpp, hps⟩ => ?_
    subst epv
    have hpp4 := dlt_ex _ _ _ _ hpp
    have hps4 : each pairI (wayOf (x, y) (u, v) n.toNat) pvs H4 := MonoA.up (dlt_ex _ _) hps
    have e14 := e13.trans e4
    have hh4 := hh.up e14
    refine s_retG (eg_call (ea_cons (hh4.evL T (ev_var rfl)) (ea_cons (hh4.evC T (ev_var rfl)) (ea_cons (ev_var rfl) ea_nil))).g fun us H5 e5 q => ?_) fun v H5 e5 r => k _ _ (e14.trans e5) (Mono.up (dlt_left e14) r)
    cases (show us = _ from q)
    have hh5 := hh4.up e5
    refine ⟨.ref L, .ref C, .ref pp, st.lights, st.coasts, wayOf (x, y) (u, v) n.toNat, rfl, hh5.lights, hh5.coasts, ⟨pp, pvs, rfl, e5 _ _ hpp4, MonoA.up e5 hps4⟩, hh.good.ls, hh.good.cs, fun p hp => ?_, ?_, rfl⟩
    · unfold wayOf at hp
      rw [List.mem_map] at hp
      obtain ⟨i, hi, rfl⟩ := hp
      rw [List.mem_range] at hi
      obtain ⟨q1, q2⟩ := place_in p1
      obtain ⟨q3, q4⟩ := (place_iff _ _).mp p2
      rw [← Int.toNat_of_nonneg hn] at q3 q4
      exact ⟨between_ends (by omega) q1 q3, between_ends (by omega) q2 q4⟩
    · unfold wayOf
      rw [List.length_map, List.length_range]
      omega
  · rintro (z | z | z | z | z)
    · rw [p1] at z; cases z
    · rw [(near_iff 1000 u).mpr bu] at z; cases z
    · rw [(near_iff 1000 v).mpr bv] at z; cases z
    · omega
    · rw [p2] at z; cases z
end
end Bcw

/-! # calls that change the hall -/
namespace Bcw
open PySem PySem.Spec PyProof.Rows L2 Evl Bcn BnC Bn

/-- what is no part of the hall stays -/
def Keep (H H' : Hp) (a L C : Addr) (G G' : Hp) (L' C' : Addr) : Prop := ∀ b o, H b = some o → b ≠ a → b ≠ L → b ≠ C → G b = none → H' b = some o ∧ G' b = none ∧ b ≠ L' ∧ b ≠ C'
theorem Keep.same {H H' : Hp} {a L C : Addr} {G : Hp} (e : Ex H H') : Keep H H' a L C G G L C := fun b o h _ h2 h3 h4 => ⟨e b o h, h4, h2, h3⟩
theorem Keep.more {H H' H'' : Hp} {a L C : Addr} {G G' : Hp} {L' C' : Addr} (k : Keep H H' a L C G G' L' C') (e : Ex H' H'') : Keep H H'' a L C G G' L' C' := fun b o h h1 h2 h3 h4 => let ⟨q1, q2, q3, q4⟩ := k b o h h1 h2 h3 h4; ⟨e _ _ q1, q2, q3, q4⟩
def spMut (CL CH : Addr) (pre : List V → Hp → Wqatdz.State → Wqatdz.State × Wqatdz.Ans → Prop) : Sp := fun vs H Q _ => ∃ (a L C : Addr) (G : Hp) (s : Wqatdz.State) (r : Wqatdz.State × Wqatdz.Ans) (rs : List V), vs = .ref a :: rs ∧ HallAt CL CH G H a L C s ∧ pre rs H s r ∧
  ∀ (p : Addr) (H' G' : Hp) (L' C' : Addr), HallAt CL CH G' H' a L' C' r.1 → H p = none → H' p = some (.lst (intsV (ansL r.2))) → Keep H H' a L C G G' L' C' → Q (.ref p) H'
def preLight (rs : List V) (H : Hp) (s : Wqatdz.State) (r : Wqatdz.State × Wqatdz.Ans) : Prop := ∃ (nv tv sv : V) (x y far : Int) (b : Bytes) (l : List Int), rs = [nv, tv, sv] ∧ isO (.lst [.int x, .int y, .int far]) nv H ∧ bytR b tv H ∧ b.length ≤ 4000 ∧ isO (.lst (intsV l)) sv H ∧ l.length ≤ 4000 ∧ 0 ≤ far ∧ r = Wqatdz.step s (.light x y far.toNat b l)
def preCoast (rs : List V) (H : Hp) (s : Wqatdz.State) (r : Wqatdz.State × Wqatdz.Ans) : Prop := ∃ (nv : V) (x y u v : Int), rs = [nv] ∧ isO (.lst [.int x, .int y, .int u, .int v]) nv H ∧ r = Wqatdz.step s (.coast x y u v)
def preWipe (rs : List V) (_ : Hp) (s : Wqatdz.State) (r : Wqatdz.State × Wqatdz.Ans) : Prop := rs = [] ∧ r = Wqatdz.step s .clear
/-- G, and what is new -/
def mrg (G D : Hp) : Hp := fun b => match G b with
  | some o => some o
  | none => D b
theorem mrg_left (G D : Hp) : Ex G (mrg G D) := fun b o h => by unfold mrg; rw [h]
theorem mrg_none {G D : Hp} {b : Addr} (h : G b = none) : mrg G D b = D b := by unfold mrg; rw [h]
theorem none_of {G H : Hp} {b : Addr} (e : Ex G H) (h : H b = none) : G b = none := by
  cases q : G b with
  | none => rfl
  | some o => rw [e b o q] at h; cases h
theorem mrg_right {G H H9 : Hp} (e : Ex G H) : Ex (dlt H H9) (mrg G (dlt H H9)) := fun b o h => by
  rw [mrg_none (none_of e (fresh_of_dlt h).1)]
  exact h
theorem mrg_old {G H H9 : Hp} {b : Addr} {o : HO} (h : G b = none) (h2 : H b = some o) : mrg G (dlt H H9) b = none := by rw [mrg_none h, dlt_none h2]
section
variable {CL CH : Addr} {G H H9 : Hp} {a L C : Addr} {s : Wqatdz.State}
theorem HallAt.aL (hh : HallAt CL CH G H a L C s) : a ≠ L := fun z => by
  obtain ⟨dx, h1⟩ := hh.ins
  obtain ⟨vs, h2, _⟩ := hh.li
  rw [z, h2] at h1
  cases h1
theorem HallAt.aC (hh : HallAt CL CH G H a L C s) : a ≠ C := fun z => by
  obtain ⟨dx, h1⟩ := hh.ins
  obtain ⟨vs, h2, _⟩ := hh.co
  rw [z, h2] at h1
  cases h1
theorem HallAt.merge (hh : HallAt CL CH G H a L C s) (e : Ex H H9) {l : Addr} {o o' : HO} (hl : H l = some o) (gl : G l = none) : Ex (mrg G (dlt H H9)) (upd H9 l o') := fun b ob h => by
  have nb : b ≠ l := fun z => by
    rw [z, mrg_old gl hl] at h
    cases h
  rw [upd_ne nb]
  cases g : G b with
  | some og =>
    rw [mrg_left G _ b og g] at h
    cases h
    exact e _ _ (hh.ex _ _ g)
  | none =>
    rw [mrg_none g] at h
    exact (fresh_of_dlt h).2
theorem HallAt.addL (hh : HallAt CL CH G H a L C s) (e : Ex H H9) {vs : List V} (hL : H L = some (.lst vs)) (hls : each (lightR CL) s.lights vs G) {l : Light} {v : V} (q : lightR CL l v (dlt H H9)) (gl : GoodL l) (hn : s.lights.length < 24) :
    ∃ G', HallAt CL CH G' (upd H9 L (.lst (vs ++ [v]))) a L C { s with lights := s.lights ++ [l] } ∧ Keep H (upd H9 L (.lst (vs ++ [v]))) a L C G G' L C := by
  obtain ⟨dx, hi⟩ := hh.ins
  obtain ⟨ws, hC, hcs⟩ := hh.co
  refine ⟨mrg G (dlt H H9), ⟨hh.merge e hL hh.gl, ⟨dx, by rw [upd_ne hh.aL]; exact e _ _ hi⟩, ⟨_, upd_same, each.snoc (MonoA.up (mrg_left _ _) hls) (Mono.up (mrg_right hh.ex) q)⟩, ⟨ws, by rw [upd_ne hh.ne.symm]; exact e _ _ hC, MonoA.up (mrg_left _ _) hcs⟩, mrg_old hh.ga hi, mrg_old hh.gl hL, mrg_old hh.gc hC, hh.ne, ⟨⟨fun l' hl' => ?_, ?_⟩, hh.good.cs⟩⟩, fun b o h h1 h2 h3 h4 => ⟨by rw [upd_ne h2]; exact e _ _ h, mrg_old h4 h, h2, h3⟩⟩
  · rcases List.mem_append.mp hl' with h | h
    · exact hh.good.ls.1 _ h
    · cases List.mem_singleton.mp h
      exact gl
  · show (s.lights ++ [l]).length ≤ 24
    rw [List.length_append]
    exact hn
theorem HallAt.addC (hh : HallAt CL CH G H a L C s) (e : Ex H H9) {vs : List V} (hC : H C = some (.lst vs)) (hcs : each cstR s.coasts vs G) {c : Coast} {v : V} (q : cstR c v (dlt H H9)) (gc : GoodC c) (hn : s.coasts.length < 64) :
    ∃ G', HallAt CL CH G' (upd H9 C (.lst (vs ++ [v]))) a L C { s with coasts := s.coasts ++ [c] } ∧ Keep H (upd H9 C (.lst (vs ++ [v]))) a L C G G' L C := by
  obtain ⟨dx, hi⟩ := hh.ins
  obtain ⟨ws, hL, hls⟩ := hh.li
  refine ⟨mrg G (dlt H H9), ⟨hh.merge e hC hh.gc, ⟨dx, by rw [upd_ne hh.aC]; exact e _ _ hi⟩, ⟨ws, by rw [upd_ne hh.ne]; exact e _ _ hL, MonoA.up (mrg_left _ _) hls⟩, ⟨_, upd_same, each.snoc (MonoA.up (mrg_left _ _) hcs) (Mono.up (mrg_right hh.ex) q)⟩, mrg_old hh.ga hi, mrg_old hh.gl hL, mrg_old hh.gc hC, hh.ne, ⟨hh.good.ls, ⟨fun l' hl' => ?_, ?_⟩⟩⟩, fun b o h h1 h2 h3 h4 => ⟨by rw [upd_ne h3]; exact e _ _ h, mrg_old h4 h, h2, h3⟩⟩
  · rcases List.mem_append.mp hl' with h | h
    · exact hh.good.cs.1 _ h
    · cases List.mem_singleton.mp h
      exact gc
  · show (s.coasts ++ [c]).length ≤ 64
    rw [List.length_append]
    exact hn
end
theorem rawOf_len (l : List Int) : (rawOf l).length ≤ l.length := by
  unfold rawOf
  split
  · rw [threes_len]
    omega
  · exact Nat.zero_le _
/-- a new light -/
def madeR (CL : Addr) (x y far : Int) (pv sv : V) : RG := fun v G => ∃ a dx, v = .ref a ∧ G a = some (.ins CL dx (lgtF x y far pv sv))
instance {CL : Addr} {x y far : Int} {pv sv : V} : Mono (madeR CL x y far pv sv) := ⟨fun e ⟨a, dx, h1, h2⟩ => ⟨a, dx, h1, e _ _ h2⟩⟩
theorem eg_made {CL : Addr} {σ : L2.St} {H : Hp} {ta : TA} {x y far : Int} {pv sv : V} (ha : EvA ta σ H [.int x, .int y, .int far, pv, sv]) : EvG (tMake CL (spLightInit CL) [] E0 ta) σ H (madeR CL x y far pv sv) := fun H1 e Q q =>
  ha H1 e _ fun H2 e2 => fun b dx hb hd hne => ⟨b, dx, x, y, far, pv, sv, rfl, upd_same, fun H' h1 h2 => ⟨rfl, by
    have ex : Ex H1 H' := fun b' o h => by
      have h3 := e2 _ _ h
      have n1 : b' ≠ b := ne_of_none h3 hb
      have n2 : b' ≠ dx := ne_of_none h3 hd
      exact h2 b' o (by rw [upd_ne n1, upd_ne n2]; exact h3) n1
    exact q _ H' ex ⟨b, dx, rfl, by rw [dlt_new (fresh_back e2 hb)]; exact h1⟩⟩⟩
theorem isO_at {H H1 : Hp} {v : V} {o : HO} (h : isO o v (dlt H H1)) : ∃ p, v = .ref p ∧ H p = none ∧ H1 p = some o := by
  obtain ⟨p, h1, h2⟩ := h
  obtain ⟨h3, h4⟩ := fresh_of_dlt h2
  exact ⟨p, h1, h3, h4⟩
theorem fresh_upd {H H9 : Hp} {l p : Addr} {o : HO} (e : Ex H H9) (h : upd H9 l o p = none) : H p = none := fresh_back e (upd_nil_none h).2
theorem mut_len {CL CH : Addr} {pre : List V → Hp → Wqatdz.State → Wqatdz.State × Wqatdz.Ans → Prop} {n : Nat} (h : ∀ rs H s r, pre rs H s r → rs.length = n) : ∀ vs H Q E, spMut CL CH pre vs H Q E → vs.length = n + 1 := fun vs H Q E ⟨_, _, _, _, _, _, rs, e, _, p, _⟩ => by
  rw [e, List.length_cons, h _ _ _ _ p]

section
variable {P : Program} {w : World} {K : PySem.W.Frag} {mg : Str → Option Value} {base : Heap} {CL CH : Addr}
theorem ok_light {f : Addr} {fd : FuncData} (F : Fun K "light" "Hall.light" s_Hall_light f fd) (T : Txt K mg CL CH) (D_is_place : DefAt P w K mg base "is_place" 1 ["x", "y"] spIsPlace) (D_sectors_of : DefAt P w K mg base "sectors_of" 1 ["numbers"] spSectorsOf) (D_are_sectors : DefAt P w K mg base "are_sectors" 3 ["sectors", "most", "colours"] spAreSectors)
    (D_read_rhythm : DefAt P w K mg base "read_rhythm" 3 ["text"] spRead) (D_is_white_and_dark : DefAt P w K mg base "is_white_and_dark" 1 ["phases"] spWhiteDark) (M_Light : MakeAt P w K mg base "Light" CL 1 ["self", "x", "y", "far", "phases", "sectors"] (spLightInit CL)) :
    FnOk P w K mg base CX0 4 f fd ["self", "numbers", "text", "sectors"] (spMut CL CH preLight) := by
  refine F.ok sc_Hall_light (mut_len fun rs H s r ⟨_, _, _, _, _, _, _, _, e, _⟩ => by rw [e]; rfl) (fun cdv A outer s H vs Q E hr h => ?_)
  obtain ⟨a, L, C, G, st, r, _, rfl, hh, ⟨_, _, _, x, y, far, b, l, rfl, ⟨np, rfl, hnp⟩, ⟨tp, rfl, htp⟩, hbl, ⟨sp, rfl, hsp⟩, hll, hfar, rfl⟩, k⟩ := h
  refine ⟨_, (pss_cons (ps_asg (pv 1) (pg_lst rfl (pgs_cons (pg_name (i := 4) sc_Hall_light.nd rfl (Or.inl rfl)) (pgs_cons (pg_name (i := 5) sc_Hall_light.nd rfl (Or.inl rfl)) (pgs_cons (pg_name (i := 6) sc_Hall_light.nd rfl (Or.inl rfl)) pgs_nil)))))
    (pss_cons (ps_if (PW.pt (pw_or (pt_not (pt_val (pe_dcall D_is_place (hr.mono (by decide)) (pa_cons (pv 4) (pa_cons (pv 5) pa_nil))))) (pw_or1 (pt_not (pt_chain op_le op_le pe_int (pv 6) (pe_gi T.c_MOST_FAR))))))
    (pss_one (ps_ret (pe_callTy call_list_of (by rfl) T.b_list (by decide +kernel) (pa_cons (pe_gr T.g_WRONG) pa_nil))))
    pss_nil)
    (pss_cons (ps_set (i := 7) sc_Hall_light.nd rfl (Or.inl rfl) (pe_dcall D_sectors_of (hr.mono (by decide)) (pa_cons (pv 3) pa_nil)))
    (pss_cons (ps_if (pt_not (pt_val (pe_dcall D_are_sectors (hr.mono (by decide)) (pa_cons (pv 7) (pa_cons (pe_gi T.c_MOST_SECTORS) (pa_cons (pe_gi T.c_MOST_COLOUR) pa_nil))))))
    (pss_one (ps_ret (pe_callTy call_list_of (by rfl) T.b_list (by decide +kernel) (pa_cons (pe_gr T.g_WRONG) pa_nil))))
    pss_nil)
    (pss_cons (ps_if (pt_cmpR op_gt (pe_callB call_len_seq (by rfl) T.b_len PySem.boot_len (pa_cons (pv 2) pa_nil)) (pe_gi T.c_MOST_BYTES) (nomark _))
    (pss_one (ps_ret (pe_callTy call_list_of (by rfl) T.b_list (by decide +kernel) (pa_cons (pe_gr T.g_TOO_LONG) pa_nil))))
    pss_nil)
    (pss_cons (ps_asg (pe_dcall D_read_rhythm (hr.mono (by decide)) (pa_cons (pv 2) pa_nil)) (pg_tup rfl (pgs_cons (pg_name (i := 8) sc_Hall_light.nd rfl (Or.inl rfl)) (pgs_cons (pg_name (i := 9) sc_Hall_light.nd rfl (Or.inl rfl)) pgs_nil))))
    (pss_cons (ps_if (pt_cmpR op_ge (pv 9) pe_int (nomark _))
    (pss_one (ps_ret (pe_lst (pa_cons (pe_gi T.c_FAULT) (pa_cons (pv 9) pa_nil)))))
    pss_nil)
    (pss_cons (ps_if (pt_not (pt_val (pe_dcall D_is_white_and_dark (hr.mono (by decide)) (pa_cons (pv 8) pa_nil))))
    (pss_one (ps_ret (pe_callTy call_list_of (by rfl) T.b_list (by decide +kernel) (pa_cons (pe_gr T.g_NO_WHITE) pa_nil))))
    pss_nil)
    (pss_cons (ps_if (pt_cmpR op_ge (pe_callB call_len_seq (by rfl) T.b_len PySem.boot_len (pa_cons (pe_fld (pv 0) rfl) pa_nil)) (pe_gi T.c_MOST_LIGHTS) (nomark _))
    (pss_one (ps_ret (pe_callTy call_list_of (by rfl) T.b_list (by decide +kernel) (pa_cons (pe_gr T.g_FULL) pa_nil))))
    pss_nil)
    (pss_cons (ps_expr (pe_bm PySem.F.plainAttrs_list PySem.F.slot_list_append PySem.F.type_list_append mt_append (pe_fld (pv 0) rfl) (pa_cons (pe_dmake M_Light (hr.mono (by decide)) (pa_cons (pv 4) (pa_cons (pv 5) (pa_cons (pv 6) (pa_cons (pv 8) (pa_cons (pv 7) pa_nil)))))) pa_nil)))
    (pss_one (ps_ret (pe_lst (pa_cons (pe_op op_sub (pe_callB call_len_seq (by rfl) T.b_len PySem.boot_len (pa_cons (pe_fld (pv 0) rfl) pa_nil)) pe_int) pa_nil)))))))))))))), ?_⟩
  have main : Wqatdz.step st (.light x y far.toNat b l) = Wqatdz.lightOf st (x, y) far.toNat b l := rfl
  rw [main] at k
  -- a refusal
  have no : ∀ {H' H'' : Hp} {v : V} {A : Wqatdz.Ans}, Wqatdz.lightOf st (x, y) far.toNat b l = (st, A) → Ex H H' → Ex H' H'' → isO (.lst (intsV (ansL A))) v (dlt H' H'') → Q v H'' := fun {H' H'' v A} eq e1 e2 hv => by
    obtain ⟨p, rfl, h1, h2⟩ := isO_at hv
    rw [eq] at k
    exact k p H'' G L C (hh.up (e1.trans e2)) (fresh_back e1 h1) h2 (Keep.same (e1.trans e2))
  refine q_asgLs (ev_var rfl) (sq_of hnp) rfl fun H1 e1 => g_three ?_
  refine q_when (et_or (et_not (et_place (ev_var rfl) (ev_var rfl))) fun _ => et_not (et_test (ev_chain (f := fun i j => decide (i ≤ j)) (g := fun i j => decide (i ≤ j)) ev_c (ev_var rfl) ev_c))) (fun hb H2 e2 => ?_) (fun hb H2 e2 => ?_)
  · refine s_retK T.s_WRONG fun v H3 e3 r => no (light_bad ?_ hfar) (e1.trans e2) e3 r
    rw [Bool.or_eq_true, Bool.not_eq_true', Bool.not_eq_true', Bool.and_eq_false_iff, decide_eq_false_iff_not, decide_eq_false_iff_not] at hb
    exact hb.imp id fun h => fun z => h.elim (fun h => h z.1) (fun h => h z.2)
  rw [Bool.or_eq_false_iff, Bool.not_eq_false', Bool.not_eq_false', Bool.and_eq_true, decide_eq_true_iff, decide_eq_true_iff] at hb
  obtain ⟨p1, p2⟩ := hb
  have e12 := e1.trans e2
  refine q_asgG (R := isL (each rawR (rawOf l))) (eg_call (ea_cons (ev_var rfl) ea_nil).g fun us H3 e3 q => by
    cases (show us = _ from q)
    exact ⟨.ref sp, l, rfl, ⟨sp, rfl, (e12.trans e3) _ _ hsp⟩, hll, rfl⟩) fun sv H3 e3 ⟨rp, rvs, esv, hrp, hrs⟩ => ?_
  subst esv
  have e13 := e12.trans e3
  have hrp3 := dlt_ex _ _ _ _ hrp
  have hrs3 : each rawR (rawOf l) rvs H3 := MonoA.up (dlt_ex _ _) hrs
  have hrl : (rawOf l).length ≤ 4000 := Nat.le_trans (rawOf_len l) hll
  refine q_when (et_not (et_B (ev_callV (ea_cons (ev_var rfl) (ea_cons ev_c (ea_cons ev_c ea_nil))) fun H4 e4 => ⟨.ref rp, rawOf l, rfl, ⟨rp, rvs, rfl, e4 _ _ hrp3, MonoA.up e4 hrs3⟩, hrl, rfl⟩))) (fun hb H4 e4 => ?_) (fun hb H4 e4 => ?_)
  · rw [Bool.not_eq_true'] at hb
    exact s_retK T.s_WRONG fun v H5 e5 r => no (light_bad2 hb) (e13.trans e4) e5 r
  rw [Bool.not_eq_false'] at hb
  obtain ⟨c, hc1, hc2, hc3, hc4, go⟩ := light_go (s := st) (b := b) p1 p2 hb
  have e14 := e13.trans e4
  have htl : ((ofB b).map V.int).length = b.length := by unfold ofB; rw [List.length_map, List.length_map]
  refine q_when (et_test (ev_op (ev_lenS (sq_of (e14 _ _ htp)) (ev_var rfl)) ev_c rv_I0)) (fun hb H5 e5 => ?_) (fun hb H5 e5 => ?_)
  · rw [decide_eq_true_iff, htl] at hb
    rw [if_pos (show Wqatdz.TEXT < b.length from (show 1024 < b.length by omega))] at go
    exact s_retK T.s_TOO_LONG fun v H6 e6 r => no go (e14.trans e5) e6 r
  rw [decide_eq_false_iff_not, htl] at hb
  rw [if_neg (show ¬ Wqatdz.TEXT < b.length from (show ¬ 1024 < b.length by omega))] at go
  have e15 := e14.trans e5
  have call : EvG (tCall spRead [] E0 (tCons (tVar 2) tNil)) [some (.ref a), some (.ref np), some (.ref tp), some (.ref sp), some (.int x), some (.int y), some (.int far), some (.ref rp), none, none] H5 (readR (Bn.readRhythm b)) := eg_call (ea_cons (ev_var rfl) ea_nil).g fun us H6 e6 q => by
    cases (show us = _ from q)
    exact ⟨.ref tp, b, rfl, ⟨tp, rfl, (e15.trans e6) _ _ htp⟩, by omega, rfl⟩
  cases er : Bn.readRhythm b with
  | error kf =>
    rw [er] at go call
    dsimp only at go
    refine q_asgT (RA := fun vs _ => ∃ x, vs = [x, .int (kf : Nat)]) call (fun vs G ⟨_, h⟩ => by rw [h]; rfl) fun vs H6 e6 ⟨fx, h⟩ => ?_
    subst h
    refine g_two ?_
    refine q_when (et_test (ev_op (ev_var rfl) ev_c rv_I0)) (fun hb H7 e7 => ?_) (fun hb H7 e7 => ?_)
    · exact s_retG (el_lst (ea_cons ev_c (ea_cons (ev_var rfl) ea_nil)) (Nat.le_of_ble_eq_true rfl)).g fun v H8 e8 r => no go ((e15.trans e6).trans e7) e8 r
    · rw [decide_eq_false_iff_not] at hb
      omega
  | ok rh =>
    rw [er] at go call
    dsimp only at go
    refine q_asgT (RA := consR (isL (each phR rh)) (consR (isV (.int (-1))) (areV []))) call (fun vs G ⟨_, _, h, _, _, _, h2, _, h3⟩ => by rw [h, h2, h3]; rfl) fun vs H6 e6 ⟨_, _, h, ⟨pp, pvs, hpv, hpp, hps⟩, _, _, h2, hm, h3⟩ => ?_
    cases (show _ = _ from h3)
    cases (show _ = _ from hm)
    subst h2
    subst h
    subst hpv
    have e16 := e15.trans e6
    have hpp6 := dlt_ex _ _ _ _ hpp
    have hps6 : each phR rh pvs H6 := MonoA.up (dlt_ex _ _) hps
    obtain ⟨r1, r2, r3⟩ := read_ok er
    refine g_two ?_
    refine q_when (b := false) (et_test (ev_op (ev_var rfl) ev_c rv_I0)) (fun z => absurd z (by decide)) (fun _ H7 e7 => ?_)
    refine q_when (et_not (et_B (ev_callV (ea_cons (ev_var rfl) ea_nil) fun H8 e8 => ⟨.ref pp, rh, rfl, ⟨pp, pvs, rfl, (e7.trans e8) _ _ hpp6, MonoA.up (e7.trans e8) hps6⟩, fun z hz => (r3 z hz).1, rfl⟩))) (fun hb H8 e8 => ?_) (fun hb H8 e8 => ?_)
    · rw [Bool.not_eq_true', Bool.not_eq_false'] at hb
      rw [if_pos hb] at go
      exact s_retK T.s_NO_WHITE fun v H9 e9 r => no go ((e16.trans e7).trans e8) e9 r
    rw [Bool.not_eq_false', Bool.not_eq_true'] at hb
    rw [if_neg (by rw [hb]; decide)] at go
    have e18 := (e16.trans e7).trans e8
    have hh8 := hh.up e18
    obtain ⟨lvs, hL, hls⟩ := hh.li
    have lvl := hls.len
    refine q_when (et_test (ev_op (ev_lenS (sq_of (e18 _ _ hL)) (hh8.evL T (ev_var rfl))) ev_c rv_I0)) (fun hb2 H9 e9 => ?_) (fun hb2 H9 e9 => ?_)
    · rw [decide_eq_true_iff, lvl] at hb2
      rw [if_pos (show Wqatdz.LIGHTS ≤ st.lights.length from (show 24 ≤ st.lights.length by omega))] at go
      exact s_retK T.s_FULL fun v H10 e10 r => no go (e18.trans e9) e10 r
    rw [decide_eq_false_iff_not, lvl] at hb2
    rw [if_neg (show ¬ Wqatdz.LIGHTS ≤ st.lights.length from (show ¬ 24 ≤ st.lights.length by omega))] at go
    rw [go] at k
    have hh9 := hh8.up e9
    have e19 := e18.trans e9
    have gn := good_new p1 p2 hc1 hc2 hc3 hc4 er hb
    refine q_appG (e19 _ _ hL) (hh9.evL T (ev_var rfl)) (eg_made (CL := CL) (x := x) (y := y) (far := far) (pv := .ref pp) (sv := .ref rp) (ea_cons (ev_var rfl) (ea_cons (ev_var rfl) (ea_cons (ev_var rfl) (ea_cons (ev_var rfl) (ea_cons (ev_var rfl) ea_nil)))))) (by omega) fun v H10 e10 hv => ?_
    have e1A := e19.trans e10
    have hnew : lightR CL ⟨(x, y), far.toNat, rh, c⟩ v (dlt H H10) := by
      obtain ⟨la, dx, rfl, hla⟩ := hv
      refine ⟨la, dx, .ref pp, .ref rp, rfl, ?_, ⟨pp, pvs, rfl, ?_, ?_⟩, rp, rvs, rfl, ?_, ?_⟩
      · show dlt H H10 la = some (.ins CL dx (lgtF x y ((far.toNat : Nat) : Int) _ _))
        rw [Int.toNat_of_nonneg hfar]
        exact dlt_left e19 _ _ hla
      · exact dlt_left e15 _ _ (dlt_right (((e7.trans e8).trans e9).trans e10) _ _ hpp)
      · exact MonoA.up ((dlt_right (((e7.trans e8).trans e9).trans e10)).trans (dlt_left e15)) hps
      · exact dlt_left e12 _ _ (dlt_right (((((((e4.trans e5).trans e6).trans e7).trans e8).trans e9).trans e10)) _ _ hrp)
      · rw [← (rawOf_enc hc1).1]
        exact MonoA.up ((dlt_right (((((((e4.trans e5).trans e6).trans e7).trans e8).trans e9).trans e10))).trans (dlt_left e12)) hrs
    obtain ⟨G', hhN, kp⟩ := hh.addL e1A hL hls hnew gn (by omega)
    generalize hHN : upd H10 L (.lst (lvs ++ [v])) = HN at *
    have hLN : HN L = some (.lst (lvs ++ [v])) := by rw [← hHN]; exact upd_same
    refine s_retG (R := isO (.lst [.int (st.lights.length : Int)])) (el_lst (ea_cons (ev_is (ev_op (ev_lenS (sq_of hLN) (hhN.evL T (ev_var rfl))) ev_c rv_I0) ?_) ea_nil) (Nat.le_of_ble_eq_true rfl)).g fun v' H11 e11 r => ?_
    · congr 1
      rw [List.length_append, lvl]
      show ((st.lights.length + 1 : Nat) : Int) - 1 = _
      omega
    · obtain ⟨p, rfl, h1, h2⟩ := isO_at r
      refine k p H11 G' L C (hhN.up e11) ?_ h2 (kp.more e11)
      rw [← hHN] at h1
      exact fresh_upd e1A h1
theorem ok_coast {f : Addr} {fd : FuncData} (F : Fun K "coast" "Hall.coast" s_Hall_coast f fd) (T : Txt K mg CL CH) (D_is_place : DefAt P w K mg base "is_place" 1 ["x", "y"] spIsPlace) : FnOk P w K mg base CX0 2 f fd ["self", "numbers"] (spMut CL CH preCoast) := by
  refine F.ok sc_Hall_coast (mut_len fun rs H s r ⟨_, _, _, _, _, e, _⟩ => by rw [e]; rfl) (fun cdv A outer s H vs Q E hr h => ?_)
  obtain ⟨a, L, C, G, st, r, _, rfl, hh, ⟨_, x, y, u, v, rfl, ⟨np, rfl, hnp⟩, rfl⟩, k⟩ := h
  refine ⟨_, (pss_cons (ps_asg (pv 1) (pg_lst rfl (pgs_cons (pg_name (i := 2) sc_Hall_coast.nd rfl (Or.inl rfl)) (pgs_cons (pg_name (i := 3) sc_Hall_coast.nd rfl (Or.inl rfl)) (pgs_cons (pg_name (i := 4) sc_Hall_coast.nd rfl (Or.inl rfl)) (pgs_cons (pg_name (i := 5) sc_Hall_coast.nd rfl (Or.inl rfl)) pgs_nil))))))
    (pss_cons (ps_if (PW.pt (pw_or (pt_not (pt_val (pe_dcall D_is_place (hr.mono (by decide)) (pa_cons (pv 2) (pa_cons (pv 3) pa_nil))))) (pw_or (pt_not (pt_val (pe_dcall D_is_place (hr.mono (by decide)) (pa_cons (pv 4) (pa_cons (pv 5) pa_nil))))) (pw_or1 (PW.pt (pw_and (pt_cmpR op_eq (pv 2) (pv 4) (nomark _)) (pw_and1 (pt_cmpR op_eq (pv 3) (pv 5) (nomark _)))))))))
    (pss_one (ps_ret (pe_callTy call_list_of (by rfl) T.b_list (by decide +kernel) (pa_cons (pe_gr T.g_WRONG) pa_nil))))
    pss_nil)
    (pss_cons (ps_if (pt_cmpR op_ge (pe_callB call_len_seq (by rfl) T.b_len PySem.boot_len (pa_cons (pe_fld (pv 0) rfl) pa_nil)) (pe_gi T.c_MOST_COASTS) (nomark _))
    (pss_one (ps_ret (pe_callTy call_list_of (by rfl) T.b_list (by decide +kernel) (pa_cons (pe_gr T.g_FULL) pa_nil))))
    pss_nil)
    (pss_cons (ps_expr (pe_bm PySem.F.plainAttrs_list PySem.F.slot_list_append PySem.F.type_list_append mt_append (pe_fld (pv 0) rfl) (pa_cons (pe_tup (pa_cons (pv 2) (pa_cons (pv 3) (pa_cons (pv 4) (pa_cons (pv 5) pa_nil))))) pa_nil)))
    (pss_one (ps_ret (pe_lst (pa_cons (pe_callB call_len_seq (by rfl) T.b_len PySem.boot_len (pa_cons (pe_fld (pv 0) rfl) pa_nil)) pa_nil)))))))), ?_⟩
  have main : Wqatdz.step st (.coast x y u v) = if Wqatdz.isPlace (x, y) = false ∨ Wqatdz.isPlace (u, v) = false ∨ (x = u ∧ y = v) then (st, Wqatdz.BAD) else if 64 ≤ st.coasts.length then (st, Wqatdz.says (-5)) else ({ st with coasts := st.coasts ++ [((x, y), (u, v))] }, Wqatdz.says (Wqatdz.int (st.coasts.length + 1))) := rfl
  have no : ∀ {H' H'' : Hp} {v' : V} {A : Wqatdz.Ans}, Wqatdz.step st (.coast x y u v) = (st, A) → Ex H H' → Ex H' H'' → isO (.lst (intsV (ansL A))) v' (dlt H' H'') → Q v' H'' := fun {H' H'' v' A} eq e1 e2 hv => by
    obtain ⟨p, rfl, h1, h2⟩ := isO_at hv
    rw [eq] at k
    exact k p H'' G L C (hh.up (e1.trans e2)) (fresh_back e1 h1) h2 (Keep.same (e1.trans e2))
  refine q_asgLs (ev_var rfl) (sq_of hnp) rfl fun H1 e1 => g_four ?_
  refine q_when (et_or (et_not (et_place (ev_var rfl) (ev_var rfl))) fun _ => et_or (et_not (et_place (ev_var rfl) (ev_var rfl))) fun _ => et_and (et_test (ev_op (ev_var rfl) (ev_var rfl) (rv_eq rfl))) fun _ => et_test (ev_op (ev_var rfl) (ev_var rfl) (rv_eq rfl))) (fun hb H2 e2 => ?_) (fun hb H2 e2 => ?_)
  · refine s_retK T.s_WRONG fun v' H3 e3 r => no (main.trans (if_pos ?_)) (e1.trans e2) e3 r
    rw [Bool.or_eq_true, Bool.or_eq_true, Bool.and_eq_true, Bool.not_eq_true', Bool.not_eq_true', decide_eq_true_iff, decide_eq_true_iff, V.int.injEq, V.int.injEq] at hb
    exact hb
  rw [Bool.or_eq_false_iff, Bool.or_eq_false_iff, Bool.not_eq_false', Bool.not_eq_false', Bool.and_eq_false_iff, decide_eq_false_iff_not, decide_eq_false_iff_not, V.int.injEq, V.int.injEq] at hb
  obtain ⟨b1, b2, b3⟩ := hb
  rw [if_neg (fun z => by
    rcases z with z | z | z
    · rw [b1] at z; cases z
    · rw [b2] at z; cases z
    · exact b3.elim (fun h => h z.1) (fun h => h z.2))] at main
  have e12 := e1.trans e2
  have hh2 := hh.up e12
  obtain ⟨cvs, hC, hcs⟩ := hh.co
  have cvl := hcs.len
  refine q_when (et_test (ev_op (ev_lenS (sq_of (e12 _ _ hC)) (hh2.evC T (ev_var rfl))) ev_c rv_I0)) (fun hb2 H3 e3 => ?_) (fun hb2 H3 e3 => ?_)
  · rw [decide_eq_true_iff, cvl] at hb2
    rw [if_pos (show 64 ≤ st.coasts.length by omega)] at main
    exact s_retK T.s_FULL fun v' H4 e4 r => no main (e12.trans e3) e4 r
  rw [decide_eq_false_iff_not, cvl] at hb2
  rw [if_neg (show ¬ 64 ≤ st.coasts.length by omega)] at main
  rw [main] at k
  have e13 := e12.trans e3
  have hh3 := hh.up e13
  refine q_appG (R := cstR ((x, y), (u, v))) (e13 _ _ hC) (hh3.evC T (ev_var rfl)) (eu_tup (ea_cons (ev_var rfl) (ea_cons (ev_var rfl) (ea_cons (ev_var rfl) (ea_cons (ev_var rfl) ea_nil)))) (Nat.le_of_ble_eq_true rfl)).g (by omega) fun cv H4 e4 hv => ?_
  have e14 := e13.trans e4
  have hnew : cstR ((x, y), (u, v)) cv (dlt H H4) := Mono.up (dlt_left e13) hv
  obtain ⟨q1, q2⟩ := place_in b1
  obtain ⟨q3, q4⟩ := place_in b2
  obtain ⟨G', hhN, kp⟩ := hh.addC e14 hC hcs hnew ⟨q1, q2, q3, q4, fun z => b3.elim (fun h => h z.1) (fun h => h z.2)⟩ (by omega)
  generalize hHN : upd H4 C (.lst (cvs ++ [cv])) = HN at *
  have hCN : HN C = some (.lst (cvs ++ [cv])) := by rw [← hHN]; exact upd_same
  refine s_retG (R := isO (.lst [.int ((st.coasts.length + 1 : Nat) : Int)])) (el_lst (ea_cons (ev_is (ev_lenS (sq_of hCN) (hhN.evC T (ev_var rfl))) ?_) ea_nil) (Nat.le_of_ble_eq_true rfl)).g fun v' H5 e5 r => ?_
  · rw [List.length_append, cvl]
    rfl
  · obtain ⟨p, rfl, h1, h2⟩ := isO_at r
    refine k p H5 G' L C (hhN.up e5) ?_ h2 (kp.more e5)
    rw [← hHN] at h1
    exact fresh_upd e14 h1
theorem ok_wipe {f : Addr} {fd : FuncData} (F : Fun K "wipe" "Hall.wipe" s_Hall_wipe f fd) (T : Txt K mg CL CH) : FnOk P w K mg base CX0 1 f fd ["self"] (spMut CL CH preWipe) := by
  refine F.ok sc_Hall_wipe (mut_len fun rs H s r ⟨e, _⟩ => by rw [e]; rfl) (fun cdv A outer s H vs Q E hr h => ?_)
  obtain ⟨a, L, C, G, st, r, _, rfl, hh, ⟨rfl, rfl⟩, k⟩ := h
  refine ⟨_, (pss_cons (ps_fld (pv 0) (pe_lst pa_nil) rfl)
    (pss_cons (ps_fld (pv 0) (pe_lst pa_nil) rfl)
    (pss_one (ps_ret (pe_lst (pa_cons pe_int pa_nil)))))), ?_⟩
  obtain ⟨dx, ha⟩ := hh.ins
  refine ⟨Nat.zero_le _, fun L' hL => ?_⟩
  have naL : a ≠ L' := ne_of_none ha hL
  refine ⟨_, rfl, a, CH, dx, _, rfl, by rw [upd_ne naL]; exact ha, T.cHall, T.n_Hall_lights, Nat.le_of_ble_eq_true rfl, ?_⟩
  refine ⟨Nat.zero_le _, fun C' hC => ?_⟩
  have h1 : (upd (upd H L' (.lst [])) a (.ins CH dx (putF "lights" (.ref L') (halF L C)))) a = some (.ins CH dx (putF "lights" (.ref L') (halF L C))) := upd_same
  have naC : a ≠ C' := ne_of_none h1 hC
  have hLC : L' ≠ C' := ne_of_none (show (upd (upd H L' (.lst [])) a (.ins CH dx (putF "lights" (.ref L') (halF L C)))) L' = some (.lst []) by rw [upd_ne naL.symm, upd_same]) hC
  have hC0 : H C' = none := by rw [upd_ne naC.symm, upd_ne hLC.symm] at hC; exact hC
  refine ⟨_, rfl, a, CH, dx, _, rfl, by rw [upd_ne naC]; exact upd_same, T.cHall, T.n_Hall_coasts, Nat.le_of_ble_eq_true rfl, ?_⟩
  generalize hHN : upd (upd (upd (upd H L' (.lst [])) a (.ins CH dx (putF "lights" (.ref L') (halF L C)))) C' (.lst [])) a (.ins CH dx (putF "coasts" (.ref C') (putF "lights" (.ref L') (halF L C)))) = HN
  have hhN : HallAt CL CH (fun _ => none) HN a L' C' Wqatdz.start := by
    refine ⟨fun _ _ h => (nomatch h), ⟨dx, ?_⟩, ⟨[], ?_, .nil⟩, ⟨[], ?_, .nil⟩, rfl, rfl, rfl, hLC, ⟨⟨fun _ h => (nomatch h), Nat.zero_le _⟩, ⟨fun _ h => (nomatch h), Nat.zero_le _⟩⟩⟩
    · rw [← hHN, upd_same]
      congr 2
    · rw [← hHN, upd_ne naL.symm, upd_ne hLC, upd_ne naL.symm, upd_same]
    · rw [← hHN, upd_ne naC.symm, upd_same]
  have kp : ∀ b o, H b = some o → b ≠ a → HN b = some o ∧ b ≠ L' ∧ b ≠ C' := fun b o hb nb => by
    have n1 := ne_of_none hb hC0
    have n2 := ne_of_none hb hL
    refine ⟨?_, n2, n1⟩
    rw [← hHN, upd_ne nb, upd_ne n1, upd_ne nb, upd_ne n2]
    exact hb
  refine s_retG (R := isO (.lst [.int 0])) (σ := [some (.ref a)]) (EvL.g (el_lst (ea_cons ev_c ea_nil) (Nat.le_of_ble_eq_true rfl))) fun v' H5 e5 r => ?_
  obtain ⟨p, rfl, h1, h2⟩ := isO_at r
  refine k p H5 _ L' C' (hhN.up e5) ?_ h2 (fun b o h q1 q2 q3 q4 => ?_)
  · cases hp : H p with
    | none => rfl
    | some o =>
      by_cases z : p = a
      · obtain ⟨_, hi⟩ := hhN.ins
        rw [z, hi] at h1
        cases h1
      · rw [(kp p o hp z).1] at h1
        cases h1
  · obtain ⟨k1, k2, k3⟩ := kp b o h q1
    exact ⟨e5 _ _ k1, rfl, k2, k3⟩
end
end Bcw

/-! # calls in a list -/
namespace Bcw
open PySem PySem.Spec PyProof.Rows L2 Evl Bcn BnC Bn

theorem cut_in {l : List Int} {i j : Nat} (h : i ≤ j) (hj : j ≤ l.length) : cutV (intsV l) (some ((i : Nat) : Int)) (some ((j : Nat) : Int)) = intsV ((l.drop i).take (j - i)) := by
  have e : (intsV l).length = l.length := List.length_map _
  unfold cutV
  rw [HT.sIx_nat, HT.sIx_nat, e, Nat.min_eq_left (show i ≤ l.length by omega), Nat.min_eq_left hj]
  unfold intsV
  rw [List.map_take, List.map_drop]
/-- a row as it stands -/
def rowR (r : List Int) : RG := isO (.lst (intsV r))
instance {r : List Int} : Mono (rowR r) := inferInstanceAs (Mono (isO _))
abbrev backR (xs : List (List Int)) (n : Int) : List V → Hp → Prop := consR (isL (each rowR xs)) (consR (isV (.int n)) (areV []))
def spRowsAt (K : PySem.W.Frag) : Sp := spG fun vs H R => ∃ (cp : Addr) (l : List Int) (i k : Nat) (xs : List (List Int)) (t : List Int), vs = [.ref cp, .int (i : Nat), .int (k : Nat)] ∧ SqL K H cp (intsV l) ∧ l.length ≤ 30000 ∧ i ≤ l.length ∧ k ≤ 2 ∧ PyFlat.rows k (l.drop i) = some (xs, t) ∧ R = isT (backR xs ((l.length - t.length : Nat) : Int))
def preCall (rs : List V) (H : Hp) (s : Wqatdz.State) (r : Wqatdz.State × Wqatdz.Ans) : Prop := ∃ (p : Int) (nv rv : V) (ns : List Int) (xs : List (List Int)) (x : Wqatdz.Call), rs = [.int p, nv, rv] ∧ isO (.lst (intsV ns)) nv H ∧ isL (each rowR xs) rv H ∧ Nine p ns xs x ∧ r = Wqatdz.step s x
/-- return hall.m(..), a call that changes the hall -/
theorem s_retM {CL CH : Addr} {G H : Hp} {a L C : Addr} {s : Wqatdz.State} {r : Wqatdz.State × Wqatdz.Ans} {pre : List V → Hp → Wqatdz.State → Wqatdz.State × Wqatdz.Ans → Prop} {m : Str} {te : TE} {ta : TA} {σ : L2.St} {rs : List V} {D : Ends} (hh : HallAt CL CH G H a L C s) (ho : Ev te σ H (.ref a)) (hl : (halF L C).lookup m = none) (h : EvA ta σ H rs) (hp : ∀ H1, Ex H H1 → pre rs H1 s r)
    (k : ∀ (p : Addr) (H' G' : Hp) (L' C' : Addr), HallAt CL CH G' H' a L' C' r.1 → H p = none → H' p = some (.lst (intsV (ansL r.2))) → Keep H H' a L C G G' L' C' → D.rt (.ref p) H') : tRet (tMeth CH m (spMut CL CH pre) [] E0 te ta) D σ H := by
  obtain ⟨dx, hi⟩ := hh.ins
  refine ho H (Ex.refl H) _ fun H1 e1 => ⟨a, dx, halF L C, rfl, e1 _ _ hi, hl, h H1 e1 _ fun H2 e2 => ?_⟩
  show spMut CL CH pre (.ref a :: (rs ++ [])) H2 _ E0
  rw [List.append_nil]
  have e12 := e1.trans e2
  exact ⟨a, L, C, G, s, r, rs, rfl, hh.up e12, hp H2 e12, fun p H' G' L' C' q1 q2 q3 q4 => k p H' G' L' C' q1 (fresh_back e12 q2) q3 fun b o hb => q4 b o (e12 _ _ hb)⟩
/-- x = f(hall, ..) of such a def -/
theorem q_asgM {CL CH : Addr} {G H : Hp} {a L C : Addr} {s : Wqatdz.State} {r : Wqatdz.State × Wqatdz.Ans} {pre : List V → Hp → Wqatdz.State → Wqatdz.State × Wqatdz.Ans → Prop} {ta : TA} {σ : L2.St} {rs : List V} {D : Ends} {tz : TS} {i : Nat} (hh : HallAt CL CH G H a L C s) (h : EvA ta σ H (.ref a :: rs)) (hp : ∀ H1, Ex H H1 → pre rs H1 s r)
    (k : ∀ (p : Addr) (H' G' : Hp) (L' C' : Addr), HallAt CL CH G' H' a L' C' r.1 → H p = none → H' p = some (.lst (intsV (ansL r.2))) → Keep H H' a L C G G' L' C' → tz D (σ.set i (some (.ref p))) H') : tSeq (tAsg (tCall (spMut CL CH pre) [] E0 ta) (gName i)) tz D σ H := by
  refine h H (Ex.refl H) _ fun H2 e12 => ?_
  show spMut CL CH pre ((.ref a :: rs) ++ []) H2 _ E0
  rw [List.append_nil]
  exact ⟨a, L, C, G, s, r, rs, rfl, hh.up e12, hp H2 e12, fun p H' G' L' C' q1 q2 q3 q4 => k p H' G' L' C' q1 (fresh_back e12 q2) q3 fun b o hb => q4 b o (e12 _ _ hb)⟩
/-- x == a number -/
theorem et_kind {σ : L2.St} {H : Hp} {i : Nat} {c k : Int} {b : Bool} (h : σ[i]? = some (some (V.int c))) (hb : decide (V.int c = V.int k) = b) : EvT (tTest (tOp rEq (tVar i) (tC (.int k)))) σ H b := by
  subst hb
  exact et_test (ev_op (ev_var h) ev_c (rv_eq rfl))

section
variable {P : Program} {w : World} {K : PySem.W.Frag} {mg : Str → Option Value} {base : Heap} {CL CH : Addr}
theorem ok_rows_at {f : Addr} {fd : FuncData} (F : Fun K "rows_at" "rows_at" s_rows_at f fd) (T : Txt K mg CL CH) : FnOk P w K mg base CX0 1 f fd ["calls", "at", "many"] (spRowsAt K) := by
  refine F.ok sc_rows_at (spG_len fun vs H z ⟨_, _, _, _, _, _, e, _⟩ => by rw [e]; rfl) (fun cdv A outer s H vs Q E hr h => ?_)
  obtain ⟨R, ⟨cp, l, i0, k0, xs, t, rfl, hc, hl, hi0, hk0, hrows, rfl⟩, k⟩ := h
  refine ⟨_, (pss_cons (ps_set (i := 3) sc_rows_at.nd rfl (Or.inl rfl) (pe_lst pa_nil))
    (pss_cons (ps_for PassesOwn.never rfl (pi_range1 (by rfl) T.b_range (pa_cons (pv 2) pa_nil))
    (pg_name (i := 4) sc_rows_at.nd rfl (Or.inl rfl))
    (pss_cons (ps_set (i := 5) sc_rows_at.nd rfl (Or.inl rfl) (pe_ix ix_list (pv 0) (pv 1) (fun _ _ => rfl)))
    (pss_cons (ps_expr (pe_bm PySem.F.plainAttrs_list PySem.F.slot_list_append PySem.F.type_list_append mt_append (pv 3) (pa_cons (pe_slice sl_list (pv 0) (po_some (pe_op op_add (pv 1) pe_int)) (po_some (pe_op op_add (pe_op op_add (pv 1) pe_int) (pv 5)))) pa_nil)))
    (pss_one (ps_aug (i := 1) sc_rows_at.nd rfl (Or.inl rfl) (pe_op op_add pe_int (pv 5)) ip_add)))))
    (pss_one (ps_ret (pe_tup (pa_cons (pv 3) (pa_cons (pv 1) pa_nil))))))), ?_⟩
  have xl := rows_len hrows
  refine q_newL fun f hf => ?_
  refine q_forR1 (ea_cons (ev_var rfl) ea_nil) (by omega) (fun i σ' H' => ∃ (a : Nat) (s4 s5 : Option V), σ' = [some (.ref cp), some (.int (a : Nat)), some (.int (k0 : Nat)), some (.ref f), s4, s5] ∧ Bld H f rowR (xs.take i) H' ∧ a ≤ l.length ∧ PyFlat.rows (k0 - i) (l.drop a) = some (xs.drop i, t))
    (fun H1 e1 => ⟨i0, none, none, rfl, (Bld.start hf).ext e1, hi0, hrows⟩) ?_ ?_
  · rintro i σ' H' hi ⟨a, s4, s5, rfl, b1, ha, hr2⟩
    have hik : i < k0 := by omega
    obtain ⟨n, r', xs', er, hn, hnl, ex, hr3⟩ := rows_succ (k := k0 - (i + 1)) (by rw [show k0 - (i + 1) + 1 = k0 - i by omega]; exact hr2)
    have al : a < l.length := by
      have := congrArg List.length er
      rw [List.length_drop, List.length_cons] at this
      omega
    have ean : l[a]? = some n := by
      have h0 : (l.drop a)[0]? = some n := by rw [er]; rfl
      rw [List.getElem?_drop] at h0
      exact h0
    have edr : l.drop (a + 1) = r' := by
      have := congrArg (List.drop 1) er
      rw [List.drop_drop] at this
      exact this
    have hC : ∀ {H1}, Ex H' H1 → SqL K H1 cp (intsV l) := fun e => ex_l (b1.ex.trans e) hc
    have rl : r'.length = l.length - (a + 1) := by rw [← edr, List.length_drop]
    refine q_asg (ev_ixl (hC (Ex.refl H')) (ev_var rfl) (ev_var rfl) (at_int rfl ean)) fun H1 e1 => ?_
    have b2 := b1.ext e1
    obtain ⟨ys, hys, _⟩ := b2.at_
    have yl := b2.len hys
    rw [List.length_take] at yl
    have e_lo : (a : Int) + 1 = ((a + 1 : Nat) : Int) := by omega
    have e_hi : (a : Int) + 1 + n = ((a + 1 + n.toNat : Nat) : Int) := by omega
    have hcut : cutV (intsV l) (some ((a : Int) + 1)) (some ((a : Int) + 1 + n)) = intsV (r'.take n.toNat) := by
      rw [e_lo, show ((a + 1 : Nat) : Int) + n = ((a + 1 + n.toNat : Nat) : Int) by omega, cut_in (by omega) (by omega), edr, show a + 1 + n.toNat - (a + 1) = n.toNat by omega]
    have hsl : EvG (tSl (rSlL K) (tVar 0) (tPart (tOp (rI0 fun i j => .int (i + j)) (tVar 1) (tC (.int 1)))) (tPart (tOp (rI0 fun i j => .int (i + j)) (tOp (rI0 fun i j => .int (i + j)) (tVar 1) (tC (.int 1))) (tVar 5)))) [some (.ref cp), some (.int (a : Nat)), some (.int (k0 : Nat)), some (.ref f), some (.int (i : Int)), some (.int n)] H1 (rowR (r'.take n.toNat)) := by
      unfold rowR
      rw [← hcut]
      exact (el_sl (ev_var rfl) (eo_some (ev_op (ev_var rfl) ev_c rv_I0)) (eo_some (ev_op (ev_op (ev_var rfl) ev_c rv_I0) (ev_var rfl) rv_I0)) (hC e1)).g
    refine q_appG (R := rowR (r'.take n.toNat)) hys (ev_var rfl) hsl (by omega) fun v H2 e2 hv => ?_
    have b3 := b2.app hys e2 hv
    have eat : (a : Int) + (1 + n) = ((a + 1 + n.toNat : Nat) : Int) := by omega
    refine s_aug (a := (a : Int)) (b := 1 + n) rfl (ev_op ev_c (ev_var rfl) rv_I0) fun H3 e3 => ?_
    refine ⟨a + 1 + n.toNat, some (.int (i : Int)), some (.int n), ?_, ?_, by omega, ?_⟩
    · show [some (V.ref cp), some (.int ((a : Int) + (1 + n))), _, _, _, _] = _
      rw [eat]
    · have exi : xs[i]? = some (r'.take n.toNat) := by
        have h0 : (xs.drop i)[0]? = some (r'.take n.toNat) := by rw [ex]; rfl
        rw [List.getElem?_drop] at h0
        exact h0
      rw [take_succ' exi]
      exact b3.ext e3
    · have edx : xs.drop (i + 1) = xs' := by
        have := congrArg (List.drop 1) ex
        rw [List.drop_drop] at this
        exact this
      rw [edx, ← List.drop_drop, edr]
      exact hr3
  · rintro σ' H' ⟨a, s4, s5, rfl, b1, ha, hr2⟩
    have k0n : ((k0 : Nat) : Int).toNat = k0 := Int.toNat_natCast k0
    rw [k0n] at b1 hr2
    rw [Nat.sub_self] at hr2
    have et : t = l.drop a := by
      have : some ([], l.drop a) = some (xs.drop k0, t) := hr2
      exact (congrArg Prod.snd (Option.some.inj this)).symm
    have ea : a = l.length - t.length := by
      rw [et, List.length_drop]
      omega
    rw [← xl, List.take_length] at b1
    have hd := b1.done (Ex.refl H)
    refine s_retG (R := isT (areV [.ref f, .int (a : Nat)])) (EvG.weak (eu_tup (ea_cons (ev_var rfl) (ea_cons (ev_var rfl) ea_nil)) (Nat.le_of_ble_eq_true rfl)).g fun v G h => isO_isT h) fun v H1 e1 ⟨q, vs, ev, hq, hv⟩ => k _ _ (b1.ex.trans e1) ?_
    cases (show vs = _ from hv)
    refine ⟨q, _, ev, dlt_left b1.ex _ _ hq, .ref f, _, rfl, Mono.up (dlt_right e1) hd, _, _, rfl, ?_, rfl⟩
    rw [← ea]
    rfl
theorem ok_answered {f : Addr} {fd : FuncData} (F : Fun K "answered" "answered" s_answered f fd) (T : Txt K mg CL CH)
    (D_Hall_light : MethAt P w K mg base CH "light" 4 ["self", "numbers", "text", "sectors"] (spMut CL CH preLight)) (D_Hall_coast : MethAt P w K mg base CH "coast" 2 ["self", "numbers"] (spMut CL CH preCoast)) (D_Hall_seen : MethAt P w K mg base CH "seen" 6 ["self", "x", "y"] (spSeen CL CH))
    (D_Hall_at_time : MethAt P w K mg base CH "at_time" 6 ["self", "time", "x", "y"] (spAtTime CL CH)) (D_Hall_rhythm : MethAt P w K mg base CH "rhythm" 5 ["self", "number", "x", "y"] (spRhythm CL CH)) (D_Hall_where : MethAt P w K mg base CH "where" 7 ["self", "field", "told"] (spWhere CL CH))
    (D_Hall_track : MethAt P w K mg base CH "track" 6 ["self", "numbers"] (spTrack CL CH)) (D_Hall_tell : MethAt P w K mg base CH "tell" 7 ["self", "field", "told"] (spTell CL CH)) (D_Hall_wipe : MethAt P w K mg base CH "wipe" 1 ["self"] (spMut CL CH preWipe)) :
    FnOk P w K mg base CX0 8 f fd ["hall", "kind", "numbers", "rows"] (spMut CL CH preCall) := by
  refine F.ok sc_answered (mut_len fun rs H s r ⟨_, _, _, _, _, _, e, _⟩ => by rw [e]; rfl) (fun cdv A outer s H vs Q E hr h => ?_)
  obtain ⟨a, L, C, G, st, r, _, rfl, hh, ⟨p, _, _, ns, xs, x, rfl, ⟨np, rfl, hnp⟩, ⟨rp, rvs, rfl, hrp, hrs⟩, h9, rfl⟩, k⟩ := h
  refine ⟨_, (pss_cons (ps_if (pt_cmpR op_eq (pv 1) pe_int (nomark _))
    (pss_one (ps_ret (pe_dmeth D_Hall_light T.cHall (hr.mono (by decide)) (pv 0) (pa_cons (pv 2) (pa_cons (pe_ix ix_list (pv 3) pe_int (fun _ _ => rfl)) (pa_cons (pe_ix ix_list (pv 3) pe_int (fun _ _ => rfl)) pa_nil))))))
    pss_nil)
    (pss_cons (ps_if (pt_cmpR op_eq (pv 1) pe_int (nomark _))
    (pss_one (ps_ret (pe_dmeth D_Hall_coast T.cHall (hr.mono (by decide)) (pv 0) (pa_cons (pv 2) pa_nil))))
    pss_nil)
    (pss_cons (ps_if (pt_cmpR op_eq (pv 1) pe_int (nomark _))
    (pss_one (ps_ret (pe_dmeth D_Hall_seen T.cHall (hr.mono (by decide)) (pv 0) (pa_cons (pe_ix ix_list (pv 2) pe_int (fun _ _ => rfl)) (pa_cons (pe_ix ix_list (pv 2) pe_int (fun _ _ => rfl)) pa_nil)))))
    pss_nil)
    (pss_cons (ps_if (pt_cmpR op_eq (pv 1) pe_int (nomark _))
    (pss_one (ps_ret (pe_dmeth D_Hall_at_time T.cHall (hr.mono (by decide)) (pv 0) (pa_cons (pe_ix ix_list (pv 2) pe_int (fun _ _ => rfl)) (pa_cons (pe_ix ix_list (pv 2) pe_int (fun _ _ => rfl)) (pa_cons (pe_ix ix_list (pv 2) pe_int (fun _ _ => rfl)) pa_nil))))))
    pss_nil)
    (pss_cons (ps_if (pt_cmpR op_eq (pv 1) pe_int (nomark _))
    (pss_one (ps_ret (pe_dmeth D_Hall_rhythm T.cHall (hr.mono (by decide)) (pv 0) (pa_cons (pe_ix ix_list (pv 2) pe_int (fun _ _ => rfl)) (pa_cons (pe_ix ix_list (pv 2) pe_int (fun _ _ => rfl)) (pa_cons (pe_ix ix_list (pv 2) pe_int (fun _ _ => rfl)) pa_nil))))))
    pss_nil)
    (pss_cons (ps_if (pt_cmpR op_eq (pv 1) pe_int (nomark _))
    (pss_one (ps_ret (pe_dmeth D_Hall_where T.cHall (hr.mono (by decide)) (pv 0) (pa_cons (pv 2) (pa_cons (pe_ix ix_list (pv 3) pe_int (fun _ _ => rfl)) pa_nil)))))
    pss_nil)
    (pss_cons (ps_if (pt_cmpR op_eq (pv 1) pe_int (nomark _))
    (pss_one (ps_ret (pe_dmeth D_Hall_track T.cHall (hr.mono (by decide)) (pv 0) (pa_cons (pv 2) pa_nil))))
    pss_nil)
    (pss_cons (ps_if (pt_cmpR op_eq (pv 1) pe_int (nomark _))
    (pss_one (ps_ret (pe_dmeth D_Hall_tell T.cHall (hr.mono (by decide)) (pv 0) (pa_cons (pv 2) (pa_cons (pe_ix ix_list (pv 3) pe_int (fun _ _ => rfl)) pa_nil)))))
    pss_nil)
    (pss_one (ps_ret (pe_dmeth0 D_Hall_wipe T.cHall (hr.mono (by decide)) (pv 0)))))))))))), ?_⟩
  obtain ⟨dx, hi⟩ := hh.ins
  -- an asking method
  have ask : ∀ {H' H'' : Hp} {v : V} {A : Wqatdz.Ans}, Wqatdz.step st x = (st, A) → Ex H H' → Ex H' H'' → ansR A v (dlt H' H'') → Q v H'' := fun {H' H'' v A} eq e1 e2 hv => by
    obtain ⟨p, rfl, h1, h2⟩ := isO_at hv
    rw [eq] at k
    exact k p H'' G L C (hh.up (e1.trans e2)) (fresh_back e1 h1) h2 (Keep.same (e1.trans e2))
  cases h9 with
  | light hfar hb hbl hsl =>
    refine q_when (et_kind rfl (b := true) rfl) (fun _ H1 e1 => ?_) (fun z => absurd z (by decide))
    have e := e1
    cases hrs with
    | cons q1 t1 => cases t1 with
      | cons q2 t2 =>
        cases t2
        obtain ⟨bp, rfl, hbp⟩ := q1
        obtain ⟨sp, rfl, hsp⟩ := q2
        refine s_retM (r := Wqatdz.step st _) (hh.up e) (ev_var rfl) halF_light (ea_cons (ev_var rfl) (ea_cons (ev_ixl (sq_of (e _ _ hrp)) (ev_var rfl) ev_c rfl) (ea_cons (ev_ixl (sq_of (e _ _ hrp)) (ev_var rfl) ev_c rfl) ea_nil))) (fun H' e' => ⟨.ref np, .ref bp, .ref sp, _, _, _, _, _, rfl, ⟨np, rfl, (e.trans e') _ _ hnp⟩, ⟨bp, rfl, by rw [ofB_of hb]; exact (e.trans e') _ _ hbp⟩, ?_, ⟨sp, rfl, (e.trans e') _ _ hsp⟩, hsl, hfar, rfl⟩) fun p H' G' L' C' q1 q2 q3 q4 => k p H' G' L' C' q1 (fresh_back e q2) q3 fun b o hb => q4 b o (e _ _ hb)
        unfold WqatdzNeutral.bytes
        rw [List.length_map]
        exact hbl
  | coast =>
    refine q_when (et_kind rfl (b := false) rfl) (fun z => absurd z (by decide)) (fun _ H1 e1 => ?_)
    refine q_when (et_kind rfl (b := true) rfl) (fun _ H2 e2 => ?_) (fun z => absurd z (by decide))
    have e := (e1.trans e2)
    exact s_retM (r := Wqatdz.step st _) (hh.up e) (ev_var rfl) halF_coast (ea_cons (ev_var rfl) ea_nil) (fun H' e' => ⟨.ref np, _, _, _, _, rfl, ⟨np, rfl, (e.trans e') _ _ hnp⟩, rfl⟩) fun p H' G' L' C' q1 q2 q3 q4 => k p H' G' L' C' q1 (fresh_back e q2) q3 fun b o hb => q4 b o (e _ _ hb)
  | seen =>
    refine q_when (et_kind rfl (b := false) rfl) (fun z => absurd z (by decide)) (fun _ H1 e1 => ?_)
    refine q_when (et_kind rfl (b := false) rfl) (fun z => absurd z (by decide)) (fun _ H2 e2 => ?_)
    refine q_when (et_kind rfl (b := true) rfl) (fun _ H3 e3 => ?_) (fun z => absurd z (by decide))
    have e := ((e1.trans e2).trans e3)
    refine s_retG (R := ansR (Wqatdz.told st _)) (eg_meth (ev_var rfl) (e _ _ hi) halF_seen (ea_cons (ev_ixl (sq_of (e _ _ hnp)) (ev_var rfl) ev_c rfl) (ea_cons (ev_ixl (sq_of (e _ _ hnp)) (ev_var rfl) ev_c rfl) ea_nil)).g fun us H9 e9 q => ?_) fun v H9 e9 r => ask rfl e e9 r
    cases (show us = _ from q)
    exact ⟨a, L, C, G, st, _, _, rfl, hh.up (e.trans e9), rfl⟩
  | at_ hz =>
    refine q_when (et_kind rfl (b := false) rfl) (fun z => absurd z (by decide)) (fun _ H1 e1 => ?_)
    refine q_when (et_kind rfl (b := false) rfl) (fun z => absurd z (by decide)) (fun _ H2 e2 => ?_)
    refine q_when (et_kind rfl (b := false) rfl) (fun z => absurd z (by decide)) (fun _ H3 e3 => ?_)
    refine q_when (et_kind rfl (b := true) rfl) (fun _ H4 e4 => ?_) (fun z => absurd z (by decide))
    have e := (((e1.trans e2).trans e3).trans e4)
    refine s_retG (R := ansR (Wqatdz.told st _)) (eg_meth (ev_var rfl) (e _ _ hi) halF_at_time (ea_cons (ev_ixl (sq_of (e _ _ hnp)) (ev_var rfl) ev_c rfl) (ea_cons (ev_ixl (sq_of (e _ _ hnp)) (ev_var rfl) ev_c rfl) (ea_cons (ev_ixl (sq_of (e _ _ hnp)) (ev_var rfl) ev_c rfl) ea_nil))).g fun us H9 e9 q => ?_) fun v H9 e9 r => ask rfl e e9 r
    cases (show us = _ from q)
    exact ⟨a, L, C, G, st, _, _, _, rfl, hh.up (e.trans e9), hz, rfl⟩
  | rhythm hz =>
    refine q_when (et_kind rfl (b := false) rfl) (fun z => absurd z (by decide)) (fun _ H1 e1 => ?_)
    refine q_when (et_kind rfl (b := false) rfl) (fun z => absurd z (by decide)) (fun _ H2 e2 => ?_)
    refine q_when (et_kind rfl (b := false) rfl) (fun z => absurd z (by decide)) (fun _ H3 e3 => ?_)
    refine q_when (et_kind rfl (b := false) rfl) (fun z => absurd z (by decide)) (fun _ H4 e4 => ?_)
    refine q_when (et_kind rfl (b := true) rfl) (fun _ H5 e5 => ?_) (fun z => absurd z (by decide))
    have e := ((((e1.trans e2).trans e3).trans e4).trans e5)
    refine s_retG (R := ansR (Wqatdz.told st _)) (eg_meth (ev_var rfl) (e _ _ hi) halF_rhythm (ea_cons (ev_ixl (sq_of (e _ _ hnp)) (ev_var rfl) ev_c rfl) (ea_cons (ev_ixl (sq_of (e _ _ hnp)) (ev_var rfl) ev_c rfl) (ea_cons (ev_ixl (sq_of (e _ _ hnp)) (ev_var rfl) ev_c rfl) ea_nil))).g fun us H9 e9 q => ?_) fun v H9 e9 r => ask rfl e e9 r
    cases (show us = _ from q)
    exact ⟨a, L, C, G, st, _, _, _, rfl, hh.up (e.trans e9), hz, rfl⟩
  | where_ htz htl =>
    refine q_when (et_kind rfl (b := false) rfl) (fun z => absurd z (by decide)) (fun _ H1 e1 => ?_)
    refine q_when (et_kind rfl (b := false) rfl) (fun z => absurd z (by decide)) (fun _ H2 e2 => ?_)
    refine q_when (et_kind rfl (b := false) rfl) (fun z => absurd z (by decide)) (fun _ H3 e3 => ?_)
    refine q_when (et_kind rfl (b := false) rfl) (fun z => absurd z (by decide)) (fun _ H4 e4 => ?_)
    refine q_when (et_kind rfl (b := false) rfl) (fun z => absurd z (by decide)) (fun _ H5 e5 => ?_)
    refine q_when (et_kind rfl (b := true) rfl) (fun _ H6 e6 => ?_) (fun z => absurd z (by decide))
    have e := (((((e1.trans e2).trans e3).trans e4).trans e5).trans e6)
    cases hrs with
    | cons q1 t1 =>
      cases t1
      obtain ⟨tp, rfl, htp⟩ := q1
      refine s_retG (R := ansR (Wqatdz.told st _)) (eg_meth (ev_var rfl) (e _ _ hi) halF_where (ea_cons (ev_var rfl) (ea_cons (ev_ixl (sq_of (e _ _ hrp)) (ev_var rfl) ev_c rfl) ea_nil)).g fun us H9 e9 q => ?_) fun v H9 e9 r => ask rfl e e9 r
      cases (show us = _ from q)
      exact ⟨a, L, C, G, st, _, _, _, _, _, ⟨.ref np, .ref tp, rfl, ⟨np, rfl, (e.trans e9) _ _ hnp⟩, ⟨tp, rfl, (e.trans e9) _ _ htp⟩, htl, htz⟩, hh.up (e.trans e9), rfl⟩
  | track hz =>
    refine q_when (et_kind rfl (b := false) rfl) (fun z => absurd z (by decide)) (fun _ H1 e1 => ?_)
    refine q_when (et_kind rfl (b := false) rfl) (fun z => absurd z (by decide)) (fun _ H2 e2 => ?_)
    refine q_when (et_kind rfl (b := false) rfl) (fun z => absurd z (by decide)) (fun _ H3 e3 => ?_)
    refine q_when (et_kind rfl (b := false) rfl) (fun z => absurd z (by decide)) (fun _ H4 e4 => ?_)
    refine q_when (et_kind rfl (b := false) rfl) (fun z => absurd z (by decide)) (fun _ H5 e5 => ?_)
    refine q_when (et_kind rfl (b := false) rfl) (fun z => absurd z (by decide)) (fun _ H6 e6 => ?_)
    refine q_when (et_kind rfl (b := true) rfl) (fun _ H7 e7 => ?_) (fun z => absurd z (by decide))
    have e := ((((((e1.trans e2).trans e3).trans e4).trans e5).trans e6).trans e7)
    refine s_retG (R := ansR (Wqatdz.told st _)) (eg_meth (ev_var rfl) (e _ _ hi) halF_track (ea_cons (ev_var rfl) ea_nil).g fun us H9 e9 q => ?_) fun v H9 e9 r => ask rfl e e9 r
    cases (show us = _ from q)
    exact ⟨a, L, C, G, st, .ref np, _, _, _, _, _, rfl, ⟨np, rfl, (e.trans e9) _ _ hnp⟩, hh.up (e.trans e9), hz, rfl⟩
  | tell htz htl =>
    refine q_when (et_kind rfl (b := false) rfl) (fun z => absurd z (by decide)) (fun _ H1 e1 => ?_)
    refine q_when (et_kind rfl (b := false) rfl) (fun z => absurd z (by decide)) (fun _ H2 e2 => ?_)
    refine q_when (et_kind rfl (b := false) rfl) (fun z => absurd z (by decide)) (fun _ H3 e3 => ?_)
    refine q_when (et_kind rfl (b := false) rfl) (fun z => absurd z (by decide)) (fun _ H4 e4 => ?_)
    refine q_when (et_kind rfl (b := false) rfl) (fun z => absurd z (by decide)) (fun _ H5 e5 => ?_)
    refine q_when (et_kind rfl (b := false) rfl) (fun z => absurd z (by decide)) (fun _ H6 e6 => ?_)
    refine q_when (et_kind rfl (b := false) rfl) (fun z => absurd z (by decide)) (fun _ H7 e7 => ?_)
    refine q_when (et_kind rfl (b := true) rfl) (fun _ H8 e8 => ?_) (fun z => absurd z (by decide))
    have e := (((((((e1.trans e2).trans e3).trans e4).trans e5).trans e6).trans e7).trans e8)
    cases hrs with
    | cons q1 t1 =>
      cases t1
      obtain ⟨tp, rfl, htp⟩ := q1
      refine s_retG (R := ansR (Wqatdz.told st _)) (eg_meth (ev_var rfl) (e _ _ hi) halF_tell (ea_cons (ev_var rfl) (ea_cons (ev_ixl (sq_of (e _ _ hrp)) (ev_var rfl) ev_c rfl) ea_nil)).g fun us H9 e9 q => ?_) fun v H9 e9 r => ask rfl e e9 r
      cases (show us = _ from q)
      exact ⟨a, L, C, G, st, _, _, _, _, _, ⟨.ref np, .ref tp, rfl, ⟨np, rfl, (e.trans e9) _ _ hnp⟩, ⟨tp, rfl, (e.trans e9) _ _ htp⟩, htl, htz⟩, hh.up (e.trans e9), rfl⟩
  | clear =>
    refine q_when (et_kind rfl (b := false) rfl) (fun z => absurd z (by decide)) (fun _ H1 e1 => ?_)
    refine q_when (et_kind rfl (b := false) rfl) (fun z => absurd z (by decide)) (fun _ H2 e2 => ?_)
    refine q_when (et_kind rfl (b := false) rfl) (fun z => absurd z (by decide)) (fun _ H3 e3 => ?_)
    refine q_when (et_kind rfl (b := false) rfl) (fun z => absurd z (by decide)) (fun _ H4 e4 => ?_)
    refine q_when (et_kind rfl (b := false) rfl) (fun z => absurd z (by decide)) (fun _ H5 e5 => ?_)
    refine q_when (et_kind rfl (b := false) rfl) (fun z => absurd z (by decide)) (fun _ H6 e6 => ?_)
    refine q_when (et_kind rfl (b := false) rfl) (fun z => absurd z (by decide)) (fun _ H7 e7 => ?_)
    refine q_when (et_kind rfl (b := false) rfl) (fun z => absurd z (by decide)) (fun _ H8 e8 => ?_)
    have e := (((((((e1.trans e2).trans e3).trans e4).trans e5).trans e6).trans e7).trans e8)
    exact s_retM (r := Wqatdz.step st _) (hh.up e) (ev_var rfl) halF_wipe ea_nil (fun H' e' => ⟨rfl, rfl⟩) fun p H' G' L' C' q1 q2 q3 q4 => k p H' G' L' C' q1 (fresh_back e q2) q3 fun b o hb => q4 b o (e _ _ hb)
end
end Bcw

/-! # the asked def -/
namespace Bcw
open PySem PySem.Spec PyProof.Rows L2 Evl Bcn BnC Bn

/-- the list that is handed in: nothing in the hall, not the list that is built -/
def Stands (K : PySem.W.Frag) (cp : Addr) (xs : List V) (H G : Hp) (a L C f : Addr) : Prop :=
  (∃ o, H cp = some o ∧ (∀ H', H' cp = some o → SqL K H' cp xs) ∧ cp ≠ a ∧ cp ≠ L ∧ cp ≠ C ∧ cp ≠ f ∧ G cp = none) ∨ ∀ H', SqL K H' cp xs
section
variable {K : PySem.W.Frag} {cp : Addr} {xs : List V} {H H' G G' : Hp} {a L C L' C' f : Addr}
theorem Stands.sq (h : Stands K cp xs H G a L C f) : SqL K H cp xs := by
  rcases h with ⟨o, h1, h2, _⟩ | h
  · exact h2 H h1
  · exact h H
theorem Stands.up (h : Stands K cp xs H G a L C f) (e : Ex H H') : Stands K cp xs H' G a L C f := by
  rcases h with ⟨o, h1, h2⟩ | h
  · exact .inl ⟨o, e _ _ h1, h2⟩
  · exact .inr h
theorem Stands.keep (h : Stands K cp xs H G a L C f) (k : Keep H H' a L C G G' L' C') : Stands K cp xs H' G' a L' C' f := by
  rcases h with ⟨o, h1, h2, h3, h4, h5, h6, h7⟩ | h
  · obtain ⟨k1, k2, k3, k4⟩ := k cp o h1 h3 h4 h5 h7
    exact .inl ⟨o, k1, h2, h3, k3, k4, h6, k2⟩
  · exact .inr h
theorem Stands.put (h : Stands K cp xs H G a L C f) {o : HO} : Stands K cp xs (upd H f o) G a L C f := by
  rcases h with ⟨o', h1, h2, h3, h4, h5, h6, h7⟩ | h
  · exact .inl ⟨o', by rw [upd_ne h6]; exact h1, h2, h3, h4, h5, h6, h7⟩
  · exact .inr h
theorem sq_cases (h : SqL K H cp xs) : (∃ o, H cp = some o ∧ ∀ H', H' cp = some o → SqL K H' cp xs) ∨ ∀ H', SqL K H' cp xs := by
  rcases h with h | h
  · rcases h with h | ⟨o, h⟩
    · exact .inl ⟨_, h, fun H' h' => .inl (.inl h')⟩
    · exact .inl ⟨_, h, fun H' h' => .inl (.inr ⟨o, h'⟩)⟩
  · exact .inr fun H' => .inr h
theorem HallAt.put {CL CH : Addr} {s : Wqatdz.State} (hh : HallAt CL CH G H a L C s) {o : HO} (n1 : f ≠ a) (n2 : f ≠ L) (n3 : f ≠ C) (n4 : G f = none) : HallAt CL CH G (upd H f o) a L C s := by
  obtain ⟨h1, ⟨dx, h2⟩, ⟨vs, h3, h4⟩, ⟨ws, h5, h6⟩, h7, h8, h9, h10, h11⟩ := hh
  refine ⟨fun b o' h => ?_, ⟨dx, by rw [upd_ne n1.symm]; exact h2⟩, ⟨vs, by rw [upd_ne n2.symm]; exact h3, h4⟩, ⟨ws, by rw [upd_ne n3.symm]; exact h5, h6⟩, h7, h8, h9, h10, h11⟩
  have nb : b ≠ f := fun z => by rw [z, n4] at h; cases h
  rw [upd_ne nb]
  exact h1 _ _ h
end
/-- xs.append(e), a long list -/
theorem q_appW {K : PySem.W.Frag} {σ : L2.St} {H : Hp} {D : Ends} {tz : TS} {te ta : TE} {v : V} {l : Addr} {xs : List V} (hl : H l = some (.lst xs)) (ha : Ev ta σ H (.ref l)) (h : Ev te σ H v) (hz : xs.length < 16000000) (k : ∀ H1, Ex H H1 → tz D σ (upd H1 l (.lst (xs ++ [v])))) :
    tSeq (tDrop (tBM K "list" rAppend ta (tCons te tNil))) tz D σ H := ha H (Ex.refl H) _ fun H1 e1 =>
  ⟨Or.inl ⟨rfl, xs, sq_of (e1 l _ hl)⟩, h H1 e1 _ fun H2 e2 => ⟨l, xs, v, rfl, rfl, e2 l _ (e1 l _ hl), Nat.lt_of_lt_of_le hz (by decide), k H2 (e1.trans e2)⟩⟩
/-- xs.extend(e), e a list that stands -/
theorem s_extW {K : PySem.W.Frag} {σ : L2.St} {H : Hp} {D : Ends} {te ta : TE} {l p : Addr} {xs ys : List V} (hl : H l = some (.lst xs)) (hp : H p = some (.lst ys)) (ha : Ev ta σ H (.ref l)) (h : Ev te σ H (.ref p)) (hz : xs.length + ys.length ≤ 16000000) (k : ∀ H1, Ex H H1 → D.nx σ (upd H1 l (.lst (xs ++ ys)))) :
    tDrop (tBM K "list" rExtend ta (tCons te tNil)) D σ H := ha H (Ex.refl H) _ fun H1 e1 =>
  ⟨Or.inl ⟨rfl, xs, sq_of (e1 l _ hl)⟩, h H1 e1 _ fun H2 e2 => ⟨l, p, xs, ys, rfl, rfl, e2 l _ (e1 l _ hl), e2 p _ (e1 p _ hp), Nat.le_trans hz (by decide), k H2 (e1.trans e2)⟩⟩
def spAns (K : PySem.W.Frag) : Sp := fun vs H Q _ => ∃ (cp : Addr) (l : List Int), vs = [.ref cp] ∧ SqL K H cp (intsV l) ∧ l.length ≤ 30000 ∧ PyWqatdz.answers_asked l = true ∧
  ∀ (H' : Hp) (p : Addr), H' p = some (.lst (intsV (PyWqatdz.answers l))) → Q (.ref p) H'
theorem at_intT {l : List Int} {i : Nat} {x : Int} (h : l[i]? = some x) : atI (l.map V.int) ((i : Nat) : Int) = some (.int x) := at_int rfl h

section
variable {P : Program} {w : World} {K : PySem.W.Frag} {mg : Str → Option Value} {base : Heap} {CL CH : Addr}
theorem ok_answers {f : Addr} {fd : FuncData} (F : Fun K "answers" "answers" s_answers f fd) (T : Txt K mg CL CH) (M_Hall : MakeAt P w K mg base "Hall" CH 1 ["self"] (spHallInit CL CH)) (D_rows_at : DefAt P w K mg base "rows_at" 1 ["calls", "at", "many"] (spRowsAt K))
    (D_answered : DefAt P w K mg base "answered" 8 ["hall", "kind", "numbers", "rows"] (spMut CL CH preCall)) : FnOk P w K mg base CX0 9 f fd ["calls"] (spAns K) := by
  refine F.ok sc_answers (fun vs H Q E ⟨_, _, e, _⟩ => by rw [e]; rfl) (fun cdv A outer s H vs Q E hr h => ?_)
  obtain ⟨cp, l, rfl, hc, hl, hask, k⟩ := h
  refine ⟨_, (pss_cons (ps_set (i := 1) sc_answers.nd rfl (Or.inl rfl) (pe_dmake0 M_Hall (hr.mono (by decide))))
    (pss_cons (ps_set (i := 2) sc_answers.nd rfl (Or.inl rfl) (pe_lst pa_nil))
    (pss_cons (ps_set (i := 3) sc_answers.nd rfl (Or.inl rfl) pe_int)
    (pss_cons (ps_while PassesOwn.never (pt_cmpR op_lt (pv 3) (pe_callB call_len_seq (by rfl) T.b_len PySem.boot_len (pa_cons (pv 0) pa_nil)) (nomark _))
    (pss_cons (ps_set (i := 4) sc_answers.nd rfl (Or.inl rfl) (pe_ix ix_list (pv 0) (pv 3) (fun _ _ => rfl)))
    (pss_cons (ps_set (i := 5) sc_answers.nd rfl (Or.inl rfl) (pe_op op_add (pe_op op_add (pv 3) pe_int) (pe_ix ix_tup (pe_gr T.g_NUMBERS) (pv 4) (fun _ _ => rfl))))
    (pss_cons (ps_set (i := 6) sc_answers.nd rfl (Or.inl rfl) (pe_slice sl_list (pv 0) (po_some (pe_op op_add (pv 3) pe_int)) (po_some (pv 5))))
    (pss_cons (ps_asg (pe_dcall D_rows_at (hr.mono (by decide)) (pa_cons (pv 0) (pa_cons (pv 5) (pa_cons (pe_ix ix_tup (pe_gr T.g_ROWS) (pv 4) (fun _ _ => rfl)) pa_nil)))) (pg_tup rfl (pgs_cons (pg_name (i := 7) sc_answers.nd rfl (Or.inl rfl)) (pgs_cons (pg_name (i := 3) sc_answers.nd rfl (Or.inl rfl)) pgs_nil))))
    (pss_cons (ps_set (i := 8) sc_answers.nd rfl (Or.inl rfl) (pe_dcall D_answered (hr.mono (by decide)) (pa_cons (pv 1) (pa_cons (pv 4) (pa_cons (pv 6) (pa_cons (pv 7) pa_nil))))))
    (pss_cons (ps_expr (pe_bm PySem.F.plainAttrs_list PySem.F.slot_list_append PySem.F.type_list_append mt_append (pv 2) (pa_cons (pe_callB call_len_seq (by rfl) T.b_len PySem.boot_len (pa_cons (pv 8) pa_nil)) pa_nil)))
    (pss_one (ps_expr (pe_bm PySem.F.plainAttrs_list PySem.F.slot_list_extend PySem.F.type_list_extend mt_extend (pv 2) (pa_cons (pv 8) pa_nil)))))))))))
    (pss_one (ps_ret (pv 2))))))), ?_⟩
  obtain ⟨raw, hraw, hans, hall, hmany⟩ := asked_inv hask
  -- hall = Hall()
  intro a dx ha hdx hne
  refine ⟨a, dx, rfl, upd_same, fun H1 L C hh1 kp hL hC => ⟨rfl, ?_⟩⟩
  have naL : L ≠ a := fun z => by rw [z, upd_same] at hL; cases hL
  have naC : C ≠ a := fun z => by rw [z, upd_same] at hC; cases hC
  have hL0 : H L = none := by
    rw [upd_ne naL] at hL
    exact (upd_nil_none hL).2
  have hC0 : H C = none := by
    rw [upd_ne naC] at hC
    exact (upd_nil_none hC).2
  have ex1 : Ex H H1 := fun b o hb => by
    have n1 : b ≠ a := ne_of_none hb ha
    have n2 : b ≠ dx := ne_of_none hb hdx
    exact kp b o (by rw [upd_ne n1, upd_ne n2]; exact hb) n1
  refine q_newL fun f hf => ?_
  have ex2 : Ex H1 (upd H1 f (.lst [])) := Ex.new hf
  have nfa : f ≠ a := fun z => by
    obtain ⟨_, hi⟩ := hh1.ins
    rw [z, hi] at hf
    cases hf
  have nfL : f ≠ L := fun z => by
    obtain ⟨_, hi, _⟩ := hh1.li
    rw [z, hi] at hf
    cases hf
  have nfC : f ≠ C := fun z => by
    obtain ⟨_, hi, _⟩ := hh1.co
    rw [z, hi] at hf
    cases hf
  have st0 : Stands K cp (intsV l) (upd H1 f (.lst [])) (fun _ => none) a L C f := by
    rcases sq_cases hc with ⟨o, h1, h2⟩ | h
    · exact .inl ⟨o, (ex1.trans ex2) _ _ h1, h2, ne_of_none h1 ha, ne_of_none h1 hL0, ne_of_none h1 hC0, ne_of_none (ex1 _ _ h1) hf, rfl⟩
    · exact .inr h
  have hll : (intsV l).length = l.length := List.length_map _
  refine q_asg ev_c fun H2 e2 => ?_
  let W : Nat → L2.St → Hp → Prop := fun m σ' H' => ∃ (at' : Nat) (s4 s5 s6 s7 s8 : Option V) (G : Hp) (L C : Addr) (st : Wqatdz.State) (done : List Int) (rest : List (List (List Int))) (fuel : Nat), σ' = [some (.ref cp), some (.ref a), some (.ref f), some (.int (at' : Nat)), s4, s5, s6, s7, s8] ∧ m = l.length - at' ∧ at' ≤ l.length ∧
    HallAt CL CH G H' a L C st ∧ H' f = some (.lst (intsV done)) ∧ (f ≠ L ∧ f ≠ C ∧ G f = none) ∧ Stands K cp (intsV l) H' G a L C f ∧ PyFlat.calls PyWqatdz.shape fuel (l.drop at') = some rest ∧ done ++ PyFlat.told (PyFlat.played WqatdzNeutral.step st rest) = PyWqatdz.answers l ∧ (∀ c ∈ rest, PyInside.call PyWqatdz.bound c = true ∧ WqatdzNeutral.asked1 c = true)
  have w0 : W l.length [some (.ref cp), some (.ref a), some (.ref f), some (.int ((0 : Nat) : Int)), none, none, none, none, none] H2 := by
    refine ⟨0, none, none, none, none, none, _, L, C, _, [], raw, l.length, rfl, (by omega), Nat.zero_le _, (hh1.up ex2).up e2, e2 _ _ upd_same, ⟨nfL, nfC, rfl⟩, st0.up e2, hraw, hans.symm, hall⟩
  refine q_while W l.length w0 ?_
  rintro m σ' H' ⟨at', s4, s5, s6, s7, s8, G, L, C, st, done, rest, fuel, rfl, rfl, hat, hh, hf', ⟨nL, nC, gf⟩, hst, hcalls, hdone, hgood⟩
  refine ⟨decide ((at' : Int) < (l.length : Int)), ?_, fun hb H3 e3 => ?_, fun hb H3 e3 => ?_⟩
  · have q := et_test (ev_op (r := rI0 fun i j => .bl (decide (i < j))) (ev_var (σ := [some (.ref cp), some (.ref a), some (.ref f), some (.int (at' : Nat)), s4, s5, s6, s7, s8]) (H := H') (i := 3) rfl) (ev_lenS (K := K) hst.sq (ev_var (i := 0) rfl)) rv_I0)
    rw [hll] at q
    exact q
  · rw [decide_eq_true_iff] at hb
    have hlt : at' < l.length := by omega
    -- the call at hand
    obtain ⟨p, r, er⟩ : ∃ p r, l.drop at' = p :: r := by
      cases e : l.drop at' with
      | nil =>
        have := congrArg List.length e
        rw [List.length_drop, List.length_nil] at this
        omega
      | cons p r => exact ⟨p, r, rfl⟩
    have eap : l[at']? = some p := by
      have h0 : (l.drop at')[0]? = some p := by rw [er]; rfl
      rw [List.getElem?_drop] at h0
      exact h0
    have edr : l.drop (at' + 1) = r := by
      have := congrArg (List.drop 1) er
      rw [List.drop_drop] at this
      exact this
    have rl : r.length = l.length - (at' + 1) := by rw [← edr, List.length_drop]
    rw [er] at hcalls
    obtain ⟨f', c, t, cs, hcall, hcs, rfl⟩ := calls_inv hcalls
    obtain ⟨n, kk, xs, hsh, hn, hrows, rfl⟩ := call_inv hcall
    obtain ⟨g1, g2⟩ := hgood _ List.mem_cons_self
    obtain ⟨x, h9, hx⟩ := nine_of hsh (by rw [List.length_take]; omega) (rows_len hrows) g1 g2
    obtain ⟨j, ej, hnj, hkj, hn5, hk2⟩ := shape_inv hsh
    have hstep := step_of hx st
    have hplay : PyFlat.told (PyFlat.played WqatdzNeutral.step st (((p :: r.take n) :: xs) :: cs)) = (((ansL (Wqatdz.step st x).2).length : Int) :: ansL (Wqatdz.step st x).2) ++ PyFlat.told (PyFlat.played WqatdzNeutral.step (Wqatdz.step st x).1 cs) := by
      show PyFlat.told ((WqatdzNeutral.step st _).2 :: PyFlat.played WqatdzNeutral.step (WqatdzNeutral.step st _).1 cs) = _
      rw [hstep, told_cons]
    rw [hplay] at hdone
    obtain ⟨dr1, dr2⟩ := rows_drop hrows
    rw [List.length_drop] at dr1 dr2
    have hdr : l.drop (at' + 1 + n) = r.drop n := by rw [← List.drop_drop, edr]
    refine ⟨fun σ2 H2 => ∃ m', m' < l.length - at' ∧ W m' σ2 H2, fun σ2 H2 h => h, ?_⟩
    -- kind = calls[at]
    have hS : ∀ {H4}, Ex H' H4 → SqL K H4 cp (intsV l) := fun e => (hst.up e).sq
    refine q_asg (ev_ixl (hS e3) (ev_var rfl) (ev_var rfl) (at_intT eap)) fun H4 e4 => ?_
    have e34 := e3.trans e4
    -- behind
    have hbeh : (at' : Int) + 1 + (n : Int) = ((at' + 1 + n : Nat) : Int) := by omega
    refine q_asg (v := .int ((at' + 1 + n : Nat) : Int)) (ev_is (ev_op (ev_op (ev_var rfl) ev_c rv_I0) (ev_op ev_c (ev_var rfl) (rv_ixT (T.s_NUMBERS H4) (i := p) (by rw [ej]; exact at_intT hnj))) rv_I0) (congrArg V.int hbeh)) fun H5 e5 => ?_
    have e35 := e34.trans e5
    -- numbers
    have hcut : cutV (intsV l) (some ((at' : Int) + 1)) (some ((at' + 1 + n : Nat) : Int)) = intsV (r.take n) := by
      rw [show (at' : Int) + 1 = ((at' + 1 : Nat) : Int) by omega, cut_in (by omega) (by omega), edr, show at' + 1 + n - (at' + 1) = n by omega]
    refine q_asgL (xs := cutV (intsV l) (some ((at' : Int) + 1)) (some ((at' + 1 + n : Nat) : Int))) (el_sl (ev_var rfl) (eo_some (ev_op (ev_var rfl) ev_c rv_I0)) (eo_some (ev_var rfl)) (hS e35)) fun np H6 hnp0 e6 hnp => ?_
    rw [hcut] at hnp
    have e36 := e35.trans e6
    -- rows, at
    refine q_asgT (RA := backR xs ((l.length - t.length : Nat) : Int)) (eg_call (ea_cons (ev_var rfl) (ea_cons (ev_var rfl) (ea_cons (ev_op ev_c (ev_var rfl) (rv_ixT (T.s_ROWS H6) (i := p) (by rw [ej]; exact at_intT hkj))) ea_nil))).g fun us H7 e7 q => by
      cases (show us = _ from q)
      exact ⟨cp, l, at' + 1 + n, kk, xs, t, rfl, hS (e36.trans e7), hl, (by omega), hk2, (by rw [hdr]; exact hrows), rfl⟩) (fun vs G ⟨_, _, h, _, _, _, h2, _, h3⟩ => by rw [h, h2, h3]; rfl) fun vs H7 e7 ⟨_, _, h, ⟨rp, rvs, hrv, hrp, hrs⟩, _, _, h2, hm, h3⟩ => ?_
    cases (show _ = _ from h3)
    cases (show _ = _ from hm)
    subst h2
    subst h
    subst hrv
    have e37 := e36.trans e7
    have hrp7 := dlt_ex _ _ _ _ hrp
    have hrs7 : each rowR xs rvs H7 := MonoA.up (dlt_ex _ _) hrs
    have hh7 := hh.up e37
    refine g_two ?_
    -- answer
    refine q_asgM (r := Wqatdz.step st x) hh7 (ea_cons (ev_var rfl) (ea_cons (ev_var rfl) (ea_cons (ev_var rfl) (ea_cons (ev_var rfl) ea_nil)))) (fun H8 e8 => ⟨p, .ref np, .ref rp, r.take n, xs, x, rfl, ⟨np, rfl, (e7.trans e8) _ _ hnp⟩, ⟨rp, rvs, rfl, e8 _ _ hrp7, MonoA.up e8 hrs7⟩, h9, rfl⟩) fun ap H8 G' L' C' hh8 hap0 hap kp8 => ?_
    obtain ⟨hf8, gf8, nL8, nC8⟩ := kp8 f _ (e37 _ _ hf') nfa nL nC gf
    have hst8 := (hst.up e37).keep kp8
    have napf : ap ≠ f := fun z => by rw [z, e37 _ _ hf'] at hap0; cases hap0
    have hlen := congrArg List.length hdone
    rw [List.length_append, List.length_append, List.length_cons] at hlen
    have dl : (intsV done).length = done.length := List.length_map _
    have al : (intsV (ansL (Wqatdz.step st x).2)).length = (ansL (Wqatdz.step st x).2).length := List.length_map _
    refine q_appW hf8 (ev_var rfl) (ev_lenS (sq_of hap) (ev_var rfl)) (by omega) fun H9 e9 => ?_
    refine s_extW upd_same (by rw [upd_ne napf]; exact e9 _ _ hap) (ev_var rfl) (ev_var rfl) (by rw [List.length_append]; show _ + 1 + _ ≤ _; omega) fun H10 e10 => ?_
    refine ⟨l.length - (l.length - t.length), by omega, l.length - t.length, some (.int p), some (.int ((at' + 1 + n : Nat) : Int)), some (.ref np), some (.ref rp), some (.ref ap), G', L', C', (Wqatdz.step st x).1, done ++ (((ansL (Wqatdz.step st x).2).length : Int) :: ansL (Wqatdz.step st x).2), cs, f', rfl, rfl, Nat.sub_le _ _, ?_, ?_, ⟨nL8, nC8, gf8⟩, ?_, ?_, ?_, fun c hc => hgood c (List.mem_cons_of_mem _ hc)⟩
    · exact (((hh8.up e9).put nfa nL8 nC8 gf8).up e10).put nfa nL8 nC8 gf8
    · rw [upd_same, al]
      unfold intsV
      rw [List.map_append, List.append_assoc]
      rfl
    · exact (((hst8.up e9).put).up e10).put
    · rw [show l.drop (l.length - t.length) = t from ?_]
      · exact hcs
      · have et : t = l.drop (at' + 1 + n + (r.length - n - t.length)) := by
          rw [← List.drop_drop, hdr]
          exact dr2
        refine Eq.trans (congrArg (fun i => l.drop i) ?_) et.symm
        omega
    · rw [List.append_assoc]
      exact hdone
  · rw [decide_eq_false_iff_not] at hb
    have e0 : l.drop at' = [] := List.drop_eq_nil_of_le (by omega)
    rw [e0] at hcalls
    cases calls_nil hcalls
    have hd : done = PyWqatdz.answers l := by
      rw [← hdone]
      show done = done ++ []
      rw [List.append_nil]
    rw [hd] at hf'
    exact s_ret (ev_var rfl) fun H4 e4 => k H4 f ((e3.trans e4) _ _ hf')
end
end Bcw

/-! # the end: what the top has written -/
namespace Bcw
open PySem PySem.Spec PyProof.Rows L2 Evl Bcn BnC Bn
section
variable (K : PySem.W.Frag)
def CHere (x : Str) (i : Int) : Prop := ∃ t, PySem.W.nsIn K mainGlobals x = some (some (.int i t))
def LHere (x : Str) (xs : List V) : Prop := ∃ a, PySem.W.nsIn K mainGlobals x = some (some (.ref a)) ∧ ∀ H, SqL K H a xs
def THere (x : Str) (xs : List V) : Prop := ∃ a, PySem.W.nsIn K mainGlobals x = some (some (.ref a)) ∧ ∀ H, SqT K H a xs
def BHere (x : Str) : Prop := PySem.W.nsIn K mainGlobals x = some none
def DHere (x : Str) (st : Stmt) : Prop := ∃ (f : Addr) (kV doc pm : Value) (an : Option Addr) (cdv ct : Value), PySem.W.nsIn K mainGlobals x = some (some (.ref f)) ∧ Fun K x x st f (PySem.W.fnOf x x (defArgs st) (defBody st) (defScope st) .none kV doc pm an cdv ct)
def MHere (C : Addr) (m q : Str) (st : Stmt) : Prop := ∃ (f : Addr) (fd : FuncData), Meth K C m f ∧ Fun K m q st f fd
def IHere (C : Addr) (q : Str) (st : Stmt) : Prop := ∃ (f : Addr) (fd : FuncData), Mk K C f ∧ Fun K "__init__" q st f fd
end
section
variable {K : PySem.W.Frag}
theorem here_c {x : Str} {i : Int} {t : Tok} (h : PySem.W.nsIn K mainGlobals x = some (some (.int i t))) : CHere K x i := ⟨t, h⟩
theorem here_l {x : Str} {a : Addr} {i : Int} {t : Tok} {n : Nat} {sl : Array (Option Value)} (h : PySem.W.nsIn K mainGlobals x = some (some (.ref a))) (l : K.lookup a = some ⟨.type "list", none, .seq #[.int i t] n, sl⟩) : LHere K x [.int i] :=
  ⟨a, h, fun H => .inr ⟨_, _, n, l, rfl, rfl, rfl, Nat.le_of_ble_eq_true rfl, .cons ⟨t, rfl⟩ .nil⟩⟩
theorem here_t5 {x : Str} {a : Addr} {i0 i1 i2 i3 i4 : Int} {t0 t1 t2 t3 t4 : Tok} {n : Nat} {od : Option Addr} {sl : Array (Option Value)} (h : PySem.W.nsIn K mainGlobals x = some (some (.ref a))) (l : K.lookup a = some ⟨.type "tuple", od, .seq #[.int i0 t0, .int i1 t1, .int i2 t2, .int i3 t3, .int i4 t4] n, sl⟩) : THere K x [.int i0, .int i1, .int i2, .int i3, .int i4] :=
  ⟨a, h, fun H => .inr ⟨_, _, n, l, rfl, rfl, Nat.le_of_ble_eq_true rfl, (.cons ⟨t0, rfl⟩ (.cons ⟨t1, rfl⟩ (.cons ⟨t2, rfl⟩ (.cons ⟨t3, rfl⟩ (.cons ⟨t4, rfl⟩ .nil)))))⟩⟩
theorem here_t9 {x : Str} {a : Addr} {i0 i1 i2 i3 i4 i5 i6 i7 i8 : Int} {t0 t1 t2 t3 t4 t5 t6 t7 t8 : Tok} {n : Nat} {od : Option Addr} {sl : Array (Option Value)} (h : PySem.W.nsIn K mainGlobals x = some (some (.ref a))) (l : K.lookup a = some ⟨.type "tuple", od, .seq #[.int i0 t0, .int i1 t1, .int i2 t2, .int i3 t3, .int i4 t4, .int i5 t5, .int i6 t6, .int i7 t7, .int i8 t8] n, sl⟩) : THere K x [.int i0, .int i1, .int i2, .int i3, .int i4, .int i5, .int i6, .int i7, .int i8] :=
  ⟨a, h, fun H => .inr ⟨_, _, n, l, rfl, rfl, Nat.le_of_ble_eq_true rfl, (.cons ⟨t0, rfl⟩ (.cons ⟨t1, rfl⟩ (.cons ⟨t2, rfl⟩ (.cons ⟨t3, rfl⟩ (.cons ⟨t4, rfl⟩ (.cons ⟨t5, rfl⟩ (.cons ⟨t6, rfl⟩ (.cons ⟨t7, rfl⟩ (.cons ⟨t8, rfl⟩ .nil)))))))))⟩⟩
theorem here_d {x : Str} {st : Stmt} {f : Addr} {oc : Value} {od an : Option Addr} {osl : Array (Option Value)} {kV doc pm cdv ct : Value} (a : PySem.W.nsIn K mainGlobals x = some (some (.ref f))) (l : K.lookup f = some ⟨oc, od, .func (PySem.W.fnOf x x (defArgs st) (defBody st) (defScope st) .none kV doc pm an cdv ct), osl⟩)
    (c : PySem.W.codeIn K cdv x = true) (k : PySem.W.keepIn K (.ref f) = true) : DHere K x st := ⟨f, kV, doc, pm, an, cdv, ct, a, fun_mk l c k⟩
theorem here_m {C : Addr} {m q : Str} {st : Stmt} {f : Addr} {oc : Value} {od an : Option Addr} {osl : Array (Option Value)} {kV doc pm cdv ct : Value} (a : PySem.W.findIn K (.ref C) m = some (some (.ref f))) (i : PySem.W.isFn K (.ref f) = true) (l : K.lookup f = some ⟨oc, od, .func (PySem.W.fnOf m q (defArgs st) (defBody st) (defScope st) .none kV doc pm an cdv ct), osl⟩)
    (c : PySem.W.codeIn K cdv q = true) (k : PySem.W.keepIn K (.ref f) = true) : MHere K C m q st := ⟨f, _, ⟨a, i, k⟩, fun_mk l c k⟩
theorem here_i {C : Addr} {q : Str} {st : Stmt} {f : Addr} {oc : Value} {od an : Option Addr} {osl : Array (Option Value)} {kV doc pm cdv ct : Value} (mk : PySem.W.makesIn K C = true) (kc : PySem.W.keepIn K (.ref C) = true) (a : PySem.W.findIn K (.ref C) "__init__" = some (some (.ref f))) (i : PySem.W.isFn K (.ref f) = true)
    (l : K.lookup f = some ⟨oc, od, .func (PySem.W.fnOf "__init__" q (defArgs st) (defBody st) (defScope st) .none kV doc pm an cdv ct), osl⟩) (c : PySem.W.codeIn K cdv q = true) (k : PySem.W.keepIn K (.ref f) = true) : IHere K C q st := ⟨f, _, ⟨mk, a, i, kc⟩, fun_mk l c k⟩
theorem here_cls {C : Addr} (h1 : PySem.W.plainGet K C Str.empty = true) (h2 : PySem.W.hasDictIn K C = true) (h3 : PySem.W.plainOver K C = true) (h4 : PySem.W.findIn K (.ref C) "__setattr__" = some (some (.builtin "object.__setattr__"))) : Cls K C := ⟨h1, h2, h3, h4⟩
end
theorem all_mk {P : Program} {w : World} {K : PySem.W.Frag} {h : Heap} {mg : Str → Option Value} {fa CL CH : Addr} (X : K.In h) (G : h.Ns mainGlobals mg) (hfa : mg "answers" = some (.ref fa))
    (hL : PySem.W.nsIn K mainGlobals "Light" = some (some (.ref CL)))
    (hH : PySem.W.nsIn K mainGlobals "Hall" = some (some (.ref CH)))
    (kLight : Cls K CL)
    (kHall : Cls K CH)
    (n_Light_x : NoAttr K CL "x")
    (n_Light_y : NoAttr K CL "y")
    (n_Light_far : NoAttr K CL "far")
    (n_Light_phases : NoAttr K CL "phases")
    (n_Light_sectors : NoAttr K CL "sectors")
    (n_Hall_lights : NoAttr K CH "lights")
    (n_Hall_coasts : NoAttr K CH "coasts")
    (c_MOST_PART : CHere K "MOST_PART" 1000)
    (c_COLOURS : CHere K "COLOURS" 5)
    (c_BLANK : CHere K "BLANK" 32)
    (c_DARK : CHere K "DARK" 45)
    (c_WHITE : CHere K "WHITE" 87)
    (c_NOUGHT : CHere K "NOUGHT" 48)
    (c_NINE : CHere K "NINE" 57)
    (c_MOST_LONG : CHere K "MOST_LONG" 600)
    (c_MOST_PHASES : CHere K "MOST_PHASES" 32)
    (c_MOST_TOGETHER : CHere K "MOST_TOGETHER" 6000)
    (c_MOST_FIGURES : CHere K "MOST_FIGURES" 3)
    (c_FAULT : CHere K "FAULT" (-6))
    (c_MOST_SPOT : CHere K "MOST_SPOT" 10000)
    (c_MOST_FAR : CHere K "MOST_FAR" 20000)
    (c_MOST_BYTES : CHere K "MOST_BYTES" 1024)
    (c_MOST_SECTORS : CHere K "MOST_SECTORS" 12)
    (c_MOST_COLOUR : CHere K "MOST_COLOUR" 4)
    (c_MOST_LIGHTS : CHere K "MOST_LIGHTS" 24)
    (c_MOST_COASTS : CHere K "MOST_COASTS" 64)
    (c_MOST_TIME : CHere K "MOST_TIME" 1000000)
    (c_MOST_PLACES : CHere K "MOST_PLACES" 1024)
    (c_MOST_STEP : CHere K "MOST_STEP" 1000)
    (c_MOST_STEPS : CHere K "MOST_STEPS" 500)
    (l_LETTERS : THere K "LETTERS" [.int 45, .int 87, .int 82, .int 71, .int 89])
    (l_WRONG : LHere K "WRONG" [.int (-1)])
    (l_TOO_LONG : LHere K "TOO_LONG" [.int (-2)])
    (l_NOT_SEEN : LHere K "NOT_SEEN" [.int (-3)])
    (l_NO_LIGHT : LHere K "NO_LIGHT" [.int (-4)])
    (l_FULL : LHere K "FULL" [.int (-5)])
    (l_NO_WHITE : LHere K "NO_WHITE" [.int (-8)])
    (l_NUMBERS : THere K "NUMBERS" [.int 3, .int 4, .int 2, .int 3, .int 3, .int 4, .int 5, .int 4, .int 0])
    (l_ROWS : THere K "ROWS" [.int 2, .int 0, .int 0, .int 0, .int 0, .int 1, .int 0, .int 1, .int 0])
    (b_len : BHere K "len")
    (b_abs : BHere K "abs")
    (b_max : BHere K "max")
    (b_min : BHere K "min")
    (b_sum : BHere K "sum")
    (b_list : BHere K "list")
    (b_range : BHere K "range")
    (b_zip : BHere K "zip")
    (b_enumerate : BHere K "enumerate")
    (d_is_direction : DHere K "is_direction" s_is_direction)
    (d_half_of : DHere K "half_of" s_half_of)
    (d_is_ahead : DHere K "is_ahead" s_is_ahead)
    (d_colour_by : DHere K "colour_by" s_colour_by)
    (d_sectors_of : DHere K "sectors_of" s_sectors_of)
    (d_are_sectors : DHere K "are_sectors" s_are_sectors)
    (d_long_of : DHere K "long_of" s_long_of)
    (d_phase_of : DHere K "phase_of" s_phase_of)
    (d_words_of : DHere K "words_of" s_words_of)
    (d_read_rhythm : DHere K "read_rhythm" s_read_rhythm)
    (d_is_white_and_dark : DHere K "is_white_and_dark" s_is_white_and_dark)
    (d_is_white_at : DHere K "is_white_at" s_is_white_at)
    (d_figures_of : DHere K "figures_of" s_figures_of)
    (d_text_in : DHere K "text_in" s_text_in)
    (d_side : DHere K "side" s_side)
    (d_lie_apart : DHere K "lie_apart" s_lie_apart)
    (d_is_sign : DHere K "is_sign" s_is_sign)
    (d_have_common : DHere K "have_common" s_have_common)
    (d_is_hidden : DHere K "is_hidden" s_is_hidden)
    (m_Light___init__ : IHere K CL "Light.__init__" s_Light_init)
    (m_Light_colour_seen : MHere K CL "colour_seen" "Light.colour_seen" s_Light_colour_seen)
    (m_Light_is_white : MHere K CL "is_white" "Light.is_white" s_Light_is_white)
    (d_places_of : DHere K "places_of" s_places_of)
    (d_is_so : DHere K "is_so" s_is_so)
    (d_places_told : DHere K "places_told" s_places_told)
    (d_counts_of : DHere K "counts_of" s_counts_of)
    (d_best_light : DHere K "best_light" s_best_light)
    (d_changes_along : DHere K "changes_along" s_changes_along)
    (d_is_place : DHere K "is_place" s_is_place)
    (d_pairs_of : DHere K "pairs_of" s_pairs_of)
    (m_Hall___init__ : IHere K CH "Hall.__init__" s_Hall_init)
    (m_Hall_shown : MHere K CH "shown" "Hall.shown" s_Hall_shown)
    (m_Hall_seen : MHere K CH "seen" "Hall.seen" s_Hall_seen)
    (m_Hall_at_time : MHere K CH "at_time" "Hall.at_time" s_Hall_at_time)
    (m_Hall_rhythm : MHere K CH "rhythm" "Hall.rhythm" s_Hall_rhythm)
    (m_Hall_field_fault : MHere K CH "field_fault" "Hall.field_fault" s_Hall_field_fault)
    (m_Hall_where : MHere K CH "where" "Hall.where" s_Hall_where)
    (m_Hall_tell : MHere K CH "tell" "Hall.tell" s_Hall_tell)
    (m_Hall_track : MHere K CH "track" "Hall.track" s_Hall_track)
    (m_Hall_light : MHere K CH "light" "Hall.light" s_Hall_light)
    (m_Hall_coast : MHere K CH "coast" "Hall.coast" s_Hall_coast)
    (m_Hall_wipe : MHere K CH "wipe" "Hall.wipe" s_Hall_wipe)
    (d_rows_at : DHere K "rows_at" s_rows_at)
    (d_answered : DHere K "answered" s_answered)
    (d_answers : DHere K "answers" s_answers)
    : ∃ fd : FuncData, (∀ (s : Shared) (us : List Value), us.length = (["calls"] : List Str).length → BindsTo s fd ⟨us, []⟩ ((["calls"] : List Str).zip us)) ∧ ∀ base : Heap, K.In base → base.Ns mainGlobals mg → FnOk P w K mg base CX0 9 fa fd ["calls"] (spAns K) := by
  have c : ∀ {x : Str} {i : Int}, CHere K x i → ∃ t, mg x = some (.int i t) := fun ⟨t, q⟩ => ⟨t, PySem.W.mg_of X G q⟩
  obtain ⟨a_LETTERS, g_LETTERS, s_LETTERS⟩ := l_LETTERS
  obtain ⟨a_WRONG, g_WRONG, s_WRONG⟩ := l_WRONG
  obtain ⟨a_TOO_LONG, g_TOO_LONG, s_TOO_LONG⟩ := l_TOO_LONG
  obtain ⟨a_NOT_SEEN, g_NOT_SEEN, s_NOT_SEEN⟩ := l_NOT_SEEN
  obtain ⟨a_NO_LIGHT, g_NO_LIGHT, s_NO_LIGHT⟩ := l_NO_LIGHT
  obtain ⟨a_FULL, g_FULL, s_FULL⟩ := l_FULL
  obtain ⟨a_NO_WHITE, g_NO_WHITE, s_NO_WHITE⟩ := l_NO_WHITE
  obtain ⟨a_NUMBERS, g_NUMBERS, s_NUMBERS⟩ := l_NUMBERS
  obtain ⟨a_ROWS, g_ROWS, s_ROWS⟩ := l_ROWS
  have T : Txt K mg CL CH := ⟨c c_MOST_PART, c c_COLOURS, c c_BLANK, c c_DARK, c c_WHITE, c c_NOUGHT, c c_NINE, c c_MOST_LONG, c c_MOST_PHASES, c c_MOST_TOGETHER, c c_MOST_FIGURES, c c_FAULT, c c_MOST_SPOT, c c_MOST_FAR, c c_MOST_BYTES, c c_MOST_SECTORS, c c_MOST_COLOUR, c c_MOST_LIGHTS, c c_MOST_COASTS, c c_MOST_TIME, c c_MOST_PLACES, c c_MOST_STEP, c c_MOST_STEPS, a_LETTERS, PySem.W.mg_of X G g_LETTERS, s_LETTERS, a_WRONG, PySem.W.mg_of X G g_WRONG, s_WRONG, a_TOO_LONG, PySem.W.mg_of X G g_TOO_LONG, s_TOO_LONG, a_NOT_SEEN, PySem.W.mg_of X G g_NOT_SEEN, s_NOT_SEEN, a_NO_LIGHT, PySem.W.mg_of X G g_NO_LIGHT, s_NO_LIGHT, a_FULL, PySem.W.mg_of X G g_FULL, s_FULL, a_NO_WHITE, PySem.W.mg_of X G g_NO_WHITE, s_NO_WHITE, a_NUMBERS, PySem.W.mg_of X G g_NUMBERS, s_NUMBERS, a_ROWS, PySem.W.mg_of X G g_ROWS, s_ROWS, PySem.W.mg_none_of X G b_len, PySem.W.mg_none_of X G b_abs, PySem.W.mg_none_of X G b_max, PySem.W.mg_none_of X G b_min, PySem.W.mg_none_of X G b_sum, PySem.W.mg_none_of X G b_list, PySem.W.mg_none_of X G b_range, PySem.W.mg_none_of X G b_zip, PySem.W.mg_none_of X G b_enumerate, kLight, n_Light_x, n_Light_y, n_Light_far, n_Light_phases, n_Light_sectors, kHall, n_Hall_lights, n_Hall_coasts⟩
  obtain ⟨f_is_direction, kV_is_direction, do_is_direction, pm_is_direction, an_is_direction, cd_is_direction, ct_is_direction, h_is_direction, F_is_direction⟩ := d_is_direction
  have b_is_direction := F_is_direction.binds (ps := ["x", "y"]) fun _ _ _ _ _ _ us hl => match us, hl with | [_, _], _ => rfl
  obtain ⟨f_half_of, kV_half_of, do_half_of, pm_half_of, an_half_of, cd_half_of, ct_half_of, h_half_of, F_half_of⟩ := d_half_of
  have b_half_of := F_half_of.binds (ps := ["x", "y"]) fun _ _ _ _ _ _ us hl => match us, hl with | [_, _], _ => rfl
  obtain ⟨f_is_ahead, kV_is_ahead, do_is_ahead, pm_is_ahead, an_is_ahead, cd_is_ahead, ct_is_ahead, h_is_ahead, F_is_ahead⟩ := d_is_ahead
  have b_is_ahead := F_is_ahead.binds (ps := ["one", "other"]) fun _ _ _ _ _ _ us hl => match us, hl with | [_, _], _ => rfl
  obtain ⟨f_colour_by, kV_colour_by, do_colour_by, pm_colour_by, an_colour_by, cd_colour_by, ct_colour_by, h_colour_by, F_colour_by⟩ := d_colour_by
  have b_colour_by := F_colour_by.binds (ps := ["sectors", "way"]) fun _ _ _ _ _ _ us hl => match us, hl with | [_, _], _ => rfl
  obtain ⟨f_sectors_of, kV_sectors_of, do_sectors_of, pm_sectors_of, an_sectors_of, cd_sectors_of, ct_sectors_of, h_sectors_of, F_sectors_of⟩ := d_sectors_of
  have b_sectors_of := F_sectors_of.binds (ps := ["numbers"]) fun _ _ _ _ _ _ us hl => match us, hl with | [_], _ => rfl
  obtain ⟨f_are_sectors, kV_are_sectors, do_are_sectors, pm_are_sectors, an_are_sectors, cd_are_sectors, ct_are_sectors, h_are_sectors, F_are_sectors⟩ := d_are_sectors
  have b_are_sectors := F_are_sectors.binds (ps := ["sectors", "most", "colours"]) fun _ _ _ _ _ _ us hl => match us, hl with | [_, _, _], _ => rfl
  obtain ⟨f_long_of, kV_long_of, do_long_of, pm_long_of, an_long_of, cd_long_of, ct_long_of, h_long_of, F_long_of⟩ := d_long_of
  have b_long_of := F_long_of.binds (ps := ["figures"]) fun _ _ _ _ _ _ us hl => match us, hl with | [_], _ => rfl
  obtain ⟨f_phase_of, kV_phase_of, do_phase_of, pm_phase_of, an_phase_of, cd_phase_of, ct_phase_of, h_phase_of, F_phase_of⟩ := d_phase_of
  have b_phase_of := F_phase_of.binds (ps := ["word"]) fun _ _ _ _ _ _ us hl => match us, hl with | [_], _ => rfl
  obtain ⟨f_words_of, kV_words_of, do_words_of, pm_words_of, an_words_of, cd_words_of, ct_words_of, h_words_of, F_words_of⟩ := d_words_of
  have b_words_of := F_words_of.binds (ps := ["text"]) fun _ _ _ _ _ _ us hl => match us, hl with | [_], _ => rfl
  obtain ⟨f_read_rhythm, kV_read_rhythm, do_read_rhythm, pm_read_rhythm, an_read_rhythm, cd_read_rhythm, ct_read_rhythm, h_read_rhythm, F_read_rhythm⟩ := d_read_rhythm
  have b_read_rhythm := F_read_rhythm.binds (ps := ["text"]) fun _ _ _ _ _ _ us hl => match us, hl with | [_], _ => rfl
  obtain ⟨f_is_white_and_dark, kV_is_white_and_dark, do_is_white_and_dark, pm_is_white_and_dark, an_is_white_and_dark, cd_is_white_and_dark, ct_is_white_and_dark, h_is_white_and_dark, F_is_white_and_dark⟩ := d_is_white_and_dark
  have b_is_white_and_dark := F_is_white_and_dark.binds (ps := ["phases"]) fun _ _ _ _ _ _ us hl => match us, hl with | [_], _ => rfl
  obtain ⟨f_is_white_at, kV_is_white_at, do_is_white_at, pm_is_white_at, an_is_white_at, cd_is_white_at, ct_is_white_at, h_is_white_at, F_is_white_at⟩ := d_is_white_at
  have b_is_white_at := F_is_white_at.binds (ps := ["phases", "time"]) fun _ _ _ _ _ _ us hl => match us, hl with | [_, _], _ => rfl
  obtain ⟨f_figures_of, kV_figures_of, do_figures_of, pm_figures_of, an_figures_of, cd_figures_of, ct_figures_of, h_figures_of, F_figures_of⟩ := d_figures_of
  have b_figures_of := F_figures_of.binds (ps := ["number"]) fun _ _ _ _ _ _ us hl => match us, hl with | [_], _ => rfl
  obtain ⟨f_text_in, kV_text_in, do_text_in, pm_text_in, an_text_in, cd_text_in, ct_text_in, h_text_in, F_text_in⟩ := d_text_in
  have b_text_in := F_text_in.binds (ps := ["phases", "colour"]) fun _ _ _ _ _ _ us hl => match us, hl with | [_, _], _ => rfl
  obtain ⟨f_side, kV_side, do_side, pm_side, an_side, cd_side, ct_side, h_side, F_side⟩ := d_side
  have b_side := F_side.binds (ps := ["x", "y", "u", "v", "here", "there"]) fun _ _ _ _ _ _ us hl => match us, hl with | [_, _, _, _, _, _], _ => rfl
  obtain ⟨f_lie_apart, kV_lie_apart, do_lie_apart, pm_lie_apart, an_lie_apart, cd_lie_apart, ct_lie_apart, h_lie_apart, F_lie_apart⟩ := d_lie_apart
  have b_lie_apart := F_lie_apart.binds (ps := ["one", "other", "two", "another"]) fun _ _ _ _ _ _ us hl => match us, hl with | [_, _, _, _], _ => rfl
  obtain ⟨f_is_sign, kV_is_sign, do_is_sign, pm_is_sign, an_is_sign, cd_is_sign, ct_is_sign, h_is_sign, F_is_sign⟩ := d_is_sign
  have b_is_sign := F_is_sign.binds (ps := ["one", "other"]) fun _ _ _ _ _ _ us hl => match us, hl with | [_, _], _ => rfl
  obtain ⟨f_have_common, kV_have_common, do_have_common, pm_have_common, an_have_common, cd_have_common, ct_have_common, h_have_common, F_have_common⟩ := d_have_common
  have b_have_common := F_have_common.binds (ps := ["one", "other"]) fun _ _ _ _ _ _ us hl => match us, hl with | [_, _], _ => rfl
  obtain ⟨f_is_hidden, kV_is_hidden, do_is_hidden, pm_is_hidden, an_is_hidden, cd_is_hidden, ct_is_hidden, h_is_hidden, F_is_hidden⟩ := d_is_hidden
  have b_is_hidden := F_is_hidden.binds (ps := ["coasts", "straight"]) fun _ _ _ _ _ _ us hl => match us, hl with | [_, _], _ => rfl
  obtain ⟨f_Light___init__, fd_Light___init__, M_Light___init__, F_Light___init__⟩ := m_Light___init__
  have b_Light___init__ := F_Light___init__.binds (ps := ["self", "x", "y", "far", "phases", "sectors"]) fun _ _ _ _ _ _ us hl => match us, hl with | [_, _, _, _, _, _], _ => rfl
  obtain ⟨f_Light_colour_seen, fd_Light_colour_seen, M_Light_colour_seen, F_Light_colour_seen⟩ := m_Light_colour_seen
  have b_Light_colour_seen := F_Light_colour_seen.binds (ps := ["self", "coasts", "x", "y"]) fun _ _ _ _ _ _ us hl => match us, hl with | [_, _, _, _], _ => rfl
  obtain ⟨f_Light_is_white, fd_Light_is_white, M_Light_is_white, F_Light_is_white⟩ := m_Light_is_white
  have b_Light_is_white := F_Light_is_white.binds (ps := ["self", "time"]) fun _ _ _ _ _ _ us hl => match us, hl with | [_, _], _ => rfl
  obtain ⟨f_places_of, kV_places_of, do_places_of, pm_places_of, an_places_of, cd_places_of, ct_places_of, h_places_of, F_places_of⟩ := d_places_of
  have b_places_of := F_places_of.binds (ps := ["field"]) fun _ _ _ _ _ _ us hl => match us, hl with | [_], _ => rfl
  obtain ⟨f_is_so, kV_is_so, do_is_so, pm_is_so, an_is_so, cd_is_so, ct_is_so, h_is_so, F_is_so⟩ := d_is_so
  have b_is_so := F_is_so.binds (ps := ["lights", "coasts", "told", "place"]) fun _ _ _ _ _ _ us hl => match us, hl with | [_, _, _, _], _ => rfl
  obtain ⟨f_places_told, kV_places_told, do_places_told, pm_places_told, an_places_told, cd_places_told, ct_places_told, h_places_told, F_places_told⟩ := d_places_told
  have b_places_told := F_places_told.binds (ps := ["lights", "coasts", "field", "told"]) fun _ _ _ _ _ _ us hl => match us, hl with | [_, _, _, _], _ => rfl
  obtain ⟨f_counts_of, kV_counts_of, do_counts_of, pm_counts_of, an_counts_of, cd_counts_of, ct_counts_of, h_counts_of, F_counts_of⟩ := d_counts_of
  have b_counts_of := F_counts_of.binds (ps := ["light", "coasts", "places"]) fun _ _ _ _ _ _ us hl => match us, hl with | [_, _, _], _ => rfl
  obtain ⟨f_best_light, kV_best_light, do_best_light, pm_best_light, an_best_light, cd_best_light, ct_best_light, h_best_light, F_best_light⟩ := d_best_light
  have b_best_light := F_best_light.binds (ps := ["lights", "coasts", "places"]) fun _ _ _ _ _ _ us hl => match us, hl with | [_, _, _], _ => rfl
  obtain ⟨f_changes_along, kV_changes_along, do_changes_along, pm_changes_along, an_changes_along, cd_changes_along, ct_changes_along, h_changes_along, F_changes_along⟩ := d_changes_along
  have b_changes_along := F_changes_along.binds (ps := ["lights", "coasts", "way"]) fun _ _ _ _ _ _ us hl => match us, hl with | [_, _, _], _ => rfl
  obtain ⟨f_is_place, kV_is_place, do_is_place, pm_is_place, an_is_place, cd_is_place, ct_is_place, h_is_place, F_is_place⟩ := d_is_place
  have b_is_place := F_is_place.binds (ps := ["x", "y"]) fun _ _ _ _ _ _ us hl => match us, hl with | [_, _], _ => rfl
  obtain ⟨f_pairs_of, kV_pairs_of, do_pairs_of, pm_pairs_of, an_pairs_of, cd_pairs_of, ct_pairs_of, h_pairs_of, F_pairs_of⟩ := d_pairs_of
  have b_pairs_of := F_pairs_of.binds (ps := ["told"]) fun _ _ _ _ _ _ us hl => match us, hl with | [_], _ => rfl
  obtain ⟨f_Hall___init__, fd_Hall___init__, M_Hall___init__, F_Hall___init__⟩ := m_Hall___init__
  have b_Hall___init__ := F_Hall___init__.binds (ps := ["self"]) fun _ _ _ _ _ _ us hl => match us, hl with | [_], _ => rfl
  obtain ⟨f_Hall_shown, fd_Hall_shown, M_Hall_shown, F_Hall_shown⟩ := m_Hall_shown
  have b_Hall_shown := F_Hall_shown.binds (ps := ["self", "some", "x", "y"]) fun _ _ _ _ _ _ us hl => match us, hl with | [_, _, _, _], _ => rfl
  obtain ⟨f_Hall_seen, fd_Hall_seen, M_Hall_seen, F_Hall_seen⟩ := m_Hall_seen
  have b_Hall_seen := F_Hall_seen.binds (ps := ["self", "x", "y"]) fun _ _ _ _ _ _ us hl => match us, hl with | [_, _, _], _ => rfl
  obtain ⟨f_Hall_at_time, fd_Hall_at_time, M_Hall_at_time, F_Hall_at_time⟩ := m_Hall_at_time
  have b_Hall_at_time := F_Hall_at_time.binds (ps := ["self", "time", "x", "y"]) fun _ _ _ _ _ _ us hl => match us, hl with | [_, _, _, _], _ => rfl
  obtain ⟨f_Hall_rhythm, fd_Hall_rhythm, M_Hall_rhythm, F_Hall_rhythm⟩ := m_Hall_rhythm
  have b_Hall_rhythm := F_Hall_rhythm.binds (ps := ["self", "number", "x", "y"]) fun _ _ _ _ _ _ us hl => match us, hl with | [_, _, _, _], _ => rfl
  obtain ⟨f_Hall_field_fault, fd_Hall_field_fault, M_Hall_field_fault, F_Hall_field_fault⟩ := m_Hall_field_fault
  have b_Hall_field_fault := F_Hall_field_fault.binds (ps := ["self", "field", "told"]) fun _ _ _ _ _ _ us hl => match us, hl with | [_, _, _], _ => rfl
  obtain ⟨f_Hall_where, fd_Hall_where, M_Hall_where, F_Hall_where⟩ := m_Hall_where
  have b_Hall_where := F_Hall_where.binds (ps := ["self", "field", "told"]) fun _ _ _ _ _ _ us hl => match us, hl with | [_, _, _], _ => rfl
  obtain ⟨f_Hall_tell, fd_Hall_tell, M_Hall_tell, F_Hall_tell⟩ := m_Hall_tell
  have b_Hall_tell := F_Hall_tell.binds (ps := ["self", "field", "told"]) fun _ _ _ _ _ _ us hl => match us, hl with | [_, _, _], _ => rfl
  obtain ⟨f_Hall_track, fd_Hall_track, M_Hall_track, F_Hall_track⟩ := m_Hall_track
  have b_Hall_track := F_Hall_track.binds (ps := ["self", "numbers"]) fun _ _ _ _ _ _ us hl => match us, hl with | [_, _], _ => rfl
  obtain ⟨f_Hall_light, fd_Hall_light, M_Hall_light, F_Hall_light⟩ := m_Hall_light
  have b_Hall_light := F_Hall_light.binds (ps := ["self", "numbers", "text", "sectors"]) fun _ _ _ _ _ _ us hl => match us, hl with | [_, _, _, _], _ => rfl
  obtain ⟨f_Hall_coast, fd_Hall_coast, M_Hall_coast, F_Hall_coast⟩ := m_Hall_coast
  have b_Hall_coast := F_Hall_coast.binds (ps := ["self", "numbers"]) fun _ _ _ _ _ _ us hl => match us, hl with | [_, _], _ => rfl
  obtain ⟨f_Hall_wipe, fd_Hall_wipe, M_Hall_wipe, F_Hall_wipe⟩ := m_Hall_wipe
  have b_Hall_wipe := F_Hall_wipe.binds (ps := ["self"]) fun _ _ _ _ _ _ us hl => match us, hl with | [_], _ => rfl
  obtain ⟨f_rows_at, kV_rows_at, do_rows_at, pm_rows_at, an_rows_at, cd_rows_at, ct_rows_at, h_rows_at, F_rows_at⟩ := d_rows_at
  have b_rows_at := F_rows_at.binds (ps := ["calls", "at", "many"]) fun _ _ _ _ _ _ us hl => match us, hl with | [_, _, _], _ => rfl
  obtain ⟨f_answered, kV_answered, do_answered, pm_answered, an_answered, cd_answered, ct_answered, h_answered, F_answered⟩ := d_answered
  have b_answered := F_answered.binds (ps := ["hall", "kind", "numbers", "rows"]) fun _ _ _ _ _ _ us hl => match us, hl with | [_, _, _, _], _ => rfl
  obtain ⟨f_answers, kV_answers, do_answers, pm_answers, an_answers, cd_answers, ct_answers, h_answers, F_answers⟩ := d_answers
  have b_answers := F_answers.binds (ps := ["calls"]) fun _ _ _ _ _ _ us hl => match us, hl with | [_], _ => rfl
  have e := hfa.symm.trans (PySem.W.mg_of X G h_answers)
  cases e
  refine ⟨PySem.W.fnOf "answers" "answers" (defArgs s_answers) (defBody s_answers) (defScope s_answers) .none kV_answers do_answers pm_answers an_answers cd_answers ct_answers, fun s us hu => match us, hu with | [_], _ => .of_eq rfl, fun base _ _ => ?_⟩
  have D_is_direction : DefAt P w K mg base "is_direction" 1 ["x", "y"] spIsDirection := ⟨⟨_, _, PySem.W.mg_of X G h_is_direction, (ok_is_direction F_is_direction T), F_is_direction.kp, b_is_direction⟩⟩
  have D_half_of : DefAt P w K mg base "half_of" 1 ["x", "y"] spHalf := ⟨⟨_, _, PySem.W.mg_of X G h_half_of, (ok_half_of F_half_of T), F_half_of.kp, b_half_of⟩⟩
  have D_is_ahead : DefAt P w K mg base "is_ahead" 2 ["one", "other"] spAhead := ⟨⟨_, _, PySem.W.mg_of X G h_is_ahead, (ok_is_ahead F_is_ahead T D_half_of), F_is_ahead.kp, b_is_ahead⟩⟩
  have D_colour_by : DefAt P w K mg base "colour_by" 3 ["sectors", "way"] spColourBy := ⟨⟨_, _, PySem.W.mg_of X G h_colour_by, (ok_colour_by F_colour_by T D_is_ahead), F_colour_by.kp, b_colour_by⟩⟩
  have D_sectors_of : DefAt P w K mg base "sectors_of" 1 ["numbers"] spSectorsOf := ⟨⟨_, _, PySem.W.mg_of X G h_sectors_of, (ok_sectors_of F_sectors_of T), F_sectors_of.kp, b_sectors_of⟩⟩
  have D_are_sectors : DefAt P w K mg base "are_sectors" 3 ["sectors", "most", "colours"] spAreSectors := ⟨⟨_, _, PySem.W.mg_of X G h_are_sectors, (ok_are_sectors F_are_sectors T D_is_direction D_is_ahead), F_are_sectors.kp, b_are_sectors⟩⟩
  have D_long_of : DefAt P w K mg base "long_of" 1 ["figures"] spLong := ⟨⟨_, _, PySem.W.mg_of X G h_long_of, (ok_long_of F_long_of T), F_long_of.kp, b_long_of⟩⟩
  have D_phase_of : DefAt P w K mg base "phase_of" 2 ["word"] spPhase := ⟨⟨_, _, PySem.W.mg_of X G h_phase_of, (ok_phase_of F_phase_of T D_long_of), F_phase_of.kp, b_phase_of⟩⟩
  have D_words_of : DefAt P w K mg base "words_of" 1 ["text"] spWords := ⟨⟨_, _, PySem.W.mg_of X G h_words_of, (ok_words_of F_words_of T), F_words_of.kp, b_words_of⟩⟩
  have D_read_rhythm : DefAt P w K mg base "read_rhythm" 3 ["text"] spRead := ⟨⟨_, _, PySem.W.mg_of X G h_read_rhythm, (ok_read_rhythm F_read_rhythm T D_words_of D_phase_of), F_read_rhythm.kp, b_read_rhythm⟩⟩
  have D_is_white_and_dark : DefAt P w K mg base "is_white_and_dark" 1 ["phases"] spWhiteDark := ⟨⟨_, _, PySem.W.mg_of X G h_is_white_and_dark, (ok_is_white_and_dark F_is_white_and_dark T), F_is_white_and_dark.kp, b_is_white_and_dark⟩⟩
  have D_is_white_at : DefAt P w K mg base "is_white_at" 1 ["phases", "time"] spWhiteAt := ⟨⟨_, _, PySem.W.mg_of X G h_is_white_at, (ok_is_white_at F_is_white_at T), F_is_white_at.kp, b_is_white_at⟩⟩
  have D_figures_of : DefAt P w K mg base "figures_of" 1 ["number"] spFigures := ⟨⟨_, _, PySem.W.mg_of X G h_figures_of, (ok_figures_of F_figures_of T), F_figures_of.kp, b_figures_of⟩⟩
  have D_text_in : DefAt P w K mg base "text_in" 2 ["phases", "colour"] spTextIn := ⟨⟨_, _, PySem.W.mg_of X G h_text_in, (ok_text_in F_text_in T D_figures_of), F_text_in.kp, b_text_in⟩⟩
  have D_side : DefAt P w K mg base "side" 1 ["x", "y", "u", "v", "here", "there"] spSide := ⟨⟨_, _, PySem.W.mg_of X G h_side, (ok_side F_side T), F_side.kp, b_side⟩⟩
  have D_lie_apart : DefAt P w K mg base "lie_apart" 1 ["one", "other", "two", "another"] spApart := ⟨⟨_, _, PySem.W.mg_of X G h_lie_apart, (ok_lie_apart F_lie_apart T), F_lie_apart.kp, b_lie_apart⟩⟩
  have D_is_sign : DefAt P w K mg base "is_sign" 1 ["one", "other"] spSign := ⟨⟨_, _, PySem.W.mg_of X G h_is_sign, (ok_is_sign F_is_sign T), F_is_sign.kp, b_is_sign⟩⟩
  have D_have_common : DefAt P w K mg base "have_common" 2 ["one", "other"] spCommon := ⟨⟨_, _, PySem.W.mg_of X G h_have_common, (ok_have_common F_have_common T D_side D_lie_apart D_is_sign), F_have_common.kp, b_have_common⟩⟩
  have D_is_hidden : DefAt P w K mg base "is_hidden" 3 ["coasts", "straight"] spHidden := ⟨⟨_, _, PySem.W.mg_of X G h_is_hidden, (ok_is_hidden F_is_hidden T D_have_common), F_is_hidden.kp, b_is_hidden⟩⟩
  have M_Light : MakeAt P w K mg base "Light" CL 1 ["self", "x", "y", "far", "phases", "sectors"] (spLightInit CL) := ⟨⟨_, _, M_Light___init__, PySem.W.mg_of X G hL, (ok_light_init F_Light___init__ T), b_Light___init__⟩⟩
  have D_Light_colour_seen : MethAt P w K mg base CL "colour_seen" 4 ["self", "coasts", "x", "y"] (spColourSeen CL) := ⟨⟨_, _, M_Light_colour_seen, (ok_colour_seen F_Light_colour_seen T D_colour_by D_is_hidden), b_Light_colour_seen⟩⟩
  have D_Light_is_white : MethAt P w K mg base CL "is_white" 2 ["self", "time"] (spIsWhite CL) := ⟨⟨_, _, M_Light_is_white, (ok_is_white F_Light_is_white T D_is_white_at), b_Light_is_white⟩⟩
  have D_places_of : DefAt P w K mg base "places_of" 1 ["field"] spPlaces := ⟨⟨_, _, PySem.W.mg_of X G h_places_of, (ok_places_of F_places_of T), F_places_of.kp, b_places_of⟩⟩
  have D_is_so : DefAt P w K mg base "is_so" 5 ["lights", "coasts", "told", "place"] (spIsSo CL) := ⟨⟨_, _, PySem.W.mg_of X G h_is_so, (ok_is_so F_is_so T D_Light_colour_seen), F_is_so.kp, b_is_so⟩⟩
  have D_places_told : DefAt P w K mg base "places_told" 6 ["lights", "coasts", "field", "told"] (spPlacesTold CL) := ⟨⟨_, _, PySem.W.mg_of X G h_places_told, (ok_places_told F_places_told T D_places_of D_is_so), F_places_told.kp, b_places_told⟩⟩
  have D_counts_of : DefAt P w K mg base "counts_of" 5 ["light", "coasts", "places"] (spCounts CL) := ⟨⟨_, _, PySem.W.mg_of X G h_counts_of, (ok_counts_of F_counts_of T D_Light_colour_seen), F_counts_of.kp, b_counts_of⟩⟩
  have D_best_light : DefAt P w K mg base "best_light" 6 ["lights", "coasts", "places"] (spBest CL) := ⟨⟨_, _, PySem.W.mg_of X G h_best_light, (ok_best_light F_best_light T D_counts_of), F_best_light.kp, b_best_light⟩⟩
  have D_changes_along : DefAt P w K mg base "changes_along" 5 ["lights", "coasts", "way"] (spChanges CL) := ⟨⟨_, _, PySem.W.mg_of X G h_changes_along, (ok_changes_along F_changes_along T D_Light_colour_seen), F_changes_along.kp, b_changes_along⟩⟩
  have D_is_place : DefAt P w K mg base "is_place" 1 ["x", "y"] spIsPlace := ⟨⟨_, _, PySem.W.mg_of X G h_is_place, (ok_is_place F_is_place T), F_is_place.kp, b_is_place⟩⟩
  have D_pairs_of : DefAt P w K mg base "pairs_of" 1 ["told"] spPairs := ⟨⟨_, _, PySem.W.mg_of X G h_pairs_of, (ok_pairs_of F_pairs_of T), F_pairs_of.kp, b_pairs_of⟩⟩
  have M_Hall : MakeAt P w K mg base "Hall" CH 1 ["self"] (spHallInit CL CH) := ⟨⟨_, _, M_Hall___init__, PySem.W.mg_of X G hH, (ok_hall_init F_Hall___init__ T), b_Hall___init__⟩⟩
  have D_Hall_shown : MethAt P w K mg base CH "shown" 5 ["self", "some", "x", "y"] (spShown CL CH) := ⟨⟨_, _, M_Hall_shown, (ok_shown F_Hall_shown T D_Light_colour_seen), b_Hall_shown⟩⟩
  have D_Hall_seen : MethAt P w K mg base CH "seen" 6 ["self", "x", "y"] (spSeen CL CH) := ⟨⟨_, _, M_Hall_seen, (ok_seen F_Hall_seen T D_is_place D_Hall_shown), b_Hall_seen⟩⟩
  have D_Hall_at_time : MethAt P w K mg base CH "at_time" 6 ["self", "time", "x", "y"] (spAtTime CL CH) := ⟨⟨_, _, M_Hall_at_time, (ok_at_time F_Hall_at_time T D_is_place D_Light_is_white D_Hall_shown), b_Hall_at_time⟩⟩
  have D_Hall_rhythm : MethAt P w K mg base CH "rhythm" 5 ["self", "number", "x", "y"] (spRhythm CL CH) := ⟨⟨_, _, M_Hall_rhythm, (ok_rhythm F_Hall_rhythm T D_is_place D_Light_colour_seen D_text_in), b_Hall_rhythm⟩⟩
  have D_Hall_field_fault : MethAt P w K mg base CH "field_fault" 2 ["self", "field", "told"] (spFault CL CH) := ⟨⟨_, _, M_Hall_field_fault, (ok_field_fault F_Hall_field_fault T D_is_place D_pairs_of), b_Hall_field_fault⟩⟩
  have D_Hall_where : MethAt P w K mg base CH "where" 7 ["self", "field", "told"] (spWhere CL CH) := ⟨⟨_, _, M_Hall_where, (ok_where F_Hall_where T D_Hall_field_fault D_pairs_of D_places_told), b_Hall_where⟩⟩
  have D_Hall_tell : MethAt P w K mg base CH "tell" 7 ["self", "field", "told"] (spTell CL CH) := ⟨⟨_, _, M_Hall_tell, (ok_tell F_Hall_tell T D_Hall_field_fault D_pairs_of D_places_told D_best_light), b_Hall_tell⟩⟩
  have D_Hall_track : MethAt P w K mg base CH "track" 6 ["self", "numbers"] (spTrack CL CH) := ⟨⟨_, _, M_Hall_track, (ok_track F_Hall_track T D_is_place D_changes_along), b_Hall_track⟩⟩
  have D_Hall_light : MethAt P w K mg base CH "light" 4 ["self", "numbers", "text", "sectors"] (spMut CL CH preLight) := ⟨⟨_, _, M_Hall_light, (ok_light F_Hall_light T D_is_place D_sectors_of D_are_sectors D_read_rhythm D_is_white_and_dark M_Light), b_Hall_light⟩⟩
  have D_Hall_coast : MethAt P w K mg base CH "coast" 2 ["self", "numbers"] (spMut CL CH preCoast) := ⟨⟨_, _, M_Hall_coast, (ok_coast F_Hall_coast T D_is_place), b_Hall_coast⟩⟩
  have D_Hall_wipe : MethAt P w K mg base CH "wipe" 1 ["self"] (spMut CL CH preWipe) := ⟨⟨_, _, M_Hall_wipe, (ok_wipe F_Hall_wipe T), b_Hall_wipe⟩⟩
  have D_rows_at : DefAt P w K mg base "rows_at" 1 ["calls", "at", "many"] (spRowsAt K) := ⟨⟨_, _, PySem.W.mg_of X G h_rows_at, (ok_rows_at F_rows_at T), F_rows_at.kp, b_rows_at⟩⟩
  have D_answered : DefAt P w K mg base "answered" 8 ["hall", "kind", "numbers", "rows"] (spMut CL CH preCall) := ⟨⟨_, _, PySem.W.mg_of X G h_answered, (ok_answered F_answered T D_Hall_light D_Hall_coast D_Hall_seen D_Hall_at_time D_Hall_rhythm D_Hall_where D_Hall_track D_Hall_tell D_Hall_wipe), F_answered.kp, b_answered⟩⟩
  exact ok_answers F_answers T M_Hall D_rows_at D_answered
end Bcw

open PySem PySem.W PyProof.Rows
set_option maxRecDepth 100000 in
set_option maxHeartbeats 8000000 in
theorem PySem.Challenge.cw_beaconcoasts_s01_answers_holds : PySem.Challenge.rw_beaconcoasts_s01_answers.Holds := by
  w_on; k_headS; (case hw => exact ⟨[.list [.int 8]], by decide +kernel, by decide +kernel⟩)
  k_fillS
  refine L2.walk_specK (r := PySem.Challenge.rw_beaconcoasts_s01_answers) (k := 9) (CX := L2.CX0) (ps := ["calls"]) (sp := Bcw.spAns) (by decide +kernel) rfl rfl ⟨rfl, by decide, by decide⟩ (fun w h Y => PySem.W.kIn_of Y) ?F ?S (fun _ _ _ _ z => z)
  case F =>
    intro w mg fa h Y KX G hmg
    refine' Bcw.all_mk KX G hmg ?hL ?hH ?kLight ?kHall ?n_Light_x ?n_Light_y ?n_Light_far ?n_Light_phases ?n_Light_sectors ?n_Hall_lights ?n_Hall_coasts ?c_MOST_PART ?c_COLOURS ?c_BLANK ?c_DARK ?c_WHITE ?c_NOUGHT ?c_NINE ?c_MOST_LONG ?c_MOST_PHASES ?c_MOST_TOGETHER ?c_MOST_FIGURES ?c_FAULT ?c_MOST_SPOT ?c_MOST_FAR ?c_MOST_BYTES ?c_MOST_SECTORS ?c_MOST_COLOUR ?c_MOST_LIGHTS ?c_MOST_COASTS ?c_MOST_TIME ?c_MOST_PLACES ?c_MOST_STEP ?c_MOST_STEPS ?l_LETTERS ?l_WRONG ?l_TOO_LONG ?l_NOT_SEEN ?l_NO_LIGHT ?l_FULL ?l_NO_WHITE ?l_NUMBERS ?l_ROWS ?b_len ?b_abs ?b_max ?b_min ?b_sum ?b_list ?b_range ?b_zip ?b_enumerate ?d_is_direction ?d_half_of ?d_is_ahead ?d_colour_by ?d_sectors_of ?d_are_sectors ?d_long_of ?d_phase_of ?d_words_of ?d_read_rhythm ?d_is_white_and_dark ?d_is_white_at ?d_figures_of ?d_text_in ?d_side ?d_lie_apart ?d_is_sign ?d_have_common ?d_is_hidden ?m_Light___init__ ?m_Light_colour_seen ?m_Light_is_white ?d_places_of ?d_is_so ?d_places_told ?d_counts_of ?d_best_light ?d_changes_along ?d_is_place ?d_pairs_of ?m_Hall___init__ ?m_Hall_shown ?m_Hall_seen ?m_Hall_at_time ?m_Hall_rhythm ?m_Hall_field_fault ?m_Hall_where ?m_Hall_tell ?m_Hall_track ?m_Hall_light ?m_Hall_coast ?m_Hall_wipe ?d_rows_at ?d_answered ?d_answers
    (case hL => k_is)
    (case hH => k_is)
    case kLight =>
      refine' Bcw.here_cls ?kLight_pg ?kLight_hd ?kLight_po ?kLight_sa
      (case kLight_pg => k_is); (case kLight_hd => k_is); (case kLight_po => k_is); (case kLight_sa => k_is)
    case kHall =>
      refine' Bcw.here_cls ?kHall_pg ?kHall_hd ?kHall_po ?kHall_sa
      (case kHall_pg => k_is); (case kHall_hd => k_is); (case kHall_po => k_is); (case kHall_sa => k_is)
    (case n_Light_x => unfold L2.NoAttr; k_is)
    (case n_Light_y => unfold L2.NoAttr; k_is)
    (case n_Light_far => unfold L2.NoAttr; k_is)
    (case n_Light_phases => unfold L2.NoAttr; k_is)
    (case n_Light_sectors => unfold L2.NoAttr; k_is)
    (case n_Hall_lights => unfold L2.NoAttr; k_is)
    (case n_Hall_coasts => unfold L2.NoAttr; k_is)
    case c_MOST_PART =>
      refine' Bcw.here_c ?c_MOST_PART_h
      (case c_MOST_PART_h => k_is)
    case c_COLOURS =>
      refine' Bcw.here_c ?c_COLOURS_h
      (case c_COLOURS_h => k_is)
    case c_BLANK =>
      refine' Bcw.here_c ?c_BLANK_h
      (case c_BLANK_h => k_is)
    case c_DARK =>
      refine' Bcw.here_c ?c_DARK_h
      (case c_DARK_h => k_is)
    case c_WHITE =>
      refine' Bcw.here_c ?c_WHITE_h
      (case c_WHITE_h => k_is)
    case c_NOUGHT =>
      refine' Bcw.here_c ?c_NOUGHT_h
      (case c_NOUGHT_h => k_is)
    case c_NINE =>
      refine' Bcw.here_c ?c_NINE_h
      (case c_NINE_h => k_is)
    case c_MOST_LONG =>
      refine' Bcw.here_c ?c_MOST_LONG_h
      (case c_MOST_LONG_h => k_is)
    case c_MOST_PHASES =>
      refine' Bcw.here_c ?c_MOST_PHASES_h
      (case c_MOST_PHASES_h => k_is)
    case c_MOST_TOGETHER =>
      refine' Bcw.here_c ?c_MOST_TOGETHER_h
      (case c_MOST_TOGETHER_h => k_is)
    case c_MOST_FIGURES =>
      refine' Bcw.here_c ?c_MOST_FIGURES_h
      (case c_MOST_FIGURES_h => k_is)
    case c_FAULT =>
      refine' Bcw.here_c ?c_FAULT_h
      (case c_FAULT_h => k_is)
    case c_MOST_SPOT =>
      refine' Bcw.here_c ?c_MOST_SPOT_h
      (case c_MOST_SPOT_h => k_is)
    case c_MOST_FAR =>
      refine' Bcw.here_c ?c_MOST_FAR_h
      (case c_MOST_FAR_h => k_is)
    case c_MOST_BYTES =>
      refine' Bcw.here_c ?c_MOST_BYTES_h
      (case c_MOST_BYTES_h => k_is)
    case c_MOST_SECTORS =>
      refine' Bcw.here_c ?c_MOST_SECTORS_h
      (case c_MOST_SECTORS_h => k_is)
    case c_MOST_COLOUR =>
      refine' Bcw.here_c ?c_MOST_COLOUR_h
      (case c_MOST_COLOUR_h => k_is)
    case c_MOST_LIGHTS =>
      refine' Bcw.here_c ?c_MOST_LIGHTS_h
      (case c_MOST_LIGHTS_h => k_is)
    case c_MOST_COASTS =>
      refine' Bcw.here_c ?c_MOST_COASTS_h
      (case c_MOST_COASTS_h => k_is)
    case c_MOST_TIME =>
      refine' Bcw.here_c ?c_MOST_TIME_h
      (case c_MOST_TIME_h => k_is)
    case c_MOST_PLACES =>
      refine' Bcw.here_c ?c_MOST_PLACES_h
      (case c_MOST_PLACES_h => k_is)
    case c_MOST_STEP =>
      refine' Bcw.here_c ?c_MOST_STEP_h
      (case c_MOST_STEP_h => k_is)
    case c_MOST_STEPS =>
      refine' Bcw.here_c ?c_MOST_STEPS_h
      (case c_MOST_STEPS_h => k_is)
    case l_LETTERS =>
      refine' Bcw.here_t5 ?l_LETTERS_h ?l_LETTERS_l
      (case l_LETTERS_h => k_is); (case l_LETTERS_l => k_is)
    case l_WRONG =>
      refine' Bcw.here_l ?l_WRONG_h ?l_WRONG_l
      (case l_WRONG_h => k_is); (case l_WRONG_l => k_is)
    case l_TOO_LONG =>
      refine' Bcw.here_l ?l_TOO_LONG_h ?l_TOO_LONG_l
      (case l_TOO_LONG_h => k_is); (case l_TOO_LONG_l => k_is)
    case l_NOT_SEEN =>
      refine' Bcw.here_l ?l_NOT_SEEN_h ?l_NOT_SEEN_l
      (case l_NOT_SEEN_h => k_is); (case l_NOT_SEEN_l => k_is)
    case l_NO_LIGHT =>
      refine' Bcw.here_l ?l_NO_LIGHT_h ?l_NO_LIGHT_l
      (case l_NO_LIGHT_h => k_is); (case l_NO_LIGHT_l => k_is)
    case l_FULL =>
      refine' Bcw.here_l ?l_FULL_h ?l_FULL_l
      (case l_FULL_h => k_is); (case l_FULL_l => k_is)
    case l_NO_WHITE =>
      refine' Bcw.here_l ?l_NO_WHITE_h ?l_NO_WHITE_l
      (case l_NO_WHITE_h => k_is); (case l_NO_WHITE_l => k_is)
    case l_NUMBERS =>
      refine' Bcw.here_t9 ?l_NUMBERS_h ?l_NUMBERS_l
      (case l_NUMBERS_h => k_is); (case l_NUMBERS_l => k_is)
    case l_ROWS =>
      refine' Bcw.here_t9 ?l_ROWS_h ?l_ROWS_l
      (case l_ROWS_h => k_is); (case l_ROWS_l => k_is)
    (case b_len => unfold Bcw.BHere; k_is)
    (case b_abs => unfold Bcw.BHere; k_is)
    (case b_max => unfold Bcw.BHere; k_is)
    (case b_min => unfold Bcw.BHere; k_is)
    (case b_sum => unfold Bcw.BHere; k_is)
    (case b_list => unfold Bcw.BHere; k_is)
    (case b_range => unfold Bcw.BHere; k_is)
    (case b_zip => unfold Bcw.BHere; k_is)
    (case b_enumerate => unfold Bcw.BHere; k_is)
    case d_is_direction =>
      refine' Bcw.here_d ?d_is_direction_a ?d_is_direction_l ?d_is_direction_c ?d_is_direction_k
      (case d_is_direction_a => k_is); (case d_is_direction_l => k_is); (case d_is_direction_c => k_is); (case d_is_direction_k => k_is)
    case d_half_of =>
      refine' Bcw.here_d ?d_half_of_a ?d_half_of_l ?d_half_of_c ?d_half_of_k
      (case d_half_of_a => k_is); (case d_half_of_l => k_is); (case d_half_of_c => k_is); (case d_half_of_k => k_is)
    case d_is_ahead =>
      refine' Bcw.here_d ?d_is_ahead_a ?d_is_ahead_l ?d_is_ahead_c ?d_is_ahead_k
      (case d_is_ahead_a => k_is); (case d_is_ahead_l => k_is); (case d_is_ahead_c => k_is); (case d_is_ahead_k => k_is)
    case d_colour_by =>
      refine' Bcw.here_d ?d_colour_by_a ?d_colour_by_l ?d_colour_by_c ?d_colour_by_k
      (case d_colour_by_a => k_is); (case d_colour_by_l => k_is); (case d_colour_by_c => k_is); (case d_colour_by_k => k_is)
    case d_sectors_of =>
      refine' Bcw.here_d ?d_sectors_of_a ?d_sectors_of_l ?d_sectors_of_c ?d_sectors_of_k
      (case d_sectors_of_a => k_is); (case d_sectors_of_l => k_is); (case d_sectors_of_c => k_is); (case d_sectors_of_k => k_is)
    case d_are_sectors =>
      refine' Bcw.here_d ?d_are_sectors_a ?d_are_sectors_l ?d_are_sectors_c ?d_are_sectors_k
      (case d_are_sectors_a => k_is); (case d_are_sectors_l => k_is); (case d_are_sectors_c => k_is); (case d_are_sectors_k => k_is)
    case d_long_of =>
      refine' Bcw.here_d ?d_long_of_a ?d_long_of_l ?d_long_of_c ?d_long_of_k
      (case d_long_of_a => k_is); (case d_long_of_l => k_is); (case d_long_of_c => k_is); (case d_long_of_k => k_is)
    case d_phase_of =>
      refine' Bcw.here_d ?d_phase_of_a ?d_phase_of_l ?d_phase_of_c ?d_phase_of_k
      (case d_phase_of_a => k_is); (case d_phase_of_l => k_is); (case d_phase_of_c => k_is); (case d_phase_of_k => k_is)
    case d_words_of =>
      refine' Bcw.here_d ?d_words_of_a ?d_words_of_l ?d_words_of_c ?d_words_of_k
      (case d_words_of_a => k_is); (case d_words_of_l => k_is); (case d_words_of_c => k_is); (case d_words_of_k => k_is)
    case d_read_rhythm =>
      refine' Bcw.here_d ?d_read_rhythm_a ?d_read_rhythm_l ?d_read_rhythm_c ?d_read_rhythm_k
      (case d_read_rhythm_a => k_is); (case d_read_rhythm_l => k_is); (case d_read_rhythm_c => k_is); (case d_read_rhythm_k => k_is)
    case d_is_white_and_dark =>
      refine' Bcw.here_d ?d_is_white_and_dark_a ?d_is_white_and_dark_l ?d_is_white_and_dark_c ?d_is_white_and_dark_k
      (case d_is_white_and_dark_a => k_is); (case d_is_white_and_dark_l => k_is); (case d_is_white_and_dark_c => k_is); (case d_is_white_and_dark_k => k_is)
    case d_is_white_at =>
      refine' Bcw.here_d ?d_is_white_at_a ?d_is_white_at_l ?d_is_white_at_c ?d_is_white_at_k
      (case d_is_white_at_a => k_is); (case d_is_white_at_l => k_is); (case d_is_white_at_c => k_is); (case d_is_white_at_k => k_is)
    case d_figures_of =>
      refine' Bcw.here_d ?d_figures_of_a ?d_figures_of_l ?d_figures_of_c ?d_figures_of_k
      (case d_figures_of_a => k_is); (case d_figures_of_l => k_is); (case d_figures_of_c => k_is); (case d_figures_of_k => k_is)
    case d_text_in =>
      refine' Bcw.here_d ?d_text_in_a ?d_text_in_l ?d_text_in_c ?d_text_in_k
      (case d_text_in_a => k_is); (case d_text_in_l => k_is); (case d_text_in_c => k_is); (case d_text_in_k => k_is)
    case d_side =>
      refine' Bcw.here_d ?d_side_a ?d_side_l ?d_side_c ?d_side_k
      (case d_side_a => k_is); (case d_side_l => k_is); (case d_side_c => k_is); (case d_side_k => k_is)
    case d_lie_apart =>
      refine' Bcw.here_d ?d_lie_apart_a ?d_lie_apart_l ?d_lie_apart_c ?d_lie_apart_k
      (case d_lie_apart_a => k_is); (case d_lie_apart_l => k_is); (case d_lie_apart_c => k_is); (case d_lie_apart_k => k_is)
    case d_is_sign =>
      refine' Bcw.here_d ?d_is_sign_a ?d_is_sign_l ?d_is_sign_c ?d_is_sign_k
      (case d_is_sign_a => k_is); (case d_is_sign_l => k_is); (case d_is_sign_c => k_is); (case d_is_sign_k => k_is)
    case d_have_common =>
      refine' Bcw.here_d ?d_have_common_a ?d_have_common_l ?d_have_common_c ?d_have_common_k
      (case d_have_common_a => k_is); (case d_have_common_l => k_is); (case d_have_common_c => k_is); (case d_have_common_k => k_is)
    case d_is_hidden =>
      refine' Bcw.here_d ?d_is_hidden_a ?d_is_hidden_l ?d_is_hidden_c ?d_is_hidden_k
      (case d_is_hidden_a => k_is); (case d_is_hidden_l => k_is); (case d_is_hidden_c => k_is); (case d_is_hidden_k => k_is)
    case m_Light___init__ =>
      refine' Bcw.here_i ?m_Light___init___mk ?m_Light___init___kc ?m_Light___init___a ?m_Light___init___i ?m_Light___init___l ?m_Light___init___c ?m_Light___init___k
      (case m_Light___init___mk => k_is); (case m_Light___init___kc => k_is); (case m_Light___init___a => k_is); (case m_Light___init___i => k_is); (case m_Light___init___l => k_is); (case m_Light___init___c => k_is); (case m_Light___init___k => k_is)
    case m_Light_colour_seen =>
      refine' Bcw.here_m ?m_Light_colour_seen_a ?m_Light_colour_seen_i ?m_Light_colour_seen_l ?m_Light_colour_seen_c ?m_Light_colour_seen_k
      (case m_Light_colour_seen_a => k_is); (case m_Light_colour_seen_i => k_is); (case m_Light_colour_seen_l => k_is); (case m_Light_colour_seen_c => k_is); (case m_Light_colour_seen_k => k_is)
    case m_Light_is_white =>
      refine' Bcw.here_m ?m_Light_is_white_a ?m_Light_is_white_i ?m_Light_is_white_l ?m_Light_is_white_c ?m_Light_is_white_k
      (case m_Light_is_white_a => k_is); (case m_Light_is_white_i => k_is); (case m_Light_is_white_l => k_is); (case m_Light_is_white_c => k_is); (case m_Light_is_white_k => k_is)
    case d_places_of =>
      refine' Bcw.here_d ?d_places_of_a ?d_places_of_l ?d_places_of_c ?d_places_of_k
      (case d_places_of_a => k_is); (case d_places_of_l => k_is); (case d_places_of_c => k_is); (case d_places_of_k => k_is)
    case d_is_so =>
      refine' Bcw.here_d ?d_is_so_a ?d_is_so_l ?d_is_so_c ?d_is_so_k
      (case d_is_so_a => k_is); (case d_is_so_l => k_is); (case d_is_so_c => k_is); (case d_is_so_k => k_is)
    case d_places_told =>
      refine' Bcw.here_d ?d_places_told_a ?d_places_told_l ?d_places_told_c ?d_places_told_k
      (case d_places_told_a => k_is); (case d_places_told_l => k_is); (case d_places_told_c => k_is); (case d_places_told_k => k_is)
    case d_counts_of =>
      refine' Bcw.here_d ?d_counts_of_a ?d_counts_of_l ?d_counts_of_c ?d_counts_of_k
      (case d_counts_of_a => k_is); (case d_counts_of_l => k_is); (case d_counts_of_c => k_is); (case d_counts_of_k => k_is)
    case d_best_light =>
      refine' Bcw.here_d ?d_best_light_a ?d_best_light_l ?d_best_light_c ?d_best_light_k
      (case d_best_light_a => k_is); (case d_best_light_l => k_is); (case d_best_light_c => k_is); (case d_best_light_k => k_is)
    case d_changes_along =>
      refine' Bcw.here_d ?d_changes_along_a ?d_changes_along_l ?d_changes_along_c ?d_changes_along_k
      (case d_changes_along_a => k_is); (case d_changes_along_l => k_is); (case d_changes_along_c => k_is); (case d_changes_along_k => k_is)
    case d_is_place =>
      refine' Bcw.here_d ?d_is_place_a ?d_is_place_l ?d_is_place_c ?d_is_place_k
      (case d_is_place_a => k_is); (case d_is_place_l => k_is); (case d_is_place_c => k_is); (case d_is_place_k => k_is)
    case d_pairs_of =>
      refine' Bcw.here_d ?d_pairs_of_a ?d_pairs_of_l ?d_pairs_of_c ?d_pairs_of_k
      (case d_pairs_of_a => k_is); (case d_pairs_of_l => k_is); (case d_pairs_of_c => k_is); (case d_pairs_of_k => k_is)
    case m_Hall___init__ =>
      refine' Bcw.here_i ?m_Hall___init___mk ?m_Hall___init___kc ?m_Hall___init___a ?m_Hall___init___i ?m_Hall___init___l ?m_Hall___init___c ?m_Hall___init___k
      (case m_Hall___init___mk => k_is); (case m_Hall___init___kc => k_is); (case m_Hall___init___a => k_is); (case m_Hall___init___i => k_is); (case m_Hall___init___l => k_is); (case m_Hall___init___c => k_is); (case m_Hall___init___k => k_is)
    case m_Hall_shown =>
      refine' Bcw.here_m ?m_Hall_shown_a ?m_Hall_shown_i ?m_Hall_shown_l ?m_Hall_shown_c ?m_Hall_shown_k
      (case m_Hall_shown_a => k_is); (case m_Hall_shown_i => k_is); (case m_Hall_shown_l => k_is); (case m_Hall_shown_c => k_is); (case m_Hall_shown_k => k_is)
    case m_Hall_seen =>
      refine' Bcw.here_m ?m_Hall_seen_a ?m_Hall_seen_i ?m_Hall_seen_l ?m_Hall_seen_c ?m_Hall_seen_k
      (case m_Hall_seen_a => k_is); (case m_Hall_seen_i => k_is); (case m_Hall_seen_l => k_is); (case m_Hall_seen_c => k_is); (case m_Hall_seen_k => k_is)
    case m_Hall_at_time =>
      refine' Bcw.here_m ?m_Hall_at_time_a ?m_Hall_at_time_i ?m_Hall_at_time_l ?m_Hall_at_time_c ?m_Hall_at_time_k
      (case m_Hall_at_time_a => k_is); (case m_Hall_at_time_i => k_is); (case m_Hall_at_time_l => k_is); (case m_Hall_at_time_c => k_is); (case m_Hall_at_time_k => k_is)
    case m_Hall_rhythm =>
      refine' Bcw.here_m ?m_Hall_rhythm_a ?m_Hall_rhythm_i ?m_Hall_rhythm_l ?m_Hall_rhythm_c ?m_Hall_rhythm_k
      (case m_Hall_rhythm_a => k_is); (case m_Hall_rhythm_i => k_is); (case m_Hall_rhythm_l => k_is); (case m_Hall_rhythm_c => k_is); (case m_Hall_rhythm_k => k_is)
    case m_Hall_field_fault =>
      refine' Bcw.here_m ?m_Hall_field_fault_a ?m_Hall_field_fault_i ?m_Hall_field_fault_l ?m_Hall_field_fault_c ?m_Hall_field_fault_k
      (case m_Hall_field_fault_a => k_is); (case m_Hall_field_fault_i => k_is); (case m_Hall_field_fault_l => k_is); (case m_Hall_field_fault_c => k_is); (case m_Hall_field_fault_k => k_is)
    case m_Hall_where =>
      refine' Bcw.here_m ?m_Hall_where_a ?m_Hall_where_i ?m_Hall_where_l ?m_Hall_where_c ?m_Hall_where_k
      (case m_Hall_where_a => k_is); (case m_Hall_where_i => k_is); (case m_Hall_where_l => k_is); (case m_Hall_where_c => k_is); (case m_Hall_where_k => k_is)
    case m_Hall_tell =>
      refine' Bcw.here_m ?m_Hall_tell_a ?m_Hall_tell_i ?m_Hall_tell_l ?m_Hall_tell_c ?m_Hall_tell_k
      (case m_Hall_tell_a => k_is); (case m_Hall_tell_i => k_is); (case m_Hall_tell_l => k_is); (case m_Hall_tell_c => k_is); (case m_Hall_tell_k => k_is)
    case m_Hall_track =>
      refine' Bcw.here_m ?m_Hall_track_a ?m_Hall_track_i ?m_Hall_track_l ?m_Hall_track_c ?m_Hall_track_k
      (case m_Hall_track_a => k_is); (case m_Hall_track_i => k_is); (case m_Hall_track_l => k_is); (case m_Hall_track_c => k_is); (case m_Hall_track_k => k_is)
    case m_Hall_light =>
      refine' Bcw.here_m ?m_Hall_light_a ?m_Hall_light_i ?m_Hall_light_l ?m_Hall_light_c ?m_Hall_light_k
      (case m_Hall_light_a => k_is); (case m_Hall_light_i => k_is); (case m_Hall_light_l => k_is); (case m_Hall_light_c => k_is); (case m_Hall_light_k => k_is)
    case m_Hall_coast =>
      refine' Bcw.here_m ?m_Hall_coast_a ?m_Hall_coast_i ?m_Hall_coast_l ?m_Hall_coast_c ?m_Hall_coast_k
      (case m_Hall_coast_a => k_is); (case m_Hall_coast_i => k_is); (case m_Hall_coast_l => k_is); (case m_Hall_coast_c => k_is); (case m_Hall_coast_k => k_is)
    case m_Hall_wipe =>
      refine' Bcw.here_m ?m_Hall_wipe_a ?m_Hall_wipe_i ?m_Hall_wipe_l ?m_Hall_wipe_c ?m_Hall_wipe_k
      (case m_Hall_wipe_a => k_is); (case m_Hall_wipe_i => k_is); (case m_Hall_wipe_l => k_is); (case m_Hall_wipe_c => k_is); (case m_Hall_wipe_k => k_is)
    case d_rows_at =>
      refine' Bcw.here_d ?d_rows_at_a ?d_rows_at_l ?d_rows_at_c ?d_rows_at_k
      (case d_rows_at_a => k_is); (case d_rows_at_l => k_is); (case d_rows_at_c => k_is); (case d_rows_at_k => k_is)
    case d_answered =>
      refine' Bcw.here_d ?d_answered_a ?d_answered_l ?d_answered_c ?d_answered_k
      (case d_answered_a => k_is); (case d_answered_l => k_is); (case d_answered_c => k_is); (case d_answered_k => k_is)
    case d_answers =>
      refine' Bcw.here_d ?d_answers_a ?d_answers_l ?d_answers_c ?d_answers_k
      (case d_answers_a => k_is); (case d_answers_l => k_is); (case d_answers_c => k_is); (case d_answers_k => k_is)
  case S =>
    intro K H xs a hO hwi hask hx
    cases hx with
    | cons h1 h2 =>
      cases h2
      cases h1 with
      | lst hs ha =>
        have e := L2.ints_dw a.1 _ ha
        subst e
        have q : ((PySem.W.Codec.inLen 0 30000 a.1 && a.1.all (PySem.W.Codec.inInt (Int.negSucc 2147483647) (Int.ofNat 4294967295))) && true) = true := hwi
        rw [Bool.and_eq_true, Bool.and_eq_true] at q
        exact ⟨_, a.1, rfl, hs, (PySem.W.Codec.inNat_iff.mp q.1.1).2, hask, fun H' p hp => .lst (L2.SqL.of hp) (L2.dw_ints _)⟩
