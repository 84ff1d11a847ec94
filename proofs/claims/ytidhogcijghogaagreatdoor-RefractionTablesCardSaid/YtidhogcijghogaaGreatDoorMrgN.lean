/- Several texts in one: SinA, SinB, SinC, SinD, SinE, SinF, SinG. -/
/- Sines and cosines as sums of divided powers, and their law of small steps. Plain: no program is in sight here. -/
namespace Go.Sine
theorem pow_addQ (x : Rat) (m : Nat) : ∀ n : Nat, x ^ (m + n) = x ^ m * x ^ n
  | 0 => by rw [Nat.add_zero, Rat.pow_zero, Rat.mul_one]
  | n + 1 => by rw [← Nat.add_assoc, Rat.pow_succ, Rat.pow_succ, pow_addQ x m n, Rat.mul_assoc]
/-- x to the m, divided by m! -/
def e : Nat → Rat → Rat
  | 0, _ => 1
  | m + 1, x => x * e m x / ((m : Rat) + 1)
theorem cast_pos (m : Nat) : (0 : Rat) < (m : Rat) + 1 := by
  have h : (0 : Rat) ≤ (m : Rat) := Rat.natCast_nonneg
  grind
theorem e_zero (x : Rat) : e 0 x = 1 := rfl
theorem e_succ (m : Nat) (x : Rat) : ((m : Rat) + 1) * e (m + 1) x = x * e m x := by
  have h := cast_pos m
  show ((m : Rat) + 1) * (x * e m x / ((m : Rat) + 1)) = x * e m x
  rw [Rat.mul_comm, Rat.div_mul_cancel (by grind)]
theorem mul_cancel {a b c : Rat} (ha : 0 < a) (h : a * b = a * c) : b = c := by
  have h2 : a * (b - c) = 0 := by grind
  rcases Rat.mul_eq_zero.mp h2 with h3 | h3 <;> grind
theorem le_cancel {a b c : Rat} (ha : 0 < a) (h : a * b ≤ a * c) : b ≤ c := Rat.le_of_mul_le_mul_left h ha
theorem mul_mono {a b c d : Rat} (h : a ≤ b) (k : c ≤ d) (hc : 0 ≤ c) (hb : 0 ≤ b) : a * c ≤ b * d := by
  have h1 := Rat.mul_le_mul_of_nonneg_right h hc
  have h2 := Rat.mul_le_mul_of_nonneg_left k hb
  grind
theorem e_nonneg {x : Rat} (hx : 0 ≤ x) : ∀ m, 0 ≤ e m x
  | 0 => by rw [e_zero]; decide
  | m + 1 => by
    have h := e_succ m x
    have hp := cast_pos m
    have := Rat.mul_nonneg hx (e_nonneg hx m)
    exact le_cancel hp (by rw [h]; grind)
theorem e_mono {x z : Rat} (hx : 0 ≤ x) (h : x ≤ z) : ∀ m, e m x ≤ e m z
  | 0 => by rw [e_zero, e_zero]; exact Rat.le_refl
  | m + 1 => le_cancel (cast_pos m) (by
    rw [e_succ, e_succ]
    exact mul_mono h (e_mono hx h m) (e_nonneg hx m) (by grind))
/-- the divided power that stands k places before -/
def ep (k m : Nat) (x : Rat) : Rat := if k ≤ m then e (m - k) x else 0
theorem ep_nonneg {x : Rat} (hx : 0 ≤ x) (k m : Nat) : 0 ≤ ep k m x := by
  unfold ep
  split
  · exact e_nonneg hx _
  · exact Rat.le_refl
theorem ep_mono {x z : Rat} (hx : 0 ≤ x) (h : x ≤ z) (k m : Nat) : ep k m x ≤ ep k m z := by
  unfold ep
  split
  · exact e_mono hx h _
  · exact Rat.le_refl
theorem ep_shift (k m : Nat) (x : Rat) : ep (k + 1) (m + 1) x = ep k m x := by
  unfold ep
  rw [Nat.add_sub_add_right]
  by_cases h : k ≤ m
  · rw [if_pos h, if_pos (by omega)]
  · rw [if_neg h, if_neg (by omega)]
theorem ep_rec (k m : Nat) (x : Rat) : ((m : Rat) + 1 - k) * ep k (m + 1) x = x * ep k m x := by
  unfold ep
  by_cases h : k ≤ m
  · rw [if_pos h, if_pos (by omega), show m + 1 - k = (m - k) + 1 by omega]
    have := e_succ (m - k) x
    obtain ⟨j, rfl⟩ := Nat.exists_eq_add_of_le h
    rw [show k + j - k = j by omega] at this ⊢
    have h4 : ((k + j : Nat) : Rat) = (k : Rat) + j := by simp
    rw [h4]
    grind
  · rw [if_neg h]
    by_cases h2 : k = m + 1
    · subst h2
      have : ((m + 1 : Nat) : Rat) = (m : Rat) + 1 := by simp
      rw [this]
      grind
    · rw [if_neg (by omega)]
      grind
/-- the first terms of a step's expansion -/
def S (x y : Rat) : Nat → Nat → Rat
  | 0, m => ep 0 m x * e 0 y
  | i + 1, m => S x y i m + ep (i + 1) m x * e (i + 1) y
theorem S_rec (x y : Rat) (m : Nat) : ∀ i, ((m : Rat) + 1) * S x y i (m + 1) = (x + y) * S x y i m - y * (ep i m x * e i y)
  | 0 => by
    have h := ep_rec 0 m x
    unfold S
    rw [e_zero]
    have : ((0 : Nat) : Rat) = 0 := rfl
    rw [this] at h
    grind
  | i + 1 => by
    have h := S_rec x y m i
    have h1 := ep_rec (i + 1) m x
    have h2 := ep_shift i m x
    have h3 := e_succ i y
    have h4 : ((i + 1 : Nat) : Rat) = (i : Rat) + 1 := by simp
    rw [h4] at h1
    show ((m : Rat) + 1) * (S x y i (m + 1) + ep (i + 1) (m + 1) x * e (i + 1) y) = (x + y) * (S x y i m + ep (i + 1) m x * e (i + 1) y) - y * (ep (i + 1) m x * e (i + 1) y)
    have h5 : ((m : Rat) + 1) * ep (i + 1) (m + 1) x = x * ep (i + 1) m x + ((i : Rat) + 1) * ep i m x := by rw [h2] at h1 ⊢; grind
    have h6 : ((m : Rat) + 1) * (ep (i + 1) (m + 1) x * e (i + 1) y) = x * ep (i + 1) m x * e (i + 1) y + ep i m x * (y * e i y) := by
      rw [← h3, ← Rat.mul_assoc, h5]; grind
    rw [Rat.mul_add, h, h6]
    grind
theorem S_start (x y : Rat) : ∀ i, S x y i 0 = 1
  | 0 => by unfold S ep; simp [e_zero]
  | i + 1 => by
    show S x y i 0 + ep (i + 1) 0 x * e (i + 1) y = 1
    rw [S_start x y i]
    have : ep (i + 1) 0 x = 0 := by unfold ep; rw [if_neg (by omega)]
    rw [this]
    grind
theorem S_rest {x y : Rat} (hx : 0 ≤ x) (hy : 0 ≤ y) (i : Nat) : ∀ m, 0 ≤ e m (x + y) - S x y i m ∧ e m (x + y) - S x y i m ≤ e (i + 1) y * ep (i + 1) m (x + y)
  | 0 => by
    rw [S_start, e_zero]
    have : ep (i + 1) 0 (x + y) = 0 := by unfold ep; rw [if_neg (by omega)]
    rw [this]
    grind
  | m + 1 => by
    obtain ⟨h1, h2⟩ := S_rest hx hy i m
    have hs := S_rec x y m i
    have he := e_succ m (x + y)
    have hp := cast_pos m
    have hxy : 0 ≤ x + y := by grind
    have k1 : ((m : Rat) + 1) * (e (m + 1) (x + y) - S x y i (m + 1)) = (x + y) * (e m (x + y) - S x y i m) + y * (ep i m x * e i y) := by grind
    have n1 := Rat.mul_nonneg hy (Rat.mul_nonneg (ep_nonneg hx i m) (e_nonneg hy i))
    have n2 := Rat.mul_nonneg hxy h1
    have n3 := Rat.mul_le_mul_of_nonneg_left h2 hxy
    have r1 := ep_rec (i + 1) m (x + y)
    have r2 := ep_shift i m x
    have r3 := ep_mono (z := x + y) hx (by grind) (i + 1) (m + 1)
    have r4 := e_succ i y
    have r5 : ((i + 1 : Nat) : Rat) = (i : Rat) + 1 := by simp
    rw [r5] at r1
    have r6 := Rat.mul_le_mul_of_nonneg_left r3 (Rat.mul_nonneg (show (0 : Rat) ≤ (i : Rat) + 1 by have := cast_pos i; grind) (e_nonneg hy (i + 1)))
    constructor
    · exact le_cancel hp (by grind)
    · refine le_cancel hp ?_
      rw [k1]
      have k2 : y * (ep i m x * e i y) = ((i : Rat) + 1) * e (i + 1) y * ep (i + 1) (m + 1) x := by rw [r4, r2]; grind
      have k3 : (x + y) * (e (i + 1) y * ep (i + 1) m (x + y)) = e (i + 1) y * (((m : Rat) + 1 - ((i : Rat) + 1)) * ep (i + 1) (m + 1) (x + y)) := by rw [r1]; grind
      rw [k2]
      grind
end Go.Sine

/- Sines and cosines of sums. Plain: no program is in sight here. -/
namespace Go.Sine
/-- a sum of divided powers from the power a on, with signs -/
def F (τ : Nat → Rat) (a : Nat) : Nat → Rat → Rat
  | 0, _ => 0
  | n + 1, x => τ 0 * e a x + F (fun m => τ (m + 1)) (a + 1) n x
theorem F_succ (τ : Nat → Rat) (a n : Nat) (x : Rat) : F τ a (n + 1) x = τ 0 * e a x + F (fun m => τ (m + 1)) (a + 1) n x := rfl
theorem F_zero (τ : Nat → Rat) (a : Nat) (x : Rat) : F τ a 0 x = 0 := rfl
/-- the signs of the sine's terms, and of the cosine's -/
def sg (m : Nat) : Rat := match m % 4 with | 1 => 1 | 3 => -1 | _ => 0
def cg (m : Nat) : Rat := sg (m + 1)
def sn (x : Rat) : Rat := F sg 0 81 x
def cs (x : Rat) : Rat := F cg 0 81 x
theorem sg_two (m : Nat) : sg (m + 2) = - sg m := by
  unfold sg
  have h : (m + 2) % 4 = (m % 4 + 2) % 4 := by omega
  rw [h]
  have : m % 4 < 4 := Nat.mod_lt _ (by decide)
  generalize m % 4 = k at *
  rcases (show k = 0 ∨ k = 1 ∨ k = 2 ∨ k = 3 by omega) with rfl | rfl | rfl | rfl <;> decide
theorem F_ext {τ υ : Nat → Rat} (h : ∀ m, τ m = υ m) (a n : Nat) (x : Rat) : F τ a n x = F υ a n x := by rw [show τ = υ from funext h]
theorem F_neg (τ : Nat → Rat) : ∀ (n a : Nat) (x : Rat), F (fun m => - τ m) a n x = - F τ a n x
  | 0, _, _ => by unfold F; grind
  | n + 1, a, x => by
    unfold F
    rw [F_neg (fun m => τ (m + 1)) n (a + 1) x]
    grind
theorem F_cg (a n : Nat) (x : Rat) : F cg a (n + 2) x = e a x - F cg (a + 2) n x := by
  rw [F_succ, F_succ]
  have h0 : cg 0 = 1 := by decide
  have h1 : cg (0 + 1) = 0 := by decide
  rw [h0, h1, F_ext (υ := fun m => - cg m) (fun m => by unfold cg; exact sg_two (m + 1)), F_neg]
  grind
theorem F_cg1 (a : Nat) (x : Rat) : F cg a 1 x = e a x := by
  rw [F_succ, F_zero]
  have h0 : cg 0 = 1 := by decide
  rw [h0]; grind
theorem F_sg (a n : Nat) (x : Rat) : F sg a (n + 1) x = F cg (a + 1) n x := by
  rw [F_succ]
  have h0 : sg 0 = 0 := by decide
  rw [h0]
  have : F (fun m => sg (m + 1)) (a + 1) n x = F cg (a + 1) n x := rfl
  rw [this]; grind
theorem sn_eq (x : Rat) : sn x = F cg 1 80 x := F_sg 0 80 x
theorem e_half {x : Rat} (hx : 0 ≤ x) (h1 : x ≤ 1) (m : Nat) : 2 * e (m + 2) x ≤ e m x := by
  have a := e_succ (m + 1) x
  have b := e_succ m x
  have p := cast_pos m
  have p1 := cast_pos (m + 1)
  have c : ((m + 1 : Nat) : Rat) = (m : Rat) + 1 := by simp
  rw [c] at a p1
  have n0 := e_nonneg hx m
  have n1 := e_nonneg hx (m + 1)
  have n2 := e_nonneg hx (m + 2)
  have u1 : x * e m x ≤ e m x := by have := Rat.mul_le_mul_of_nonneg_right h1 n0; grind
  have u2 : x * e (m + 1) x ≤ e (m + 1) x := by have := Rat.mul_le_mul_of_nonneg_right h1 n1; grind
  have m0 : (0 : Rat) ≤ (m : Rat) := Rat.natCast_nonneg
  have w1 : 0 ≤ (m : Rat) * e (m + 2) x := Rat.mul_nonneg m0 n2
  have w2 : 0 ≤ (m : Rat) * e (m + 1) x := Rat.mul_nonneg m0 n1
  grind
theorem e_le {x : Rat} (hx : 0 ≤ x) (h1 : x ≤ 1) : ∀ m, 2 * e (m + 2) x ≤ e (m + 1) x ∧ e (m + 1) x ≤ 1 := fun m => by
  have all : ∀ m, e m x ≤ 1 := by
    intro m
    induction m with
    | zero => rw [e_zero]; decide
    | succ m ih =>
      have b := e_succ m x
      have n0 := e_nonneg hx m
      have n1 := e_nonneg hx (m + 1)
      have m0 : (0 : Rat) ≤ (m : Rat) := Rat.natCast_nonneg
      have w := Rat.mul_nonneg m0 n1
      have u1 : x * e m x ≤ e m x := by have := Rat.mul_le_mul_of_nonneg_right h1 n0; grind
      grind
  refine ⟨?_, all _⟩
  have a := e_succ (m + 1) x
  have c : ((m + 1 : Nat) : Rat) = (m : Rat) + 1 := by simp
  rw [c] at a
  have n1 := e_nonneg hx (m + 1)
  have n2 := e_nonneg hx (m + 2)
  have m0 : (0 : Rat) ≤ (m : Rat) := Rat.natCast_nonneg
  have w := Rat.mul_nonneg m0 n2
  have u2 : x * e (m + 1) x ≤ e (m + 1) x := by have := Rat.mul_le_mul_of_nonneg_right h1 n1; grind
  grind
theorem e_le_one {x : Rat} (hx : 0 ≤ x) (h1 : x ≤ 1) : ∀ m, e m x ≤ 1
  | 0 => by rw [e_zero]; decide
  | m + 1 => (e_le hx h1 m).2
theorem e_tiny {x : Rat} (hx : 0 ≤ x) (h1 : x ≤ 1) : ∀ m, (2 : Rat) ^ m * e (m + 1) x ≤ 1
  | 0 => by have := e_le_one hx h1 1; grind
  | m + 1 => by
    have h := (e_le hx h1 m).1
    have ih := e_tiny hx h1 m
    have p : (0 : Rat) ≤ 2 ^ m := Rat.pow_nonneg (by decide)
    have := Rat.mul_le_mul_of_nonneg_left h p
    rw [Rat.pow_succ]
    grind
/-- the sum of the divided powers is at most 3 -/
theorem F_one {x : Rat} (hx : 0 ≤ x) (h1 : x ≤ 1) : ∀ n, F (fun _ => 1) 1 n x + 2 * e (n + 1) x ≤ 2 := by
  have snoc : ∀ n a, F (fun _ => 1) a (n + 1) x = F (fun _ => 1) a n x + e (a + n) x := by
    intro n
    induction n with
    | zero => intro a; rw [F_succ, F_zero, F_zero]; grind
    | succ n ih =>
      intro a
      have h := ih (a + 1)
      show 1 * e a x + F (fun _ => 1) (a + 1) (n + 1) x = (1 * e a x + F (fun _ => 1) (a + 1) n x) + e (a + (n + 1)) x
      rw [h, show a + 1 + n = a + (n + 1) by omega]
      grind
  intro n
  induction n with
  | zero => have := e_le_one hx h1 1; unfold F; grind
  | succ n ih =>
    rw [snoc, show 1 + n = n + 1 by omega]
    have := (e_le hx h1 n).1
    grind
/-- sums of the parts of a step -/
def G (τ : Nat → Rat) (f : Nat → Rat) : Nat → Nat → Rat
  | 0, _ => 0
  | n + 1, a => τ 0 * f a + G (fun m => τ (m + 1)) f n (a + 1)
theorem G_e (τ : Nat → Rat) (x : Rat) : ∀ n a, G τ (fun m => e m x) n a = F τ a n x := by
  intro n
  induction n generalizing τ with
  | zero => intro a; rfl
  | succ n ih => intro a; unfold G F; rw [ih]
theorem G_add (τ : Nat → Rat) (f g : Nat → Rat) : ∀ n a, G τ (fun m => f m + g m) n a = G τ f n a + G τ g n a := by
  intro n
  induction n generalizing τ with
  | zero => intro a; unfold G; grind
  | succ n ih => intro a; unfold G; rw [ih]; grind
theorem G_mul (τ : Nat → Rat) (f : Nat → Rat) (k : Rat) : ∀ n a, G τ (fun m => f m * k) n a = G τ f n a * k := by
  intro n
  induction n generalizing τ with
  | zero => intro a; unfold G; grind
  | succ n ih => intro a; unfold G; rw [ih]; grind
theorem G_shift (τ : Nat → Rat) (f : Nat → Rat) : ∀ n a, G τ (fun m => f (m + 1)) n a = G τ f n (a + 1) := by
  intro n
  induction n generalizing τ with
  | zero => intro a; rfl
  | succ n ih => intro a; unfold G; rw [ih]
theorem G_ep (τ : Nat → Rat) (x : Rat) : ∀ i n, G τ (fun m => ep i m x) (n + i) 0 = F (fun m => τ (m + i)) 0 n x := by
  intro i
  induction i generalizing τ with
  | zero =>
    intro n
    rw [← G_e, show (fun m => ep 0 m x) = (fun m => e m x) from funext fun m => by unfold ep; rw [if_pos (Nat.zero_le _)]; rfl]
    rfl
  | succ i ih =>
    intro n
    rw [show n + (i + 1) = (n + i) + 1 by omega]
    unfold G
    have h0 : ep (i + 1) 0 x = 0 := by unfold ep; rw [if_neg (by omega)]
    rw [h0, ← G_shift, show (fun m => ep (i + 1) (m + 1) x) = (fun m => ep i m x) from funext fun m => ep_shift i m x, ih]
    have : (fun m => τ (m + i + 1)) = (fun m => τ (m + (i + 1))) := funext fun m => by rw [show m + i + 1 = m + (i + 1) by omega]
    rw [this]
    grind
theorem G_bound (τ : Nat → Rat) (hτ : ∀ m, -1 ≤ τ m ∧ τ m ≤ 1) (f g : Nat → Rat) (h : ∀ m, 0 ≤ f m ∧ f m ≤ g m) : ∀ n a, - G (fun _ => 1) g n a ≤ G τ f n a ∧ G τ f n a ≤ G (fun _ => 1) g n a := by
  intro n
  induction n generalizing τ with
  | zero => intro a; unfold G; grind
  | succ n ih =>
    intro a
    obtain ⟨h1, h2⟩ := ih (fun m => τ (m + 1)) (fun m => hτ (m + 1)) (a + 1)
    obtain ⟨f1, f2⟩ := h a
    obtain ⟨t1, t2⟩ := hτ 0
    have u := Rat.mul_le_mul_of_nonneg_right t1 f1
    have v := Rat.mul_le_mul_of_nonneg_right t2 f1
    unfold G
    constructor <;> grind
theorem sg_one (m : Nat) : -1 ≤ sg m ∧ sg m ≤ 1 := by
  unfold sg
  split <;> decide
/-- the last terms are small -/
theorem F_last (τ : Nat → Rat) (hτ : ∀ m, -1 ≤ τ m ∧ τ m ≤ 1) {x : Rat} (hx : 0 ≤ x) : ∀ n a, - e (a + n) x ≤ F τ a (n + 1) x - F τ a n x ∧ F τ a (n + 1) x - F τ a n x ≤ e (a + n) x := by
  intro n
  induction n generalizing τ with
  | zero =>
    intro a
    rw [F_succ, F_zero, F_zero]
    obtain ⟨t1, t2⟩ := hτ 0
    have h := e_nonneg hx a
    have u := Rat.mul_le_mul_of_nonneg_right t1 h
    have v := Rat.mul_le_mul_of_nonneg_right t2 h
    rw [Nat.add_zero]
    constructor <;> grind
  | succ n ih =>
    intro a
    have h := ih (fun m => τ (m + 1)) (fun m => hτ (m + 1)) (a + 1)
    have e1 : F τ a (n + 1 + 1) x = τ 0 * e a x + F (fun m => τ (m + 1)) (a + 1) (n + 1) x := rfl
    have e2 : F τ a (n + 1) x = τ 0 * e a x + F (fun m => τ (m + 1)) (a + 1) n x := rfl
    rw [e1, e2, show a + (n + 1) = a + 1 + n by omega]
    constructor <;> grind
end Go.Sine

/- The law of small steps for sines and cosines. Plain: no program is in sight here. -/
namespace Go.Sine
def ga (y : Rat) : Rat := 1 - e 2 y + e 4 y
def si (y : Rat) : Rat := e 1 y - e 3 y + e 5 y
/-- the rest of a step -/
def rest (x y : Rat) (m : Nat) : Rat := e m (x + y) - S x y 5 m
theorem step_gen (τ : Nat → Rat) (x y : Rat) : F τ 0 81 (x + y) =
    F τ 0 81 x + F (fun m => τ (m + 1)) 0 80 x * e 1 y + F (fun m => τ (m + 2)) 0 79 x * e 2 y + F (fun m => τ (m + 3)) 0 78 x * e 3 y + F (fun m => τ (m + 4)) 0 77 x * e 4 y + F (fun m => τ (m + 5)) 0 76 x * e 5 y + G τ (rest x y) 81 0 := by
  rw [← G_e, show (fun m => e m (x + y)) = (fun m => ((((((ep 0 m x * e 0 y) + ep 1 m x * e 1 y) + ep 2 m x * e 2 y) + ep 3 m x * e 3 y) + ep 4 m x * e 4 y) + ep 5 m x * e 5 y) + rest x y m) from funext fun m => by
    have : S x y 5 m = (((((ep 0 m x * e 0 y) + ep 1 m x * e 1 y) + ep 2 m x * e 2 y) + ep 3 m x * e 3 y) + ep 4 m x * e 4 y) + ep 5 m x * e 5 y := rfl
    unfold rest
    rw [this]
    grind]
  rw [G_add, G_add, G_add, G_add, G_add, G_add, G_mul, G_mul, G_mul, G_mul, G_mul, G_mul]
  rw [show G τ (fun m => ep 0 m x) 81 0 = F τ 0 81 x from G_ep τ x 0 81, show G τ (fun m => ep 1 m x) 81 0 = F (fun m => τ (m + 1)) 0 80 x from G_ep τ x 1 80, show G τ (fun m => ep 2 m x) 81 0 = F (fun m => τ (m + 2)) 0 79 x from G_ep τ x 2 79, show G τ (fun m => ep 3 m x) 81 0 = F (fun m => τ (m + 3)) 0 78 x from G_ep τ x 3 78, show G τ (fun m => ep 4 m x) 81 0 = F (fun m => τ (m + 4)) 0 77 x from G_ep τ x 4 77, show G τ (fun m => ep 5 m x) 81 0 = F (fun m => τ (m + 5)) 0 76 x from G_ep τ x 5 76]
  rw [e_zero]
  grind
theorem rest_bound (τ : Nat → Rat) (hτ : ∀ m, -1 ≤ τ m ∧ τ m ≤ 1) {x y : Rat} (hx : 0 ≤ x) (hy : 0 ≤ y) (h1 : x + y ≤ 1) : -(3 * e 6 y) ≤ G τ (rest x y) 81 0 ∧ G τ (rest x y) 81 0 ≤ 3 * e 6 y := by
  have h := G_bound τ hτ (rest x y) (fun m => ep 6 m (x + y) * e 6 y) (fun m => by
    obtain ⟨a, b⟩ := S_rest hx hy 5 m
    exact ⟨a, by unfold rest; rw [Rat.mul_comm]; exact b⟩) 81 0
  have hxy : 0 ≤ x + y := by grind
  rw [G_mul, show G (fun _ => 1) (fun m => ep 6 m (x + y)) 81 0 = F (fun _ => 1) 0 75 (x + y) from G_ep (fun _ => 1) (x + y) 6 75] at h
  have hF : F (fun _ => 1) 0 75 (x + y) ≤ 3 := by
    have k := F_one hxy h1 74
    have n := e_nonneg hxy 75
    rw [F_succ, e_zero]
    grind
  have := Rat.mul_le_mul_of_nonneg_right hF (e_nonneg hy 6)
  constructor <;> grind
/-- sums that end some places earlier -/
theorem F_early (τ : Nat → Rat) (hτ : ∀ m, -1 ≤ τ m ∧ τ m ≤ 1) {x : Rat} (hx : 0 ≤ x) (h1 : x ≤ 1) (n : Nat) (hn : 76 ≤ n) : ∀ k : Nat, -((k : Rat) / 2 ^ 75) ≤ F τ 0 (n + k) x - F τ 0 n x ∧ F τ 0 (n + k) x - F τ 0 n x ≤ (k : Rat) / 2 ^ 75
  | 0 => by
    have : ((0 : Nat) : Rat) = 0 := rfl
    rw [this, Nat.add_zero]
    constructor <;> grind
  | k + 1 => by
    obtain ⟨a, b⟩ := F_early τ hτ hx h1 n hn k
    obtain ⟨c, d⟩ := F_last τ hτ hx (n + k) 0
    have hc : ((k + 1 : Nat) : Rat) = (k : Rat) + 1 := by simp
    have small : e (0 + (n + k)) x ≤ 1 / 2 ^ 75 := by
      obtain ⟨j, hj⟩ : ∃ j, n + k = 76 + j := ⟨n + k - 76, by omega⟩
      rw [hj, show 0 + (76 + j) = (75 + j) + 1 by omega]
      have t := e_tiny hx h1 (75 + j)
      have p : (1 : Rat) ≤ 2 ^ j := by
        clear hj t
        induction j with
        | zero => decide
        | succ j ih => rw [Rat.pow_succ]; grind
      have n0 := e_nonneg hx (75 + j + 1)
      rw [pow_addQ] at t
      have u := Rat.mul_le_mul_of_nonneg_right p n0
      have v := Rat.mul_le_mul_of_nonneg_left u (show (0 : Rat) ≤ 2 ^ 75 by decide)
      grind
    rw [hc, ← Nat.add_assoc]
    constructor <;> grind
theorem sg_shift : (∀ m, sg (m + 1) = cg m) ∧ (∀ m, sg (m + 2) = - sg m) ∧ (∀ m, sg (m + 3) = - cg m) ∧ (∀ m, sg (m + 4) = sg m) ∧ (∀ m, sg (m + 5) = cg m) :=
  ⟨fun _ => rfl, sg_two, fun m => sg_two (m + 1), fun m => by rw [sg_two (m + 2), sg_two m]; grind, fun m => by rw [sg_two (m + 3), sg_two (m + 1)]; unfold cg; grind⟩
theorem mul_abs {a d t : Rat} (h1 : -d ≤ a) (h2 : a ≤ d) (t0 : 0 ≤ t) (t1 : t ≤ 1) (hd : 0 ≤ d) : -d ≤ a * t ∧ a * t ≤ d := by
  have u := Rat.mul_le_mul_of_nonneg_right h1 t0
  have v := Rat.mul_le_mul_of_nonneg_right h2 t0
  have w := Rat.mul_le_mul_of_nonneg_left t1 hd
  constructor <;> grind
theorem sn_add {x y : Rat} (hx : 0 ≤ x) (hy : 0 ≤ y) (h1 : x + y ≤ 1) : -(3 * e 6 y + 1 / 2 ^ 70) ≤ sn (x + y) - (sn x * ga y + cs x * si y) ∧ sn (x + y) - (sn x * ga y + cs x * si y) ≤ 3 * e 6 y + 1 / 2 ^ 70 := by
  have hg := step_gen sg x y
  obtain ⟨r1, r2⟩ := rest_bound sg sg_one hx hy h1
  obtain ⟨s1, s2, s3, s4, s5⟩ := sg_shift
  have hx1 : x ≤ 1 := by grind
  have hy1 : y ≤ 1 := by grind
  rw [F_ext s1, F_ext s2, F_ext s3, F_ext s4, F_ext s5, F_neg, F_neg] at hg
  have cg_one : ∀ m, -1 ≤ cg m ∧ cg m ≤ 1 := fun m => sg_one (m + 1)
  have t1 := F_early cg cg_one hx hx1 80 (by omega) 1
  have t2 := F_early sg sg_one hx hx1 79 (by omega) 2
  have t3 := F_early cg cg_one hx hx1 78 (by omega) 3
  have t4 := F_early sg sg_one hx hx1 77 (by omega) 4
  have t5 := F_early cg cg_one hx hx1 76 (by omega) 5
  have d1 := mul_abs t1.1 t1.2 (e_nonneg hy 1) (e_le_one hy hy1 1) (by grind)
  have d2 := mul_abs t2.1 t2.2 (e_nonneg hy 2) (e_le_one hy hy1 2) (by grind)
  have d3 := mul_abs t3.1 t3.2 (e_nonneg hy 3) (e_le_one hy hy1 3) (by grind)
  have d4 := mul_abs t4.1 t4.2 (e_nonneg hy 4) (e_le_one hy hy1 4) (by grind)
  have d5 := mul_abs t5.1 t5.2 (e_nonneg hy 5) (e_le_one hy hy1 5) (by grind)
  unfold sn cs ga si
  simp only [Nat.reduceAdd] at d1 d2 d3 d4 d5
  have c1 : ((1 : Nat) : Rat) = 1 := rfl
  have c2 : ((2 : Nat) : Rat) = 2 := rfl
  have c3 : ((3 : Nat) : Rat) = 3 := rfl
  have c4 : ((4 : Nat) : Rat) = 4 := rfl
  have c5 : ((5 : Nat) : Rat) = 5 := rfl
  rw [c1] at d1
  rw [c2] at d2
  rw [c3] at d3
  rw [c4] at d4
  rw [c5] at d5
  constructor <;> grind
theorem cs_add {x y : Rat} (hx : 0 ≤ x) (hy : 0 ≤ y) (h1 : x + y ≤ 1) : -(3 * e 6 y + 1 / 2 ^ 70) ≤ cs (x + y) - (cs x * ga y - sn x * si y) ∧ cs (x + y) - (cs x * ga y - sn x * si y) ≤ 3 * e 6 y + 1 / 2 ^ 70 := by
  have hg := step_gen cg x y
  have cg_one : ∀ m, -1 ≤ cg m ∧ cg m ≤ 1 := fun m => sg_one (m + 1)
  obtain ⟨r1, r2⟩ := rest_bound cg cg_one hx hy h1
  obtain ⟨s1, s2, s3, s4, s5⟩ := sg_shift
  have hx1 : x ≤ 1 := by grind
  have hy1 : y ≤ 1 := by grind
  have u1 : ∀ m, cg (m + 1) = - sg m := fun m => s2 m
  have u2 : ∀ m, cg (m + 2) = - cg m := fun m => s3 m
  have u3 : ∀ m, cg (m + 3) = sg m := fun m => s4 m
  have u4 : ∀ m, cg (m + 4) = cg m := fun m => s5 m
  have u5 : ∀ m, cg (m + 5) = - sg m := fun m => (sg_two (m + 4)).trans (by rw [s4])
  rw [F_ext u1, F_ext u2, F_ext u3, F_ext u4, F_ext u5, F_neg, F_neg, F_neg] at hg
  have t1 := F_early sg sg_one hx hx1 80 (by omega) 1
  have t2 := F_early cg cg_one hx hx1 79 (by omega) 2
  have t3 := F_early sg sg_one hx hx1 78 (by omega) 3
  have t4 := F_early cg cg_one hx hx1 77 (by omega) 4
  have t5 := F_early sg sg_one hx hx1 76 (by omega) 5
  have d1 := mul_abs t1.1 t1.2 (e_nonneg hy 1) (e_le_one hy hy1 1) (by grind)
  have d2 := mul_abs t2.1 t2.2 (e_nonneg hy 2) (e_le_one hy hy1 2) (by grind)
  have d3 := mul_abs t3.1 t3.2 (e_nonneg hy 3) (e_le_one hy hy1 3) (by grind)
  have d4 := mul_abs t4.1 t4.2 (e_nonneg hy 4) (e_le_one hy hy1 4) (by grind)
  have d5 := mul_abs t5.1 t5.2 (e_nonneg hy 5) (e_le_one hy hy1 5) (by grind)
  unfold sn cs ga si
  simp only [Nat.reduceAdd] at d1 d2 d3 d4 d5
  have c1 : ((1 : Nat) : Rat) = 1 := rfl
  have c2 : ((2 : Nat) : Rat) = 2 := rfl
  have c3 : ((3 : Nat) : Rat) = 3 := rfl
  have c4 : ((4 : Nat) : Rat) = 4 := rfl
  have c5 : ((5 : Nat) : Rat) = 5 := rfl
  rw [c1] at d1
  rw [c2] at d2
  rw [c3] at d3
  rw [c4] at d4
  rw [c5] at d5
  constructor <;> grind
end Go.Sine

/- A quick sine, and its error. Plain: no program is in sight here. -/
namespace Go.Sine
/-- the product of two numbers, divided by 2^62 -/
def hi (a b : Nat) : Nat := a / 2 ^ 31 * (b / 2 ^ 31) + a / 2 ^ 31 * (b % 2 ^ 31) / 2 ^ 31 + a % 2 ^ 31 * (b / 2 ^ 31) / 2 ^ 31
theorem hi_both (a b : Nat) : hi a b * 2 ^ 62 ≤ a * b ∧ a * b < (hi a b + 3) * 2 ^ 62 := by
  unfold hi
  have ha := Nat.div_add_mod a (2 ^ 31)
  have hb := Nat.div_add_mod b (2 ^ 31)
  have la := Nat.mod_lt a (show 2 ^ 31 > 0 by decide)
  have lb := Nat.mod_lt b (show 2 ^ 31 > 0 by decide)
  generalize a / 2 ^ 31 = a1 at *
  generalize b / 2 ^ 31 = b1 at *
  generalize a % 2 ^ 31 = a0 at *
  generalize b % 2 ^ 31 = b0 at *
  subst ha hb
  have e : (2 ^ 31 * a1 + a0) * (2 ^ 31 * b1 + b0) = 2 ^ 62 * (a1 * b1) + 2 ^ 31 * (a1 * b0) + 2 ^ 31 * (a0 * b1) + a0 * b0 := by grind
  have l0 : a0 * b0 < 2 ^ 31 * 2 ^ 31 := Nat.mul_lt_mul'' la lb
  rw [e]
  generalize a1 * b1 = p at *
  generalize a1 * b0 = q at *
  generalize a0 * b1 = s at *
  generalize a0 * b0 = t at *
  omega
theorem hi_zero (b : Nat) : hi 0 b = 0 := by unfold hi; simp
/-- the sum of a series with alternating signs -/
def qk : Nat → Nat → Nat → Nat → Int
  | 0, _, _, _ => 0
  | n + 1, t, sq, d => t - qk n (hi t sq / (d * (d + 1))) sq (d + 2)
/-- the product of so many pairs of numbers that follow one another -/
def prod : Nat → Nat → Nat
  | _, 0 => 1
  | d, n + 1 => d * (d + 1) * prod (d + 2) n
theorem F_two {x : Rat} (hx : 0 ≤ x) (h1 : x ≤ 1) : ∀ N a, (-(2 * e a x) ≤ F cg a N x ∧ F cg a N x ≤ 2 * e a x) ∧ (-(2 * e a x) ≤ F cg a (N + 1) x ∧ F cg a (N + 1) x ≤ 2 * e a x)
  | 0, a => by
    have := e_nonneg hx a
    rw [F_zero, F_cg1]
    refine ⟨⟨?_, ?_⟩, ?_, ?_⟩ <;> grind
  | N + 1, a => by
    refine ⟨(F_two hx h1 N a).2, ?_⟩
    have k := (F_two hx h1 N (a + 2)).1
    have n0 := e_nonneg hx a
    have := e_half hx h1 a
    rw [F_cg]
    constructor <;> grind
theorem cast_le {a b : Nat} (h : a ≤ b) : (a : Rat) ≤ (b : Rat) := Rat.natCast_le_natCast.mpr h
theorem cast_lt {a b : Nat} (h : a < b) : (a : Rat) < (b : Rat) := Rat.natCast_lt_natCast.mpr h
/-- one term: its error -/
theorem term_err {x : Rat} (hx : 0 ≤ x) (h1 : x ≤ 1) {t sq a : Nat} (ht : -16 ≤ (t : Rat) - 2 ^ 62 * e a x ∧ (t : Rat) - 2 ^ 62 * e a x ≤ 16) (hs : -6 ≤ (sq : Rat) - 2 ^ 62 * (x * x) ∧ (sq : Rat) - 2 ^ 62 * (x * x) ≤ 6) :
    -16 ≤ ((hi t sq / ((a + 1) * (a + 1 + 1)) : Nat) : Rat) - 2 ^ 62 * e (a + 2) x ∧ ((hi t sq / ((a + 1) * (a + 1 + 1)) : Nat) : Rat) - 2 ^ 62 * e (a + 2) x ≤ 16 := by
  obtain ⟨g1, g2⟩ := hi_both t sq
  have D2 : 2 ≤ (a + 1) * (a + 1 + 1) := by
    have : 1 * 2 ≤ (a + 1) * (a + 1 + 1) := Nat.mul_le_mul (by omega) (by omega)
    omega
  have k1 := Nat.div_mul_le_self (hi t sq) ((a + 1) * (a + 1 + 1))
  have k2 : hi t sq < (hi t sq / ((a + 1) * (a + 1 + 1)) + 1) * ((a + 1) * (a + 1 + 1)) := by
    have := Nat.lt_mul_div_succ (hi t sq) (show 0 < (a + 1) * (a + 1 + 1) by omega)
    rw [Nat.mul_comm]; exact this
  have q1 := e_succ (a + 1) x
  have q2 := e_succ a x
  have hD : (((a + 1) * (a + 1 + 1) : Nat) : Rat) = ((a : Rat) + 1) * ((a : Rat) + 2) := by
    have : (((a + 1) * (a + 1 + 1) : Nat) : Rat) = ((a + 1 : Nat) : Rat) * ((a + 1 + 1 : Nat) : Rat) := by simp
    rw [this, show ((a + 1 : Nat) : Rat) = (a : Rat) + 1 by simp, show ((a + 1 + 1 : Nat) : Rat) = (a : Rat) + 1 + 1 by simp]
    grind
  have eD : (((a + 1) * (a + 1 + 1) : Nat) : Rat) * e (a + 2) x = x * x * e a x := by
    rw [hD]
    have c : ((a + 1 : Nat) : Rat) = (a : Rat) + 1 := by simp
    rw [c] at q1
    grind
  generalize (a + 1) * (a + 1 + 1) = D at *
  generalize hi t sq = H at *
  generalize H / D = r at *
  have k1 := cast_le k1
  have k2 := cast_lt k2
  have g1 := cast_le g1
  have g2 := cast_lt g2
  have D2 := cast_le D2
  simp only [Rat.natCast_mul, Rat.natCast_add] at k1 k2 g1 g2
  have z1 : ((1 : Nat) : Rat) = 1 := rfl
  have z2 : ((2 : Nat) : Rat) = 2 := rfl
  have z3 : ((3 : Nat) : Rat) = 3 := rfl
  have z62 : ((2 ^ 62 : Nat) : Rat) = 2 ^ 62 := by rw [Rat.natCast_pow, z2]
  rw [z1] at k2
  rw [z62] at g1 g2
  rw [z3] at g2
  rw [z2] at D2
  have n0 := e_nonneg hx a
  have n1 := e_le_one hx h1 a
  -- the error of the product
  have pe : (t : Rat) * sq = 2 ^ 62 * (2 ^ 62 * (x * x * e a x)) + 2 ^ 62 * (e a x * (sq - 2 ^ 62 * (x * x))) + (t - 2 ^ 62 * e a x) * sq := by grind
  have sq0 : (0 : Rat) ≤ sq := Rat.natCast_nonneg
  have xx : x * x ≤ 1 := by have := mul_mono h1 h1 hx (by decide : (0 : Rat) ≤ 1); grind
  have m1 := mul_abs hs.1 hs.2 n0 n1 (by decide : (0 : Rat) ≤ 6)
  have m2 := Rat.mul_le_mul_of_nonneg_right ht.1 sq0
  have m3 := Rat.mul_le_mul_of_nonneg_right ht.2 sq0
  have sqle : (sq : Rat) ≤ 2 ^ 62 + 6 := by grind
  have lo : 2 ^ 62 * (x * x * e a x) - 26 ≤ (H : Rat) := by
    have : (2 : Rat) ^ 62 * (2 ^ 62 * (x * x * e a x) - 26) ≤ 2 ^ 62 * H := by grind
    exact le_cancel (by decide) this
  have up : (H : Rat) ≤ 2 ^ 62 * (x * x * e a x) + 23 := by
    have : (2 : Rat) ^ 62 * H ≤ 2 ^ 62 * (2 ^ 62 * (x * x * e a x) + 23) := by grind
    exact le_cancel (by decide) this
  have Dp : (0 : Rat) < D := by grind
  constructor
  · have : (D : Rat) * (2 ^ 62 * e (a + 2) x - 16) ≤ D * r := by grind
    have := le_cancel Dp this
    grind
  · have : (D : Rat) * r ≤ D * (2 ^ 62 * e (a + 2) x + 16) := by grind
    have := le_cancel Dp this
    grind
theorem hi_le (t sq : Nat) (h : sq ≤ 2 ^ 62) : hi t sq ≤ t := by
  obtain ⟨g, _⟩ := hi_both t sq
  have : t * sq ≤ t * 2 ^ 62 := Nat.mul_le_mul_left t h
  exact Nat.le_of_mul_le_mul_right (Nat.le_trans g this) (by decide)
theorem qk_err {x : Rat} (hx : 0 ≤ x) (h1 : x ≤ 1) {sq : Nat} (hs : -6 ≤ (sq : Rat) - 2 ^ 62 * (x * x) ∧ (sq : Rat) - 2 ^ 62 * (x * x) ≤ 6) (hq : sq ≤ 2 ^ 62) : ∀ (n a N t : Nat), -16 ≤ (t : Rat) - 2 ^ 62 * e a x ∧ (t : Rat) - 2 ^ 62 * e a x ≤ 16 → t < prod (a + 1) n →
    -(16 * (n : Rat) + 32) ≤ (qk n t sq (a + 1) : Rat) - 2 ^ 62 * F cg a (2 * n + N) x ∧ (qk n t sq (a + 1) : Rat) - 2 ^ 62 * F cg a (2 * n + N) x ≤ 16 * (n : Rat) + 32
  | 0, a, N, t => by
    intro ht hp
    have ht0 : t = 0 := by unfold prod at hp; omega
    subst ht0
    have z0 : ((0 : Nat) : Rat) = 0 := rfl
    have zi : ((0 : Int) : Rat) = 0 := rfl
    have h := (F_two hx h1 (2 * 0 + N) a).1
    unfold qk
    rw [z0] at ht
    rw [z0, zi]
    constructor <;> grind
  | n + 1, a, N, t => by
    intro ht hp
    have hp' : t < (a + 1) * (a + 1 + 1) * prod (a + 1 + 2) n := hp
    have ht' := term_err hx h1 ht hs
    have hlt : hi t sq / ((a + 1) * (a + 1 + 1)) < prod (a + 2 + 1) n := by
      apply Nat.div_lt_of_lt_mul
      exact Nat.lt_of_le_of_lt (hi_le t sq hq) hp'
    have ih := qk_err hx h1 hs hq n (a + 2) N _ ht' hlt
    have c : ((n + 1 : Nat) : Rat) = (n : Rat) + 1 := by simp
    have eq : qk (n + 1) t sq (a + 1) = t - qk n (hi t sq / ((a + 1) * (a + 1 + 1))) sq (a + 2 + 1) := rfl
    have ei : ((t - qk n (hi t sq / ((a + 1) * (a + 1 + 1))) sq (a + 2 + 1) : Int) : Rat) = (t : Rat) - (qk n (hi t sq / ((a + 1) * (a + 1 + 1))) sq (a + 2 + 1) : Rat) := by rw [Rat.intCast_sub]; rfl
    rw [eq, ei, c, show 2 * (n + 1) + N = 2 * n + N + 2 by omega, F_cg]
    constructor <;> grind
/-- a unit of angle, times 2^84 -/
def U : Nat := 2620088056 * 2 ^ 31 + 658911831
/-- the angle of some units -/
def an (r : Nat) : Rat := (r * U : Nat) / 2 ^ 84
theorem an_nonneg (r : Nat) : 0 ≤ an r := by
  unfold an
  have h : (0 : Rat) ≤ ((r * U : Nat) : Rat) := Rat.natCast_nonneg
  grind
theorem an_le {r : Nat} (h : r ≤ 2700000) : 1000 * an r ≤ 786 := by
  unfold an
  have : r * U ≤ 2700000 * U := Nat.mul_le_mul_right _ h
  have k : 1000 * (2700000 * U) ≤ 786 * 2 ^ 84 := by decide
  have := cast_le (Nat.le_trans (Nat.mul_le_mul_left 1000 this) k)
  have z2 : ((2 : Nat) : Rat) = 2 := rfl
  rw [Rat.natCast_mul, Rat.natCast_mul 786, Rat.natCast_pow, z2] at this
  have z3 : ((1000 : Nat) : Rat) = 1000 := rfl
  have z4 : ((786 : Nat) : Rat) = 786 := rfl
  rw [z3, z4] at this
  grind
/-- the angle, times 2^62 -/
def ax (r : Nat) : Nat := r * U / 2 ^ 22
theorem ax_err (r : Nat) : (ax r : Rat) ≤ 2 ^ 62 * an r ∧ 2 ^ 62 * an r < ax r + 1 := by
  unfold ax an
  have k1 := cast_le (Nat.div_mul_le_self (r * U) (2 ^ 22))
  have k2 := cast_lt (Nat.lt_mul_div_succ (r * U) (show 0 < 2 ^ 22 by decide))
  have z2 : ((2 : Nat) : Rat) = 2 := rfl
  have z1 : ((1 : Nat) : Rat) = 1 := rfl
  rw [Rat.natCast_mul, Rat.natCast_pow, z2] at k1
  rw [Rat.natCast_mul (2 ^ 22), Rat.natCast_pow, z2, Rat.natCast_add, z1] at k2
  generalize ((r * U / 2 ^ 22 : Nat) : Rat) = q at *
  generalize ((r * U : Nat) : Rat) = p at *
  constructor <;> grind
def asq (r : Nat) : Nat := hi (ax r) (ax r)
theorem asq_err {r : Nat} (h : r ≤ 2700000) : (-6 ≤ (asq r : Rat) - 2 ^ 62 * (an r * an r) ∧ (asq r : Rat) - 2 ^ 62 * (an r * an r) ≤ 6) ∧ asq r ≤ 2 ^ 62 := by
  obtain ⟨a1, a2⟩ := ax_err r
  have n0 := an_nonneg r
  have n1 : an r ≤ 1 := by have := an_le h; grind
  obtain ⟨g1, g2⟩ := hi_both (ax r) (ax r)
  have g1 := cast_le g1
  have g2 := cast_lt g2
  have z1 : ((3 : Nat) : Rat) = 3 := rfl
  have z2 : ((2 : Nat) : Rat) = 2 := rfl
  rw [Rat.natCast_mul, Rat.natCast_mul, Rat.natCast_pow, z2] at g1
  rw [Rat.natCast_mul, Rat.natCast_mul, Rat.natCast_pow, z2, Rat.natCast_add, z1] at g2
  have p0 : (0 : Rat) ≤ ax r := Rat.natCast_nonneg
  have u1 : (ax r : Rat) * ax r ≤ 2 ^ 62 * (2 ^ 62 * (an r * an r)) := by
    have := mul_mono a1 a1 p0 (by grind : (0 : Rat) ≤ 2 ^ 62 * an r)
    grind
  have u2 : 2 ^ 62 * (2 ^ 62 * (an r * an r)) ≤ (ax r : Rat) * ax r + 2 ^ 62 * 3 := by
    have d0 : 0 ≤ 2 ^ 62 * an r - ax r := by grind
    have d1 : 2 ^ 62 * an r - ax r ≤ 1 := by grind
    have s0 : (0 : Rat) ≤ 2 ^ 62 * an r + ax r := by grind
    have := Rat.mul_le_mul_of_nonneg_right d1 s0
    grind
  have lo : 2 ^ 62 * (an r * an r) - 6 ≤ (asq r : Rat) := by
    have : (2 : Rat) ^ 62 * (2 ^ 62 * (an r * an r) - 6) ≤ 2 ^ 62 * asq r := by unfold asq; grind
    exact le_cancel (by decide) this
  have up : (asq r : Rat) ≤ 2 ^ 62 * (an r * an r) := by
    have : (2 : Rat) ^ 62 * asq r ≤ 2 ^ 62 * (2 ^ 62 * (an r * an r)) := by unfold asq; grind
    exact le_cancel (by decide) this
  refine ⟨⟨by grind, by grind⟩, ?_⟩
  have xx : an r * an r ≤ 1 := by have := mul_mono n1 n1 n0 (by decide : (0 : Rat) ≤ 1); grind
  have : (asq r : Rat) ≤ ((2 ^ 62 : Nat) : Rat) := by rw [Rat.natCast_pow, z2]; grind
  exact Rat.natCast_le_natCast.mp this
/-- the quick sine and cosine, times 2^62 -/
def qs (r : Nat) : Int := qk 11 (ax r) (asq r) 2
def qc (r : Nat) : Int := qk 11 (2 ^ 62) (asq r) 1
theorem e_one (x : Rat) : e 1 x = x := by
  have := e_succ 0 x
  rw [e_zero] at this
  have z : ((0 : Nat) : Rat) = 0 := rfl
  rw [z] at this
  grind
theorem qs_err {r : Nat} (h : r ≤ 2700000) : -208 ≤ (qs r : Rat) - 2 ^ 62 * sn (an r) ∧ (qs r : Rat) - 2 ^ 62 * sn (an r) ≤ 208 := by
  have n0 := an_nonneg r
  have n1 : an r ≤ 1 := by have := an_le h; grind
  obtain ⟨a1, a2⟩ := ax_err r
  obtain ⟨hs, hq⟩ := asq_err h
  have hx : ax r ≤ 2 ^ 62 := by
    have : (ax r : Rat) ≤ ((2 ^ 62 : Nat) : Rat) := by rw [Rat.natCast_pow, show ((2 : Nat) : Rat) = 2 from rfl]; grind
    exact Rat.natCast_le_natCast.mp this
  have := qk_err n0 n1 hs hq 11 1 58 (ax r) (by rw [e_one]; constructor <;> grind) (Nat.lt_of_le_of_lt hx (by decide))
  have z : ((11 : Nat) : Rat) = 11 := rfl
  rw [z] at this
  rw [sn_eq]
  unfold qs
  constructor <;> grind
theorem qc_err {r : Nat} (h : r ≤ 2700000) : -208 ≤ (qc r : Rat) - 2 ^ 62 * cs (an r) ∧ (qc r : Rat) - 2 ^ 62 * cs (an r) ≤ 208 := by
  have n0 := an_nonneg r
  have n1 : an r ≤ 1 := by have := an_le h; grind
  obtain ⟨hs, hq⟩ := asq_err h
  have := qk_err n0 n1 hs hq 11 0 59 (2 ^ 62) (by rw [e_zero, Rat.natCast_pow, show ((2 : Nat) : Rat) = 2 from rfl]; constructor <;> grind) (by decide)
  have z : ((11 : Nat) : Rat) = 11 := rfl
  rw [z] at this
  unfold qc cs
  constructor <;> grind
end Go.Sine

/- Many sines at once: packed numbers, and what their check says. Plain: no program is in sight here. -/
namespace Go.Sine
/-- numbers side by side, 128 bits each -/
def pack : List Nat → Nat
  | [] => 0
  | v :: l => v + 2 ^ 128 * pack l
/-- numbers from n - 1 down to 0, and from n down to 1 -/
def idx : Nat → List Nat
  | 0 => []
  | n + 1 => n :: idx n
def idx1 : Nat → List Nat
  | 0 => []
  | n + 1 => (n + 1) :: idx1 n
theorem mem_idx {j : Nat} : ∀ {n : Nat}, j < n → j ∈ idx n
  | 0, h => by omega
  | n + 1, h => by
    unfold idx
    rcases Nat.lt_or_ge j n with k | k
    · exact List.mem_cons_of_mem _ (mem_idx k)
    · rw [show j = n by omega]; exact List.mem_cons_self
theorem mem_idx1 {j : Nat} : ∀ {n : Nat}, 0 < j → j ≤ n → j ∈ idx1 n
  | 0, h, h' => by omega
  | n + 1, h, h' => by
    unfold idx1
    rcases Nat.lt_or_ge j (n + 1) with k | k
    · exact List.mem_cons_of_mem _ (mem_idx1 h (by omega))
    · rw [show j = n + 1 by omega]; exact List.mem_cons_self
theorem pack_add (f g : Nat → Nat) : ∀ l : List Nat, pack (l.map f) + pack (l.map g) = pack (l.map fun j => f j + g j)
  | [] => rfl
  | j :: l => by
    have h := pack_add f g l
    simp only [List.map_cons, pack]
    rw [← h]
    generalize pack (l.map f) = a
    generalize pack (l.map g) = b
    omega
theorem pack_mul (a : Nat) (f : Nat → Nat) : ∀ l : List Nat, a * pack (l.map f) = pack (l.map fun j => a * f j)
  | [] => rfl
  | j :: l => by
    have h := pack_mul a f l
    simp only [List.map_cons, pack]
    rw [← h]
    grind
theorem pack_sub (f g : Nat → Nat) (l : List Nat) (h : ∀ j ∈ l, g j ≤ f j) : pack (l.map f) - pack (l.map g) = pack (l.map fun j => f j - g j) := by
  have k := pack_add (fun j => f j - g j) g l
  have : l.map (fun j => f j - g j + g j) = l.map f := by
    apply List.map_congr_left
    intro j hj
    have := h j hj
    omega
  rw [this] at k
  omega
theorem and_split {a c x y : Nat} (ha : a < 2 ^ 128) (hc : c < 2 ^ 128) : (a + 2 ^ 128 * x) &&& (c + 2 ^ 128 * y) = (a &&& c) + 2 ^ 128 * (x &&& y) := by
  have hac : a &&& c < 2 ^ 128 := Nat.and_lt_two_pow _ hc
  apply Nat.eq_of_testBit_eq
  intro i
  rw [Nat.testBit_and, Nat.add_comm a, Nat.add_comm c, Nat.add_comm (a &&& c), Nat.testBit_two_pow_mul_add _ ha, Nat.testBit_two_pow_mul_add _ hc, Nat.testBit_two_pow_mul_add _ hac]
  split <;> simp
theorem pack_and (f g : Nat → Nat) : ∀ l : List Nat, (∀ j ∈ l, f j < 2 ^ 128) → (∀ j ∈ l, g j < 2 ^ 128) → pack (l.map f) &&& pack (l.map g) = pack (l.map fun j => f j &&& g j)
  | [], _, _ => by show 0 &&& 0 = 0; decide
  | j :: l, hf, hg => by
    have h := pack_and f g l (fun i hi => hf i (List.mem_cons_of_mem _ hi)) (fun i hi => hg i (List.mem_cons_of_mem _ hi))
    simp only [List.map_cons, pack]
    rw [and_split (hf j List.mem_cons_self) (hg j List.mem_cons_self), h]
theorem pack_inj (f g : Nat → Nat) : ∀ l : List Nat, (∀ j ∈ l, f j < 2 ^ 128) → (∀ j ∈ l, g j < 2 ^ 128) → pack (l.map f) = pack (l.map g) → ∀ j ∈ l, f j = g j
  | [], _, _, _ => fun j hj => by cases hj
  | j :: l, hf, hg, h => by
    simp only [List.map_cons, pack] at h
    have f0 := hf j List.mem_cons_self
    have g0 := hg j List.mem_cons_self
    have h1 : f j = g j ∧ pack (l.map f) = pack (l.map g) := by
      generalize pack (l.map f) = a at *
      generalize pack (l.map g) = b at *
      omega
    intro i hi
    rcases List.mem_cons.mp hi with rfl | hi
    · exact h1.1
    · exact pack_inj f g l (fun i hi => hf i (List.mem_cons_of_mem _ hi)) (fun i hi => hg i (List.mem_cons_of_mem _ hi)) h1.2 i hi
def rep (l : List Nat) (k : Nat) : Nat := pack (l.map fun _ => k)
/-- the check of the numbers side by side -/
def good (one mask top X : Nat) : Bool := Nat.beq (Nat.land (Nat.add (Nat.land (Nat.add X one) mask) mask) top) top
def kOne : Nat := 2 ^ 70
def kMask : Nat := 2 ^ 92 - 2 ^ 71
def kTop : Nat := 2 ^ 92
theorem mask_low {u : Nat} (h : u % 2 ^ 92 < 2 ^ 71) : u &&& kMask = 0 := by
  apply Nat.eq_of_testBit_eq
  intro i
  rw [Nat.testBit_and, Nat.zero_testBit]
  by_cases hi : i < 92
  · by_cases h7 : i < 71
    · have : kMask.testBit i = false := by
        have e : kMask = 2 ^ 71 * (2 ^ 21 - 1) + 0 := by decide
        rw [e, Nat.testBit_two_pow_mul_add _ (by decide), if_pos h7]
        simp
      rw [this, Bool.and_false]
    · have : u.testBit i = false := by
        have e : u.testBit i = (u % 2 ^ 92).testBit i := by rw [Nat.testBit_mod_two_pow]; simp [hi]
        rw [e]
        exact Nat.testBit_lt_two_pow (Nat.lt_of_lt_of_le h (Nat.pow_le_pow_right (by decide) (by omega)))
      rw [this, Bool.false_and]
  · have : kMask.testBit i = false := Nat.testBit_lt_two_pow (Nat.lt_of_lt_of_le (by decide : kMask < 2 ^ 92) (Nat.pow_le_pow_right (by decide) (by omega)))
    rw [this, Bool.and_false]
theorem good_all (f : Nat → Nat) (l : List Nat) (hf : ∀ j ∈ l, f j < 2 ^ 127) (h : good (rep l kOne) (rep l kMask) (rep l kTop) (pack (l.map f)) = true) : ∀ j ∈ l, 2 ^ 71 ≤ (f j + 2 ^ 70) % 2 ^ 92 := by
  unfold good at h
  have h := Nat.eq_of_beq_eq_true h
  have h : (((pack (l.map f) + rep l kOne) &&& rep l kMask) + rep l kMask) &&& rep l kTop = rep l kTop := h
  have b1 : kOne < 2 ^ 127 := by decide
  have b2 : kMask < 2 ^ 127 := by decide
  have b3 : kTop < 2 ^ 128 := by decide
  have b4 : kMask < 2 ^ 128 := by decide
  unfold rep at h
  rw [pack_add, pack_and _ _ l (fun j hj => by have := hf j hj; omega) (fun j hj => b4), pack_add, pack_and _ _ l (fun j hj => by
    have : (f j + kOne) &&& kMask < 2 ^ 127 := Nat.and_lt_two_pow _ b2
    omega) (fun j hj => b3)] at h
  have k := pack_inj _ _ l (fun j hj => Nat.and_lt_two_pow _ b3) (fun j hj => b3) h
  intro j hj
  have kj := k j hj
  rcases Nat.lt_or_ge ((f j + 2 ^ 70) % 2 ^ 92) (2 ^ 71) with q | q
  · have z : (f j + kOne) &&& kMask = 0 := mask_low q
    rw [z] at kj
    exact absurd kj (by decide)
  · exact q
/-- the parts of a small step, times 2^60 -/
def gaN (j : Nat) : Nat := 2 ^ 60 - (j * U) ^ 2 / 2 ^ 109 + (j * U) ^ 4 / (24 * (2 ^ 138 * 2 ^ 138))
def siN (j : Nat) : Nat := j * U / 2 ^ 24 - (j * U) ^ 3 / (6 * 2 ^ 192) + (j * U) ^ 5 / (120 * (2 ^ 180 * 2 ^ 180))
/-- the quick sine and cosine at a block's start -/
def bs (i : Nat) : Nat := (qs (1000 * i)).toNat
def bc (i : Nat) : Nat := (qc (1000 * i)).toNat
def okS (l : List Nat) (i : Nat) : Bool := good (rep l kOne) (rep l kMask) (rep l kTop) (Nat.add (Nat.mul (bs i) (pack (l.map gaN))) (Nat.mul (bc i) (pack (l.map siN))))
def okC (l : List Nat) (i : Nat) : Bool := good (rep l kOne) (rep l kMask) (rep l kTop) (Nat.sub (Nat.mul (bc i) (pack (l.map gaN))) (Nat.mul (bs i) (pack (l.map siN))))
def run (l : List Nat) (start : Nat) : Nat → Bool
  | 0 => true
  | n + 1 => okS l (start + n) && (okC l (start + n) && run l start n)
end Go.Sine

/- No sine or cosine of some units but the exact ones is near a multiple of 2^-30: what is checked. Plain: no program is in sight here. -/
namespace Go.Sine
/-- 2^62 times a number is not near a multiple of 2^32 -/
def Far (T : Rat) : Prop := ∀ m : Int, 2 ^ 62 * T ≤ 2 ^ 32 * m - 700 ∨ 2 ^ 32 * m + 700 ≤ 2 ^ 62 * T
theorem c2 : ((2 : Nat) : Rat) = 2 := rfl
theorem an_add (a b : Nat) : an (a + b) = an a + an b := by
  unfold an
  rw [Nat.add_mul, Rat.natCast_add]
  grind
theorem e_two (y : Rat) : 2 * e 2 y = y * y := by
  have h := e_succ 1 y
  rw [e_one, show ((1 : Nat) : Rat) = 1 from rfl] at h
  grind
theorem e_three (y : Rat) : 6 * e 3 y = y * y * y := by
  have h := e_succ 2 y
  have k := e_two y
  rw [show ((2 : Nat) : Rat) = 2 from rfl] at h
  grind
theorem e_four (y : Rat) : 24 * e 4 y = y * y * y * y := by
  have h := e_succ 3 y
  have k := e_three y
  rw [show ((3 : Nat) : Rat) = 3 from rfl] at h
  grind
theorem e_five (y : Rat) : 120 * e 5 y = y * y * y * y * y := by
  have h := e_succ 4 y
  have k := e_four y
  rw [show ((4 : Nat) : Rat) = 4 from rfl] at h
  grind
theorem e_six (y : Rat) : 720 * e 6 y = y * y * y * y * y * y := by
  have h := e_succ 5 y
  have k := e_five y
  rw [show ((5 : Nat) : Rat) = 5 from rfl] at h
  grind
theorem an_small {j : Nat} (h : j ≤ 1000) : 1000 * an j ≤ 1 := by
  unfold an
  have : j * U ≤ 1000 * U := Nat.mul_le_mul_right _ h
  have k : 1000 * (1000 * U) ≤ 2 ^ 84 := by decide
  have := cast_le (Nat.le_trans (Nat.mul_le_mul_left 1000 this) k)
  rw [Rat.natCast_mul, Rat.natCast_pow, c2, show ((1000 : Nat) : Rat) = 1000 from rfl] at this
  grind
/-- a quotient of numbers, rounded down -/
theorem div_err (a b : Nat) (hb : 0 < b) (q : Rat) (h : (b : Rat) * q = a) : ((a / b : Nat) : Rat) ≤ q ∧ q < ((a / b : Nat) : Rat) + 1 := by
  have k1 := cast_le (Nat.div_mul_le_self a b)
  have k2 := cast_lt (Nat.lt_mul_div_succ a hb)
  rw [Rat.natCast_mul, ← h] at k1
  rw [Rat.natCast_mul, Rat.natCast_add, ← h] at k2
  have hb' : (0 : Rat) < b := by have := cast_lt hb; exact this
  constructor
  · exact le_cancel hb' (by grind)
  · have := Rat.lt_of_mul_lt_mul_left k2 (by grind)
    exact this
theorem yy (j : Nat) : ((j * U : Nat) : Rat) = 2 ^ 84 * an j := by unfold an; grind
theorem gaN_err {j : Nat} (h : j ≤ 1000) : -2 ≤ (gaN j : Rat) - 2 ^ 60 * ga (an j) ∧ (gaN j : Rat) - 2 ^ 60 * ga (an j) ≤ 2 := by
  have y0 := an_nonneg j
  have y1 := an_small h
  have k2 := e_two (an j)
  have k4 := e_four (an j)
  have hy := yy j
  have d1 := div_err ((j * U) ^ 2) (2 ^ 109) (by decide) (2 ^ 60 * e 2 (an j)) (by
    rw [Rat.natCast_pow, Rat.natCast_pow, c2, hy]
    grind)
  have d2 := div_err ((j * U) ^ 4) (24 * (2 ^ 138 * 2 ^ 138)) (Nat.mul_pos (by decide) (Nat.mul_pos (by decide) (by decide))) (2 ^ 60 * e 4 (an j)) (by
    rw [Rat.natCast_mul, Rat.natCast_mul, Rat.natCast_pow, Rat.natCast_pow, c2, hy, show ((24 : Nat) : Rat) = 24 from rfl]
    grind)
  have yle : (j * U) ^ 2 / 2 ^ 109 ≤ 2 ^ 60 := by
    have n := e_le_one y0 (by grind) 2
    have : (((j * U) ^ 2 / 2 ^ 109 : Nat) : Rat) ≤ ((2 ^ 60 : Nat) : Rat) := by
      rw [Rat.natCast_pow 2, c2]; grind
    exact Rat.natCast_le_natCast.mp this
  have cast : (gaN j : Rat) = 2 ^ 60 - (((j * U) ^ 2 / 2 ^ 109 : Nat) : Rat) + (((j * U) ^ 4 / (24 * (2 ^ 138 * 2 ^ 138)) : Nat) : Rat) := by
    unfold gaN
    obtain ⟨z, hz⟩ := Nat.exists_eq_add_of_le yle
    rw [Rat.natCast_add, hz, Nat.add_sub_cancel_left]
    have := congrArg (fun n : Nat => (n : Rat)) hz
    simp only [Rat.natCast_add, Rat.natCast_pow] at this
    rw [c2] at this
    grind
  rw [cast]
  unfold ga
  generalize (((j * U) ^ 2 / 2 ^ 109 : Nat) : Rat) = p at *
  generalize (((j * U) ^ 4 / (24 * (2 ^ 138 * 2 ^ 138)) : Nat) : Rat) = q at *
  constructor <;> grind
theorem siN_err {j : Nat} (h : j ≤ 1000) : -2 ≤ (siN j : Rat) - 2 ^ 60 * si (an j) ∧ (siN j : Rat) - 2 ^ 60 * si (an j) ≤ 2 := by
  have y0 := an_nonneg j
  have y1 := an_small h
  have k1 := e_one (an j)
  have k3 := e_three (an j)
  have k5 := e_five (an j)
  have hy := yy j
  have d1 := div_err (j * U) (2 ^ 24) (by decide) (2 ^ 60 * e 1 (an j)) (by
    rw [Rat.natCast_pow, c2, hy, k1]
    grind)
  have d2 := div_err ((j * U) ^ 3) (6 * 2 ^ 192) (by decide) (2 ^ 60 * e 3 (an j)) (by
    rw [Rat.natCast_mul, Rat.natCast_pow, Rat.natCast_pow, c2, hy, show ((6 : Nat) : Rat) = 6 from rfl]
    grind)
  have d3 := div_err ((j * U) ^ 5) (120 * (2 ^ 180 * 2 ^ 180)) (Nat.mul_pos (by decide) (Nat.mul_pos (by decide) (by decide))) (2 ^ 60 * e 5 (an j)) (by
    rw [Rat.natCast_mul, Rat.natCast_mul, Rat.natCast_pow, Rat.natCast_pow, c2, hy, show ((120 : Nat) : Rat) = 120 from rfl]
    grind)
  have yle : (j * U) ^ 3 / (6 * 2 ^ 192) ≤ j * U / 2 ^ 24 := by
    rw [Nat.le_div_iff_mul_le (by decide)]
    refine Nat.le_trans (Nat.mul_le_mul_right _ (Nat.div_le_div_left (show 2 ^ 168 * 2 ^ 24 ≤ 6 * 2 ^ 192 by decide) (by decide))) ?_
    have l : (j * U) ^ 3 ≤ (j * U) * 2 ^ 168 := by
      have : j * U ≤ 2 ^ 84 := by
        have : ((j * U : Nat) : Rat) ≤ ((2 ^ 84 : Nat) : Rat) := by rw [Rat.natCast_pow 2, c2, hy]; grind
        exact Rat.natCast_le_natCast.mp this
      have sq : (j * U) * (j * U) ≤ 2 ^ 84 * 2 ^ 84 := Nat.mul_le_mul this this
      rw [show (j * U) ^ 3 = (j * U) * ((j * U) * (j * U)) by grind]
      exact Nat.mul_le_mul_left _ sq
    have := Nat.div_mul_le_self ((j * U) ^ 3) (2 ^ 168 * 2 ^ 24)
    have l2 : (j * U) ^ 3 / (2 ^ 168 * 2 ^ 24) * 2 ^ 24 * 2 ^ 168 ≤ j * U * 2 ^ 168 := by
      refine Nat.le_trans ?_ l
      rw [Nat.mul_assoc, Nat.mul_comm (2 ^ 24)]
      exact this
    exact Nat.le_of_mul_le_mul_right l2 (by decide)
  have cast : (siN j : Rat) = ((j * U / 2 ^ 24 : Nat) : Rat) - (((j * U) ^ 3 / (6 * 2 ^ 192) : Nat) : Rat) + (((j * U) ^ 5 / (120 * (2 ^ 180 * 2 ^ 180)) : Nat) : Rat) := by
    unfold siN
    obtain ⟨z, hz⟩ := Nat.exists_eq_add_of_le yle
    rw [Rat.natCast_add, hz, Nat.add_sub_cancel_left]
    have := congrArg (fun n : Nat => (n : Rat)) hz
    simp only [Rat.natCast_add] at this
    grind
  rw [cast]
  unfold si
  generalize ((j * U / 2 ^ 24 : Nat) : Rat) = o at *
  generalize (((j * U) ^ 3 / (6 * 2 ^ 192) : Nat) : Rat) = p at *
  generalize (((j * U) ^ 5 / (120 * (2 ^ 180 * 2 ^ 180)) : Nat) : Rat) = q at *
  constructor <;> grind
theorem toNat_err {z : Int} {T d : Rat} (hT : 0 ≤ T) (h : -d ≤ (z : Rat) - T ∧ (z : Rat) - T ≤ d) : -d ≤ (z.toNat : Rat) - T ∧ (z.toNat : Rat) - T ≤ d := by
  rcases Int.le_total 0 z with q | q
  · have : ((z.toNat : Int) : Rat) = (z : Rat) := by rw [Int.toNat_of_nonneg q]
    have e : ((z.toNat : Int) : Rat) = (z.toNat : Rat) := rfl
    rw [← e, this]
    exact h
  · have z0 : z.toNat = 0 := Int.toNat_eq_zero.mpr q
    rw [z0]
    have : (z : Rat) ≤ ((0 : Int) : Rat) := Rat.intCast_le_intCast.mpr q
    have zi : ((0 : Int) : Rat) = 0 := rfl
    have zn : ((0 : Nat) : Rat) = 0 := rfl
    rw [zi] at this
    rw [zn]
    constructor <;> grind
theorem sn_le {x : Rat} (hx : 0 ≤ x) (h1 : x ≤ 1) : 0 ≤ sn x ∧ sn x ≤ x := by
  rw [sn_eq, show (80 : Nat) = 78 + 2 from rfl, F_cg, show (78 : Nat) = 76 + 2 from rfl, F_cg]
  have k := (F_two hx h1 76 (1 + 2 + 2)).1
  have h3 := e_half hx h1 1
  have h5 := e_half hx h1 3
  have n1 := e_nonneg hx 1
  have n3 := e_nonneg hx 3
  have n5 := e_nonneg hx 5
  have o := e_one x
  constructor <;> grind
theorem cs_le {x : Rat} (hx : 0 ≤ x) (h1 : x ≤ 1) : 1 - e 2 x ≤ cs x ∧ cs x ≤ 1 := by
  unfold cs
  rw [show (81 : Nat) = 79 + 2 from rfl, F_cg, show (79 : Nat) = 77 + 2 from rfl, F_cg, show (77 : Nat) = 75 + 2 from rfl, F_cg]
  have k := (F_two hx h1 75 (0 + 2 + 2 + 2)).1
  have h7 := e_half hx h1 4
  have h3 := e_half hx h1 0
  have h5 := e_half hx h1 2
  have n1 := e_nonneg hx 0
  have n3 := e_nonneg hx 2
  have n5 := e_nonneg hx 4
  have o := e_zero x
  constructor <;> grind
theorem cs_half {x : Rat} (hx : 0 ≤ x) (h1 : x ≤ 1) : 1 ≤ 2 * cs x := by
  have h := (cs_le hx h1).1
  have k := e_half hx h1 0
  have o := e_zero x
  grind
theorem bs_err {i : Nat} (h : 1000 * i ≤ 2700000) : -208 ≤ (bs i : Rat) - 2 ^ 62 * sn (an (1000 * i)) ∧ (bs i : Rat) - 2 ^ 62 * sn (an (1000 * i)) ≤ 208 := by
  have n0 := an_nonneg (1000 * i)
  have n1 := an_le h
  have s := (sn_le n0 (by grind)).1
  have q := qs_err h
  unfold bs
  generalize sn (an (1000 * i)) = T at *
  generalize qs (1000 * i) = z at *
  exact toNat_err (Rat.mul_nonneg (by decide) s) q
theorem bc_err {i : Nat} (h : 1000 * i ≤ 2700000) : -208 ≤ (bc i : Rat) - 2 ^ 62 * cs (an (1000 * i)) ∧ (bc i : Rat) - 2 ^ 62 * cs (an (1000 * i)) ≤ 208 := by
  have n0 := an_nonneg (1000 * i)
  have n1 := an_le h
  have s := cs_half n0 (by grind)
  have q := qc_err h
  unfold bc
  generalize cs (an (1000 * i)) = T at *
  generalize qc (1000 * i) = z at *
  exact toNat_err (Rat.mul_nonneg (by decide) (by grind)) q
set_option linter.unusedVariables false in
/-- a product of two numbers that are known nearly -/
theorem prod_err {A a G g d t M N : Rat} (hA : -d ≤ A - M * a ∧ A - M * a ≤ d) (hG : -t ≤ G - N * g ∧ G - N * g ≤ t) (hd : 0 ≤ d) (ht : 0 ≤ t) (hM : 0 ≤ M) (ha : 0 ≤ a) (ha1 : a ≤ 1) (hG0 : 0 ≤ G) :
    -(d * G + M * t) ≤ A * G - M * N * (a * g) ∧ A * G - M * N * (a * g) ≤ d * G + M * t := by
  have m1 := Rat.mul_le_mul_of_nonneg_right hA.1 hG0
  have m2 := Rat.mul_le_mul_of_nonneg_right hA.2 hG0
  have m3 := mul_abs hG.1 hG.2 ha ha1 ht
  have m4 := Rat.mul_le_mul_of_nonneg_left m3.1 hM
  have m5 := Rat.mul_le_mul_of_nonneg_left m3.2 hM
  constructor <;> grind
theorem far_of {V : Nat} {T : Rat} (h : -(250 * 2 ^ 60) ≤ (V : Rat) - 2 ^ 122 * T ∧ (V : Rat) - 2 ^ 122 * T ≤ 250 * 2 ^ 60) (hm : 2 ^ 71 ≤ (V + 2 ^ 70) % 2 ^ 92) : Far T := by
  intro m
  have key : (V : Int) + 2 ^ 70 ≤ 2 ^ 92 * m ∨ 2 ^ 92 * m + 2 ^ 70 ≤ (V : Int) := by omega
  rcases key with k | k
  · left
    have := Rat.intCast_le_intCast.mpr k
    simp only [Rat.intCast_add, Rat.intCast_mul, Rat.intCast_pow] at this
    have z2 : ((2 : Int) : Rat) = 2 := rfl
    have zv : (((V : Nat) : Int) : Rat) = (V : Rat) := rfl
    rw [z2, zv] at this
    clear k hm
    grind
  · right
    have := Rat.intCast_le_intCast.mpr k
    simp only [Rat.intCast_add, Rat.intCast_mul, Rat.intCast_pow] at this
    have z2 : ((2 : Int) : Rat) = 2 := rfl
    have zv : (((V : Nat) : Int) : Rat) = (V : Rat) := rfl
    rw [z2, zv] at this
    clear k hm
    grind
theorem combine {p q u v g s T E : Rat} (P : -(208 * g + 2 ^ 62 * 2) ≤ p - 2 ^ 62 * 2 ^ 60 * u ∧ p - 2 ^ 62 * 2 ^ 60 * u ≤ 208 * g + 2 ^ 62 * 2) (Q : -(208 * s + 2 ^ 62 * 2) ≤ q - 2 ^ 62 * 2 ^ 60 * v ∧ q - 2 ^ 62 * 2 ^ 60 * v ≤ 208 * s + 2 ^ 62 * 2)
    (h : -(3 * E + 1 / 2 ^ 70) ≤ T - (u + v) ∧ T - (u + v) ≤ 3 * E + 1 / 2 ^ 70) (hE : 2 ^ 62 * E ≤ 1) (hg : g ≤ 2 ^ 60 + 2) (hs : 1000 * s ≤ 2 ^ 61 + 2000) : -(250 * 2 ^ 60) ≤ p + q - 2 ^ 122 * T ∧ p + q - 2 ^ 122 * T ≤ 250 * 2 ^ 60 := by
  constructor <;> grind
theorem combine' {p q u v g s T E : Rat} (P : -(208 * g + 2 ^ 62 * 2) ≤ p - 2 ^ 62 * 2 ^ 60 * u ∧ p - 2 ^ 62 * 2 ^ 60 * u ≤ 208 * g + 2 ^ 62 * 2) (Q : -(208 * s + 2 ^ 62 * 2) ≤ q - 2 ^ 62 * 2 ^ 60 * v ∧ q - 2 ^ 62 * 2 ^ 60 * v ≤ 208 * s + 2 ^ 62 * 2)
    (h : -(3 * E + 1 / 2 ^ 70) ≤ T - (u - v) ∧ T - (u - v) ≤ 3 * E + 1 / 2 ^ 70) (hE : 2 ^ 62 * E ≤ 1) (hg : g ≤ 2 ^ 60 + 2) (hs : 1000 * s ≤ 2 ^ 61 + 2000) : -(250 * 2 ^ 60) ≤ p - q - 2 ^ 122 * T ∧ p - q - 2 ^ 122 * T ≤ 250 * 2 ^ 60 := by
  constructor <;> grind
theorem si_le {y : Rat} (y0 : 0 ≤ y) (y1 : 1000 * y ≤ 1) : 1000 * si y ≤ 2 := by
  unfold si
  have := e_half y0 (by grind) 3
  have n := e_nonneg y0 3
  have n := e_nonneg y0 5
  have o := e_one y
  grind
theorem ga_le {y : Rat} (y0 : 0 ≤ y) (y1 : 1000 * y ≤ 1) : ga y ≤ 1 := by
  unfold ga
  have := e_half y0 (by grind) 2
  have n := e_nonneg y0 4
  grind
theorem e6_small {j : Nat} (h : j ≤ 1000) : 2 ^ 62 * e 6 (an j) ≤ 1 := by
  have y0 := an_nonneg j
  have y1 := an_small h
  have k := e_six (an j)
  have p : ∀ {u v : Rat}, 0 ≤ u → u ≤ v → 1000 * (u * an j) ≤ v := fun {u v} hu hv => by
    have := Rat.mul_le_mul_of_nonneg_left y1 hu
    grind
  have p1 : 1000 * an j ≤ 1 := y1
  have p2 := p (u := an j) y0 Rat.le_refl
  have n2 := Rat.mul_nonneg y0 y0
  have p3 := p n2 Rat.le_refl
  have n3 := Rat.mul_nonneg n2 y0
  have p4 := p n3 Rat.le_refl
  have n4 := Rat.mul_nonneg n3 y0
  have p5 := p n4 Rat.le_refl
  have n5 := Rat.mul_nonneg n4 y0
  have p6 := p n5 Rat.le_refl
  grind
theorem val_s {i j : Nat} (h : 1000 * i + j ≤ 2700000) (hj : j ≤ 1000) : -(250 * 2 ^ 60) ≤ ((bs i * gaN j + bc i * siN j : Nat) : Rat) - 2 ^ 122 * sn (an (1000 * i + j)) ∧ ((bs i * gaN j + bc i * siN j : Nat) : Rat) - 2 ^ 122 * sn (an (1000 * i + j)) ≤ 250 * 2 ^ 60 := by
  have hi : 1000 * i ≤ 2700000 := by omega
  have x0 := an_nonneg (1000 * i)
  have x1 := an_le hi
  have y0 := an_nonneg j
  have y1 := an_small hj
  have xy := an_add (1000 * i) j
  have z1 := an_le h
  have B1 := bs_err hi
  have B2 := bc_err hi
  have g := gaN_err hj
  have t := siN_err hj
  have e6 := e6_small hj
  have g0 : (0 : Rat) ≤ (gaN j : Rat) := Rat.natCast_nonneg
  have t0 : (0 : Rat) ≤ (siN j : Rat) := Rat.natCast_nonneg
  rw [xy] at z1 ⊢
  rw [Rat.natCast_add, Rat.natCast_mul, Rat.natCast_mul]
  generalize (bs i : Rat) = A at *
  generalize (bc i : Rat) = B at *
  generalize (gaN j : Rat) = G at *
  generalize (siN j : Rat) = Z at *
  generalize an (1000 * i) = x at *
  generalize an j = y at *
  clear xy h hi hj
  have add := sn_add x0 y0 (by grind)
  have s := sn_le x0 (by grind)
  have c := cs_le x0 (by grind)
  have ch := cs_half x0 (by grind)
  have P := prod_err B1 g (by decide) (by decide) (by decide) s.1 (by grind) g0
  have Q := prod_err B2 t (by decide) (by decide) (by decide) (by grind) c.2 t0
  have gle := ga_le y0 y1
  have tle := si_le y0 y1
  exact combine P Q add e6 (by grind) (by grind)
theorem val_c {i j : Nat} (h : 1000 * i + j ≤ 2700000) (hj : j ≤ 1000) : bs i * siN j ≤ bc i * gaN j ∧ (-(250 * 2 ^ 60) ≤ ((bc i * gaN j - bs i * siN j : Nat) : Rat) - 2 ^ 122 * cs (an (1000 * i + j)) ∧ ((bc i * gaN j - bs i * siN j : Nat) : Rat) - 2 ^ 122 * cs (an (1000 * i + j)) ≤ 250 * 2 ^ 60) := by
  have D : -(250 * 2 ^ 60) ≤ (bc i : Rat) * gaN j - (bs i : Rat) * siN j - 2 ^ 122 * cs (an (1000 * i + j)) ∧ (bc i : Rat) * gaN j - (bs i : Rat) * siN j - 2 ^ 122 * cs (an (1000 * i + j)) ≤ 250 * 2 ^ 60 := by
    have hi : 1000 * i ≤ 2700000 := by omega
    have x0 := an_nonneg (1000 * i)
    have x1 := an_le hi
    have y0 := an_nonneg j
    have y1 := an_small hj
    have xy := an_add (1000 * i) j
    have z1 := an_le h
    have B1 := bs_err hi
    have B2 := bc_err hi
    have g := gaN_err hj
    have t := siN_err hj
    have e6 := e6_small hj
    have g0 : (0 : Rat) ≤ (gaN j : Rat) := Rat.natCast_nonneg
    have t0 : (0 : Rat) ≤ (siN j : Rat) := Rat.natCast_nonneg
    rw [xy] at z1 ⊢
    generalize (bs i : Rat) = A at *
    generalize (bc i : Rat) = B at *
    generalize (gaN j : Rat) = G at *
    generalize (siN j : Rat) = Z at *
    generalize an (1000 * i) = x at *
    generalize an j = y at *
    clear xy h hi hj
    have add := cs_add x0 y0 (by grind)
    have s := sn_le x0 (by grind)
    have c := cs_le x0 (by grind)
    have ch := cs_half x0 (by grind)
    have P := prod_err B2 g (by decide) (by decide) (by decide) (by grind) c.2 g0
    have Q := prod_err B1 t (by decide) (by decide) (by decide) s.1 (by grind) t0
    have gle := ga_le y0 y1
    have tle := si_le y0 y1
    exact combine' P Q add e6 (by grind) (by grind)
  have chz := cs_half (an_nonneg (1000 * i + j)) (by have := an_le h; grind)
  have le : bs i * siN j ≤ bc i * gaN j := by
    apply Rat.natCast_le_natCast.mp
    rw [Rat.natCast_mul, Rat.natCast_mul]
    generalize (bs i : Rat) * (siN j : Rat) = u at *
    generalize (bc i : Rat) * (gaN j : Rat) = v at *
    generalize cs (an (1000 * i + j)) = w at *
    clear h hj
    grind
  refine ⟨le, ?_⟩
  have cast : ((bc i * gaN j - bs i * siN j : Nat) : Rat) = (bc i : Rat) * gaN j - (bs i : Rat) * siN j := by
    obtain ⟨z, hz⟩ := Nat.exists_eq_add_of_le le
    rw [hz, Nat.add_sub_cancel_left]
    have := congrArg (fun n : Nat => (n : Rat)) hz
    simp only [Rat.natCast_add, Rat.natCast_mul] at this
    clear hz le D chz
    grind
  rw [cast]
  exact D
end Go.Sine

/- No sine or cosine of some units but the exact ones is near a multiple of 2^-30: the check. Plain: no program is in sight here. -/
namespace Go.Sine
theorem run1 : run (idx 1000) 1 99 = true := by decide +kernel
theorem run100 : run (idx 1000) 100 100 = true := by decide +kernel
theorem run200 : run (idx 1000) 200 100 = true := by decide +kernel
theorem run300 : run (idx 1000) 300 100 = true := by decide +kernel
theorem run400 : run (idx 1000) 400 100 = true := by decide +kernel
theorem run500 : run (idx 1000) 500 100 = true := by decide +kernel
theorem run600 : run (idx 1000) 600 100 = true := by decide +kernel
theorem run700 : run (idx 1000) 700 100 = true := by decide +kernel
theorem run800 : run (idx 1000) 800 100 = true := by decide +kernel
theorem run900 : run (idx 1000) 900 100 = true := by decide +kernel
theorem run1000 : run (idx 1000) 1000 100 = true := by decide +kernel
theorem run1100 : run (idx 1000) 1100 100 = true := by decide +kernel
theorem run1200 : run (idx 1000) 1200 100 = true := by decide +kernel
theorem run1300 : run (idx 1000) 1300 100 = true := by decide +kernel
theorem run1400 : run (idx 1000) 1400 100 = true := by decide +kernel
theorem run1500 : run (idx 1000) 1500 100 = true := by decide +kernel
theorem run1600 : run (idx 1000) 1600 100 = true := by decide +kernel
theorem run1700 : run (idx 1000) 1700 100 = true := by decide +kernel
theorem run1801 : run (idx 1000) 1801 99 = true := by decide +kernel
theorem run1900 : run (idx 1000) 1900 100 = true := by decide +kernel
theorem run2000 : run (idx 1000) 2000 100 = true := by decide +kernel
theorem run2100 : run (idx 1000) 2100 100 = true := by decide +kernel
theorem run2200 : run (idx 1000) 2200 100 = true := by decide +kernel
theorem run2300 : run (idx 1000) 2300 100 = true := by decide +kernel
theorem run2400 : run (idx 1000) 2400 100 = true := by decide +kernel
theorem run2500 : run (idx 1000) 2500 100 = true := by decide +kernel
theorem run2600 : run (idx 1000) 2600 100 = true := by decide +kernel
theorem one0 : (okS (idx1 999) 0 && okC (idx1 999) 0) = true := by decide +kernel
theorem one1800 : (okS (idx1 999) 1800 && okC (idx 1000) 1800) = true := by decide +kernel
theorem one2700 : (okS (idx 1) 2700 && okC (idx 1) 2700) = true := by decide +kernel
theorem run_at {l : List Nat} {start : Nat} : ∀ {n : Nat}, run l start n = true → ∀ i, start ≤ i → i < start + n → okS l i = true ∧ okC l i = true
  | 0, _, i, h1, h2 => by omega
  | n + 1, h, i, h1, h2 => by
    unfold run at h
    simp only [Bool.and_eq_true] at h
    rcases Nat.lt_or_ge i (start + n) with k | k
    · exact run_at h.2.2 i h1 k
    · rw [show i = start + n by omega]
      exact ⟨h.1, h.2.1⟩
theorem far_s {l : List Nat} {i j : Nat} (h : okS l i = true) (hj : j ∈ l) (hl : ∀ k ∈ l, k ≤ 1000 ∧ 1000 * i + k ≤ 2700000) : Far (sn (an (1000 * i + j))) := by
  have e : Nat.add (Nat.mul (bs i) (pack (l.map gaN))) (Nat.mul (bc i) (pack (l.map siN))) = pack (l.map fun k => bs i * gaN k + bc i * siN k) := by
    show bs i * pack (l.map gaN) + bc i * pack (l.map siN) = _
    rw [pack_mul, pack_mul, pack_add]
  unfold okS at h
  rw [e] at h
  obtain ⟨h1, h2⟩ := hl j hj
  refine far_of (val_s h2 h1) (good_all _ l (fun k hk => ?_) h j hj)
  obtain ⟨k1, k2⟩ := hl k hk
  have v := (val_s k2 k1).2
  have a0 := an_nonneg (1000 * i + k)
  have a1 := an_le k2
  have s := (sn_le a0 (by grind)).2
  have : ((bs i * gaN k + bc i * siN k : Nat) : Rat) < ((2 ^ 127 : Nat) : Rat) := by
    rw [Rat.natCast_pow, c2]
    generalize ((bs i * gaN k + bc i * siN k : Nat) : Rat) = p at *
    generalize sn (an (1000 * i + k)) = q at *
    generalize an (1000 * i + k) = r at *
    clear k1 k2 h1 h2 hl h e hk hj
    grind
  exact Rat.natCast_lt_natCast.mp this
theorem far_c {l : List Nat} {i j : Nat} (h : okC l i = true) (hj : j ∈ l) (hl : ∀ k ∈ l, k ≤ 1000 ∧ 1000 * i + k ≤ 2700000) : Far (cs (an (1000 * i + j))) := by
  have e : Nat.sub (Nat.mul (bc i) (pack (l.map gaN))) (Nat.mul (bs i) (pack (l.map siN))) = pack (l.map fun k => bc i * gaN k - bs i * siN k) := by
    show bc i * pack (l.map gaN) - bs i * pack (l.map siN) = _
    rw [pack_mul, pack_mul, pack_sub]
    intro k hk
    obtain ⟨k1, k2⟩ := hl k hk
    exact (val_c k2 k1).1
  unfold okC at h
  rw [e] at h
  obtain ⟨h1, h2⟩ := hl j hj
  refine far_of (val_c h2 h1).2 (good_all _ l (fun k hk => ?_) h j hj)
  obtain ⟨k1, k2⟩ := hl k hk
  have v := (val_c k2 k1).2.2
  have a0 := an_nonneg (1000 * i + k)
  have a1 := an_le k2
  have s := (cs_le a0 (by grind)).2
  have : ((bc i * gaN k - bs i * siN k : Nat) : Rat) < ((2 ^ 127 : Nat) : Rat) := by
    rw [Rat.natCast_pow, c2]
    generalize ((bc i * gaN k - bs i * siN k : Nat) : Rat) = p at *
    generalize cs (an (1000 * i + k)) = q at *
    clear k1 k2 h1 h2 hl h e hk hj a0 a1
    grind
  exact Rat.natCast_lt_natCast.mp this
theorem idx_le {n k : Nat} : k ∈ idx n → k < n := by
  induction n with
  | zero => intro h; cases h
  | succ n ih =>
    intro h
    rcases List.mem_cons.mp h with rfl | h
    · omega
    · have := ih h; omega
theorem idx1_le {n k : Nat} : k ∈ idx1 n → k ≤ n := by
  induction n with
  | zero => intro h; cases h
  | succ n ih =>
    intro h
    rcases List.mem_cons.mp h with rfl | h
    · omega
    · have := ih h; omega
theorem far_block {i : Nat} (h0 : i ≠ 0) (h1 : i ≠ 1800) (h2 : i < 2700) : okS (idx 1000) i = true ∧ okC (idx 1000) i = true := by
  rcases Nat.lt_or_ge i 100 with q | q
  · exact run_at run1 i (by omega) (by omega)
  rcases Nat.lt_or_ge i 200 with q | q
  · exact run_at run100 i (by omega) (by omega)
  rcases Nat.lt_or_ge i 300 with q | q
  · exact run_at run200 i (by omega) (by omega)
  rcases Nat.lt_or_ge i 400 with q | q
  · exact run_at run300 i (by omega) (by omega)
  rcases Nat.lt_or_ge i 500 with q | q
  · exact run_at run400 i (by omega) (by omega)
  rcases Nat.lt_or_ge i 600 with q | q
  · exact run_at run500 i (by omega) (by omega)
  rcases Nat.lt_or_ge i 700 with q | q
  · exact run_at run600 i (by omega) (by omega)
  rcases Nat.lt_or_ge i 800 with q | q
  · exact run_at run700 i (by omega) (by omega)
  rcases Nat.lt_or_ge i 900 with q | q
  · exact run_at run800 i (by omega) (by omega)
  rcases Nat.lt_or_ge i 1000 with q | q
  · exact run_at run900 i (by omega) (by omega)
  rcases Nat.lt_or_ge i 1100 with q | q
  · exact run_at run1000 i (by omega) (by omega)
  rcases Nat.lt_or_ge i 1200 with q | q
  · exact run_at run1100 i (by omega) (by omega)
  rcases Nat.lt_or_ge i 1300 with q | q
  · exact run_at run1200 i (by omega) (by omega)
  rcases Nat.lt_or_ge i 1400 with q | q
  · exact run_at run1300 i (by omega) (by omega)
  rcases Nat.lt_or_ge i 1500 with q | q
  · exact run_at run1400 i (by omega) (by omega)
  rcases Nat.lt_or_ge i 1600 with q | q
  · exact run_at run1500 i (by omega) (by omega)
  rcases Nat.lt_or_ge i 1700 with q | q
  · exact run_at run1600 i (by omega) (by omega)
  rcases Nat.lt_or_ge i 1800 with q | q
  · exact run_at run1700 i (by omega) (by omega)
  rcases Nat.lt_or_ge i 1900 with q | q
  · exact run_at run1801 i (by omega) (by omega)
  rcases Nat.lt_or_ge i 2000 with q | q
  · exact run_at run1900 i (by omega) (by omega)
  rcases Nat.lt_or_ge i 2100 with q | q
  · exact run_at run2000 i (by omega) (by omega)
  rcases Nat.lt_or_ge i 2200 with q | q
  · exact run_at run2100 i (by omega) (by omega)
  rcases Nat.lt_or_ge i 2300 with q | q
  · exact run_at run2200 i (by omega) (by omega)
  rcases Nat.lt_or_ge i 2400 with q | q
  · exact run_at run2300 i (by omega) (by omega)
  rcases Nat.lt_or_ge i 2500 with q | q
  · exact run_at run2400 i (by omega) (by omega)
  rcases Nat.lt_or_ge i 2600 with q | q
  · exact run_at run2500 i (by omega) (by omega)
  rcases Nat.lt_or_ge i 2700 with q | q
  · exact run_at run2600 i (by omega) (by omega)
  omega
/-- **No sine of 1 to 2700000 units, but that of 30 degrees, is near a multiple of 2^-30; nor is a cosine.** -/
theorem far_sn {n : Nat} (h0 : n ≠ 0) (h1 : n ≠ 1800000) (h2 : n ≤ 2700000) : Far (sn (an n)) := by
  have e : 1000 * (n / 1000) + n % 1000 = n := Nat.div_add_mod n 1000
  have hm := Nat.mod_lt n (show 0 < 1000 by decide)
  by_cases a : n / 1000 = 0
  · have k := far_s (i := 0) (j := n) (Bool.and_eq_true_iff.mp one0).1 (mem_idx1 (by omega) (by omega)) (fun k hk => by have := idx1_le hk; omega)
    rw [show 1000 * 0 + n = n by omega] at k
    exact k
  by_cases b : n / 1000 = 1800
  · have k := far_s (i := 1800) (j := n % 1000) (Bool.and_eq_true_iff.mp one1800).1 (mem_idx1 (by omega) (by omega)) (fun k hk => by have := idx1_le hk; omega)
    rw [← b, e] at k
    exact k
  by_cases c : n / 1000 = 2700
  · have k := far_s (i := 2700) (j := n % 1000) (Bool.and_eq_true_iff.mp one2700).1 (mem_idx (by omega)) (fun k hk => by have := idx_le hk; omega)
    rw [← c, e] at k
    exact k
  have k := far_s (j := n % 1000) (far_block a b (by omega)).1 (mem_idx hm) (fun k hk => by have := idx_le hk; omega)
  rw [e] at k
  exact k
theorem far_cs {n : Nat} (h0 : n ≠ 0) (h2 : n ≤ 2700000) : Far (cs (an n)) := by
  have e : 1000 * (n / 1000) + n % 1000 = n := Nat.div_add_mod n 1000
  have hm := Nat.mod_lt n (show 0 < 1000 by decide)
  by_cases a : n / 1000 = 0
  · have k := far_c (i := 0) (j := n) (Bool.and_eq_true_iff.mp one0).2 (mem_idx1 (by omega) (by omega)) (fun k hk => by have := idx1_le hk; omega)
    rw [show 1000 * 0 + n = n by omega] at k
    exact k
  by_cases b : n / 1000 = 1800
  · have k := far_c (i := 1800) (j := n % 1000) (Bool.and_eq_true_iff.mp one1800).2 (mem_idx hm) (fun k hk => by have := idx_le hk; omega)
    rw [← b, e] at k
    exact k
  by_cases c : n / 1000 = 2700
  · have k := far_c (i := 2700) (j := n % 1000) (Bool.and_eq_true_iff.mp one2700).2 (mem_idx (by omega)) (fun k hk => by have := idx_le hk; omega)
    rw [← c, e] at k
    exact k
  have k := far_c (j := n % 1000) (far_block a b (by omega)).2 (mem_idx hm) (fun k hk => by have := idx_le hk; omega)
  rw [e] at k
  exact k
end Go.Sine
