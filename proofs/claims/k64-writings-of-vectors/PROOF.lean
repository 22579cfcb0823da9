import PyProof.Rows.All
import Wide.All
import OpenK.AllK
import Wide.FinOn
import HandS.ForMost
import HandS.Gcd
import HandS.Wide
import HandS.IsInst
import PySem.Challenge.RW_threescribes_k64_writings_of_vectors
set_option Elab.async false
set_option linter.all false
set_option maxRecDepth 100000
/-! k64: the mathematics, without a program: sums, echelon systems, spans, sizes, Euclid's steps, a small solution. -/
namespace M64

/-- the sum of f 0 .. f (n - 1) -/
def sm : Nat → (Nat → Int) → Int
  | 0, _ => 0
  | n + 1, f => sm n f + f n

theorem sm_congr {n : Nat} {f g : Nat → Int} (h : ∀ i, i < n → f i = g i) : sm n f = sm n g := by
  induction n with
  | zero => rfl
  | succ n ih =>
    show sm n f + f n = sm n g + g n
    rw [ih fun i hi => h i (by omega), h n (by omega)]
theorem sm_zero (n : Nat) : sm n (fun _ => 0) = 0 := by
  induction n with
  | zero => rfl
  | succ n ih =>
    show sm n (fun _ => 0) + 0 = 0
    rw [ih]; rfl
theorem sm_zero' {n : Nat} {f : Nat → Int} (h : ∀ i, i < n → f i = 0) : sm n f = 0 := (sm_congr h).trans (sm_zero n)
theorem sm_add (n : Nat) (f g : Nat → Int) : sm n (fun i => f i + g i) = sm n f + sm n g := by
  induction n with
  | zero => rfl
  | succ n ih =>
    show sm n (fun i => f i + g i) + (f n + g n) = (sm n f + f n) + (sm n g + g n)
    rw [ih]; omega
theorem sm_sub (n : Nat) (f g : Nat → Int) : sm n (fun i => f i - g i) = sm n f - sm n g := by
  induction n with
  | zero => rfl
  | succ n ih =>
    show sm n (fun i => f i - g i) + (f n - g n) = (sm n f + f n) - (sm n g + g n)
    rw [ih]; omega
theorem sm_mul (n : Nat) (c : Int) (f : Nat → Int) : sm n (fun i => c * f i) = c * sm n f := by
  induction n with
  | zero => exact (Int.mul_zero c).symm
  | succ n ih =>
    show sm n (fun i => c * f i) + c * f n = c * (sm n f + f n)
    rw [ih, Int.mul_add]
theorem sm_extend {k n : Nat} (h : k ≤ n) {f : Nat → Int} (hz : ∀ i, k ≤ i → i < n → f i = 0) : sm n f = sm k f := by
  induction n with
  | zero =>
    have : k = 0 := by omega
    subst this; rfl
  | succ n ih =>
    by_cases e : k = n + 1
    · rw [e]
    · show sm n f + f n = sm k f
      rw [ih (by omega) (fun i h1 h2 => hz i h1 (by omega)), hz n (by omega) (by omega)]
      omega

/-- rows made of vectors: a triangle, each row with a place at which the later ones are nothing -/
structure Ech (n size : Nat) (v r : Nat → Nat → Int) (at_ : Nat → Nat) (m : Nat → Nat → Int) : Prop where
  row : ∀ k, k < n → ∀ x, x < size → r k x = sm (k + 1) (fun i => m k i * v i x)
  piv : ∀ k, k < n → m k k ≠ 0
  low : ∀ k, k < n → at_ k < size
  non : ∀ k, k < n → r k (at_ k) ≠ 0
  nil : ∀ k, k < n → ∀ j, j < k → r k (at_ j) = 0

theorem Ech.indep {size : Nat} {v r : Nat → Nat → Int} {a : Nat → Nat} {m : Nat → Nat → Int} :
    ∀ {n : Nat}, Ech n size v r a m → ∀ c : Nat → Int, (∀ j, j < n → sm n (fun i => c i * v i (a j)) = 0) → ∀ i, i < n → c i = 0
  | 0, _, _, _, i, h => by omega
  | n + 1, E, c, hc, i, hi => by
    have E' : Ech n size v r a m := ⟨fun k hk => E.row k (by omega), fun k hk => E.piv k (by omega), fun k hk => E.low k (by omega), fun k hk => E.non k (by omega), fun k hk => E.nil k (by omega)⟩
    -- m n n * c i = c n * m n i below n
    have key : ∀ j, j < n → sm n (fun i => (m n n * c i - c n * m n i) * v i (a j)) = 0 := by
      intro j hj
      have h1 := hc j (by omega)
      have h2 := E.row n (by omega) (a j) (E.low j (by omega))
      rw [E.nil n (by omega) j hj] at h2
      have h1' : sm n (fun i => c i * v i (a j)) + c n * v n (a j) = 0 := h1
      have h2' : (0 : Int) = sm n (fun i => m n i * v i (a j)) + m n n * v n (a j) := h2
      have e : sm n (fun i => (m n n * c i - c n * m n i) * v i (a j)) = m n n * sm n (fun i => c i * v i (a j)) - c n * sm n (fun i => m n i * v i (a j)) := by
        rw [← sm_mul, ← sm_mul, ← sm_sub]
        refine sm_congr fun i _ => ?_
        rw [Int.sub_mul, Int.mul_assoc, Int.mul_assoc]
      rw [e]
      have s1 : sm n (fun i => c i * v i (a j)) = -(c n * v n (a j)) := by omega
      have s2 : sm n (fun i => m n i * v i (a j)) = -(m n n * v n (a j)) := by omega
      rw [s1, s2, Int.mul_neg, Int.mul_neg]
      have : m n n * (c n * v n (a j)) = c n * (m n n * v n (a j)) := by rw [← Int.mul_assoc, ← Int.mul_assoc, Int.mul_comm (m n n)]
      omega
    have z := Ech.indep E' _ key
    -- at the last place
    have h1 : sm n (fun i => c i * v i (a n)) + c n * v n (a n) = 0 := hc n (by omega)
    have h2 : r n (a n) = sm n (fun i => m n i * v i (a n)) + m n n * v n (a n) := E.row n (by omega) (a n) (E.low n (by omega))
    have h3 : sm n (fun i => m n n * (c i * v i (a n))) = sm n (fun i => c n * (m n i * v i (a n))) := sm_congr fun i hi => by
      have := z i hi
      have e : m n n * c i = c n * m n i := by omega
      rw [← Int.mul_assoc, ← Int.mul_assoc, e]
    rw [sm_mul, sm_mul] at h3
    have h4 : c n * r n (a n) = 0 := by
      rw [h2, Int.mul_add, ← h3]
      have : c n * (m n n * v n (a n)) = m n n * (c n * v n (a n)) := by rw [← Int.mul_assoc, ← Int.mul_assoc, Int.mul_comm (m n n)]
      rw [this, ← Int.mul_add, h1, Int.mul_zero]
    have cn : c n = 0 := by
      rcases Int.mul_eq_zero.mp h4 with h | h
      · exact h
      · exact absurd h (E.non n (by omega))
    by_cases e : i = n
    · rw [e]; exact cn
    · have := z i (by omega)
      rw [cn, Int.zero_mul, Int.sub_zero] at this
      rcases Int.mul_eq_zero.mp this with h | h
      · exact absurd h (E.piv n (by omega))
      · exact h

/-- v is written over the vectors -/
def InSpan (n size : Nat) (v : Nat → Nat → Int) (w : Nat → Int) : Prop := ∃ (t : Int) (c : Nat → Int), t ≠ 0 ∧ ∀ x, x < size → t * w x = sm n (fun i => c i * v i x)
/-- w reduced: s times w is the rest and a sum; the rest is nothing at the places -/
structure Red (n size : Nat) (v : Nat → Nat → Int) (a : Nat → Nat) (w : Nat → Int) (s : Int) (rest p : Nat → Int) : Prop where
  s0 : s ≠ 0
  eq : ∀ x, x < size → s * w x = rest x + sm n (fun i => p i * v i x)
  nil : ∀ j, j < n → rest (a j) = 0

theorem Red.span_iff {n size : Nat} {v r : Nat → Nat → Int} {a : Nat → Nat} {m : Nat → Nat → Int} {w rest p : Nat → Int} {s : Int} (E : Ech n size v r a m) (R : Red n size v a w s rest p) :
    InSpan n size v w ↔ ∀ x, x < size → rest x = 0 := by
  constructor
  · rintro ⟨t, c, ht, hw⟩
    have h : ∀ x, x < size → t * rest x = sm n (fun i => (s * c i - t * p i) * v i x) := by
      intro x hx
      have e : sm n (fun i => (s * c i - t * p i) * v i x) = s * sm n (fun i => c i * v i x) - t * sm n (fun i => p i * v i x) := by
        rw [← sm_mul, ← sm_mul, ← sm_sub]
        refine sm_congr fun i _ => ?_
        rw [Int.sub_mul, Int.mul_assoc, Int.mul_assoc]
      rw [e, ← hw x hx]
      have h1 := R.eq x hx
      have h2 : sm n (fun i => p i * v i x) = s * w x - rest x := by omega
      rw [h2, Int.mul_sub, ← Int.mul_assoc, ← Int.mul_assoc, Int.mul_comm s t]
      omega
    have z := E.indep (fun i => s * c i - t * p i) fun j hj => by
      rw [← h (a j) (E.low j hj), R.nil j hj, Int.mul_zero]
    intro x hx
    have := h x hx
    rw [sm_zero' (fun i hi => by rw [z i hi, Int.zero_mul])] at this
    rcases Int.mul_eq_zero.mp this with h | h
    · exact absurd h ht
    · exact h
  · intro h
    refine ⟨s, p, R.s0, fun x hx => ?_⟩
    rw [R.eq x hx, h x hx, Int.zero_add]

/-- two writings of one vector are in proportion -/
theorem Ech.prop {n size : Nat} {v r : Nat → Nat → Int} {a : Nat → Nat} {m : Nat → Nat → Int} {w c d : Nat → Int} {t u : Int} (E : Ech n size v r a m)
    (h1 : ∀ j, j < n → t * w (a j) = sm n (fun i => c i * v i (a j))) (h2 : ∀ j, j < n → u * w (a j) = sm n (fun i => d i * v i (a j))) : ∀ i, i < n → u * c i = t * d i := by
  have z := E.indep (fun i => u * c i - t * d i) fun j hj => by
    have e : sm n (fun i => (u * c i - t * d i) * v i (a j)) = u * sm n (fun i => c i * v i (a j)) - t * sm n (fun i => d i * v i (a j)) := by
      rw [← sm_mul, ← sm_mul, ← sm_sub]
      refine sm_congr fun i _ => ?_
      rw [Int.sub_mul, Int.mul_assoc, Int.mul_assoc]
    rw [e, ← h1 j hj, ← h2 j hj, ← Int.mul_assoc, ← Int.mul_assoc, Int.mul_comm u t]
    omega
  intro i hi
  have := z i hi
  omega

/-! ### a small solution, by pigeons -/
theorem pigeon : ∀ (M N : Nat) (f : Nat → Nat), M < N → (∀ i, i < N → f i < M) → ∃ i j, i < j ∧ j < N ∧ f i = f j
  | 0, N, f, h, hf => absurd (hf 0 (by omega)) (by omega)
  | M + 1, N, f, h, hf => by
    -- the last place holds f (N - 1); where another goes there too we are done
    by_cases ex : ∃ i, i < N - 1 ∧ f i = f (N - 1)
    · obtain ⟨i, hi, e⟩ := ex
      exact ⟨i, N - 1, by omega, by omega, e⟩
    · have hne : ∀ i, i < N - 1 → f i ≠ f (N - 1) := fun i hi e => ex ⟨i, hi, e⟩
      -- M stands in for the place f (N - 1)
      obtain ⟨i, j, hij, hj, e⟩ := pigeon M (N - 1) (fun i => if f i = M then f (N - 1) else f i) (by omega) (fun i hi => by
        have h1 := hf i (by omega)
        have h2 := hf (N - 1) (by omega)
        have h3 := hne i hi
        show (if f i = M then f (N - 1) else f i) < M
        split <;> omega)
      refine ⟨i, j, hij, by omega, ?_⟩
      have h3 := hne i (by omega)
      have h4 := hne j (by omega)
      have e' : (if f i = M then f (N - 1) else f i) = (if f j = M then f (N - 1) else f j) := e
      split at e' <;> split at e' <;> omega

/-- digits -/
def dig (W i k : Nat) : Nat := i / W ^ k % W
theorem dig_lt {W i k : Nat} (h : 0 < W) : dig W i k < W := Nat.mod_lt _ h
theorem dig_inj {W : Nat} (hW : 0 < W) : ∀ (n i j : Nat), i < W ^ n → j < W ^ n → (∀ k, k < n → dig W i k = dig W j k) → i = j
  | 0, i, j, hi, hj, _ => by simp at hi hj; omega
  | n + 1, i, j, hi, hj, h => by
    have h0 : i % W = j % W := by
      have := h 0 (by omega)
      unfold dig at this
      simpa using this
    have hd : i / W = j / W := by
      refine dig_inj hW n (i / W) (j / W) ?_ ?_ fun k hk => ?_
      · rw [Nat.div_lt_iff_lt_mul hW]; rw [Nat.pow_succ] at hi; exact hi
      · rw [Nat.div_lt_iff_lt_mul hW]; rw [Nat.pow_succ] at hj; exact hj
      · have := h (k + 1) (by omega)
        unfold dig at this ⊢
        rw [Nat.pow_succ, Nat.mul_comm, ← Nat.div_div_eq_div_mul, ← Nat.div_div_eq_div_mul] at this
        exact this
    have h1 := Nat.div_add_mod i W
    have h2 := Nat.div_add_mod j W
    rw [hd, h0] at h1
    omega
/-- a number of digits c 0 .. c (n - 1) -/
def code (W : Nat) (c : Nat → Nat) : Nat → Nat
  | 0 => 0
  | n + 1 => code W c n + c n * W ^ n
theorem code_lt {W : Nat} {c : Nat → Nat} : ∀ {n : Nat}, (∀ k, k < n → c k < W) → code W c n < W ^ n
  | 0, _ => by simp [code]
  | n + 1, h => by
    have h1 := code_lt (n := n) fun k hk => h k (by omega)
    have h2 := h n (by omega)
    show code W c n + c n * W ^ n < W ^ (n + 1)
    rw [Nat.pow_succ]
    have h3 : (c n + 1) * W ^ n ≤ W * W ^ n := Nat.mul_le_mul_right _ h2
    rw [Nat.add_mul] at h3
    rw [Nat.mul_comm (W ^ n)]
    omega
theorem code_inj {W : Nat} {c d : Nat → Nat} : ∀ {n : Nat}, (∀ k, k < n → c k < W) → (∀ k, k < n → d k < W) → code W c n = code W d n → ∀ k, k < n → c k = d k
  | 0, _, _, _, k, hk => by omega
  | n + 1, hc, hd, e, k, hk => by
    have e' : code W c n + c n * W ^ n = code W d n + d n * W ^ n := e
    have h1 := code_lt (n := n) fun k hk => hc k (by omega)
    have h2 := code_lt (n := n) fun k hk => hd k (by omega)
    have en : c n = d n := by
      rcases Nat.lt_trichotomy (c n) (d n) with h | h | h
      · have h3 : (c n + 1) * W ^ n ≤ d n * W ^ n := Nat.mul_le_mul_right _ h
        rw [Nat.add_mul] at h3
        omega
      · exact h
      · have h3 : (d n + 1) * W ^ n ≤ c n * W ^ n := Nat.mul_le_mul_right _ h
        rw [Nat.add_mul] at h3
        omega
    by_cases h : k = n
    · rw [h]; exact en
    · exact code_inj (n := n) (fun k hk => hc k (by omega)) (fun k hk => hd k (by omega)) (by rw [en] at e'; omega) k (by omega)

theorem sm_abs (n : Nat) (f : Nat → Int) (B : Int) (h : ∀ i, i < n → -B ≤ f i ∧ f i ≤ B) : -(n * B) ≤ sm n f ∧ sm n f ≤ n * B := by
  induction n with
  | zero => show -((0 : Nat) * B) ≤ (0 : Int) ∧ (0 : Int) ≤ (0 : Nat) * B; simp
  | succ n ih =>
    have h1 := ih fun i hi => h i (by omega)
    have h2 := h n (by omega)
    show -(((n + 1 : Nat) : Int) * B) ≤ sm n f + f n ∧ sm n f + f n ≤ ((n + 1 : Nat) : Int) * B
    have e : ((n + 1 : Nat) : Int) * B = n * B + B := by rw [show ((n + 1 : Nat) : Int) = (n : Int) + 1 from rfl, Int.add_mul, Int.one_mul]
    rw [e]; omega

/-- fewer equations than unknowns: a solution that is not nothing and not large. A bounds every coefficient -/
theorem small_solution {n : Nat} {A : Nat} (u : Nat → Nat → Int) (hu : ∀ i, i ≤ n → ∀ j, j < n → -(A : Int) ≤ u i j ∧ u i j ≤ (A : Int)) :
    ∃ x : Nat → Int, (∃ i, i ≤ n ∧ x i ≠ 0) ∧ (∀ i, i ≤ n → (x i).natAbs ≤ (2 * (n + 1) * A + 1) ^ n) ∧ ∀ j, j < n → sm (n + 1) (fun i => x i * u i j) = 0 := by
  -- C: the span of values a unit; B: the largest digit
  let C := 2 * (n + 1) * A + 1
  let B := C ^ n
  have hC : 0 < C := by omega
  have hB : 0 < B := Nat.pow_pos hC
  let W := B + 1
  -- the image of i at j, moved to be no less than 0
  let g : Nat → Nat → Int := fun i j => sm (n + 1) (fun k => (dig W i k : Int) * u k j) + ((n + 1 : Nat) : Int) * ((B : Int) * A)
  have hg : ∀ i j, j < n → 0 ≤ g i j ∧ g i j ≤ 2 * (((n + 1 : Nat) : Int) * ((B : Int) * A)) := by
    intro i j hj
    have h := sm_abs (n + 1) (fun k => (dig W i k : Int) * u k j) ((B : Int) * A) (fun k hk => by
      have h1 : dig W i k ≤ B := Nat.le_of_lt_succ (dig_lt (W := W) (by omega))
      obtain ⟨h2, h3⟩ := hu k (by omega) j hj
      have h4 : (dig W i k : Int) * u k j ≤ (dig W i k : Int) * A := Int.mul_le_mul_of_nonneg_left h3 (by omega)
      have h5 : (dig W i k : Int) * (-(A : Int)) ≤ (dig W i k : Int) * u k j := Int.mul_le_mul_of_nonneg_left h2 (by omega)
      have h6 : (dig W i k : Int) * A ≤ (B : Int) * A := Int.mul_le_mul_of_nonneg_right (by omega) (by omega)
      rw [Int.mul_neg] at h5
      omega)
    show 0 ≤ sm (n + 1) (fun k => (dig W i k : Int) * u k j) + ((n + 1 : Nat) : Int) * ((B : Int) * A) ∧ sm (n + 1) (fun k => (dig W i k : Int) * u k j) + ((n + 1 : Nat) : Int) * ((B : Int) * A) ≤ 2 * (((n + 1 : Nat) : Int) * ((B : Int) * A))
    omega
  let V := 2 * (n + 1) * A * B + 1
  have hgV : ∀ i j, j < n → (g i j).toNat < V := by
    intro i j hj
    obtain ⟨h1, h2⟩ := hg i j hj
    have e : (2 * (((n + 1 : Nat) : Int) * ((B : Int) * A))) = ((2 * (n + 1) * A * B : Nat) : Int) := by
      rw [Int.natCast_mul, Int.natCast_mul, Int.natCast_mul]
      rw [Int.mul_assoc, Int.mul_assoc, Int.mul_comm (B : Int)]
      rfl
    rw [e] at h2
    show (g i j).toNat < 2 * (n + 1) * A * B + 1
    omega
  have hVN : V ^ n < W ^ (n + 1) := by
    -- V ≤ C * B ≤ C * W
    have h1 : V ≤ C * W := by
      show 2 * (n + 1) * A * B + 1 ≤ (2 * (n + 1) * A + 1) * (B + 1)
      generalize 2 * (n + 1) * A = z
      rw [Nat.add_mul, Nat.mul_add]
      omega
    have h2 : V ^ n ≤ (C * W) ^ n := Nat.pow_le_pow_left h1 n
    rw [Nat.mul_pow] at h2
    have h3 : C ^ n * W ^ n < W * W ^ n := (Nat.mul_lt_mul_right (Nat.pow_pos (by omega))).mpr (Nat.lt_succ_self B)
    rw [Nat.pow_succ, Nat.mul_comm (W ^ n)]
    omega
  obtain ⟨i, j, hij, hj, e⟩ := pigeon (V ^ n) (W ^ (n + 1)) (fun i => code V (fun k => (g i k).toNat) n) hVN (fun i _ => code_lt fun k hk => hgV i k hk)
  refine ⟨fun k => (dig W i k : Int) - (dig W j k : Int), ?_, fun k _ => ?_, fun k hk => ?_⟩
  · by_cases ex : ∃ k, k ≤ n ∧ dig W i k ≠ dig W j k
    · obtain ⟨k, hk, hne⟩ := ex
      refine ⟨k, hk, ?_⟩
      show (dig W i k : Int) - (dig W j k : Int) ≠ 0
      omega
    · have hd : i = j := dig_inj (by omega) (n + 1) i j (by omega) hj fun k hk => by
        by_cases h : dig W i k = dig W j k
        · exact h
        · exact absurd ⟨k, by omega, h⟩ ex
      omega
  · have h1 : dig W i k < W := dig_lt (by omega)
    have h2 : dig W j k < W := dig_lt (by omega)
    show ((dig W i k : Int) - (dig W j k : Int)).natAbs ≤ B
    omega
  · have h1 := code_inj (fun k hk => hgV i k hk) (fun k hk => hgV j k hk) e k hk
    have h2 := (hg i k hk).1
    have h3 := (hg j k hk).1
    have h4 : g i k = g j k := by omega
    have h5 : sm (n + 1) (fun l => (dig W i l : Int) * u l k) = sm (n + 1) (fun l => (dig W j l : Int) * u l k) := by
      have : sm (n + 1) (fun l => (dig W i l : Int) * u l k) + ((n + 1 : Nat) : Int) * ((B : Int) * A) = sm (n + 1) (fun l => (dig W j l : Int) * u l k) + ((n + 1 : Nat) : Int) * ((B : Int) * A) := h4
      omega
    have e2 : sm (n + 1) (fun l => ((dig W i l : Int) - (dig W j l : Int)) * u l k) = sm (n + 1) (fun l => (dig W i l : Int) * u l k) - sm (n + 1) (fun l => (dig W j l : Int) * u l k) := by
      rw [← sm_sub]
      exact sm_congr fun l _ => Int.sub_mul _ _ _
    show sm (n + 1) (fun l => ((dig W i l : Int) - (dig W j l : Int)) * u l k) = 0
    rw [e2, h5]; omega
end M64
/-! k64: the mathematics of the rows as lists. -/
namespace M64

def gi (l : List Int) (i : Nat) : Int := l.getD i 0
theorem gi_of {l : List Int} {i : Nat} {x : Int} (h : l[i]? = some x) : gi l i = x := by
  unfold gi; rw [List.getD_eq_getElem?_getD, h]; rfl
theorem gi_get {l : List Int} {i : Nat} (h : i < l.length) : l[i]? = some (gi l i) := by
  unfold gi; rw [List.getD_eq_getElem?_getD, List.getElem?_eq_getElem h]; rfl
theorem gi_out {l : List Int} {i : Nat} (h : l.length ≤ i) : gi l i = 0 := by
  unfold gi; rw [List.getD_eq_getElem?_getD, List.getElem?_eq_none h]; rfl
theorem gi_mem {l : List Int} {i : Nat} (h : i < l.length) : gi l i ∈ l := List.mem_of_getElem? (gi_get h)
theorem gi_map {f : Int → Int} (h0 : f 0 = 0) (l : List Int) (i : Nat) : gi (l.map f) i = f (gi l i) := by
  unfold gi; rw [List.getD_eq_getElem?_getD, List.getD_eq_getElem?_getD, List.getElem?_map]
  cases l[i]? with
  | none => exact h0.symm
  | some x => rfl
theorem gi_ext {l m : List Int} (hl : l.length = m.length) (h : ∀ i, i < l.length → gi l i = gi m i) : l = m := by
  refine List.ext_getElem? fun i => ?_
  by_cases hi : i < l.length
  · rw [gi_get hi, gi_get (hl ▸ hi), h i hi]
  · rw [List.getElem?_eq_none (by omega), List.getElem?_eq_none (by omega)]
theorem gi_append_left {l m : List Int} {i : Nat} (h : i < l.length) : gi (l ++ m) i = gi l i := by
  unfold gi; rw [List.getD_eq_getElem?_getD, List.getD_eq_getElem?_getD, List.getElem?_append_left h]
theorem gi_append_at {l : List Int} {x : Int} : gi (l ++ [x]) l.length = x := gi_of (by simp)

/-- all entries less than 2 ^ b in size -/
def Bits (b : Nat) (l : List Int) : Prop := ∀ i, (gi l i).natAbs < 2 ^ b
theorem Bits.mono {b c : Nat} {l : List Int} (h : Bits b l) (hbc : b ≤ c) : Bits c l := fun i => Nat.lt_of_lt_of_le (h i) (Nat.pow_le_pow_right (by decide) hbc)
theorem bits_of {b : Nat} {l : List Int} (h : ∀ x ∈ l, x.natAbs < 2 ^ b) : Bits b l := fun i => by
  by_cases hi : i < l.length
  · exact h _ (gi_mem hi)
  · rw [gi_out (by omega)]; exact Nat.pow_pos (by decide)

structure SRow where
  at_ : Nat
  row : List Int
  made : List Int
def r0 : SRow := ⟨0, [], []⟩
def vf (vs : List (List Int)) (i x : Nat) : Int := gi (vs.getD i []) x
def rk (rows : List SRow) (k : Nat) : SRow := rows.getD k r0

/-- the size of the k-th row -/
def RB (k : Nat) : Nat := 32 * 2 ^ k
structure SpOk (size : Nat) (vs : List (List Int)) (rows : List SRow) : Prop where
  len : rows.length = vs.length
  few : vs.length ≤ 8
  vl : ∀ i, i < vs.length → (vs.getD i []).length = size
  rl : ∀ k, k < rows.length → (rk rows k).row.length = size
  ml : ∀ k, k < rows.length → (rk rows k).made.length = k + 1
  ech : Ech vs.length size (vf vs) (fun k => gi (rk rows k).row) (fun k => (rk rows k).at_) (fun k => gi (rk rows k).made)
  br : ∀ k, k < rows.length → Bits (RB k) (rk rows k).row
  bm : ∀ k, k < rows.length → Bits (RB k) (rk rows k).made

/-- the size of what is reduced by k rows -/
def TB (c : Nat) : Nat → Nat
  | 0 => c
  | k + 1 => TB c k + RB k + 1
theorem TB_eq (c k : Nat) : TB c k = c + 32 * (2 ^ k - 1) + k := by
  induction k with
  | zero => rfl
  | succ k ih =>
    have h : 0 < 2 ^ k := Nat.pow_pos (by decide)
    show TB c k + 32 * 2 ^ k + 1 = c + 32 * (2 ^ (k + 1) - 1) + (k + 1)
    rw [ih, Nat.pow_succ]; omega
theorem TB_mono (c : Nat) {j k : Nat} (h : j ≤ k) : TB c j ≤ TB c k := by
  induction k with
  | zero =>
    have : j = 0 := by omega
    subst this; exact Nat.le_refl _
  | succ k ih =>
    by_cases e : j = k + 1
    · subst e; exact Nat.le_refl _
    · have := ih (by omega)
      show TB c j ≤ TB c k + RB k + 1
      omega
theorem TB_small {c k : Nat} (hc : c ≤ 64) (hk : k ≤ 8) : TB c k ≤ 8300 := by
  have h1 := TB_mono c hk
  have h2 : TB c 8 = c + 32 * (2 ^ 8 - 1) + 8 := TB_eq c 8
  have h3 : (2 : Nat) ^ 8 = 256 := by decide
  rw [h3] at h2
  omega
theorem RB_small {k : Nat} (hk : k ≤ 8) : RB k ≤ 8192 := by
  have : 2 ^ k ≤ 2 ^ 8 := Nat.pow_le_pow_right (by decide) hk
  have h3 : (2 : Nat) ^ 8 = 256 := by decide
  unfold RB; omega
theorem TB_RB {k : Nat} (hk : k ≤ 8) : TB 24 k ≤ RB k := by
  rw [TB_eq]; unfold RB
  have h : 0 < 2 ^ k := Nat.pow_pos (by decide)
  omega

theorem abs_mul_lt {a b : Int} {m n : Nat} (ha : a.natAbs < 2 ^ m) (hb : b.natAbs < 2 ^ n) : (a * b).natAbs < 2 ^ (m + n) := by
  rw [Int.natAbs_mul, Nat.pow_add]
  exact Nat.mul_lt_mul'' ha hb
theorem abs_sub_lt {a b : Int} {n : Nat} (ha : a.natAbs < 2 ^ n) (hb : b.natAbs < 2 ^ n) : (a - b).natAbs < 2 ^ (n + 1) := by
  rw [Nat.pow_succ]; omega
theorem abs_add_lt {a b : Int} {n : Nat} (ha : a.natAbs < 2 ^ n) (hb : b.natAbs < 2 ^ n) : (a + b).natAbs < 2 ^ (n + 1) := by
  rw [Nat.pow_succ]; omega
theorem abs_div_le (a : Int) (g : Nat) : (a / (g : Int)).natAbs ≤ a.natAbs := Int.natAbs_ediv_le_natAbs a g

/-- what the loop over the rows holds behind k rows; n vectors -/
structure RedSt (size : Nat) (vs : List (List Int)) (rows : List SRow) (v : List Int) (c k : Nat) (times : Int) (rest parts : List Int) : Prop where
  t0 : times ≠ 0
  lr : rest.length = size
  lp : parts.length = vs.length
  eq : ∀ x, x < size → times * gi v x = gi rest x + sm vs.length (fun i => gi parts i * vf vs i x)
  nil : ∀ j, j < k → gi rest (rk rows j).at_ = 0
  bt : times.natAbs < 2 ^ TB c k
  br : Bits (TB c k) rest
  bp : Bits (TB c k) parts

theorem RedSt.start {size : Nat} {vs : List (List Int)} {rows : List SRow} {v : List Int} {c : Nat} (hv : v.length = size) (hb : Bits c v) (hc : 0 < c) : RedSt size vs rows v c 0 1 v (List.replicate vs.length 0) where
  t0 := by decide
  lr := hv
  lp := List.length_replicate
  eq := fun x hx => by
    rw [sm_zero' fun i hi => ?_, Int.one_mul, Int.add_zero]
    have : gi (List.replicate vs.length 0) i = 0 := by
      unfold gi
      rw [List.getD_eq_getElem?_getD, List.getElem?_replicate]
      split <;> rfl
    rw [this, Int.zero_mul]
  nil := fun j hj => absurd hj (by omega)
  bt := by
    show (1 : Nat) < 2 ^ c
    exact Nat.one_lt_two_pow (by omega)
  br := hb
  bp := fun i => by
    have : gi (List.replicate vs.length 0) i = 0 := by
      unfold gi
      rw [List.getD_eq_getElem?_getD, List.getElem?_replicate]
      split <;> rfl
    rw [this]
    exact Nat.pow_pos (by decide)

theorem RedSt.skip {size : Nat} {vs : List (List Int)} {rows : List SRow} {v : List Int} {c k : Nat} {times : Int} {rest parts : List Int} (R : RedSt size vs rows v c k times rest parts) (h : gi rest (rk rows k).at_ = 0) :
    RedSt size vs rows v c (k + 1) times rest parts := by
  have m : TB c k ≤ TB c (k + 1) := TB_mono c (by omega)
  refine ⟨R.t0, R.lr, R.lp, R.eq, fun j hj => ?_, Nat.lt_of_lt_of_le R.bt (Nat.pow_le_pow_right (by decide) m), R.br.mono m, R.bp.mono m⟩
  by_cases e : j = k
  · rw [e]; exact h
  · exact R.nil j (by omega)

/-- the parts behind a row: up times what they were, and down times what the row is made of -/
def newParts (up down : Int) (parts made : List Int) : List Int := (List.range parts.length).map fun i => up * gi parts i + down * gi made i
theorem newParts_len (up down : Int) (parts made : List Int) : (newParts up down parts made).length = parts.length := by
  unfold newParts; rw [List.length_map, List.length_range]
theorem newParts_get {up down : Int} {parts made : List Int} {i : Nat} (h : i < parts.length) : gi (newParts up down parts made) i = up * gi parts i + down * gi made i := by
  refine gi_of ?_
  unfold newParts
  rw [List.getElem?_map, List.getElem?_range h]; rfl
def newRest (up down : Int) (rest row : List Int) : List Int := (List.range rest.length).map fun i => up * gi rest i - down * gi row i
theorem newRest_len (up down : Int) (rest row : List Int) : (newRest up down rest row).length = rest.length := by
  unfold newRest; rw [List.length_map, List.length_range]
theorem newRest_get {up down : Int} {rest row : List Int} {i : Nat} (h : i < rest.length) : gi (newRest up down rest row) i = up * gi rest i - down * gi row i := by
  refine gi_of ?_
  unfold newRest
  rw [List.getElem?_map, List.getElem?_range h]; rfl

theorem RedSt.step {size : Nat} {vs : List (List Int)} {rows : List SRow} {v : List Int} {c k : Nat} {times up down : Int} {rest parts : List Int} (S : SpOk size vs rows) (hk : k < rows.length) (R : RedSt size vs rows v c k times rest parts)
    (hup : up ≠ 0) (hx : up * gi rest (rk rows k).at_ = down * gi (rk rows k).row (rk rows k).at_) (bu : up.natAbs < 2 ^ RB k) (bd : down.natAbs < 2 ^ TB c k) :
    RedSt size vs rows v c (k + 1) (times * up) (newRest up down rest (rk rows k).row) (newParts up down parts (rk rows k).made) := by
  have hkn : k < vs.length := S.len ▸ hk
  have hat : ∀ j, j < rows.length → (rk rows j).at_ < size := fun j hj => S.ech.low j (S.len ▸ hj)
  refine ⟨?_, ?_, ?_, fun x hx' => ?_, fun j hj => ?_, ?_, fun i => ?_, fun i => ?_⟩
  · intro h
    rcases Int.mul_eq_zero.mp h with h | h
    · exact R.t0 h
    · exact hup h
  · rw [newRest_len]; exact R.lr
  · rw [newParts_len]; exact R.lp
  · rw [newRest_get (by rw [R.lr]; exact hx')]
    have h1 := R.eq x hx'
    have h2 : gi (rk rows k).row x = sm vs.length (fun i => gi (rk rows k).made i * vf vs i x) := by
      rw [sm_extend (k := k + 1) (by omega) fun i h1 _ => by rw [gi_out (by rw [S.ml k hk]; exact h1), Int.zero_mul]]
      exact S.ech.row k hkn x hx'
    have h3 : sm vs.length (fun i => gi (newParts up down parts (rk rows k).made) i * vf vs i x) = up * sm vs.length (fun i => gi parts i * vf vs i x) + down * sm vs.length (fun i => gi (rk rows k).made i * vf vs i x) := by
      rw [← sm_mul, ← sm_mul, ← sm_add]
      refine sm_congr fun i hi => ?_
      rw [newParts_get (by rw [R.lp]; exact hi), Int.add_mul, Int.mul_assoc, Int.mul_assoc]
    rw [h3, ← h2, Int.mul_comm times up, Int.mul_assoc, h1, Int.mul_add]
    omega
  · rw [newRest_get (by rw [R.lr]; exact hat j (by omega))]
    by_cases e : j = k
    · rw [e, hx]; omega
    · rw [R.nil j (by omega), S.ech.nil k hkn j (by omega), Int.mul_zero, Int.mul_zero]; rfl
  · have := abs_mul_lt R.bt bu
    refine Nat.lt_of_lt_of_le this (Nat.pow_le_pow_right (by decide) ?_)
    show TB c k + RB k ≤ TB c k + RB k + 1
    omega
  · by_cases hi : i < rest.length
    · rw [newRest_get hi]
      have h1 := abs_mul_lt bu (R.br i)
      have h2 := abs_mul_lt bd (S.br k hk i)
      rw [Nat.add_comm (RB k)] at h1
      exact abs_sub_lt h1 h2
    · rw [gi_out (by rw [newRest_len]; omega)]
      exact Nat.pow_pos (by decide)
  · by_cases hi : i < parts.length
    · rw [newParts_get hi]
      have h1 := abs_mul_lt bu (R.bp i)
      have h2 := abs_mul_lt bd (S.bm k hk i)
      rw [Nat.add_comm (RB k)] at h1
      exact abs_add_lt h1 h2
    · rw [gi_out (by rw [newParts_len]; omega)]
      exact Nat.pow_pos (by decide)

/-- up and down by the common divisor -/
theorem updown {a b : Int} (hb : b ≠ 0) : let g : Int := ((Nat.gcd a.natAbs b.natAbs : Nat) : Int); 0 < g ∧ b / g ≠ 0 ∧ (b / g) * a = (a / g) * b ∧ (b / g).natAbs ≤ b.natAbs ∧ (a / g).natAbs ≤ a.natAbs := by
  intro g
  have g0 : 0 < Nat.gcd a.natAbs b.natAbs := Nat.gcd_pos_of_pos_right _ (by omega)
  have da : g ∣ a := Int.ofNat_dvd_left.mpr (Nat.gcd_dvd_left _ _)
  have db : g ∣ b := Int.ofNat_dvd_left.mpr (Nat.gcd_dvd_right _ _)
  have gp : 0 < g := by show (0 : Int) < ((Nat.gcd a.natAbs b.natAbs : Nat) : Int); omega
  obtain ⟨x, hx⟩ := da
  obtain ⟨y, hy⟩ := db
  have e1 : a / g = x := by rw [hx]; exact Int.mul_ediv_cancel_left _ (by omega)
  have e2 : b / g = y := by rw [hy]; exact Int.mul_ediv_cancel_left _ (by omega)
  refine ⟨gp, ?_, ?_, abs_div_le _ _, abs_div_le _ _⟩
  · rw [e2]; intro h; rw [h, Int.mul_zero] at hy; exact hb hy
  · rw [e1, e2]
    calc y * a = y * (g * x) := by rw [← hx]
      _ = x * (g * y) := by rw [← Int.mul_assoc, Int.mul_comm (y * g), Int.mul_comm y g]
      _ = x * b := by rw [← hy]

theorem RedSt.red {size : Nat} {vs : List (List Int)} {rows : List SRow} {v : List Int} {c : Nat} {times : Int} {rest parts : List Int} (S : SpOk size vs rows) (R : RedSt size vs rows v c rows.length times rest parts) :
    Red vs.length size (vf vs) (fun k => (rk rows k).at_) (gi v) times (gi rest) (gi parts) := ⟨R.t0, R.eq, fun j hj => R.nil j (S.len ▸ hj)⟩
end M64
/-! k64: a vector kept, a vector written, Euclid's steps. -/
namespace M64

/-- what the made part of a kept row is -/
def madeOf (times : Int) (parts : List Int) : List Int := parts.map (fun p => 0 - p) ++ [times]
theorem madeOf_len (times : Int) (parts : List Int) : (madeOf times parts).length = parts.length + 1 := by unfold madeOf; simp
theorem madeOf_low {times : Int} {parts : List Int} {i : Nat} (h : i < parts.length) : gi (madeOf times parts) i = - gi parts i := by
  unfold madeOf
  rw [gi_append_left (by rw [List.length_map]; exact h), gi_map (by decide)]
  omega
theorem madeOf_top {times : Int} {parts : List Int} : gi (madeOf times parts) parts.length = times := by
  unfold madeOf
  have : parts.length = (parts.map (fun p => 0 - p)).length := by rw [List.length_map]
  rw [this]
  exact gi_append_at
def over (c : Int) (l : List Int) : List Int := l.map (· / c)
theorem over_len (c : Int) (l : List Int) : (over c l).length = l.length := List.length_map ..
theorem over_get (c : Int) (l : List Int) (i : Nat) : gi (over c l) i = gi l i / c := gi_map (f := (· / c)) (Int.zero_ediv c) l i
theorem over_one (l : List Int) : over 1 l = l := by
  unfold over
  have : (fun x : Int => x / 1) = id := by funext x; exact Int.ediv_one x
  rw [this, List.map_id]

theorem vf_append_left {vs : List (List Int)} {v : List Int} {i x : Nat} (h : i < vs.length) : vf (vs ++ [v]) i x = vf vs i x := by
  unfold vf
  rw [List.getD_eq_getElem?_getD, List.getD_eq_getElem?_getD, List.getElem?_append_left h]
theorem vf_append_at {vs : List (List Int)} {v : List Int} {x : Nat} : vf (vs ++ [v]) vs.length x = gi v x := by
  unfold vf
  rw [List.getD_eq_getElem?_getD, List.getElem?_append_right (Nat.le_refl _)]
  simp
theorem rk_append_left {rows : List SRow} {r : SRow} {i : Nat} (h : i < rows.length) : rk (rows ++ [r]) i = rk rows i := by
  unfold rk
  rw [List.getD_eq_getElem?_getD, List.getD_eq_getElem?_getD, List.getElem?_append_left h]
theorem rk_append_at {rows : List SRow} {r : SRow} : rk (rows ++ [r]) rows.length = r := by
  unfold rk
  rw [List.getD_eq_getElem?_getD, List.getElem?_append_right (Nat.le_refl _)]
  simp

theorem SpOk.keep {size : Nat} {vs : List (List Int)} {rows : List SRow} {v : List Int} {times : Int} {rest parts : List Int} {a : Nat} {c : Int} (S : SpOk size vs rows) (R : RedSt size vs rows v 24 rows.length times rest parts)
    (hv : v.length = size) (hf : vs.length < 8) (ha : a < size) (hn : gi rest a ≠ 0) (hc : 0 < c) (dr : ∀ i, c ∣ gi rest i) (dm : ∀ i, c ∣ gi (madeOf times parts) i) :
    SpOk size (vs ++ [v]) (rows ++ [⟨a, over c rest, over c (madeOf times parts)⟩]) := by
  have hl := S.len
  have div0 : ∀ x : Int, c ∣ x → x / c * c = x := fun x h => Int.ediv_mul_cancel h
  have nz : ∀ x : Int, c ∣ x → x ≠ 0 → x / c ≠ 0 := fun x h h0 e => by
    have := div0 x h
    rw [e, Int.zero_mul] at this
    exact h0 this.symm
  have small : ∀ x : Int, (x / c).natAbs ≤ x.natAbs := fun x => Int.natAbs_ediv_le_natAbs x c
  have bits : ∀ l : List Int, Bits (TB 24 rows.length) l → Bits (RB rows.length) (over c l) := fun l h i => by
    rw [over_get]
    refine Nat.lt_of_le_of_lt (small _) (Nat.lt_of_lt_of_le (h i) (Nat.pow_le_pow_right (by decide) (TB_RB (by omega))))
  have bmade : Bits (TB 24 rows.length) (madeOf times parts) := fun i => by
    by_cases h1 : i < parts.length
    · rw [madeOf_low h1, Int.natAbs_neg]; exact R.bp i
    · by_cases h2 : i = parts.length
      · rw [h2, madeOf_top]; exact R.bt
      · rw [gi_out (by rw [madeOf_len]; omega)]; exact Nat.pow_pos (by decide)
  refine ⟨by simp [hl], by simp; omega, fun i hi => ?_, fun k hk => ?_, fun k hk => ?_, ?_, fun k hk => ?_, fun k hk => ?_⟩
  · by_cases h : i < vs.length
    · rw [List.getD_eq_getElem?_getD, List.getElem?_append_left h, ← List.getD_eq_getElem?_getD]; exact S.vl i h
    · simp at hi
      have : i = vs.length := by omega
      subst this
      rw [List.getD_eq_getElem?_getD, List.getElem?_append_right (Nat.le_refl _)]
      simpa using hv
  · by_cases h : k < rows.length
    · rw [rk_append_left h]; exact S.rl k h
    · simp at hk
      have : k = rows.length := by omega
      subst this
      rw [rk_append_at, over_len]; exact R.lr
  · by_cases h : k < rows.length
    · rw [rk_append_left h]; exact S.ml k h
    · simp at hk
      have : k = rows.length := by omega
      subst this
      rw [rk_append_at, over_len, madeOf_len, R.lp, hl]
  · -- the triangle
    have lo : ∀ k, k < (vs ++ [v]).length → k < rows.length ∨ k = rows.length := fun k hk => by simp at hk; omega
    refine ⟨fun k hk x hx => ?_, fun k hk => ?_, fun k hk => ?_, fun k hk => ?_, fun k hk j hj => ?_⟩
    · rcases lo k hk with h | h
      · simp only [rk_append_left h]
        rw [S.ech.row k (by omega) x hx]
        exact sm_congr fun i hi => by rw [vf_append_left (by omega)]
      · subst h
        simp only [rk_append_at]
        -- c times both sides
        have e1 : c * (gi rest x / c) = gi rest x := by rw [Int.mul_comm]; exact div0 _ (dr x)
        have e2 : c * sm (rows.length + 1) (fun i => gi (over c (madeOf times parts)) i * vf (vs ++ [v]) i x) = sm (rows.length + 1) (fun i => gi (madeOf times parts) i * vf (vs ++ [v]) i x) := by
          rw [← sm_mul]
          refine sm_congr fun i _ => ?_
          rw [over_get, ← Int.mul_assoc, Int.mul_comm c, div0 _ (dm i)]
        have e3 : sm (rows.length + 1) (fun i => gi (madeOf times parts) i * vf (vs ++ [v]) i x) = gi rest x := by
          show sm rows.length (fun i => gi (madeOf times parts) i * vf (vs ++ [v]) i x) + gi (madeOf times parts) rows.length * vf (vs ++ [v]) rows.length x = gi rest x
          have t1 : gi (madeOf times parts) rows.length = times := by rw [hl, ← R.lp]; exact madeOf_top
          have t2 : vf (vs ++ [v]) rows.length x = gi v x := by rw [hl]; exact vf_append_at
          have t3 : sm rows.length (fun i => gi (madeOf times parts) i * vf (vs ++ [v]) i x) = - sm vs.length (fun i => gi parts i * vf vs i x) := by
            have : sm vs.length (fun i => gi (madeOf times parts) i * vf (vs ++ [v]) i x) = (-1) * sm vs.length (fun i => gi parts i * vf vs i x) := by
              rw [← sm_mul]
              refine sm_congr fun i hi => ?_
              rw [madeOf_low (by rw [R.lp]; exact hi), vf_append_left hi]
              simp [Int.neg_mul]
            rw [hl, this]; omega
          rw [t1, t2, t3, R.eq x hx]; omega
        rw [over_get]
        have : c * (gi rest x / c) = c * sm (rows.length + 1) (fun i => gi (over c (madeOf times parts)) i * vf (vs ++ [v]) i x) := by rw [e1, e2, e3]
        exact Int.eq_of_mul_eq_mul_left (by omega) this
    · rcases lo k hk with h | h
      · simp only [rk_append_left h]; exact S.ech.piv k (by omega)
      · subst h
        simp only [rk_append_at]
        rw [over_get]
        have t1 : gi (madeOf times parts) rows.length = times := by rw [hl, ← R.lp]; exact madeOf_top
        have := nz _ (dm rows.length) (by rw [t1]; exact R.t0)
        exact this
    · rcases lo k hk with h | h
      · simp only [rk_append_left h]; exact S.ech.low k (by omega)
      · subst h; simp only [rk_append_at]; exact ha
    · rcases lo k hk with h | h
      · simp only [rk_append_left h]; exact S.ech.non k (by omega)
      · subst h; simp only [rk_append_at]; rw [over_get]; exact nz _ (dr a) hn
    · rcases lo k hk with h | h
      · simp only [rk_append_left h, rk_append_left (show j < rows.length by omega)]; exact S.ech.nil k (by omega) j hj
      · subst h
        simp only [rk_append_at, rk_append_left hj]
        rw [over_get, R.nil j hj]; exact Int.zero_ediv c
  · by_cases h : k < rows.length
    · rw [rk_append_left h]; exact S.br k h
    · simp at hk
      have : k = rows.length := by omega
      subst this
      rw [rk_append_at]; exact bits _ R.br
  · by_cases h : k < rows.length
    · rw [rk_append_left h]; exact S.bm k h
    · simp at hk
      have : k = rows.length := by omega
      subst this
      rw [rk_append_at]; exact bits _ bmade

theorem SpOk.nil (size : Nat) : SpOk size [] [] :=
  ⟨rfl, by decide, fun i h => absurd h (by simp), fun k h => absurd h (by simp), fun k h => absurd h (by simp), ⟨fun k h => absurd h (by simp), fun k h => absurd h (by simp), fun k h => absurd h (by simp), fun k h => absurd h (by simp), fun k h => absurd h (by simp)⟩, fun k h => absurd h (by simp), fun k h => absurd h (by simp)⟩

/-! ### common divisors -/
def gf (l : List Int) (g : Nat) : Nat := l.foldl (fun g x => Nat.gcd g x.natAbs) g
theorem gf_nil (g : Nat) : gf [] g = g := rfl
theorem gf_cons (x : Int) (l : List Int) (g : Nat) : gf (x :: l) g = gf l (Nat.gcd g x.natAbs) := rfl
theorem gf_append (l m : List Int) (g : Nat) : gf (l ++ m) g = gf m (gf l g) := List.foldl_append ..
theorem gf_dvd : ∀ (l : List Int) (g : Nat), gf l g ∣ g ∧ ∀ x ∈ l, gf l g ∣ x.natAbs
  | [], g => ⟨Nat.dvd_refl g, fun x h => absurd h (by simp)⟩
  | y :: l, g => by
    obtain ⟨h1, h2⟩ := gf_dvd l (Nat.gcd g y.natAbs)
    refine ⟨Nat.dvd_trans h1 (Nat.gcd_dvd_left _ _), fun x hx => ?_⟩
    rcases List.mem_cons.mp hx with e | hx
    · subst e; exact Nat.dvd_trans h1 (Nat.gcd_dvd_right _ _)
    · exact h2 x hx
theorem gf_pos {l : List Int} {g : Nat} (h : 0 < g ∨ ∃ x ∈ l, x ≠ 0) : 0 < gf l g := by
  obtain ⟨h1, h2⟩ := gf_dvd l g
  rcases Nat.eq_zero_or_pos (gf l g) with e | e
  · rw [e] at h1 h2
    rcases h with h | ⟨x, hx, hn⟩
    · have := Nat.eq_zero_of_zero_dvd h1; omega
    · have := Nat.eq_zero_of_zero_dvd (h2 x hx); omega
  · exact e
theorem gf_gi {l : List Int} {g : Nat} (i : Nat) : ((gf l g : Nat) : Int) ∣ gi l i := by
  by_cases hi : i < l.length
  · exact Int.ofNat_dvd_left.mpr ((gf_dvd l g).2 _ (gi_mem hi))
  · rw [gi_out (by omega)]; exact Int.dvd_zero _
theorem gf_over : ∀ (l m : List Int) (g c : Nat), 0 < c → c ∣ g → (∀ x ∈ l, c ∣ x.natAbs) → m.map Int.natAbs = l.map (fun x => x.natAbs / c) → gf m (g / c) = gf l g / c
  | [], [], g, c, _, _, _, _ => rfl
  | [], y :: m, g, c, _, _, _, h => by simp at h
  | x :: l, [], g, c, _, _, _, h => by simp at h
  | x :: l, y :: m, g, c, hc, hg, hl, h => by
    simp only [List.map_cons, List.cons.injEq] at h
    rw [gf_cons, gf_cons, h.1, Nat.gcd_div hg (hl x (by simp))]
    exact gf_over l m (Nat.gcd g x.natAbs) c hc (Nat.dvd_gcd hg (hl x (by simp))) (fun z hz => hl z (by simp [hz])) h.2

/-- written: the answer -/
structure Told (size : Nat) (vs : List (List Int)) (w : List Int) (t : Int) (ps : List Int) : Prop where
  pos : 0 < t
  len : ps.length = vs.length
  eq : ∀ x, x < size → t * gi w x = sm vs.length (fun i => gi ps i * vf vs i x)
  one : gf ps t.natAbs = 1

theorem fdiv_exact {x s : Int} (hs : s ≠ 0) (h : s ∣ x) : x.fdiv s * s = x := by
  obtain ⟨y, rfl⟩ := h
  rw [Int.mul_comm s y, Int.mul_fdiv_cancel _ hs]
theorem fdiv_abs {x s : Int} (hs : s ≠ 0) (h : s ∣ x) : (x.fdiv s).natAbs = x.natAbs / s.natAbs := by
  obtain ⟨y, rfl⟩ := h
  rw [Int.mul_comm s y, Int.mul_fdiv_cancel _ hs, Int.natAbs_mul, Nat.mul_div_cancel _ (by omega)]

theorem RedSt.told {size : Nat} {vs : List (List Int)} {rows : List SRow} {w : List Int} {c k : Nat} {times : Int} {rest parts : List Int} (R : RedSt size vs rows w c k times rest parts) (hz : ∀ x, x < size → gi rest x = 0)
    {s : Int} (hs : s = if times < 0 then 0 - ((gf parts times.natAbs : Nat) : Int) else ((gf parts times.natAbs : Nat) : Int)) : Told size vs w (times.fdiv s) (parts.map fun p => p.fdiv s) := by
  have g0 : 0 < gf parts times.natAbs := gf_pos (.inl (by have := R.t0; omega))
  obtain ⟨d1, d2⟩ := gf_dvd parts times.natAbs
  have s0 : s ≠ 0 := by rw [hs]; split <;> omega
  have sa : s.natAbs = gf parts times.natAbs := by rw [hs]; split <;> omega
  have dv : ∀ x : Int, gf parts times.natAbs ∣ x.natAbs → s ∣ x := fun x h => by
    rw [← sa] at h
    exact Int.natAbs_dvd_natAbs.mp h
  have dt := dv times d1
  have dp : ∀ i, s ∣ gi parts i := fun i => by
    by_cases hi : i < parts.length
    · exact dv _ (d2 _ (gi_mem hi))
    · rw [gi_out (by omega)]; exact Int.dvd_zero _
  have et := fdiv_exact s0 dt
  refine ⟨?_, by rw [List.length_map]; exact R.lp, fun x hx => ?_, ?_⟩
  · -- the sign
    have hne : times.fdiv s ≠ 0 := fun e => by rw [e, Int.zero_mul] at et; exact R.t0 et.symm
    rcases Int.lt_or_gt_of_ne hne with h | h
    · exfalso
      have hs' := hs
      split at hs'
      · have : 0 < times.fdiv s * s := Int.mul_pos_of_neg_of_neg h (by omega)
        omega
      · have h2 : times.fdiv s * s < 0 := Int.mul_neg_of_neg_of_pos h (by omega)
        omega
    · exact h
  · have h1 := R.eq x hx
    rw [hz x hx, Int.zero_add] at h1
    have h2 : s * (times.fdiv s * gi w x) = s * sm vs.length (fun i => gi (parts.map fun p => p.fdiv s) i * vf vs i x) := by
      rw [← Int.mul_assoc, Int.mul_comm s, et, h1, ← sm_mul]
      refine sm_congr fun i _ => ?_
      rw [gi_map (by exact Int.zero_fdiv s), ← Int.mul_assoc, Int.mul_comm s, fdiv_exact s0 (dp i)]
    exact Int.eq_of_mul_eq_mul_left s0 h2
  · have e := gf_over parts (parts.map fun p => p.fdiv s) times.natAbs (gf parts times.natAbs) g0 d1 d2 (by
      rw [List.map_map]
      refine List.map_congr_left fun p hp => ?_
      show (p.fdiv s).natAbs = p.natAbs / _
      rw [fdiv_abs s0 (dv p (d2 p hp)), sa])
    rw [fdiv_abs s0 dt, sa, e]
    exact Nat.div_self g0

/-- a told answer is small where the vectors are -/
theorem Told.small {size : Nat} {vs : List (List Int)} {rows : List SRow} {w : List Int} {t : Int} {ps : List Int} {A : Nat} (S : SpOk size vs rows) (T : Told size vs w t ps)
    (hA : ∀ i, i < vs.length → ∀ x, -(A : Int) ≤ vf vs i x ∧ vf vs i x ≤ (A : Int)) (hw : ∀ x, -(A : Int) ≤ gi w x ∧ gi w x ≤ (A : Int)) : t.natAbs ≤ (2 * (vs.length + 1) * A + 1) ^ vs.length := by
  -- unknowns: the parts, then times; equations at the places
  let a : Nat → Nat := fun k => (rk rows k).at_
  obtain ⟨x, ⟨i0, hi0, hx0⟩, hb, he⟩ := small_solution (n := vs.length) (A := A) (fun i j => if i < vs.length then vf vs i (a j) else - gi w (a j)) (fun i hi j hj => by
    show -(A : Int) ≤ (if i < vs.length then vf vs i (a j) else - gi w (a j)) ∧ (if i < vs.length then vf vs i (a j) else - gi w (a j)) ≤ (A : Int)
    split
    · exact hA i (by assumption) _
    · have := hw (a j); omega)
  have he' : ∀ j, j < vs.length → x vs.length * gi w (a j) = sm vs.length (fun i => x i * vf vs i (a j)) := fun j hj => by
    have h := he j hj
    have h1 : sm vs.length (fun i => x i * (if i < vs.length then vf vs i (a j) else - gi w (a j))) + x vs.length * (if vs.length < vs.length then vf vs vs.length (a j) else - gi w (a j)) = 0 := h
    rw [if_neg (by omega), sm_congr (g := fun i => x i * vf vs i (a j)) fun i hi => by rw [if_pos hi], Int.mul_neg] at h1
    omega
  have p := S.ech.prop (t := x vs.length) (u := t) (c := x) (d := gi ps) (w := gi w) he' (fun j hj => T.eq _ (S.ech.low j hj))
  -- t divides times' own
  have xt : x vs.length ≠ 0 := fun e => by
    by_cases h : i0 < vs.length
    · have := p i0 h
      rw [e, Int.zero_mul] at this
      rcases Int.mul_eq_zero.mp this with h | h
      · have := T.pos; omega
      · exact hx0 h
    · have : i0 = vs.length := by omega
      rw [this] at hx0; exact hx0 e
  have key : ∀ (l : List Int) (g : Nat), (t.natAbs ∣ (x vs.length).natAbs * g) → (∀ z ∈ l, t.natAbs ∣ (x vs.length).natAbs * z.natAbs) → t.natAbs ∣ (x vs.length).natAbs * gf l g := by
    intro l
    induction l with
    | nil => intro g hg _; exact hg
    | cons z l ih =>
      intro g hg hl
      refine ih _ ?_ fun y hy => hl y (by simp [hy])
      rw [← Nat.gcd_mul_left]
      exact Nat.dvd_gcd hg (hl z (by simp))
  have hd : t.natAbs ∣ (x vs.length).natAbs * gf ps t.natAbs := key ps t.natAbs (Nat.dvd_mul_left _ _) fun z hz => by
    obtain ⟨i, hi, rfl⟩ := List.mem_iff_getElem.mp hz
    have h := p i (by rw [← T.len]; exact hi)
    have e : gi ps i = ps[i] := gi_of (List.getElem?_eq_getElem hi)
    rw [e] at h
    rw [← Int.natAbs_mul, ← h, Int.natAbs_mul]
    exact Nat.dvd_mul_right _ _
  rw [T.one, Nat.mul_one] at hd
  have := Nat.le_of_dvd (by omega) hd
  exact Nat.le_trans this (hb vs.length (Nat.le_refl _))

/-! ### Euclid -/
def fibp : Nat → Nat × Nat
  | 0 => (0, 1)
  | n + 1 => ((fibp n).2, (fibp n).1 + (fibp n).2)
def fib (n : Nat) : Nat := (fibp n).1
theorem fib_succ (n : Nat) : fib (n + 2) = fib n + fib (n + 1) := rfl
theorem fib_mono (n : Nat) : fib (n + 1) ≤ fib (n + 2) := by rw [fib_succ]; omega
def eu : Nat → Nat → Nat → Nat × Nat
  | 0, a, b => (a, b)
  | n + 1, a, b => if b = 0 then (a, b) else eu n b (a % b)
theorem eu_zero (n a : Nat) : eu n a 0 = (a, 0) := by cases n <;> rfl
theorem eu_gcd : ∀ (n a b : Nat), (eu n a b).2 = 0 → (eu n a b).1 = Nat.gcd a b
  | 0, a, b, h => by
    have : b = 0 := h
    subst this; exact (Nat.gcd_zero_right a).symm
  | n + 1, a, b, h => by
    unfold eu at h ⊢
    split
    · rename_i e; subst e; exact (Nat.gcd_zero_right a).symm
    · rename_i e
      rw [if_neg e] at h
      rw [eu_gcd n b (a % b) h, Nat.gcd_comm b, ← Nat.gcd_rec, Nat.gcd_comm]
theorem lame : ∀ (n a b : Nat), b < a → (eu n a b).2 ≠ 0 → fib (n + 1) ≤ b ∧ fib (n + 2) ≤ a
  | 0, a, b, h, hne => by
    have : b ≠ 0 := hne
    exact ⟨show 1 ≤ b by omega, show 1 ≤ a by omega⟩
  | n + 1, a, b, h, hne => by
    unfold eu at hne
    split at hne
    · rename_i e; exact absurd e hne
    · rename_i e
      obtain ⟨h1, h2⟩ := lame n b (a % b) (Nat.mod_lt _ (by omega)) hne
      refine ⟨h2, ?_⟩
      have e2 : fib (n + 1 + 2) = fib (n + 1) + fib (n + 2) := rfl
      rw [e2]
      have h3 := Nat.div_add_mod a b
      have h4 : 1 ≤ a / b := Nat.div_pos (by omega) (by omega)
      have h5 : b * 1 ≤ b * (a / b) := Nat.mul_le_mul_left b h4
      omega
theorem eu_ends {n a b : Nat} (h : min a b < fib (n + 1)) : (eu (n + 1) a b).2 = 0 := by
  by_cases e : (eu (n + 1) a b).2 = 0
  · exact e
  · exfalso
    by_cases hba : b < a
    · obtain ⟨h1, _⟩ := lame (n + 1) a b hba e
      have := fib_mono n
      have e2 : fib (n + 1 + 1) = fib (n + 2) := rfl
      omega
    · unfold eu at e
      split at e
      · rename_i z; exact e z
      · rename_i z
        by_cases hab : a = b
        · subst hab
          rw [Nat.mod_self, eu_zero] at e
          exact e rfl
        · rw [Nat.mod_eq_of_lt (by omega)] at e
          obtain ⟨h1, _⟩ := lame n b a (by omega) e
          omega
theorem bound400 : (2 * (8 + 1) * 432047955 + 1) ^ 8 < fib 400 := by decide +kernel
end M64
/-! k64: the text by places; rules of my own; the data. -/
namespace W64
open PySem PySem.Spec PyProof.Rows L2
def top (i : Nat) : Stmt := PySem.Challenge.pw_threescribes_k64_writings_of_vectors.main.body.getD i (.Pass ⟨0, 0, 0, 0⟩)
abbrev s_init : Stmt := inClass (top 2) 0
theorem sc_init : FnScope ["self"] ["self"] (defScope s_init) := ⟨rfl, rfl, rfl, by decide +kernel, rfl, by decide +kernel, by decide +kernel⟩
abbrev s_reduced : Stmt := inClass (top 2) 1
theorem sc_reduced : FnScope ["self", "vector", "times", "rest", "parts", "at", "row", "made", "common", "up", "down", "k", "part", "_", "a", "b"] ["self", "vector"] (defScope s_reduced) := ⟨rfl, rfl, rfl, by decide +kernel, rfl, by decide +kernel, by decide +kernel⟩
abbrev s_keep : Stmt := inClass (top 2) 2
theorem sc_keep : FnScope ["self", "vector", "times", "rest", "parts", "places", "made", "common", "member", "at", "part", "a"] ["self", "vector"] (defScope s_keep) := ⟨rfl, rfl, rfl, by decide +kernel, rfl, by decide +kernel, by decide +kernel⟩
abbrev s_writing : Stmt := inClass (top 2) 3
theorem sc_writing : FnScope ["self", "vector", "times", "rest", "parts", "common", "part", "member"] ["self", "vector"] (defScope s_writing) := ⟨rfl, rfl, rfl, by decide +kernel, rfl, by decide +kernel, by decide +kernel⟩
abbrev s_written : Stmt := top 3
theorem sc_written : FnScope ["vectors", "vector", "space", "one"] ["vectors", "vector"] (defScope s_written) := ⟨rfl, rfl, rfl, by decide +kernel, rfl, by decide +kernel, by decide +kernel⟩
abbrev s_mix : Stmt := top 5
theorem sc_mix : FnScope ["cell", "k", "low"] ["cell", "k"] (defScope s_mix) := ⟨rfl, rfl, rfl, by decide +kernel, rfl, by decide +kernel, by decide +kernel⟩
abbrev s_stream : Stmt := top 6
theorem sc_stream : FnScope ["script", "most", "row", "k", "rest", "j"] ["script", "most"] (defScope s_stream) := ⟨rfl, rfl, rfl, by decide +kernel, rfl, by decide +kernel, by decide +kernel⟩
abbrev s_pick : Stmt := top 7
theorem sc_pick : FnScope ["draws", "many", "at", "number"] ["draws", "many"] (defScope s_pick) := ⟨rfl, rfl, rfl, by decide +kernel, rfl, by decide +kernel, by decide +kernel⟩
abbrev s_gcd : Stmt := top 8
theorem sc_gcd : FnScope ["one", "other", "turn"] ["one", "other"] (defScope s_gcd) := ⟨rfl, rfl, rfl, by decide +kernel, rfl, by decide +kernel, by decide +kernel⟩
abbrev s_lred : Stmt := top 9
theorem sc_lred : FnScope ["rows", "vector", "rest", "at", "row", "up", "down", "k"] ["rows", "vector"] (defScope s_lred) := ⟨rfl, rfl, rfl, by decide +kernel, rfl, by decide +kernel, by decide +kernel⟩
abbrev s_kept : Stmt := top 10
theorem sc_kept : FnScope ["rows", "vector", "rest", "places", "k"] ["rows", "vector"] (defScope s_kept) := ⟨rfl, rfl, rfl, by decide +kernel, rfl, by decide +kernel, by decide +kernel⟩
abbrev s_members : Stmt := top 11
theorem sc_members : FnScope ["draws", "size", "large", "found", "k", "number"] ["draws", "size"] (defScope s_members) := ⟨rfl, rfl, rfl, by decide +kernel, rfl, by decide +kernel, by decide +kernel⟩
abbrev s_right : Stmt := top 12
theorem sc_right : FnScope ["vectors", "rows", "vector", "told", "number", "common", "part", "at", "member", "k"] ["vectors", "rows", "vector"] (defScope s_right) := ⟨rfl, rfl, rfl, by decide +kernel, rfl, by decide +kernel, by decide +kernel⟩
abbrev s_law : Stmt := top 13
theorem sc_law : FnScope ["script", "draws", "size", "vectors", "rows", "turn", "vector", "longer", "mixed", "factor", "common", "member", "changed", "at", "due", "k"] ["script"] (defScope s_law) := ⟨rfl, rfl, rfl, by decide +kernel, rfl, by decide +kernel, by decide +kernel⟩
/-! ### rules of my own -/
/-- // by a divisor that is not 0, below 2 ^ 9000 in size -/
def CDivZ (_ j : Int) : Prop := j ≠ 0 ∧ j.natAbs.log2 < 9000
section
variable {X : Cx}
theorem op_fdivZ : OpR X (binaryOp .FloorDiv) (rI CDivZ fun i j => .int (i.fdiv j)) := opI fun i j _ _ _ _ _ hc q =>
  floordiv_int hc.1 q (.inl (PyProof.noPylong_of_log2 hc.2))
/-- xs[i], a list, i not negative, by values -/
def rGetL (K : PySem.W.Frag) : V → V → Hp → VK → Prop := fun x y H Q => ∃ p xs i v, x = .ref p ∧ y = .int i ∧ SqL K H p xs ∧ 0 ≤ i ∧ atI xs i = some v ∧ Q v H
end
end W64
/-! k64: the data in the heap, the promises. -/
namespace W64
open PySem PySem.Spec PyProof.Rows L2 M64

abbrev zs (l : List Int) : List V := l.map V.int
theorem zs_at {l : List Int} {i : Nat} {v : V} (h : (zs l)[i]? = some v) : v = .int (gi l i) ∧ i < l.length := by
  rw [List.getElem?_map] at h
  cases e : l[i]? with
  | none => rw [e] at h; cases h
  | some x =>
    rw [e] at h
    have := Option.some.inj h
    rw [gi_of e]
    exact ⟨this.symm, (List.getElem?_eq_some_iff.mp e).1⟩
theorem zs_get {l : List Int} {i : Nat} (h : i < l.length) : (zs l)[i]? = some (.int (gi l i)) := by
  rw [List.getElem?_map, gi_get h]; rfl
theorem zs_len (l : List Int) : (zs l).length = l.length := List.length_map ..

/-! ### heaps -/
theorem Same.tup {K : PySem.W.Frag} {H H' : Hp} {a : Addr} {xs : List V} (e : Same H H') (h : SqT K H a xs) : SqT K H' a xs := by
  rcases h with (h | ⟨o, h⟩) | h
  · exact .inl (.inl (e _ _ h))
  · exact .inl (.inr ⟨o, e _ _ h⟩)
  · exact .inr h
theorem Same.new {H : Hp} {p : Addr} {o : HO} (h : H p = none) : Same H (upd H p o) := fun b x e => by
  rw [upd_ne (ne_of_none e h)]
  exact e
/-- an object that H does not know may change -/
theorem Same.mut {H H' : Hp} {p : Addr} {o : HO} (e : Same H H') (h : H p = none) : Same H (upd H' p o) := fun b u hb => by
  rw [upd_ne (ne_of_none hb h)]
  exact e b u hb
/-- a heap without what stands at d -/
def hid (d : Addr) (H : Hp) : Hp := fun b => if b = d then none else H b
theorem hid_ne {d b : Addr} {H : Hp} (h : b ≠ d) : hid d H b = H b := if_neg h
theorem hid_at {d : Addr} {H : Hp} : hid d H d = none := if_pos rfl
theorem hid_some {d b : Addr} {H : Hp} {o : HO} (h : hid d H b = some o) : b ≠ d ∧ H b = some o := by
  unfold hid at h
  split at h
  · cases h
  · exact ⟨by assumption, h⟩
theorem hid_none {d b : Addr} {H : Hp} (h : H b = none) : hid d H b = none := by
  unfold hid
  split
  · rfl
  · exact h
/-- all but d is as it was -/
abbrev SameBut (d : Addr) (H H' : Hp) : Prop := Same (hid d H) H'
theorem but_refl (d : Addr) (H : Hp) : SameBut d H H := fun _ _ h => (hid_some h).2
theorem but_of {d : Addr} {H H' : Hp} (e : Same H H') : SameBut d H H' := fun b o h => e b o (hid_some h).2
theorem but_trans {d : Addr} {H H1 H2 : Hp} (a : SameBut d H H1) (b : SameBut d H1 H2) : SameBut d H H2 := fun c o h =>
  b c o (by rw [hid_ne (hid_some h).1]; exact a c o h)
theorem but_at {d b : Addr} {H H1 : Hp} {o : HO} (a : SameBut d H H1) (n : b ≠ d) (h : H b = some o) : H1 b = some o := a b o (by rw [hid_ne n]; exact h)
/-- what H0 knows is as it was, where d is none of it -/
theorem then_but {d : Addr} {H0 H H1 : Hp} (e : Same H0 H) (b : SameBut d H H1) (h : H0 d = none) : Same H0 H1 := fun a o ha => but_at b (ne_of_none ha h) (e a o ha)
theorem but_free {d b : Addr} {H H1 : Hp} (a : SameBut d H H1) (n : b ≠ d) (h : H1 b = none) : H b = none := by
  cases e : H b with
  | none => rfl
  | some o => rw [but_at a n e] at h; cases h

/-! ### the draws: a dict with a list of zs, a place and a seed -/
def drD (lr : Addr) (a s : Int) : List (Key × V) := [(.inr "row", .ref lr), (.inr "at", .int a), (.inr "seed", .int s)]
def Dr (H : Hp) (d lr : Addr) : Prop := ∃ (a s : Int), H d = some (.dK (drD lr a s)) ∧ 0 ≤ a
theorem str_ra : ¬ (("row" : Str) = "at") := by decide +kernel
theorem str_rs : ¬ (("row" : Str) = "seed") := by decide +kernel
theorem str_as : ¬ (("at" : Str) = "seed") := by decide +kernel
theorem key_ra : ¬ ((Sum.inr ("row" : Str) : Key) = Sum.inr ("at" : Str)) := fun e => str_ra (Sum.inr.inj e)
theorem key_rs : ¬ ((Sum.inr ("row" : Str) : Key) = Sum.inr ("seed" : Str)) := fun e => str_rs (Sum.inr.inj e)
theorem key_as : ¬ ((Sum.inr ("at" : Str) : Key) = Sum.inr ("seed" : Str)) := fun e => str_as (Sum.inr.inj e)
theorem dr_row (lr : Addr) (a s : Int) : valV (drD lr a s) (Sum.inr ("row" : Str)) = some (.ref lr) := valV_pos rfl
theorem dr_at (lr : Addr) (a s : Int) : valV (drD lr a s) (Sum.inr ("at" : Str)) = some (.int a) := (valV_neg key_ra).trans (valV_pos rfl)
theorem dr_seed (lr : Addr) (a s : Int) : valV (drD lr a s) (Sum.inr ("seed" : Str)) = some (.int s) := (valV_neg key_rs).trans ((valV_neg key_as).trans (valV_pos rfl))
theorem dr_put (lr : Addr) (a s b : Int) : putK (drD lr a s) (Sum.inr ("at" : Str)) (.int b) = drD lr b s := by
  have e : ((drD lr a s).any fun kv => decide (kv.1 = (Sum.inr ("at" : Str) : Key))) = true := by
    rw [valV_any, dr_at]; rfl
  unfold putK
  rw [if_pos e]
  show [if (Sum.inr ("row" : Str) : Key) = Sum.inr ("at" : Str) then _ else _, if (Sum.inr ("at" : Str) : Key) = Sum.inr ("at" : Str) then _ else _, if (Sum.inr ("seed" : Str) : Key) = Sum.inr ("at" : Str) then _ else _] = _
  rw [if_neg key_ra, if_pos rfl, if_neg fun e => key_as e.symm]
  rfl
theorem Dr.same {H H' : Hp} {d lr : Addr} (h : Dr H d lr) (e : Same H H') : Dr H' d lr := by
  obtain ⟨a, s, h1, h2⟩ := h
  exact ⟨a, s, e _ _ h1, h2⟩
theorem Dr.ne {H : Hp} {d lr p : Addr} (h : Dr H d lr) (n : H p = none) : p ≠ d := fun e => by
  obtain ⟨a, s, h1, _⟩ := h
  rw [e, h1] at n; cases n
theorem Dr.mut {H : Hp} {d lr p : Addr} {o : HO} (h : Dr H d lr) (n : p ≠ d) : Dr (upd H p o) d lr := by
  obtain ⟨a, s, h1, h2⟩ := h
  exact ⟨a, s, by rw [upd_ne n.symm]; exact h1, h2⟩
theorem Dr.hidL {K : PySem.W.Frag} {H : Hp} {d lr a : Addr} {xs : List V} (h : Dr H d lr) (l : SqL K H a xs) : SqL K (hid d H) a xs := by
  obtain ⟨_, _, h1, _⟩ := h
  rcases l with (z | ⟨o, z⟩) | z
  · exact .inl (.inl (by rw [hid_ne (ne_of z h1 (by intro c; cases c))]; exact z))
  · exact .inl (.inr ⟨o, by rw [hid_ne (ne_of z h1 (by intro c; cases c))]; exact z⟩)
  · exact .inr z
theorem Dr.hidT {K : PySem.W.Frag} {H : Hp} {d lr a : Addr} {xs : List V} (h : Dr H d lr) (l : SqT K H a xs) : SqT K (hid d H) a xs := by
  obtain ⟨_, _, h1, _⟩ := h
  rcases l with (z | ⟨o, z⟩) | z
  · exact .inl (.inl (by rw [hid_ne (ne_of z h1 (by intro c; cases c))]; exact z))
  · exact .inl (.inr ⟨o, by rw [hid_ne (ne_of z h1 (by intro c; cases c))]; exact z⟩)
  · exact .inr z

/-! ### vectors and rows -/
/-- the objects xs are tuples of the ints vs -/
def Vecs (K : PySem.W.Frag) (H : Hp) (xs : List V) (vs : List (List Int)) : Prop := xs.length = vs.length ∧ ∀ i, i < vs.length → ∃ p, xs[i]? = some (.ref p) ∧ SqT K H p (zs (vs.getD i []))
theorem Vecs.same {K : PySem.W.Frag} {H H' : Hp} {xs : List V} {vs : List (List Int)} (h : Vecs K H xs vs) (e : Same H H') : Vecs K H' xs vs := ⟨h.1, fun i hi => by
  obtain ⟨p, h1, h2⟩ := h.2 i hi
  exact ⟨p, h1, Same.tup e h2⟩⟩
theorem Vecs.nil {K : PySem.W.Frag} {H : Hp} : Vecs K H [] [] := ⟨rfl, fun i h => absurd h (by simp)⟩
theorem Vecs.push {K : PySem.W.Frag} {H : Hp} {xs : List V} {vs : List (List Int)} {p : Addr} {v : List Int} (h : Vecs K H xs vs) (hp : SqT K H p (zs v)) : Vecs K H (xs ++ [.ref p]) (vs ++ [v]) := by
  refine ⟨by simp [h.1], fun i hi => ?_⟩
  by_cases hl : i < vs.length
  · obtain ⟨q, h1, h2⟩ := h.2 i hl
    refine ⟨q, ?_, ?_⟩
    · rw [List.getElem?_append_left (by rw [h.1]; exact hl)]; exact h1
    · rw [List.getD_eq_getElem?_getD, List.getElem?_append_left hl, ← List.getD_eq_getElem?_getD]; exact h2
  · simp at hi
    have : i = vs.length := by omega
    subst this
    refine ⟨p, ?_, ?_⟩
    · rw [← h.1]; simp
    · simpa using hp
/-- rows of the law: tuples of a place and a list -/
def LRows (K : PySem.W.Frag) (H : Hp) (xs : List V) (rs : List SRow) : Prop := xs.length = rs.length ∧ ∀ i, i < rs.length → ∃ p l, xs[i]? = some (.ref p) ∧ SqT K H p [.int (rk rs i).at_, .ref l] ∧ SqL K H l (zs (rk rs i).row)
theorem LRows.same {K : PySem.W.Frag} {H H' : Hp} {xs : List V} {rs : List SRow} (h : LRows K H xs rs) (e : Same H H') : LRows K H' xs rs := ⟨h.1, fun i hi => by
  obtain ⟨p, l, h1, h2, h3⟩ := h.2 i hi
  exact ⟨p, l, h1, Same.tup e h2, e.seq h3⟩⟩
/-- rows of a Space: tuples of a place and two lists -/
def SRows (K : PySem.W.Frag) (H : Hp) (xs : List V) (rs : List SRow) : Prop := xs.length = rs.length ∧ ∀ i, i < rs.length → ∃ p l m, xs[i]? = some (.ref p) ∧ SqT K H p [.int (rk rs i).at_, .ref l, .ref m] ∧ SqL K H l (zs (rk rs i).row) ∧ SqL K H m (zs (rk rs i).made)
theorem LRows.push {K : PySem.W.Frag} {H : Hp} {xs : List V} {rs : List SRow} {p l : Addr} {r : SRow} (h : LRows K H xs rs) (hp : SqT K H p [.int r.at_, .ref l]) (hl : SqL K H l (zs r.row)) : LRows K H (xs ++ [.ref p]) (rs ++ [r]) := by
  refine ⟨by simp [h.1], fun i hi => ?_⟩
  by_cases hlt : i < rs.length
  · obtain ⟨q, m, h1, h2, h3⟩ := h.2 i hlt
    rw [rk_append_left hlt]
    exact ⟨q, m, by rw [List.getElem?_append_left (by rw [h.1]; exact hlt)]; exact h1, h2, h3⟩
  · simp at hi
    have : i = rs.length := by omega
    subst this
    rw [rk_append_at]
    exact ⟨p, l, by rw [← h.1]; simp, hp, hl⟩
theorem SRows.same {K : PySem.W.Frag} {H H' : Hp} {xs : List V} {rs : List SRow} (h : SRows K H xs rs) (e : Same H H') : SRows K H' xs rs := ⟨h.1, fun i hi => by
  obtain ⟨p, l, m, h1, h2, h3, h4⟩ := h.2 i hi
  exact ⟨p, l, m, h1, Same.tup e h2, e.seq h3, e.seq h4⟩⟩

theorem SRows.push {K : PySem.W.Frag} {H : Hp} {xs : List V} {rs : List SRow} {p l m : Addr} {r : SRow} (h : SRows K H xs rs) (hp : SqT K H p [.int r.at_, .ref l, .ref m]) (hl : SqL K H l (zs r.row)) (hm : SqL K H m (zs r.made)) : SRows K H (xs ++ [.ref p]) (rs ++ [r]) := by
  refine ⟨by simp [h.1], fun i hi => ?_⟩
  by_cases hlt : i < rs.length
  · obtain ⟨q, a, b, h1, h2, h3, h4⟩ := h.2 i hlt
    rw [rk_append_left hlt]
    exact ⟨q, a, b, by rw [List.getElem?_append_left (by rw [h.1]; exact hlt)]; exact h1, h2, h3, h4⟩
  · simp at hi
    have : i = rs.length := by omega
    subst this
    rw [rk_append_at]
    exact ⟨p, l, m, by rw [← h.1]; simp, hp, hl, hm⟩

/-! ### an instance of Space -/
theorem str_vr : ¬ (("vectors" : Str) = "rows") := by decide +kernel
def spF (lv lr : Addr) : List (Str × V) := putF "rows" (.ref lr) (putF "vectors" (.ref lv) [])
theorem spF_v (lv lr : Addr) : (spF lv lr).lookup ("vectors" : Str) = some (.ref lv) := by
  unfold spF
  rw [lookup_putF, if_neg str_vr, lookup_putF, if_pos rfl]
theorem spF_r (lv lr : Addr) : (spF lv lr).lookup ("rows" : Str) = some (.ref lr) := by
  unfold spF
  rw [lookup_putF, if_pos rfl]
theorem spF_no (lv lr : Addr) {m : Str} (h1 : ¬ m = "rows") (h2 : ¬ m = "vectors") : (spF lv lr).lookup m = none := by
  unfold spF
  rw [lookup_putF, if_neg h1, lookup_putF, if_neg h2]
  rfl
/-- at s a Space with the lists at lv and lr; they hold xs and ys -/
structure SpaceAt (K : PySem.W.Frag) (C : Addr) (H : Hp) (s lv lr : Addr) (xs ys : List V) : Prop where
  ob : ∃ dx, H s = some (.ins C dx (spF lv lr))
  hv : H lv = some (.lst xs)
  hr : H lr = some (.lst ys)
  ne : lv ≠ lr

/-! ### the promises -/
section
variable (K : PySem.W.Frag)
def spMix : Sp := fun vs H Q _ => ∃ c k : Int, vs = [.int c, .int k] ∧ ∀ r, Q (.int r) H
def spStream : Sp := fun vs H Q _ => ∃ (a : Addr) (ns : List Int) (m : Int), vs = [.ref a, .int m] ∧ SqL K H a (zs ns) ∧ ns.length ≤ 63 ∧ 0 ≤ m ∧ m ≤ 1000 ∧ ∀ d lr row H', H d = none → Same H H' → Dr H' d lr → SqL K H' lr (zs row) → Q (.ref d) H'
def spPick : Sp := fun vs H Q _ => ∃ (d lr : Addr) (m : Int) (row : List Int), vs = [.ref d, .int m] ∧ 0 < m ∧ Dr H d lr ∧ SqL K H lr (zs row) ∧ ∀ r H', 0 ≤ r → r < m → SameBut d H H' → Dr H' d lr → Q (.int r) H'
def spGcd : Sp := fun vs H Q _ => ∃ a b : Int, vs = [.int a, .int b] ∧ min a.natAbs b.natAbs < fib 400 ∧ Q (.int (Nat.gcd a.natAbs b.natAbs : Nat)) H
/-- a list or a tuple of ints -/
def Seq (K : PySem.W.Frag) (H : Hp) (a : Addr) (l : List Int) : Prop := SqL K H a (zs l) ∨ SqT K H a (zs l)
theorem Seq.same {K : PySem.W.Frag} {H H' : Hp} {a : Addr} {l : List Int} (h : Seq K H a l) (e : Same H H') : Seq K H' a l := by
  rcases h with h | h
  · exact .inl (e.seq h)
  · exact .inr (Same.tup e h)
def spLred : Sp := fun vs H Q _ => ∃ (ar av : Addr) (xs : List V) (size : Nat) (us : List (List Int)) (rs : List SRow) (v : List Int) (c : Nat), vs = [.ref ar, .ref av] ∧ SqL K H ar xs ∧ LRows K H xs rs ∧ SpOk size us rs ∧ Seq K H av v ∧ v.length = size ∧ size ≤ 1000 ∧ Bits c v ∧ 0 < c ∧ c ≤ 64 ∧
  ∀ l H' times rest parts, H l = none → Same H H' → H' l = some (.lst (zs rest)) → RedSt size us rs v c rs.length times rest parts → Q (.ref l) H'
def spKept : Sp := fun vs H Q _ => ∃ (ar av : Addr) (xs : List V) (size : Nat) (us : List (List Int)) (rs : List SRow) (v : List Int), vs = [.ref ar, .ref av] ∧ H ar = some (.lst xs) ∧ LRows K H xs rs ∧ SpOk size us rs ∧ us.length < 8 ∧ Seq K H av v ∧ v.length = size ∧ size ≤ 1000 ∧ Bits 24 v ∧
  Q (.ref ar) H ∧ (∀ H', Same H H' → Q (.ref ar) H') ∧ ∀ l H' ys rs', H l = none → Same H H' → H' l = some (.lst ys) → LRows K H' ys rs' → SpOk size (us ++ [v]) rs' → rs'.length = rs.length + 1 → Q (.ref l) H'
def spMembers : Sp := fun vs H Q _ => ∃ (d lr : Addr) (n : Int) (row : List Int), vs = [.ref d, .int n] ∧ 0 ≤ n ∧ n ≤ 1000 ∧ Dr H d lr ∧ SqL K H lr (zs row) ∧ ∀ p H' v, H p = none → SameBut d H H' → Dr H' d lr → H' p = some (.tup (zs v)) → (v.length : Int) = n → (∀ i, -9000000 ≤ gi v i ∧ gi v i ≤ 9000999) → Q (.ref p) H'
/-- Space.__init__ -/
def spInit (C : Addr) : Sp := fun vs H Q _ => ∃ (p dx : Addr), vs = [.ref p] ∧ H p = some (.ins C dx []) ∧ ∀ (lv lr : Addr) (H' : Hp), H lv = none → H lr = none → SpaceAt K C H' p lv lr [] [] → (∀ b o, H b = some o → b ≠ p → H' b = some o) → Q .non H'
def spReduced (C : Addr) : Sp := fun vs H Q _ => ∃ (s av lv lr : Addr) (xs ys : List V) (size : Nat) (us : List (List Int)) (rs : List SRow) (v : List Int) (c : Nat), vs = [.ref s, .ref av] ∧ SpaceAt K C H s lv lr xs ys ∧ xs.length = us.length ∧ SRows K H ys rs ∧ SpOk size us rs ∧ SqT K H av (zs v) ∧ v.length = size ∧ size ≤ 1000 ∧ Bits c v ∧ 0 < c ∧ c ≤ 64 ∧
  ∀ p l m H' times rest parts, H p = none → H l = none → H m = none → Same H H' → H' p = some (.tup [.int times, .ref l, .ref m]) → H' l = some (.lst (zs rest)) → H' m = some (.lst (zs parts)) → RedSt size us rs v c rs.length times rest parts → Q (.ref p) H'
def spKeep (C : Addr) : Sp := fun vs H Q _ => ∃ (s av lv lr : Addr) (xs ys : List V) (size : Nat) (us : List (List Int)) (rs : List SRow) (v : List Int), vs = [.ref s, .ref av] ∧ SpaceAt K C H s lv lr xs ys ∧ Vecs K H xs us ∧ SRows K H ys rs ∧ SpOk size us rs ∧ us.length < 8 ∧ SqT K H av (zs v) ∧ v.length = size ∧ size ≤ 1000 ∧ Bits 24 v ∧ ¬ InSpan us.length size (vf us) (gi v) ∧
  ∀ H' xs' ys' rs', SpaceAt K C H' s lv lr xs' ys' → Vecs K H' xs' (us ++ [v]) → SRows K H' ys' rs' → SpOk size (us ++ [v]) rs' → (∀ b o, H b = some o → b ≠ lv → b ≠ lr → H' b = some o) → Q (.bl true) H'
/-- what writing (and written) hands back -/
def Answer (size : Nat) (us : List (List Int)) (w : List Int) (H : Hp) (Q : VK) : Prop :=
  (∀ H', Same H H' → ¬ InSpan us.length size (vf us) (gi w) → Q .non H') ∧
  ∀ p q H' t ps, H p = none → H q = none → Same H H' → InSpan us.length size (vf us) (gi w) → Told size us w t ps → Bits 8300 ps → H' p = some (.tup [.int t, .ref q]) → H' q = some (.tup (zs ps)) → Q (.ref p) H'
def spWriting (C : Addr) : Sp := fun vs H Q _ => ∃ (s av lv lr : Addr) (xs ys : List V) (size : Nat) (us : List (List Int)) (rs : List SRow) (v : List Int) (c : Nat), vs = [.ref s, .ref av] ∧ SpaceAt K C H s lv lr xs ys ∧ xs.length = us.length ∧ SRows K H ys rs ∧ SpOk size us rs ∧ SqT K H av (zs v) ∧ v.length = size ∧ size ≤ 1000 ∧ Bits c v ∧ 0 < c ∧ c ≤ 64 ∧ Answer size us v H Q
/-- the vectors: none is written over those ahead of it -/
def Free (size : Nat) (us : List (List Int)) : Prop := us.length ≤ 8 ∧ (∀ i, i < us.length → (us.getD i []).length = size ∧ Bits 24 (us.getD i [])) ∧ ∀ k, k < us.length → ¬ InSpan k size (vf us) (vf us k)
def spWritten : Sp := fun vs H Q _ => ∃ (a av : Addr) (xs : List V) (size : Nat) (us : List (List Int)) (v : List Int) (c : Nat), vs = [.ref a, .ref av] ∧ SqT K H a xs ∧ Vecs K H xs us ∧ Free size us ∧ SqT K H av (zs v) ∧ v.length = size ∧ size ≤ 1000 ∧ Bits c v ∧ 0 < c ∧ c ≤ 64 ∧ Answer size us v H Q
def spRight : Sp := fun vs H Q _ => ∃ (a ar av : Addr) (xs ys : List V) (size : Nat) (us : List (List Int)) (rs : List SRow) (v : List Int), vs = [.ref a, .ref ar, .ref av] ∧ SqL K H a xs ∧ Vecs K H xs us ∧ SqL K H ar ys ∧ LRows K H ys rs ∧ SpOk size us rs ∧
  (∀ i, i < us.length → ∀ x, -432047955 ≤ vf us i x ∧ vf us i x ≤ 432047955) ∧ (∀ i, i < us.length → Bits 24 (us.getD i [])) ∧ Seq K H av v ∧ v.length = size ∧ 1 ≤ size ∧ size ≤ 1000 ∧ (∀ x, -432047955 ≤ gi v x ∧ gi v x ≤ 432047955) ∧ ∀ H', Same H H' → Q (.bl true) H'
def spLaw : Sp := fun vs H Q _ => ∃ (a : Addr) (ns : List Int), vs = [.ref a] ∧ SqL K H a (zs ns) ∧ ns.length ≤ 63 ∧ ∀ H', Q (.bl true) H'
end

/-- what the walk asks of the top: no name of a built-in is taken; the class -/
structure Txt (K : PySem.W.Frag) (mg : Str → Option Value) : Prop where
  range : mg "range" = none
  min : mg "min" = none
  len : mg "len" = none
  int : mg "int" = none
  sum : mg "sum" = none
  abs : mg "abs" = none
  any : mg "any" = none
  list : mg "list" = none
  tuple : mg "tuple" = none
  zip : mg "zip" = none
  enumerate : mg "enumerate" = none
  isinstance : mg "isinstance" = none
  bool : mg "bool" = none
  gcd : mg "gcd" = some (.builtin "math.gcd")
structure Spc (K : PySem.W.Frag) (mg : Str → Option Value) (C : Addr) : Prop where
  cl : Cls K C
  nV : NoAttr K C "vectors"
  nR : NoAttr K C "rows"
end W64
section
set_option maxHeartbeats 4000000
namespace W64
open PySem PySem.Spec PyProof.Rows L2 M64
/-- a def of the top that may be called -/
structure Callee (P : Program) (w : World) (K : PySem.W.Frag) (mg : Str → Option Value) (base : Heap) (x : Str) (k : Nat) (f : Addr) (fd : FuncData) (ps : List Str) (sp : Sp) : Prop where
  G : FnOk P w K mg base CX0 k f fd ps sp
  mg : mg x = some (.ref f)
  kp : PySem.W.keepIn K (.ref f) = true
  b : Binds K fd ps []
section
variable {P : Program} {w : World} {K : PySem.W.Frag} {mg : Str → Option Value} {base : Heap}

theorem ok_mix {f : Addr} {fd : FuncData} (F : Fun K "_law_mix" "_law_mix" s_mix f fd) (T : Txt K mg) : FnOk P w K mg base CX0 1 f fd ["cell", "k"] spMix := by
  refine F.ok sc_mix (fun vs H Q E h => ?_) (fun cdv A outer s H vs Q E hr h => ?_)
  · obtain ⟨c, k, rfl, _⟩ := h
    rfl
  · obtain ⟨c, k, rfl, q⟩ := h
    refine ⟨_, (pss_cons (ps_set (i := 2) sc_mix.nd rfl (.inl rfl) (pe_op op_mod (pe_callTy call_int1 (by rfl) T.int (by decide +kernel) (pa_cons (pe_op op_add (pe_op op_add (pe_op op_mul (pv 0) pe_int) (pe_op op_mul (pv 1) pe_int)) pe_int) pa_nil)) pe_int))
      (pss_one (ps_ret (pe_op op_mod (pe_op op_mod (pe_callTy call_int1 (by rfl) T.int (by decide +kernel) (pa_cons (pe_op op_add (pe_op op_add (pe_op op_add (pe_op op_mul (pv 2) (pv 2)) (pe_op op_mul (pv 0) pe_int)) (pe_op op_mul (pv 1) pe_int)) pe_int) pa_nil)) pe_int) pe_int)))), ?_⟩
    refine ⟨_, rfl, _, _, rfl, rfl, .inr ⟨by decide, by decide⟩, _, rfl, _, _, rfl, rfl, .inr ⟨by decide, by decide⟩, _, _, rfl, rfl, _, _, rfl, rfl, .inl ⟨_, rfl, _, _, rfl, rfl, (by show (0 : Int) < 2147483647; decide), ?_⟩⟩
    have lo := Int.emod_nonneg (c * 48271 + k * 69621 + 11) (show (2147483647 : Int) ≠ 0 by decide)
    have hi := Int.emod_lt_of_pos (c * 48271 + k * 69621 + 11) (show (0 : Int) < 2147483647 by decide)
    generalize (c * 48271 + k * 69621 + 11) % 2147483647 = low at lo hi
    refine ⟨_, rfl, _, rfl, _, _, rfl, rfl, .inl ⟨by omega, by omega⟩, _, rfl, _, _, rfl, rfl, .inr ⟨by decide, by decide⟩, _, _, rfl, rfl, _, rfl, _, _, rfl, rfl, .inr ⟨by decide, by decide⟩, _, _, rfl, rfl, _, _, rfl, rfl, .inl ⟨_, rfl, _, _, rfl, rfl, (by show (0 : Int) < 1000003; decide), _, _, rfl, rfl, (by show (0 : Int) < 1000; decide), ?_⟩⟩
    exact q _
end
end W64
end
section
set_option maxHeartbeats 4000000
namespace W64
open PySem PySem.Spec PyProof.Rows L2 M64
section
variable {P : Program} {w : World} {K : PySem.W.Frag} {mg : Str → Option Value} {base : Heap}

theorem abs_nat (a : Int) : (if a < 0 then -a else a) = ((a.natAbs : Nat) : Int) := by split <;> omega
theorem ok_gcd {f : Addr} {fd : FuncData} (F : Fun K "_law_gcd" "_law_gcd" s_gcd f fd) (T : Txt K mg) : FnOk P w K mg base CX0 1 f fd ["one", "other"] spGcd := by
  refine F.ok sc_gcd (fun vs H Q E h => ?_) (fun cdv A outer s H vs Q E hr h => ?_)
  · obtain ⟨a, b, rfl, _⟩ := h
    rfl
  · obtain ⟨a, b, rfl, hm, q⟩ := h
    refine ⟨_, (pss_cons (ps_par (i := 0) (j := 1) (by rfl) sc_gcd.nd rfl rfl (by decide) rfl rfl (pa_cons (pe_callB call_abs (by rfl) T.abs (by decide +kernel) (pa_cons (pv 0) pa_nil)) (pa_cons (pe_callB call_abs (by rfl) T.abs (by decide +kernel) (pa_cons (pv 1) pa_nil)) pa_nil)) (by rfl))
      (pss_cons (ps_for PassesOwn.never rfl (pi_range1 (by rfl) T.range (pa_cons pe_int pa_nil)) (pg_name (i := 2) sc_gcd.nd rfl (.inl rfl)) (pss_cons (ps_if (pt_cmpR op_eq (pv 1) pe_int (nomark _)) (pss_one (ps_ret (pv 0))) pss_nil)
      (pss_one (ps_par (i := 0) (j := 1) (by rfl) sc_gcd.nd rfl rfl (by decide) rfl rfl (pa_cons (pv 1) (pa_cons (pe_op op_mod (pe_callTy call_int1 (by rfl) T.int (by decide +kernel) (pa_cons (pv 0) pa_nil)) (pv 1)) pa_nil)) (by rfl)))))
      (pss_one (ps_ret (pv 0))))), ?_⟩
    refine ⟨_, rfl, a, rfl, _, rfl, b, rfl, _, _, rfl, ?_⟩
    refine ⟨400, rfl, by decide, by decide, for_range (n := 400) (fun i σ H' => ∃ (x y : Nat) (t : Option V), σ = [some (.int x), some (.int y), t] ∧ H' = H ∧ Nat.gcd x y = Nat.gcd a.natAbs b.natAbs ∧ (eu (400 - i) x y).2 = 0) ⟨a.natAbs, b.natAbs, none, ?_, rfl, rfl, eu_ends hm⟩ ?_ ?_⟩
    · rw [abs_nat, abs_nat]; rfl
    · rintro i σ H' hi ⟨x, y, t, rfl, rfl, hg, he⟩
      refine ⟨_, rfl, rfl, _, rfl, ite2 (fun e => ?_) (fun e => ?_)⟩
      · have e0 : (y : Int) = 0 := V.int.inj (of_decide_eq_true e)
        have y0 : y = 0 := by omega
        subst y0
        refine ⟨_, rfl, ?_⟩
        rw [← hg, Nat.gcd_zero_right] at q
        exact q
      · have y0 : y ≠ 0 := fun z => e (by subst z; exact decide_eq_true rfl)
        refine ⟨_, rfl, _, rfl, .inl ⟨_, rfl, _, rfl, _, _, rfl, rfl, (by show (0 : Int) < (y : Int); omega), _, _, rfl, ?_⟩⟩
        refine ⟨y, x % y, _, rfl, rfl, ?_, ?_⟩
        · rw [← hg, Nat.gcd_comm, ← Nat.gcd_rec, Nat.gcd_comm]
        · have e4 : 400 - i = (400 - (i + 1)) + 1 := by omega
          rw [e4] at he
          unfold eu at he
          rw [if_neg y0] at he
          exact he
    · rintro σ H' ⟨x, y, t, rfl, rfl, hg, he⟩
      refine ⟨_, rfl, ?_⟩
      have y0 : y = 0 := he
      subst y0
      rw [← hg, Nat.gcd_zero_right] at q
      exact q

theorem ok_pick {f fM : Addr} {fd fdM : FuncData} (F : Fun K "_law_pick" "_law_pick" s_pick f fd) (T : Txt K mg) (c_mix : Callee P w K mg base "_law_mix" 1 fM fdM ["cell", "k"] spMix) : FnOk P w K mg base CX0 2 f fd ["draws", "many"] (spPick K) := by
  refine F.ok sc_pick (fun vs H Q E h => ?_) (fun cdv A outer s H vs Q E hr h => ?_)
  · obtain ⟨d, lr, m, row, rfl, _⟩ := h
    rfl
  · obtain ⟨d, lr, m, row, rfl, hm, ⟨a, sd, hd, ha⟩, hl, q⟩ := h
    have hu := hu_of hr
    have hr_mix := hr
    refine ⟨_, (pss_cons (ps_set (i := 2) sc_pick.nd rfl (.inl rfl) (pe_dget hu (pv 0) pe_str (fun _ _ => rfl)))
      (pss_cons (ps_dput hu (pv 0) pe_str (pe_op op_add (pv 2) pe_int) rfl)
      (pss_cons (ps_set (i := 3) sc_pick.nd rfl (.inl rfl) (pe_call c_mix.G hr_mix (by rfl) c_mix.mg c_mix.kp c_mix.b .nil pass0 (pa_cons (pe_dget hu (pv 0) pe_str (fun _ _ => rfl)) (pa_cons (pv 2) pa_nil))))
      (pss_cons (ps_if (pt_cmpR op_lt (pv 2) (pe_callB call_len_seq (by rfl) T.len (by decide +kernel) (pa_cons (pe_dget hu (pv 0) pe_str (fun _ _ => rfl)) pa_nil)) (nomark _)) (pss_one (ps_set (i := 3) sc_pick.nd rfl (.inl rfl) (pe_ix (r := rIxL K) ix_list (pe_dget hu (pv 0) pe_str (fun _ _ => rfl)) (pv 2) (fun _ _ => rfl)))) pss_nil)
      (pss_one (ps_ret (pe_op op_mod (pe_callTy call_int1 (by rfl) T.int (by decide +kernel) (pa_cons (pv 3) pa_nil)) (pv 1)))))))), ?_⟩
    have hd' : upd H d (.dK (drD lr (a + 1) sd)) d = some (.dK (drD lr (a + 1) sd)) := upd_same
    refine ⟨_, rfl, d, _, rfl, dr_at lr a sd ▸ DGet.k (k := Sum.inr ("at" : Str)) hd, ?_⟩
    refine ⟨_, rfl, _, _, rfl, rfl, _, rfl, d, _, rfl, DPut.k (k := Sum.inr ("at" : Str)) hd (by show 3 < sizeLine; decide), ?_⟩
    rw [dr_put]
    have sb : SameBut d H (upd H d (.dK (drD lr (a + 1) sd))) := fun b o e => by rw [upd_ne (hid_some e).1]; exact (hid_some e).2
    have hl' : SqL K (upd H d (.dK (drD lr (a + 1) sd))) lr (zs row) := by
      rcases hl with (z | ⟨o, z⟩) | z
      · exact .inl (.inl (by rw [upd_ne (ne_of z hd (by intro c; cases c))]; exact z))
      · exact .inl (.inr ⟨o, by rw [upd_ne (ne_of z hd (by intro c; cases c))]; exact z⟩)
      · exact .inr z
    have fin : ∀ n : Int, Q (.int (n % m)) (upd H d (.dK (drD lr (a + 1) sd))) := fun n => q _ _ (Int.emod_nonneg _ (by omega)) (Int.emod_lt_of_pos _ hm) sb ⟨a + 1, sd, hd', by omega⟩
    refine ⟨_, rfl, d, _, rfl, dr_seed lr (a + 1) sd ▸ DGet.k (k := Sum.inr ("seed" : Str)) hd', _, rfl, _, _, rfl, fun r => ?_⟩
    refine ⟨_, rfl, _, rfl, d, _, rfl, dr_row lr (a + 1) sd ▸ DGet.k (k := Sum.inr ("row" : Str)) hd', lr, _, rfl, .inl hl', _, _, rfl, rfl, _, rfl, ite2 (fun e => ?_) (fun e => ?_)⟩
    · have hlt : a < ((zs row).length : Int) := of_decide_eq_true e
      rw [zs_len] at hlt
      have ea : a = ((a.toNat : Nat) : Int) := by omega
      refine ⟨_, rfl, d, _, rfl, dr_row lr (a + 1) sd ▸ DGet.k (k := Sum.inr ("row" : Str)) hd', _, rfl, lr, _, a, _, rfl, rfl, hl', at_of ea (zs_get (by omega)), ?_⟩
      exact ⟨_, rfl, .inl ⟨_, rfl, _, rfl, _, _, rfl, rfl, hm, fin _⟩⟩
    · exact ⟨_, rfl, .inl ⟨_, rfl, _, rfl, _, _, rfl, rfl, hm, fin _⟩⟩
end
end W64
end
section
set_option maxHeartbeats 4000000
namespace W64
open PySem PySem.Spec PyProof.Rows L2 M64
section
variable {P : Program} {w : World} {K : PySem.W.Frag} {mg : Str → Option Value} {base : Heap}

theorem zs_push (l : List Int) (x : Int) : zs l ++ [V.int x] = zs (l ++ [x]) := by show l.map V.int ++ [V.int x] = (l ++ [x]).map V.int; rw [List.map_append]; rfl
theorem dr_merge (lr : Addr) (a s : Int) : mergeK [] (drD lr a s) = drD lr a s := by
  show putK (putK (putK [] (Sum.inr ("row" : Str)) (.ref lr)) (Sum.inr ("at" : Str)) (.int a)) (Sum.inr ("seed" : Str)) (.int s) = drD lr a s
  have e1 : putK ([] : List (Key × V)) (Sum.inr ("row" : Str)) (.ref lr) = [(Sum.inr ("row" : Str), V.ref lr)] := putK_new _ rfl
  have e2 : putK ([(Sum.inr ("row" : Str), V.ref lr)] : List (Key × V)) (Sum.inr ("at" : Str)) (.int a) = [(Sum.inr ("row" : Str), V.ref lr), (Sum.inr ("at" : Str), V.int a)] := putK_new _ ((valV_neg key_ra).trans rfl)
  have e3 : putK ([(Sum.inr ("row" : Str), V.ref lr), (Sum.inr ("at" : Str), V.int a)] : List (Key × V)) (Sum.inr ("seed" : Str)) (.int s) = drD lr a s := putK_new _ ((valV_neg key_rs).trans ((valV_neg key_as).trans rfl))
  rw [e1, e2, e3]
theorem line1000 {n : Nat} {m : Int} (h : (n : Int) < m) (hm : m ≤ 1000) : n < sizeLine := Nat.lt_of_lt_of_le (show n < 1000 by omega) (by decide)
theorem ok_stream {f fM : Addr} {fd fdM : FuncData} (F : Fun K "_law_stream" "_law_stream" s_stream f fd) (T : Txt K mg) (c_mix : Callee P w K mg base "_law_mix" 1 fM fdM ["cell", "k"] spMix) : FnOk P w K mg base CX0 2 f fd ["script", "most"] (spStream K) := by
  refine F.ok sc_stream (fun vs H Q E h => ?_) (fun cdv A outer s H vs Q E hr h => ?_)
  · obtain ⟨a, ns, m, rfl, _⟩ := h
    rfl
  · obtain ⟨a, ns, m, rfl, hS, hlen, m0, m1, q⟩ := h
    have hr_mix := hr
    refine ⟨_, (pss_cons (ps_set (i := 2) sc_stream.nd rfl (.inl rfl) (pe_lst pa_nil))
      (pss_cons (ps_for PassesOwn.never rfl (pi_range1 (by rfl) T.range (pa_cons (pe_callB (call_min2 rfl) (by rfl) T.min (by decide +kernel) (pa_cons (pe_callB call_len_seq (by rfl) T.len (by decide +kernel) (pa_cons (pv 0) pa_nil)) (pa_cons pe_int pa_nil))) pa_nil)) (pg_name (i := 3) sc_stream.nd rfl (.inl rfl)) (pss_cons (ps_set (i := 4) sc_stream.nd rfl (.inl rfl) (pe_ix (r := rIxL K) ix_list (pv 0) (pv 3) (fun _ _ => rfl)))
      (pss_one (ps_if (pt_cmpR op_ge (pv 4) (pe_op op_pow pe_int pe_int) (nomark _)) (pss_one (ps_for PassesOwn.never rfl (pi_range1 (by rfl) T.range (pa_cons pe_int pa_nil)) (pg_name (i := 5) sc_stream.nd rfl (.inl rfl)) (pss_one (ps_if (PW.pt (pw_and (pt_cmpR op_gt (pv 4) pe_int (nomark _)) (pw_and1 (pt_cmpR op_lt (pe_callB call_len_seq (by rfl) T.len (by decide +kernel) (pa_cons (pv 2) pa_nil)) (pv 1) (nomark _))))) (pss_cons (ps_expr (pe_bm PySem.F.plainAttrs_list PySem.F.slot_list_append PySem.F.type_list_append mt_append (pv 2) (pa_cons (pe_op op_mod (pe_callTy call_int1 (by rfl) T.int (by decide +kernel) (pa_cons (pv 4) pa_nil)) pe_int) pa_nil)))
      (pss_one (ps_set (i := 4) sc_stream.nd rfl (.inl rfl) (pe_op op_fdiv (pv 4) pe_int)))) pss_nil)))) (pss_one (ps_for PassesOwn.never rfl (pi_range1 (by rfl) T.range (pa_cons pe_int pa_nil)) (pg_name (i := 5) sc_stream.nd rfl (.inl rfl)) (pss_one (ps_if (pt_cmpR op_lt (pe_callB call_len_seq (by rfl) T.len (by decide +kernel) (pa_cons (pv 2) pa_nil)) (pv 1) (nomark _)) (pss_one (ps_expr (pe_bm PySem.F.plainAttrs_list PySem.F.slot_list_append PySem.F.type_list_append mt_append (pv 2) (pa_cons (pe_call c_mix.G hr_mix (by rfl) c_mix.mg c_mix.kp c_mix.b .nil pass0 (pa_cons (pv 4) (pa_cons (pe_op op_add (pe_op op_mul pe_int (pv 5)) (pv 3)) pa_nil))) pa_nil)))) pss_nil))))))))
      (pss_one (ps_ret (pe_disp (pps_cons pe_str (pv 2) (pps_cons pe_str pe_int (pps_cons pe_str (pe_op op_add (pe_callB (cr_sum rfl) (by rfl) T.sum (by decide +kernel) (pa_cons (pv 2) pa_nil)) (pe_callB call_len_seq (by rfl) T.len (by decide +kernel) (pa_cons (pv 2) pa_nil))) pps_nil))) (by rfl) (by rfl) (fun z => by cases z) (by decide)))))), ?_⟩
    refine ⟨by decide, fun o no => ?_⟩
    have s1 : Same H (upd H o (.lst [])) := Same.new no
    refine ⟨_, rfl, a, _, rfl, .inl (s1.seq hS), _, _, rfl, ?_⟩
    have hb : 0 ≤ (if (63 : Int) < ((zs ns).length : Int) then (63 : Int) else ((zs ns).length : Int)) ∧ (if (63 : Int) < ((zs ns).length : Int) then (63 : Int) else ((zs ns).length : Int)) ≤ ns.length := by
      rw [zs_len]; split <;> omega
    generalize (if (63 : Int) < ((zs ns).length : Int) then (63 : Int) else ((zs ns).length : Int)) = N at hb
    refine ⟨N, rfl, by omega, by omega, for_range (n := N.toNat) (fun i σ H' => ∃ (row : List Int) (y3 y4 y5 : Option V), σ = [some (.ref a), some (.int m), some (.ref o), y3, y4, y5] ∧ Same H H' ∧ H' o = some (.lst (zs row)) ∧ (row.length : Int) ≤ m) ⟨[], none, none, none, rfl, s1, upd_same, m0⟩ ?_ ?_⟩
    · rintro i σ H' hi ⟨row, y3, y4, y5, rfl, s2, ho, hrow⟩
      -- rest = script[k]
      refine ⟨_, rfl, _, rfl, a, _, _, _, rfl, rfl, s2.seq hS, at_of (Int.zero_add _) (zs_get (by omega)), ?_⟩
      -- if rest >= 10 ** 18
      refine ⟨_, rfl, _, _, rfl, rfl, ⟨by decide, by decide, by decide⟩, _, _, rfl, rfl, _, rfl, ite2 (fun _ => ?_) (fun _ => ?_)⟩
      · refine ⟨60, rfl, by decide, by decide, for_range (n := 60) (fun j σ H' => ∃ (row : List Int) (y3 y5 : Option V) (r : Int), σ = [some (.ref a), some (.int m), some (.ref o), y3, some (.int r), y5] ∧ Same H H' ∧ H' o = some (.lst (zs row)) ∧ (row.length : Int) ≤ m) ⟨row, _, _, _, rfl, s2, ho, hrow⟩ ?_ ?_⟩
        · rintro j σ H2 hj ⟨row, y3, y5, r, rfl, s3, ho, hrow⟩
          refine ⟨_, rfl, _, _, rfl, rfl, _, rfl, ite2 (fun _ => ?_) (fun _ => ?_)⟩
          · refine ⟨_, rfl, o, _, rfl, .inl (.inl (.inl ho)), _, rfl, _, _, rfl, rfl, _, rfl, ite2 (fun e => ?_) (fun _ => ?_)⟩
            · have hlt : ((zs row).length : Int) < m := of_decide_eq_true e
              rw [zs_len] at hlt
              refine ⟨_, rfl, .inl ⟨rfl, _, .inl (.inl ho)⟩, _, rfl, .inl ⟨_, rfl, _, _, rfl, rfl, (by show (0 : Int) < 1000; decide), o, _, _, rfl, rfl, ho, (by rw [zs_len]; exact line1000 hlt m1), ?_⟩⟩
              refine ⟨_, rfl, _, _, rfl, rfl, ⟨by decide, by decide⟩, ?_⟩
              exact ⟨row ++ [r % 1000], _, _, _, rfl, Same.mut s3 no, by rw [upd_same, zs_push], by simp; omega⟩
            · exact ⟨row, _, _, _, rfl, s3, ho, hrow⟩
          · exact ⟨row, _, _, _, rfl, s3, ho, hrow⟩
        · rintro σ H2 ⟨row, y3, y5, r, rfl, s3, ho, hrow⟩
          exact ⟨row, _, _, _, rfl, s3, ho, hrow⟩
      · refine ⟨3, rfl, by decide, by decide, for_range (n := 3) (fun j σ H' => ∃ (row : List Int) (k r : Int) (y5 : Option V), σ = [some (.ref a), some (.int m), some (.ref o), some (.int k), some (.int r), y5] ∧ Same H H' ∧ H' o = some (.lst (zs row)) ∧ (row.length : Int) ≤ m) ⟨row, _, _, _, rfl, s2, ho, hrow⟩ ?_ ?_⟩
        · rintro j σ H2 hj ⟨row, k, r, y5, rfl, s3, ho, hrow⟩
          refine ⟨_, rfl, o, _, rfl, .inl (.inl (.inl ho)), _, rfl, _, _, rfl, rfl, _, rfl, ite2 (fun e => ?_) (fun _ => ?_)⟩
          · have hlt : ((zs row).length : Int) < m := of_decide_eq_true e
            rw [zs_len] at hlt
            refine ⟨_, rfl, .inl ⟨rfl, _, .inl (.inl ho)⟩, _, rfl, _, rfl, _, _, rfl, rfl, .inl ⟨by decide, by decide⟩, _, rfl, _, _, rfl, rfl, _, _, rfl, fun z => ?_⟩
            refine ⟨o, _, _, rfl, rfl, ho, (by rw [zs_len]; exact line1000 hlt m1), ?_⟩
            exact ⟨row ++ [z], _, _, _, rfl, Same.mut s3 no, by rw [upd_same, zs_push], by simp; omega⟩
          · exact ⟨row, _, _, _, rfl, s3, ho, hrow⟩
        · rintro σ H2 ⟨row, k, r, y5, rfl, s3, ho, hrow⟩
          exact ⟨row, _, _, _, rfl, s3, ho, hrow⟩
    · rintro σ H' ⟨row, y3, y4, y5, rfl, s2, ho, hrow⟩
      -- the dict
      intro p np
      have npo : o ≠ p := ne_of_none ho np
      have ho' : (upd H' p (.dK [])) o = some (.lst (zs row)) := by rw [upd_ne npo]; exact ho
      refine ⟨_, rfl, _, rfl, o, _, rfl, .inl (.inl ho'), _, rfl, o, _, rfl, .inl (.inl (.inl ho')), _, _, rfl, rfl, ?_⟩
      refine ⟨upd_same, drD o 0 (row.sum + ((zs row).length : Int)), rfl, (show (3 : Nat) ≤ 15 by decide), ?_⟩
      rw [dr_merge, upd_upd]
      have np0 : H p = none := Same.free s2 np
      have s4 : Same H (upd H' p (.dK (drD o 0 (row.sum + ((zs row).length : Int))))) := Same.mut s2 np0
      exact q p o row _ np0 s4 ⟨0, _, upd_same, by decide⟩ (.inl (.inl (by rw [upd_ne npo]; exact ho)))
end
end W64
end
section
set_option maxHeartbeats 4000000
namespace W64
open PySem PySem.Spec PyProof.Rows L2 M64
section
variable {P : Program} {w : World} {K : PySem.W.Frag} {mg : Str → Option Value} {base : Heap}

def MB (l : List Int) : Prop := ∀ i, -9000000 ≤ gi l i ∧ gi l i ≤ 9000999
theorem MB.push {l : List Int} {z : Int} (h : MB l) (h1 : -9000000 ≤ z) (h2 : z ≤ 9000999) : MB (l ++ [z]) := fun i => by
  by_cases h3 : i < l.length
  · rw [gi_append_left h3]; exact h i
  · by_cases h4 : i = l.length
    · rw [h4, gi_append_at]; exact ⟨h1, h2⟩
    · rw [gi_out (by simp; omega)]; omega
theorem ok_members {f fP : Addr} {fd fdP : FuncData} (F : Fun K "_law_members" "_law_members" s_members f fd) (T : Txt K mg) (c_pick : Callee P w K mg base "_law_pick" 2 fP fdP ["draws", "many"] (spPick K)) : FnOk P w K mg base CX0 3 f fd ["draws", "size"] (spMembers K) := by
  refine F.ok sc_members (fun vs H Q E h => ?_) (fun cdv A outer s H vs Q E hr h => ?_)
  · obtain ⟨d, lr, n, row, rfl, _⟩ := h
    rfl
  · obtain ⟨d, lr, n, row, rfl, n0, n1, hD, hR, q⟩ := h
    have hR0 : SqL K (hid d H) lr (zs row) := hD.hidL hR
    have hr_pick := hr
    refine ⟨_, (pss_cons (ps_set (i := 2) sc_members.nd rfl (.inl rfl) (pe_cmpR op_eq (pe_call c_pick.G hr_pick (by rfl) c_pick.mg c_pick.kp c_pick.b .nil pass0 (pa_cons (pv 0) (pa_cons pe_int pa_nil))) pe_int (nomark _)))
      (pss_cons (ps_set (i := 3) sc_members.nd rfl (.inl rfl) (pe_lst pa_nil))
      (pss_cons (ps_for PassesOwn.never rfl (pi_range1 (by rfl) T.range (pa_cons (pv 1) pa_nil)) (pg_name (i := 4) sc_members.nd rfl (.inl rfl)) (pss_cons (ps_set (i := 5) sc_members.nd rfl (.inl rfl) (pe_op op_sub (pe_call c_pick.G hr_pick (by rfl) c_pick.mg c_pick.kp c_pick.b .nil pass0 (pa_cons (pv 0) (pa_cons pe_int pa_nil))) pe_int))
      (pss_cons (ps_if (pt_cmpR op_eq (pe_call c_pick.G hr_pick (by rfl) c_pick.mg c_pick.kp c_pick.b .nil pass0 (pa_cons (pv 0) (pa_cons pe_int pa_nil))) pe_int (nomark _)) (pss_one (ps_set (i := 5) sc_members.nd rfl (.inl rfl) pe_int)) pss_nil)
      (pss_cons (ps_if (pt_val (pv 2)) (pss_one (ps_set (i := 5) sc_members.nd rfl (.inl rfl) (pe_op op_add (pe_op op_mul (pv 5) pe_int) (pe_call c_pick.G hr_pick (by rfl) c_pick.mg c_pick.kp c_pick.b .nil pass0 (pa_cons (pv 0) (pa_cons pe_int pa_nil)))))) pss_nil)
      (pss_one (ps_expr (pe_bm PySem.F.plainAttrs_list PySem.F.slot_list_append PySem.F.type_list_append mt_append (pv 3) (pa_cons (pv 5) pa_nil))))))))
      (pss_one (ps_ret (pe_callTy call_tuple_of (by rfl) T.tuple (by decide +kernel) (pa_cons (pv 3) pa_nil))))))), ?_⟩
    -- large = _law_pick(draws, 4) == 0
    refine ⟨_, rfl, d, lr, 4, row, rfl, by decide, hD, hR, fun r0 H0 _ _ b0 D0 => ⟨rfl, ?_⟩⟩
    generalize decide (V.int r0 = V.int 0) = large
    -- found = []
    refine ⟨by decide, fun o no => ?_⟩
    have nod : o ≠ d := D0.ne no
    have hno : H o = none := but_free b0 nod no
    refine ⟨_, rfl, n, rfl, by omega, by omega, for_range (n := n.toNat) (fun i σ H' => ∃ (ys : List Int) (y4 y5 : Option V), σ = [some (.ref d), some (.int n), some (.bl large), some (.ref o), y4, y5] ∧ SameBut d H H' ∧ Dr H' d lr ∧ H' o = some (.lst (zs ys)) ∧ ys.length = i ∧ MB ys)
      ⟨[], none, none, rfl, Same.mut b0 (hid_none hno), D0.same (Same.new no), upd_same, rfl, fun i => by rw [gi_out (by simp)]; omega⟩ ?_ ?_⟩
    · rintro i σ H' hi ⟨ys, y4, y5, rfl, b1, D1, ho, hl, hb⟩
      -- number = _law_pick(draws, 19) - 9
      refine ⟨_, rfl, d, lr, 19, row, rfl, by decide, D1, b1.seq hR0, fun r1 H1 r1a r1b b2 D2 => ⟨_, _, rfl, rfl, ?_⟩⟩
      have ho2 := but_at b2 nod ho
      -- if _law_pick(draws, 4) == 0
      refine ⟨_, rfl, d, lr, 4, row, rfl, by decide, D2, (but_trans b1 b2).seq hR0, fun r2 H2 _ _ b3 D3 => ⟨rfl, _, rfl, ?_⟩⟩
      have ho3 := but_at b3 nod ho2
      have b123 := but_trans (but_trans b1 b2) b3
      refine ite2 (fun _ => ?_) (fun _ => ?_)
      all_goals
        refine ⟨_, rfl, _, rfl, ?_⟩
        cases large with
        | true =>
          refine iteT ?_
          refine ⟨_, rfl, _, _, rfl, rfl, .inr ⟨by decide, by decide⟩, _, rfl, d, lr, 1000, row, rfl, by decide, D3, b123.seq hR0, fun r3 H3 r3a r3b b4 D4 => ⟨_, _, rfl, rfl, ?_⟩⟩
          have ho4 := but_at b4 nod ho3
          refine ⟨_, rfl, .inl ⟨rfl, _, .inl (.inl ho4)⟩, _, rfl, o, _, _, rfl, rfl, ho4, (by rw [zs_len]; exact line1000 (m := n) (by omega) n1), ?_⟩
          exact ⟨ys ++ [_], _, _, rfl, Same.mut (but_trans b123 b4) (hid_none hno), D4.mut nod, by rw [upd_same, zs_push], by simp [hl], hb.push (by omega) (by omega)⟩
        | false =>
          refine iteF ?_
          refine ⟨_, rfl, .inl ⟨rfl, _, .inl (.inl ho3)⟩, _, rfl, o, _, _, rfl, rfl, ho3, (by rw [zs_len]; exact line1000 (m := n) (by omega) n1), ?_⟩
          exact ⟨ys ++ [_], _, _, rfl, Same.mut b123 (hid_none hno), D3.mut nod, by rw [upd_same, zs_push], by simp [hl], hb.push (by omega) (by omega)⟩
    · rintro σ H' ⟨ys, y4, y5, rfl, b1, D1, ho, hl, hb⟩
      refine ⟨_, rfl, o, _, rfl, .inl ⟨.inl (.inl ho), fun p np => ?_⟩⟩
      have npd : p ≠ d := D1.ne np
      exact q p _ ys (but_free b1 npd np) (Same.mut b1 (hid_none (but_free b1 npd np))) (D1.same (Same.new np)) upd_same (by omega) hb
end
end W64
end
section
set_option maxHeartbeats 4000000
namespace W64
open PySem PySem.Spec PyProof.Rows L2 M64
section
variable {P : Program} {w : World} {K : PySem.W.Frag} {mg : Str → Option Value} {base : Heap}

theorem take_push {l : List Int} {j : Nat} (h : j < l.length) : zs (l.take j) ++ [V.int (gi l j)] = zs (l.take (j + 1)) := by
  rw [zs_push, List.take_add_one, gi_get h]; rfl
theorem push_at {H : Hp} {D : Addr} {l : List Int} {j : Nat} {z : Int} (h : j < l.length) (e : gi l j = z) : upd H D (.lst (zs (l.take j) ++ [V.int z])) D = some (.lst (zs (l.take (j + 1)))) := by
  rw [upd_same, ← e, take_push h]
theorem zs_all {l : List Int} {j : Nat} (h : l.length ≤ j) : zs (l.take j) = zs l := by rw [List.take_of_length_le h]
theorem len_line {l : List Int} (h : l.length ≤ 1000) (j : Nat) : (zs (l.take j)).length < sizeLine := by
  rw [zs_len, List.length_take]
  exact Nat.lt_of_le_of_lt (show min j l.length ≤ 1000 by omega) (by decide)
theorem mulW {a b : Int} {m n : Nat} (ha : a.natAbs < 2 ^ m) (hb : b.natAbs < 2 ^ n) (hm : m ≤ 9000) (hn : n ≤ 9000) : CMulW a b := by
  have h1 : a.natAbs < 2 ^ (m + 1) := Nat.lt_of_lt_of_le ha (Nat.pow_le_pow_right (by decide) (by omega))
  have h2 : b.natAbs < 2 ^ (n + 1) := Nat.lt_of_lt_of_le hb (Nat.pow_le_pow_right (by decide) (by omega))
  exact wide_mul h1 h2 (by omega) (by omega) (by omega)

theorem ok_lred {f : Addr} {fd : FuncData} (F : Fun K "_law_reduced" "_law_reduced" s_lred f fd) (T : Txt K mg) : FnOk P w K mg base CX0 1 f fd ["rows", "vector"] (spLred K) := by
  refine F.ok sc_lred (fun vs H Q E h => ?_) (fun cdv A outer s H vs Q E hr h => ?_)
  · obtain ⟨ar, av, xs, size, us, rs, v, c, rfl, _⟩ := h
    rfl
  · obtain ⟨ar, av, xs, size, us, rs, v, c, rfl, hS, hR, S, hv, vl, sl, bv, c0, c1, q⟩ := h
    have few : rs.length ≤ 8 := by have := S.few; have := S.len; omega
    refine ⟨_, (pss_cons (ps_set (i := 2) sc_lred.nd rfl (.inr rfl) (pe_callTy call_list_of (by rfl) T.list (by decide +kernel) (pa_cons (pv 1) pa_nil)))
      (pss_cons (ps_for PassesOwn.never rfl (pi_list (pv 0)) (pg_tup rfl (pgs_cons (pg_name (i := 3) sc_lred.nd rfl (.inl rfl)) (pgs_cons (pg_name (i := 4) sc_lred.nd rfl (.inr rfl)) pgs_nil))) (pss_one (ps_if (pt_cmpR op_ne (pe_ix (r := rIxL K) ix_list (pv 2) (pv 3) (fun _ _ => rfl)) pe_int (nomark _)) (pss_cons (ps_asg (pe_tup (pa_cons (pe_ix (r := rIxL K) ix_list (pv 4) (pv 3) (fun _ _ => rfl)) (pa_cons (pe_ix (r := rIxL K) ix_list (pv 2) (pv 3) (fun _ _ => rfl)) pa_nil))) (pg_tup rfl (pgs_cons (pg_name (i := 5) sc_lred.nd rfl (.inr rfl)) (pgs_cons (pg_name (i := 6) sc_lred.nd rfl (.inr rfl)) pgs_nil))))
      (pss_one (ps_set (i := 2) sc_lred.nd rfl (.inr rfl) (pe_lc (own := [("k", 7)]) rfl sc_lred.nd (pi_range1 (by rfl) T.range (pa_cons (pe_callB call_len_seq (by rfl) T.len (by decide +kernel) (pa_cons (pv 2) pa_nil)) pa_nil)) (blkOk_by (own := [("k", 7)]) (N := ["rows", "vector", "rest", "at", "row", "up", "down", "k"]) (sc := defScope s_lred) (by decide +kernel)) (fun _ _ _ _ _ => pg_name (i := 7) sc_lred.nd rfl (Or.inl rfl)) (fun _ _ _ _ _ => pts_nil) (fun _ _ _ _ _ => (pe_op op_sub (pe_op op_mulW (pv 5) (pe_ix (r := rIxL K) ix_list (pv 2) (pv 7) (fun _ _ => rfl))) (pe_op op_mulW (pv 6) (pe_ix (r := rIxL K) ix_list (pv 4) (pv 7) (fun _ _ => rfl))))))))) pss_nil)))
      (pss_one (ps_ret (pv 2))))), ?_⟩
    refine ⟨_, rfl, av, _, rfl, hv, fun l nl => ?_⟩
    refine ⟨_, rfl, ar, rfl, ⟨_, (Same.new nl).seq hS⟩, for_list (K := K) (a := ar) (xs := xs) (fun i σ H' => ∃ (l : Addr) (y3 y4 y5 y6 : Option V) (times : Int) (rest parts : List Int), σ = [some (.ref ar), some (.ref av), some (.ref l), y3, y4, y5, y6, none] ∧ Same H H' ∧ H l = none ∧ H' l = some (.lst (zs rest)) ∧ RedSt size us rs v c i times rest parts)
      ⟨l, none, none, none, none, 1, v, _, rfl, Same.new nl, nl, upd_same, RedSt.start vl bv c0⟩ (fun i σ H' _ ⟨_, _, _, _, _, _, _, _, _, s2, _⟩ => s2.seq hS) ?_ ?_⟩
    · rintro i x σ H' hi ⟨l, y3, y4, y5, y6, times, rest, parts, rfl, s2, nl, hl, R⟩
      have hil : i < rs.length := by rw [← hR.1]; exact (List.getElem?_eq_some_iff.mp hi).1
      obtain ⟨p, m, h1, h2, h3⟩ := hR.2 i hil
      have ex : x = .ref p := Option.some.inj (hi.symm.trans h1)
      subst ex
      have hat : (rk rs i).at_ < size := S.ech.low i (by rw [← S.len]; exact hil)
      have hlr := R.lr
      have hrl := S.rl i hil
      have g1 : (zs rest)[(rk rs i).at_]? = some (.int (gi rest (rk rs i).at_)) := zs_get (by omega)
      have g2 : (zs (rk rs i).row)[(rk rs i).at_]? = some (.int (gi (rk rs i).row (rk rs i).at_)) := zs_get (by omega)
      -- at, row; if rest[at] != 0
      refine ⟨p, _, rfl, Same.tup s2 h2, rfl, _, _, rfl, _, _, rfl, rfl, ?_⟩
      refine ⟨_, rfl, _, rfl, l, _, _, _, rfl, rfl, .inl (.inl hl), at_of rfl g1, rfl, _, rfl, ite2 (fun e => ?_) (fun e => ?_)⟩
      · have hne : gi rest (rk rs i).at_ ≠ 0 := fun z => by
          rw [z] at e
          exact absurd e (by decide)
        -- up, down = row[at], rest[at]
        refine ⟨_, rfl, _, rfl, m, _, _, _, rfl, rfl, s2.seq h3, at_of rfl g2, _, rfl, _, rfl, l, _, _, _, rfl, rfl, .inl (.inl hl), at_of rfl g1, (show 2 ≤ sizeLine by decide), fun t nt => ?_⟩
        have s3 : Same H' (upd H' t (.tup [.int (gi (rk rs i).row (rk rs i).at_), .int (gi rest (rk rs i).at_)])) := Same.new nt
        refine ⟨t, _, rfl, .inl (.inl upd_same), rfl, _, _, rfl, _, _, rfl, rfl, ?_⟩
        have hl3 := s3 _ _ hl
        have s23 := s2.trans s3
        generalize (upd H' t (.tup [.int (gi (rk rs i).row (rk rs i).at_), .int (gi rest (rk rs i).at_)])) = H3 at s3 hl3 s23
        -- the comprehension
        refine ⟨_, rfl, l, _, rfl, .inl (.inl (.inl hl3)), (rest.length : Int), by rw [zs_len], by omega, by omega, fun D nD => lc_range (lo := 0) (n := rest.length) (fun j H4 => Same H3 H4 ∧ H4 D = some (.lst (zs ((newRest (gi (rk rs i).row (rk rs i).at_) (gi rest (rk rs i).at_) rest (rk rs i).row).take j)))) ⟨Same.new nD, upd_same⟩ ?_ ?_⟩
        · rintro j H4 hj ⟨s4, h4⟩
          have nl' : j < (newRest (gi (rk rs i).row (rk rs i).at_) (gi rest (rk rs i).at_) rest (rk rs i).row).length := by rw [newRest_len]; exact hj
          refine ⟨rfl, ?_⟩
          refine ⟨_, rfl, _, rfl, _, rfl, l, _, _, _, rfl, rfl, .inl (.inl (s4 _ _ hl3)), at_of (Int.zero_add _) (zs_get hj), _, _, rfl, rfl, mulW (S.br i hil _) (R.br _) (by have := RB_small (k := i) (by omega); omega) (by have := TB_small (k := i) c1 (by omega); omega), ?_⟩
          refine ⟨_, rfl, _, rfl, _, rfl, m, _, _, _, rfl, rfl, s4.seq (s23.seq h3), at_of (Int.zero_add _) (zs_get (by omega)), _, _, rfl, rfl, mulW (R.br _) (S.br i hil _) (by have := TB_small (k := i) c1 (by omega); omega) (by have := RB_small (k := i) (by omega); omega), ?_⟩
          refine ⟨_, _, rfl, rfl, _, h4, len_line (by rw [newRest_len]; omega) j, Same.mut s4 nD, push_at nl' (newRest_get hj)⟩
        · rintro H4 ⟨s4, h4⟩
          rw [zs_all (by rw [newRest_len]; exact Nat.le_refl _)] at h4
          refine ⟨D, _, _, _, _, _, _, _, rfl, s23.trans s4, Same.free s23 nD, h4, R.step S hil (S.ech.non i (by rw [← S.len]; exact hil)) (Int.mul_comm _ _) (S.br i hil _) (R.br _)⟩
      · have hz : gi rest (rk rs i).at_ = 0 := by
          by_cases z : gi rest (rk rs i).at_ = 0
          · exact z
          · exfalso
            apply e
            have : decide (V.int (gi rest (rk rs i).at_) = V.int 0) = false := decide_eq_false fun c => z (V.int.inj c)
            rw [this]; rfl
        exact ⟨l, _, _, _, _, times, rest, parts, rfl, s2, nl, hl, R.skip hz⟩
    · rintro σ H' ⟨l, y3, y4, y5, y6, times, rest, parts, rfl, s2, nl, hl, R⟩
      rw [hR.1] at R
      exact ⟨_, rfl, q l H' times rest parts nl s2 hl R⟩
end
end W64
end
section
set_option maxHeartbeats 4000000
namespace W64
open PySem PySem.Spec PyProof.Rows L2 M64

/-! ### data compared -/
theorem dpAll_zs {K : PySem.W.Frag} {H : Hp} : ∀ l : List Int, DpAll K H (zs l) (l.map PyData.int)
  | [] => .nil
  | x :: l => .cons (.int x) (dpAll_zs l)
theorem canLay_ints : ∀ l : List Int, PyData.canLayAll0 (l.map PyData.int) = true
  | [] => by simp only [List.map_nil, PyData.canLayAll0]
  | x :: l => by simp only [List.map_cons, PyData.canLayAll0, PyData.canLay0, canLay_ints l, Bool.and_true]
theorem depth_ints : ∀ l : List Int, PyData.depthAll (l.map PyData.int) ≤ 1
  | [] => by simp only [List.map_nil, PyData.depthAll]; omega
  | x :: l => by
    have := depth_ints l
    simp only [List.map_cons, PyData.depthAll, PyData.depth]
    omega
theorem shaped_list (l : List Int) : SeqAt.shaped (.list (l.map PyData.int)) = true := by
  unfold SeqAt.shaped
  have := depth_ints l
  have e : PyData.depth (.list (l.map PyData.int)) = PyData.depthAll (l.map PyData.int) + 1 := by rw [PyData.depth]
  rw [Bool.and_eq_true]
  exact ⟨by rw [PyData.canLay0]; exact canLay_ints l, decide_eq_true (by rw [e]; omega)⟩
theorem shaped_tuple (l : List Int) : SeqAt.shaped (.tuple (l.map PyData.int)) = true := by
  unfold SeqAt.shaped
  have := depth_ints l
  have e : PyData.depth (.tuple (l.map PyData.int)) = PyData.depthAll (l.map PyData.int) + 1 := by rw [PyData.depth]
  rw [Bool.and_eq_true]
  exact ⟨by rw [PyData.canLay0]; exact canLay_ints l, decide_eq_true (by rw [e]; omega)⟩
theorem eqv_nil (l : List Int) : PyData.eqv (.list (l.map PyData.int)) (.list (([] : List Int).map PyData.int)) = decide (l = []) := by
  cases l with
  | nil => simp [PyData.eqv, PyData.eqvAll]
  | cons x l => simp [PyData.eqv, PyData.eqvAll]

/-- the places ahead of j that hold another thing than 0 -/
def nzs (l : List Int) (j : Nat) : List Int := ((List.range j).filter fun k => decide (gi l k ≠ 0)).map fun (k : Nat) => (k : Int)
theorem nzs_yes {l : List Int} {j : Nat} (h : gi l j ≠ 0) : nzs l (j + 1) = nzs l j ++ [(j : Int)] := by
  unfold nzs
  rw [List.range_succ, List.filter_append, List.map_append]
  simp [h]
theorem nzs_no {l : List Int} {j : Nat} (h : gi l j = 0) : nzs l (j + 1) = nzs l j := by
  unfold nzs
  rw [List.range_succ, List.filter_append, List.map_append]
  simp [h]
theorem nzs_len (l : List Int) (j : Nat) : (nzs l j).length ≤ j := by
  unfold nzs
  rw [List.length_map]
  have := List.length_filter_le (fun k => decide (gi l k ≠ 0)) (List.range j)
  rw [List.length_range] at this
  exact this
theorem nzs_mem {l : List Int} {j : Nat} {z : Int} (h : z ∈ nzs l j) : ∃ k : Nat, z = (k : Int) ∧ k < j ∧ gi l k ≠ 0 := by
  unfold nzs at h
  obtain ⟨k, hk, rfl⟩ := List.mem_map.mp h
  obtain ⟨h1, h2⟩ := List.mem_filter.mp hk
  exact ⟨k, rfl, List.mem_range.mp h1, of_decide_eq_true h2⟩
theorem nzs_nil {l : List Int} {j : Nat} (h : nzs l j = []) : ∀ k, k < j → gi l k = 0 := fun k hk => by
  by_cases z : gi l k = 0
  · exact z
  · exfalso
    have : (k : Int) ∈ nzs l j := by
      unfold nzs
      exact List.mem_map.mpr ⟨k, List.mem_filter.mpr ⟨List.mem_range.mpr hk, decide_eq_true z⟩, rfl⟩
    rw [h] at this; cases this
theorem nzs_head {l : List Int} {j : Nat} (h : nzs l j ≠ []) : ∃ k : Nat, (zs (nzs l j))[0]? = some (.int (k : Int)) ∧ k < j ∧ gi l k ≠ 0 := by
  cases e : nzs l j with
  | nil => exact absurd e h
  | cons z r =>
    obtain ⟨k, h1, h2, h3⟩ := nzs_mem (l := l) (j := j) (z := z) (by rw [e]; simp)
    exact ⟨k, by rw [h1]; rfl, h2, h3⟩
theorem ne0 {x : Int} (e : ¬ ((!decide (V.int x = V.int 0)) = true)) : x = 0 := by
  by_cases z : x = 0
  · exact z
  · exfalso
    apply e
    have : decide (V.int x = V.int 0) = false := decide_eq_false fun c => z (V.int.inj c)
    rw [this]; rfl
theorem is_ne0 {x : Int} (e : (!decide (V.int x = V.int 0)) = true) : x ≠ 0 := fun z => by
  rw [z] at e
  exact absurd e (by decide)
section
variable {P : Program} {w : World} {K : PySem.W.Frag} {mg : Str → Option Value} {base : Heap}

theorem ok_kept {f fR : Addr} {fd fdR : FuncData} (F : Fun K "_law_kept" "_law_kept" s_kept f fd) (T : Txt K mg) (c_lred : Callee P w K mg base "_law_reduced" 1 fR fdR ["rows", "vector"] (spLred K)) : FnOk P w K mg base CX0 2 f fd ["rows", "vector"] (spKept K) := by
  refine F.ok sc_kept (fun vs H Q E h => ?_) (fun cdv A outer s H vs Q E hr h => ?_)
  · obtain ⟨ar, av, xs, size, us, rs, v, rfl, _⟩ := h
    rfl
  · obtain ⟨ar, av, xs, size, us, rs, v, rfl, hS, hR, S, hf, hv, vl, sl, bv, _, q1, q2⟩ := h
    have hr_lred := hr
    refine ⟨_, (pss_cons (ps_set (i := 2) sc_kept.nd rfl (.inr rfl) (pe_call c_lred.G hr_lred (by rfl) c_lred.mg c_lred.kp c_lred.b .nil pass0 (pa_cons (pv 0) (pa_cons (pv 1) pa_nil))))
      (pss_cons (ps_setLc (i := 3) (own := [("k", 4)]) rfl sc_kept.nd rfl rfl (sw_true rfl rfl rfl (by decide +kernel)) (pi_range1 (by rfl) T.range (pa_cons (pe_callB call_len_seq (by rfl) T.len (by decide +kernel) (pa_cons (pv 2) pa_nil)) pa_nil)) (blkOk_by (own := [("k", 4)]) (N := ["rows", "vector", "rest", "places", "k"]) (sc := defScope s_kept) (by decide +kernel)) (fun _ _ _ _ _ => pg_name (i := 4) sc_kept.nd rfl (Or.inl rfl)) (fun _ _ _ _ _ => pts_one (pt_cmpR op_ne (pe_ix (r := rIxL K) ix_list (pv 2) (pv 4) (fun _ _ => rfl)) pe_int (nomark _))) (fun _ _ _ _ _ => (pv 4)))
      (pss_cons (ps_if (pt_cmpR (op_eqD hr.units) (pv 3) (pe_lst pa_nil) (nomark _)) (pss_one (ps_ret (pv 0))) pss_nil)
      (pss_one (ps_ret (pe_op op_cat (pv 0) (pe_lst (pa_cons (pe_tup (pa_cons (pe_ix (r := rIxL K) ix_list (pv 3) pe_int (fun _ _ => rfl)) (pa_cons (pv 2) pa_nil))) pa_nil)))))))), ?_⟩
    refine ⟨_, rfl, _, rfl, ar, av, xs, size, us, rs, v, 24, rfl, .inl (.inl hS), hR, S, hv, vl, sl, bv, by decide, by decide, fun l H1 times rest parts nl s1 hl R => ?_⟩
    have hrl := R.lr
    refine ⟨_, rfl, l, _, rfl, .inl (.inl (.inl hl)), (rest.length : Int), by rw [zs_len], by omega, by omega, fun D nD => lc_range (lo := 0) (n := rest.length) (fun j H2 => Same H1 H2 ∧ H2 D = some (.lst (zs (nzs rest j)))) ⟨Same.new nD, upd_same⟩ ?_ ?_⟩
    · rintro j H2 hj ⟨s2, h2⟩
      refine ⟨rfl, _, rfl, _, rfl, l, _, _, _, rfl, rfl, .inl (.inl (s2 _ _ hl)), at_of (Int.zero_add _) (zs_get hj), rfl, _, rfl, ite2 (fun e => ?_) (fun e => ?_)⟩
      · have e0 : (0 : Int) + (j : Int) = (j : Int) := Int.zero_add _
        refine ⟨_, rfl, _, h2, ?_, Same.mut s2 nD, ?_⟩
        · rw [zs_len]; exact Nat.lt_of_le_of_lt (Nat.le_trans (nzs_len rest j) (show j ≤ 1000 by omega)) (by decide)
        · rw [upd_same, nzs_yes (is_ne0 e), e0, zs_push]
      · exact ⟨s2, by rw [nzs_no (ne0 e)]; exact h2⟩
    · rintro H2 ⟨s2, h2⟩
      -- if places == []
      refine ⟨_, rfl, by decide, fun p np => ?_⟩
      have s3 : Same H2 (upd H2 p (.lst [])) := Same.new np
      refine ⟨_, _, .lst (.inl (.inl (s3 _ _ h2))) (dpAll_zs _), .lst (.inl (.inl upd_same)) (dpAll_zs []), shaped_list _, shaped_list [], _, rfl, ?_⟩
      have s13 := (s1.trans s2).trans s3
      rw [eqv_nil]
      refine ite2 (fun e => ?_) (fun e => ?_)
      · exact ⟨_, rfl, q1 _ s13⟩
      · have hne : nzs rest rest.length ≠ [] := fun z => e (decide_eq_true z)
        obtain ⟨k, g0, k1, k2⟩ := nzs_head hne
        generalize upd H2 p (.lst []) = H3 at s3 s13
        have h3 := s3 _ _ h2
        -- return rows + [(places[0], rest)]
        refine ⟨_, rfl, _, rfl, D, _, _, _, rfl, rfl, .inl (.inl h3), at_of rfl g0, _, rfl, (show 2 ≤ sizeLine by decide), fun t nt => ?_⟩
        refine ⟨(show 1 ≤ sizeLine by decide), fun u nu => ?_⟩
        have ntu : t ≠ u := fun e => by rw [e] at nu; rw [upd_same] at nu; cases nu
        have s4 : Same H3 (upd H3 t (.tup [.int (k : Int), .ref l])) := Same.new nt
        have s5 : Same (upd H3 t (.tup [.int (k : Int), .ref l])) (upd (upd H3 t (.tup [.int (k : Int), .ref l])) u (.lst [.ref t])) := Same.new nu
        have e5 : (upd (upd H3 t (.tup [.int (k : Int), .ref l])) u (.lst [.ref t])) t = some (.tup [.int (k : Int), .ref l]) := s5 _ _ upd_same
        have e6 : (upd (upd H3 t (.tup [.int (k : Int), .ref l])) u (.lst [.ref t])) u = some (.lst [.ref t]) := upd_same
        have s35 := s4.trans s5
        generalize upd (upd H3 t (.tup [.int (k : Int), .ref l])) u (.lst [.ref t]) = H5 at s35 e5 e6
        have s15 := s13.trans s35
        have lx : xs.length = us.length := by rw [hR.1, S.len]
        refine ⟨ar, u, xs, [.ref t], rfl, rfl, s15 _ _ hS, e6, Nat.le_trans (show xs.length + 1 ≤ 9 by omega) (by decide), fun r nr => ?_⟩
        have s6 : Same H5 (upd H5 r (.lst (xs ++ [.ref t]))) := Same.new nr
        refine q2 r _ _ (rs ++ [⟨k, over 1 rest, over 1 (madeOf times parts)⟩]) (Same.free s15 nr) (s15.trans s6) upd_same (LRows.push (hR.same (s15.trans s6)) (.inl (.inl (s6 _ _ e5))) ?_) (S.keep R vl hf (by omega) k2 (by decide) (fun i => Int.one_dvd _) fun i => Int.one_dvd _) (by simp)
        rw [over_one]
        exact .inl (.inl (((s2.trans s3).trans (s35.trans s6)) _ _ hl))
end
end W64
end
section
set_option maxHeartbeats 4000000
namespace W64
open PySem PySem.Spec PyProof.Rows L2 M64
/-- xs[i] by values, for xs[i] += e -/
theorem get_listN {X : Cx} : PGet X (rGetL X.K) := by
  intro pins s σ H o i ov iv Q I ro ri h
  obtain ⟨p, xs, k, v, rfl, rfl, hq, h0, he, q⟩ := h
  cases ro
  obtain ⟨t, rfl⟩ := ri
  obtain ⟨its, r, pl, hz⟩ := I.list hq
  obtain ⟨j, h1, h2, h3, h4, h5⟩ := atI_get he
  obtain ⟨w, ew, rw'⟩ := r.get h2
  have hl := r.length
  have hn := line63
  have hj : k.toNat = j := by
    rw [seqIndex_of h0 h5] at h1
    exact Option.some.inj h1
  exact PySem.wpAny_getItem_list pl.isList h0 (by omega) (by rw [hj]; simpa using ew) ⟨v, H, I, rw', q⟩
/-! ### loops and comprehensions over zip and enumerate of lists -/
section
variable {K : PySem.W.Frag} {a b : Addr} {xs ys : List V} {g : TG} {tt : TT} {te : TE} {tb : TS} {vs : List Nat} {D : Ends} {σ : L2.St} {H H1 : Hp} {L : Addr} {Qd : Hp → Prop}
theorem lc_zipL (hl : xs.length = ys.length) (Pv : Nat → Hp → Prop) (h0 : Pv 0 (upd H1 L (.lst []))) (hq : ∀ i H, Pv i H → SqL K H a xs ∧ SqL K H b ys)
    (hs : ∀ (i : Nat) (x y : V) (T : Addr) (H : Hp), xs[i]? = some x → ys[i]? = some y → Pv i H → H T = none → g (.ref T) (wipe σ vs) (upd H T (.tup [x, y])) fun σ2 H2 => wipe σ2 vs = wipe σ vs ∧ tt σ2 H2 fun c H3 =>
      if c = true then te σ2 H3 fun y H4 => ∃ acc, H4 L = some (.lst acc) ∧ acc.length < sizeLine ∧ Pv (i + 1) (upd H4 L (.lst (acc ++ [y]))) else Pv (i + 1) H3) (hd : ∀ H, Pv xs.length H → Qd H) :
    ∃ W : Nat → Nat → Hp → Prop, (∃ m, W 0 m (upd H1 L (.lst []))) ∧ ∀ i m H, W i m H →
      ((Itz K a b).stop i H ∧ Qd H) ∨ ((Itz K a b).go i H ∧ ∃ Nx : Hp → Prop, (∀ H', Nx H' → ∃ m', m' < m ∧ W (i + 1) m' H') ∧ ∀ x H', (Itz K a b).yld i H x H' → g x (wipe σ vs) H' fun σ2 H2 => wipe σ2 vs = wipe σ vs ∧ tt σ2 H2 fun c H3 =>
        if c = true then te σ2 H3 fun y H4 => ∃ acc, H4 L = some (.lst acc) ∧ acc.length < sizeLine ∧ Nx (upd H4 L (.lst (acc ++ [y]))) else Nx H3) := by
  refine ⟨fun i m H => m = xs.length - i ∧ i ≤ xs.length ∧ Pv i H, ⟨xs.length, rfl, Nat.zero_le _, h0⟩, ?_⟩
  rintro i m H ⟨rfl, hi, p⟩
  obtain ⟨qx, qy⟩ := hq i H p
  by_cases hlt : i < xs.length
  · have hx : xs[i]? = some xs[i] := List.getElem?_eq_getElem hlt
    have hlt2 : i < ys.length := by omega
    have hy : ys[i]? = some ys[i] := List.getElem?_eq_getElem hlt2
    refine .inr ⟨⟨xs, ys, _, _, qx, qy, hx, hy⟩, Pv (i + 1), fun H' p' => ⟨xs.length - (i + 1), by omega, rfl, hlt, p'⟩, fun v H' y => ?_⟩
    obtain ⟨T, x', y', rfl, hT, rfl, f1, f2⟩ := y
    exact hs i x' y' T H (f1 xs qx) (f2 ys qy) p hT
  · have e : i = xs.length := by omega
    subst e
    exact .inl ⟨⟨xs, ys, qx, qy, Or.inl (Nat.le_refl _)⟩, hd H p⟩
theorem lc_enumL (Pv : Nat → Hp → Prop) (h0 : Pv 0 (upd H1 L (.lst []))) (hq : ∀ i H, Pv i H → SqL K H a xs)
    (hs : ∀ (i : Nat) (x : V) (T : Addr) (H : Hp), xs[i]? = some x → Pv i H → H T = none → g (.ref T) (wipe σ vs) (upd H T (.tup [.int (i : Nat), x])) fun σ2 H2 => wipe σ2 vs = wipe σ vs ∧ tt σ2 H2 fun c H3 =>
      if c = true then te σ2 H3 fun y H4 => ∃ acc, H4 L = some (.lst acc) ∧ acc.length < sizeLine ∧ Pv (i + 1) (upd H4 L (.lst (acc ++ [y]))) else Pv (i + 1) H3) (hd : ∀ H, Pv xs.length H → Qd H) :
    ∃ W : Nat → Nat → Hp → Prop, (∃ m, W 0 m (upd H1 L (.lst []))) ∧ ∀ i m H, W i m H →
      ((Ite K a).stop i H ∧ Qd H) ∨ ((Ite K a).go i H ∧ ∃ Nx : Hp → Prop, (∀ H', Nx H' → ∃ m', m' < m ∧ W (i + 1) m' H') ∧ ∀ x H', (Ite K a).yld i H x H' → g x (wipe σ vs) H' fun σ2 H2 => wipe σ2 vs = wipe σ vs ∧ tt σ2 H2 fun c H3 =>
        if c = true then te σ2 H3 fun y H4 => ∃ acc, H4 L = some (.lst acc) ∧ acc.length < sizeLine ∧ Nx (upd H4 L (.lst (acc ++ [y]))) else Nx H3) := by
  refine ⟨fun i m H => m = xs.length - i ∧ i ≤ xs.length ∧ Pv i H, ⟨xs.length, rfl, Nat.zero_le _, h0⟩, ?_⟩
  rintro i m H ⟨rfl, hi, p⟩
  have qx := hq i H p
  by_cases hlt : i < xs.length
  · have hx : xs[i]? = some xs[i] := List.getElem?_eq_getElem hlt
    refine .inr ⟨⟨xs, _, qx, hx⟩, Pv (i + 1), fun H' p' => ⟨xs.length - (i + 1), by omega, rfl, hlt, p'⟩, fun v H' y => ?_⟩
    obtain ⟨T, x', rfl, hT, rfl, f1⟩ := y
    exact hs i x' T H (f1 xs qx) p hT
  · have e : i = xs.length := by omega
    subst e
    exact .inl ⟨⟨xs, qx, Nat.le_refl _⟩, hd H p⟩
theorem for_enumL (Pv : Nat → L2.St → Hp → Prop) (h0 : Pv 0 σ H) (hq : ∀ i σ H, Pv i σ H → SqL K H a xs)
    (hs : ∀ (i : Nat) (x : V) (T : Addr) (σ : L2.St) (H : Hp), xs[i]? = some x → Pv i σ H → H T = none → g (.ref T) σ (upd H T (.tup [.int (i : Nat), x])) fun σ2 H2 => tb { D with nx := Pv (i + 1), ct := Pv (i + 1), bk := D.nx } σ2 H2) (hd : ∀ σ H, Pv xs.length σ H → D.nx σ H) :
    ∃ W : Nat → Nat → L2.St → Hp → Prop, (∃ m, W 0 m σ H) ∧ ∀ i m σ H, W i m σ H →
      ((Ite K a).stop i H ∧ D.nx σ H) ∨ ((Ite K a).go i H ∧ ∃ N : L2.St → Hp → Prop, (∀ σ' H', N σ' H' → ∃ m', m' < m ∧ W (i + 1) m' σ' H') ∧ ∀ v H', (Ite K a).yld i H v H' → g v σ H' fun σ2 H2 => tb { D with nx := N, ct := N, bk := D.nx } σ2 H2) := by
  refine ⟨fun i m σ H => m = xs.length - i ∧ i ≤ xs.length ∧ Pv i σ H, ⟨xs.length, rfl, Nat.zero_le _, h0⟩, ?_⟩
  rintro i m σ H ⟨rfl, hi, p⟩
  have qx := hq i σ H p
  by_cases hlt : i < xs.length
  · have hx : xs[i]? = some xs[i] := List.getElem?_eq_getElem hlt
    refine .inr ⟨⟨xs, _, qx, hx⟩, Pv (i + 1), fun σ' H' p' => ⟨xs.length - (i + 1), by omega, rfl, hlt, p'⟩, fun v H' y => ?_⟩
    obtain ⟨T, x', rfl, hT, rfl, f1⟩ := y
    exact hs i x' T σ H (f1 xs qx) p hT
  · have e : i = xs.length := by omega
    subst e
    exact .inl ⟨⟨xs, qx, Nat.le_refl _⟩, hd σ H p⟩
end
section
variable {P : Program} {w : World} {K : PySem.W.Frag} {mg : Str → Option Value} {base : Heap}

theorem ok_init {f C : Addr} {fd : FuncData} (F : Fun K "__init__" "Space.__init__" s_init f fd) (S : Spc K mg C) : FnOk P w K mg base CX0 1 f fd ["self"] (spInit K C) := by
  refine F.ok sc_init (fun vs H Q E h => ?_) (fun cdv A outer s H vs Q E hr h => ?_)
  · obtain ⟨p, dx, rfl, _⟩ := h
    rfl
  · obtain ⟨p, dx, rfl, hp, q⟩ := h
    refine ⟨_, (pss_cons (ps_fld (pv 0) (pe_lst pa_nil) rfl)
      (pss_one (ps_fld (pv 0) (pe_lst pa_nil) rfl))), ?_⟩
    refine ⟨by decide, fun lv nv => ?_⟩
    have npv : p ≠ lv := ne_of_none hp nv
    refine ⟨_, rfl, p, C, dx, [], rfl, (by rw [upd_ne npv]; exact hp), S.cl, S.nV, (by show 0 < 1000; decide), ?_⟩
    refine ⟨by decide, fun lr nr => ?_⟩
    have npr : p ≠ lr := fun e => by rw [← e, upd_same] at nr; cases nr
    have nr1 : upd H lv (.lst []) lr = none := by rw [upd_ne npr.symm] at nr; exact nr
    have nvr : lv ≠ lr := fun e => by rw [← e, upd_same] at nr1; cases nr1
    have nr0 : H lr = none := by rw [upd_ne nvr.symm] at nr1; exact nr1
    refine ⟨_, rfl, p, C, dx, _, rfl, (by rw [upd_ne npr]; exact upd_same), S.cl, S.nR, (by show 1 < 1000; decide), ?_⟩
    refine q lv lr _ nv nr0 ⟨⟨dx, upd_same⟩, by rw [upd_ne npv.symm, upd_ne nvr, upd_ne npv.symm, upd_same], by rw [upd_ne npr.symm, upd_same], nvr⟩ fun b o e hb => ?_
    rw [upd_ne hb, upd_ne (ne_of_none e nr0), upd_ne hb, upd_ne (ne_of_none e nv)]
    exact e
theorem ixN_nat {n j : Nat} (h : j < n) : ixN n (j : Int) = some j := by
  unfold ixN
  rw [if_pos (by omega), if_pos (by omega)]; simp
theorem gi_set {l : List Int} {j i : Nat} {z : Int} (h : j < l.length) : gi (l.set j z) i = if i = j then z else gi l i := by
  unfold gi
  rw [List.getD_eq_getElem?_getD, List.getD_eq_getElem?_getD]
  split
  · rename_i e; subst e; rw [List.getElem?_set_self h]; rfl
  · rename_i e; rw [List.getElem?_set_ne (fun c => e c.symm)]
theorem zs_set (l : List Int) (j : Nat) (z : Int) : (zs l).set j (V.int z) = zs (l.set j z) := by
  show (l.map V.int).set j (V.int z) = (l.set j z).map V.int
  rw [List.map_set]
theorem divW {a : Int} {g : Int} {b n : Nat} (h : 0 < g) (hg : g ≤ (b : Nat)) (hb : b < 2 ^ n) (h0 : 0 < n) (hn : n ≤ 9000) : CDivW a g := wide_div h (show g.natAbs < 2 ^ n by omega) h0 hn
theorem ok_reduced {f C : Addr} {fd : FuncData} (F : Fun K "reduced" "Space.reduced" s_reduced f fd) (T : Txt K mg) (S : Spc K mg C) : FnOk P w K mg base CX0 1 f fd ["self", "vector"] (spReduced K C) := by
  refine F.ok sc_reduced (fun vs H Q E h => ?_) (fun cdv A outer s H vs Q E hr h => ?_)
  · obtain ⟨s, av, lv, lr, xs, ys, size, us, rs, v, c, rfl, _⟩ := h
    rfl
  · obtain ⟨s, av, lv, lr, xs, ys, size, us, rs, v, c, rfl, A, lx, hR, O, hv, vl, sl, bv, c0, c1, q⟩ := h
    have few : rs.length ≤ 8 := by have := O.few; have := O.len; omega
    refine ⟨_, (pss_cons (ps_set (i := 2) sc_reduced.nd rfl (.inl rfl) pe_int)
      (pss_cons (ps_set (i := 3) sc_reduced.nd rfl (.inl rfl) (pe_callTy call_list_of (by rfl) T.list (by decide +kernel) (pa_cons (pv 1) pa_nil)))
      (pss_cons (ps_setLc (i := 4) (own := [("_", 13)]) rfl sc_reduced.nd rfl rfl (sw_true rfl rfl rfl (by decide +kernel)) (pi_list (pe_fld (pv 0) rfl)) (blkOk_by (own := [("_", 13)]) (N := ["self", "vector", "times", "rest", "parts", "at", "row", "made", "common", "up", "down", "k", "part", "_", "a", "b"]) (sc := defScope s_reduced) (by decide +kernel)) (fun _ _ _ _ _ => pg_name (i := 13) sc_reduced.nd rfl (Or.inl rfl)) (fun _ _ _ _ _ => pts_nil) (fun _ _ _ _ _ => pe_int))
      (pss_cons (ps_for PassesOwn.never rfl (pi_list (pe_fld (pv 0) rfl)) (pg_tup rfl (pgs_cons (pg_name (i := 5) sc_reduced.nd rfl (.inl rfl)) (pgs_cons (pg_name (i := 6) sc_reduced.nd rfl (.inl rfl)) (pgs_cons (pg_name (i := 7) sc_reduced.nd rfl (.inl rfl)) pgs_nil)))) (pss_cons (ps_if (pt_cmpR op_eq (pe_ix (r := rIxL K) ix_list (pv 3) (pv 5) (fun _ _ => rfl)) pe_int (nomark _)) (pss_one ps_continue) pss_nil)
      (pss_cons (ps_set (i := 8) sc_reduced.nd rfl (.inl rfl) (pe_callBfun cr_gcd (by rfl) T.gcd (pa_cons (pe_ix (r := rIxL K) ix_list (pv 3) (pv 5) (fun _ _ => rfl)) (pa_cons (pe_ix (r := rIxL K) ix_list (pv 6) (pv 5) (fun _ _ => rfl)) pa_nil))))
      (pss_cons (ps_set (i := 9) sc_reduced.nd rfl (.inr rfl) (pe_op op_fdivW (pe_ix (r := rIxL K) ix_list (pv 6) (pv 5) (fun _ _ => rfl)) (pv 8)))
      (pss_cons (ps_set (i := 10) sc_reduced.nd rfl (.inr rfl) (pe_op op_fdivW (pe_ix (r := rIxL K) ix_list (pv 3) (pv 5) (fun _ _ => rfl)) (pv 8)))
      (pss_cons (ps_set (i := 2) sc_reduced.nd rfl (.inl rfl) (pe_op op_mulW (pv 2) (pv 9)))
      (pss_cons (ps_setLc (i := 3) (own := [("a", 14), ("b", 15)]) (g := gTup K 2 (gCons (gName 14) (gCons (gName 15) gNil))) rfl sc_reduced.nd rfl rfl (sw_true rfl rfl rfl (by decide +kernel)) (pi_zip (by rfl) T.zip (pa_cons (pv 3) (pa_cons (pv 6) pa_nil))) (blkOk_by (own := [("a", 14), ("b", 15)]) (N := ["self", "vector", "times", "rest", "parts", "at", "row", "made", "common", "up", "down", "k", "part", "_", "a", "b"]) (sc := defScope s_reduced) (by decide +kernel)) (fun _ _ _ _ _ => (pg_tup rfl (pgs_cons (pg_name (i := 14) sc_reduced.nd rfl (.inl rfl)) (pgs_cons (pg_name (i := 15) sc_reduced.nd rfl (.inl rfl)) pgs_nil)))) (fun _ _ _ _ _ => pts_nil) (fun _ _ _ _ _ => (pe_op op_sub (pe_op op_mulW (pv 9) (pv 14)) (pe_op op_mulW (pv 10) (pv 15)))))
      (pss_cons (ps_setLc (i := 4) (own := [("a", 14)]) rfl sc_reduced.nd rfl rfl (sw_true rfl rfl rfl (by decide +kernel)) (pi_list (pv 4)) (blkOk_by (own := [("a", 14)]) (N := ["self", "vector", "times", "rest", "parts", "at", "row", "made", "common", "up", "down", "k", "part", "_", "a", "b"]) (sc := defScope s_reduced) (by decide +kernel)) (fun _ _ _ _ _ => pg_name (i := 14) sc_reduced.nd rfl (Or.inl rfl)) (fun _ _ _ _ _ => pts_nil) (fun _ _ _ _ _ => (pe_op op_mulW (pv 9) (pv 14))))
      (pss_one (ps_for PassesOwn.never rfl (pi_enum (by rfl) T.enumerate (pa_cons (pv 7) pa_nil)) (pg_tup rfl (pgs_cons (pg_name (i := 11) sc_reduced.nd rfl (.inl rfl)) (pgs_cons (pg_name (i := 12) sc_reduced.nd rfl (.inl rfl)) pgs_nil))) (pss_one (ps_augS (pv 4) (pv 11) get_listN (pe_op op_mulW (pv 10) (pv 12)) ip_add set_list))))))))))))
      (pss_one (ps_ret (pe_tup (pa_cons (pv 2) (pa_cons (pv 3) (pa_cons (pv 4) pa_nil)))))))))), ?_⟩
    obtain ⟨dx, hob⟩ := A.ob
    -- times = 1; rest = list(vector)
    refine ⟨_, rfl, av, _, rfl, .inr hv, fun l nl => ?_⟩
    have s1 : Same H (upd H l (.lst (zs v))) := Same.new nl
    have e1 : (upd H l (.lst (zs v))) l = some (.lst (zs v)) := upd_same
    generalize upd H l (.lst (zs v)) = H1 at s1 e1
    -- parts = [0 for _ in self.vectors]
    refine ⟨_, rfl, s, C, dx, _, _, rfl, s1 _ _ hob, S.cl, S.nV, spF_v _ _, lv, rfl, ⟨_, .inl (.inl (s1 _ _ A.hv))⟩, fun m nm => lc_list (K := K) (a := lv) (xs := xs) (fun i H2 => Same H1 H2 ∧ H2 m = some (.lst (zs (List.replicate i 0)))) ⟨Same.new nm, upd_same⟩ (fun i H2 _ p => .inl (.inl (p.1 _ _ (s1 _ _ A.hv)))) ?_ ?_⟩
    · rintro i x H2 hi ⟨s2, h2⟩
      have hil : i < xs.length := (List.getElem?_eq_some_iff.mp hi).1
      refine ⟨rfl, _, h2, ?_, Same.mut s2 nm, ?_⟩
      · rw [zs_len, List.length_replicate]
        have := O.few
        exact Nat.lt_of_le_of_lt (show i ≤ 8 by omega) (by decide)
      · rw [upd_same, zs_push, ← List.replicate_succ']
    · rintro H2 ⟨s2, h2⟩
      rw [lx] at h2
      have nlm : l ≠ m := fun e => by rw [← e, e1] at nm; cases nm
      have s02 := s1.trans s2
      refine ⟨_, rfl, s, C, dx, _, _, rfl, s02 _ _ hob, S.cl, S.nR, spF_r _ _, lr, rfl, ⟨_, .inl (.inl (s02 _ _ A.hr))⟩, for_list (K := K) (a := lr) (xs := ys) (fun i σ H' => ∃ (l m : Addr) (times : Int) (rest parts : List Int) (y5 y6 y7 y8 y9 y10 y11 y12 : Option V), σ = [some (.ref s), some (.ref av), some (.int times), some (.ref l), some (.ref m), y5, y6, y7, y8, y9, y10, y11, y12, none, none, none] ∧ Same H H' ∧ H l = none ∧ H m = none ∧ l ≠ m ∧ H' l = some (.lst (zs rest)) ∧ H' m = some (.lst (zs parts)) ∧ RedSt size us rs v c i times rest parts)
        ⟨l, m, 1, v, _, none, none, none, none, none, none, none, none, rfl, s02, nl, Same.free s1 nm, nlm, s2 _ _ e1, h2, RedSt.start vl bv c0⟩ (fun i σ H' _ ⟨_, _, _, _, _, _, _, _, _, _, _, _, _, _, s2, _⟩ => .inl (.inl (s2 _ _ A.hr))) ?_ ?_⟩
      · clear e1 s1 h2 s2 nlm s02 nm nl H1 H2 l m
        rintro i x σ H' hi ⟨l, m, times, rest, parts, y5, y6, y7, y8, y9, y10, y11, y12, rfl, s1, nl, nm, nlm, hl, hm, R⟩
        have hil : i < rs.length := by rw [← hR.1]; exact (List.getElem?_eq_some_iff.mp hi).1
        obtain ⟨p, u, z, h1, h2, h3, h4'⟩ := hR.2 i hil
        have ex : x = .ref p := Option.some.inj (hi.symm.trans h1)
        subst ex
        have hlr := R.lr
        have hrl := O.rl i hil
        have hat : (rk rs i).at_ < size := O.ech.low i (by rw [← O.len]; exact hil)
        have g1 : (zs rest)[(rk rs i).at_]? = some (.int (gi rest (rk rs i).at_)) := zs_get (by omega)
        have g2 : (zs (rk rs i).row)[(rk rs i).at_]? = some (.int (gi (rk rs i).row (rk rs i).at_)) := zs_get (by omega)
        refine ⟨p, _, rfl, Same.tup s1 h2, rfl, _, _, rfl, _, _, rfl, _, _, rfl, rfl, ?_⟩
        -- if rest[at] == 0: continue
        refine ⟨_, rfl, _, rfl, l, _, _, _, rfl, rfl, .inl (.inl hl), at_of rfl g1, rfl, _, rfl, ite2 (fun e => ?_) (fun e => ?_)⟩
        · exact ⟨l, m, times, rest, parts, _, _, _, _, _, _, _, _, rfl, s1, nl, nm, nlm, hl, hm, R.skip (V.int.inj (of_decide_eq_true e))⟩
        · have hb0 : gi (rk rs i).row (rk rs i).at_ ≠ 0 := O.ech.non i (by rw [← O.len]; exact hil)
          obtain ⟨gp, u0, ux, ub, db⟩ := updown (a := gi rest (rk rs i).at_) hb0
          have rb1 := RB_small (k := i) (by omega)
          have tb1 := TB_small (k := i) c1 (by omega)
          have gle : ((Nat.gcd (gi rest (rk rs i).at_).natAbs (gi (rk rs i).row (rk rs i).at_).natAbs : Nat) : Int) ≤ ((gi (rk rs i).row (rk rs i).at_).natAbs : Nat) := by
            have := Nat.gcd_le_right (n := (gi (rk rs i).row (rk rs i).at_).natAbs) (gi rest (rk rs i).at_).natAbs (by omega)
            omega
          have rb0 : 0 < RB i := by unfold RB; exact Nat.mul_pos (by decide) (Nat.pow_pos (by decide))
          have dv : ∀ q : Int, CDivW q ((Nat.gcd (gi rest (rk rs i).at_).natAbs (gi (rk rs i).row (rk rs i).at_).natAbs : Nat) : Int) := fun q => divW gp gle (O.br i hil _) rb0 (by omega)
          -- common; up; down; times
          refine ⟨_, rfl, _, rfl, l, _, _, _, rfl, rfl, .inl (.inl hl), at_of rfl g1, _, rfl, _, rfl, u, _, _, _, rfl, rfl, s1.seq h3, at_of rfl g2, _, _, rfl, ?_⟩
          refine ⟨_, rfl, _, rfl, u, _, _, _, rfl, rfl, s1.seq h3, at_of rfl g2, _, rfl, _, _, rfl, rfl, dv _, ?_⟩
          refine ⟨_, rfl, _, rfl, l, _, _, _, rfl, rfl, .inl (.inl hl), at_of rfl g1, _, rfl, _, _, rfl, rfl, dv _, ?_⟩
          have bu : (gi (rk rs i).row (rk rs i).at_ / ((Nat.gcd (gi rest (rk rs i).at_).natAbs (gi (rk rs i).row (rk rs i).at_).natAbs : Nat) : Int)).natAbs < 2 ^ RB i := Nat.lt_of_le_of_lt ub (O.br i hil _)
          have bd : (gi rest (rk rs i).at_ / ((Nat.gcd (gi rest (rk rs i).at_).natAbs (gi (rk rs i).row (rk rs i).at_).natAbs : Nat) : Int)).natAbs < 2 ^ TB c i := Nat.lt_of_le_of_lt db (R.br _)
          dsimp only
          generalize gi (rk rs i).row (rk rs i).at_ / ((Nat.gcd (gi rest (rk rs i).at_).natAbs (gi (rk rs i).row (rk rs i).at_).natAbs : Nat) : Int) = up at u0 ux bu
          generalize gi rest (rk rs i).at_ / ((Nat.gcd (gi rest (rk rs i).at_).natAbs (gi (rk rs i).row (rk rs i).at_).natAbs : Nat) : Int) = down at ux bd
          have R' := R.step O hil u0 ux bu bd
          refine ⟨_, rfl, _, rfl, _, _, rfl, rfl, mulW (m := TB c i) (n := RB i) R.bt bu (by omega) (by omega), ?_⟩
          -- rest = [up * a - down * b for a, b in zip(rest, row)]
          refine ⟨_, rfl, _, rfl, l, u, _, _, rfl, .inl (.inl hl), s1.seq h3, fun D nD => lc_zipL (xs := zs rest) (ys := zs (rk rs i).row) (by rw [zs_len, zs_len]; omega) (fun j H4 => Same H' H4 ∧ H4 D = some (.lst (zs ((newRest up down rest (rk rs i).row).take j)))) ⟨Same.new nD, upd_same⟩ (fun j H4 p => ⟨.inl (.inl (p.1 _ _ hl)), (s1.trans p.1).seq h3⟩) ?_ ?_⟩
          · rintro j a b t H4 ha hb ⟨s4, h4⟩ nt
            obtain ⟨rfl, ja⟩ := zs_at ha
            obtain ⟨rfl, jb⟩ := zs_at hb
            have nl' : j < (newRest up down rest (rk rs i).row).length := by rw [newRest_len]; exact ja
            have ntD : D ≠ t := ne_of_none h4 nt
            refine ⟨t, _, rfl, .inl (.inl upd_same), rfl, _, _, rfl, _, _, rfl, rfl, rfl, ?_⟩
            refine ⟨_, rfl, _, rfl, _, _, rfl, rfl, mulW (m := RB i) (n := TB c i) bu (R.br _) (by omega) (by omega), _, rfl, _, rfl, _, _, rfl, rfl, mulW (m := TB c i) (n := RB i) bd (O.br i hil _) (by omega) (by omega), _, _, rfl, rfl, ?_⟩
            exact ⟨_, by rw [upd_ne ntD]; exact h4, len_line (by rw [newRest_len]; omega) j, Same.mut (s4.trans (Same.new nt)) nD, push_at nl' (newRest_get ja)⟩
          · rintro H4 ⟨s4, h4⟩
            rw [zs_len, zs_all (by rw [newRest_len]; exact Nat.le_refl _)] at h4
            have hm4 := s4 _ _ hm
            -- parts = [up * a for a in parts]
            refine ⟨_, rfl, m, rfl, ⟨_, .inl (.inl hm4)⟩, fun E nE => lc_list (K := K) (a := m) (xs := zs parts) (fun j H5 => Same H4 H5 ∧ H5 E = some (.lst (zs ((parts.map fun x => up * x).take j)))) ⟨Same.new nE, upd_same⟩ (fun j H5 _ p => .inl (.inl (p.1 _ _ hm4))) ?_ ?_⟩
            · rintro j a H5 ha ⟨s5, h5⟩
              obtain ⟨rfl, ja⟩ := zs_at ha
              have hp := R.lp
              have few' := O.few
              refine ⟨rfl, _, rfl, _, rfl, _, _, rfl, rfl, mulW (m := RB i) (n := TB c i) bu (R.bp _) (by omega) (by omega), ?_⟩
              exact ⟨_, h5, len_line (by rw [List.length_map]; omega) j, Same.mut s5 nE, push_at (by rw [List.length_map]; exact ja) (gi_map (Int.mul_zero up) parts j)⟩
            · rintro H5 ⟨s5, h5⟩
              rw [zs_len, zs_all (by rw [List.length_map]; exact Nat.le_refl _)] at h5
              have s05 := (s1.trans s4).trans s5
              have nE0 : H E = none := Same.free (s1.trans s4) nE
              have nDE : D ≠ E := ne_of_none h4 nE
              -- for k, part in enumerate(made): parts[k] += down * part
              have hml := O.ml i hil
              have hpl := R.lp
              have hin : i < us.length := by rw [← O.len]; exact hil
              refine ⟨_, rfl, z, _, rfl, s05.seq h4', for_enumL (a := z) (xs := zs (rk rs i).made) (fun j σ H6 => ∃ (pj : List Int) (y11 y12 : Option V), σ = [some (.ref s), some (.ref av), some (.int (times * up)), some (.ref D), some (.ref E), some (.int ((rk rs i).at_ : Nat)), some (.ref u), some (.ref z), some (.int ((Nat.gcd (gi rest (rk rs i).at_).natAbs (gi (rk rs i).row (rk rs i).at_).natAbs : Nat) : Int)), some (.int up), some (.int down), y11, y12, none, none, none] ∧
                  Same H H6 ∧ H6 D = some (.lst (zs (newRest up down rest (rk rs i).row))) ∧ H6 E = some (.lst (zs pj)) ∧ pj.length = parts.length ∧ ∀ a, a < parts.length → gi pj a = up * gi parts a + if a < j then down * gi (rk rs i).made a else 0)
                ⟨parts.map fun x => up * x, _, _, rfl, s05, s5 _ _ h4, h5, List.length_map .., fun a ha => by rw [gi_map (f := fun x => up * x) (Int.mul_zero up), if_neg (by omega), Int.add_zero]⟩ (fun j σ H6 ⟨_, _, _, _, s6, _⟩ => s6.seq h4') ?_ ?_⟩
              · rintro j x t σ H6 hx ⟨pj, y11, y12, rfl, s6, hD, hE, hpj, hval⟩ nt
                obtain ⟨rfl, jx⟩ := zs_at hx
                have ntD : D ≠ t := ne_of_none hD nt
                have ntE : E ≠ t := ne_of_none hE nt
                have jp : j < pj.length := by omega
                have hE' : (upd H6 t (.tup [.int (j : Nat), .int (gi (rk rs i).made j)])) E = some (.lst (zs pj)) := by rw [upd_ne ntE]; exact hE
                refine ⟨t, _, rfl, .inl (.inl upd_same), rfl, _, _, rfl, _, _, rfl, rfl, ?_⟩
                refine ⟨_, rfl, _, rfl, E, _, _, _, rfl, rfl, .inl (.inl hE'), Int.natCast_nonneg j, at_of rfl (zs_get jp), _, rfl, _, rfl, _, _, rfl, rfl, mulW (m := TB c i) (n := RB i) bd (O.bm i hil _) (by omega) (by omega), _, _, rfl, rfl, E, _, _, j, rfl, rfl, hE', ixN_nat (by rw [zs_len]; exact jp), ?_⟩
                refine ⟨pj.set j (gi pj j + down * gi (rk rs i).made j), _, _, rfl, Same.mut (s6.trans (Same.new nt)) nE0, by rw [upd_ne nDE, upd_ne ntD]; exact hD, by rw [upd_same, ← zs_set], by rw [List.length_set]; exact hpj, fun a ha => ?_⟩
                rw [gi_set jp]
                by_cases e : a = j
                · rw [if_pos e, e, hval j (by omega), if_neg (by omega), if_pos (by omega), Int.add_zero]
                · rw [if_neg e, hval a ha]
                  by_cases h : a < j
                  · rw [if_pos h, if_pos (by omega)]
                  · rw [if_neg h, if_neg (by omega)]
              · rintro σ H6 ⟨pj, y11, y12, rfl, s6, hD, hE, hpj, hval⟩
                have ep : pj = newParts up down parts (rk rs i).made := gi_ext (by rw [newParts_len, hpj]) fun a ha => by
                  rw [newParts_get (by omega), hval a (by omega)]
                  by_cases h : a < (zs (rk rs i).made).length
                  · rw [if_pos h]
                  · have h' : (rk rs i).made.length ≤ a := by rw [zs_len] at h; omega
                    rw [if_neg h, gi_out h', Int.mul_zero]
                rw [ep] at hE
                exact ⟨D, E, _, _, _, _, _, _, _, _, _, _, _, rfl, s6, Same.free s1 nD, nE0, nDE, hD, hE, R'⟩
            
      · rintro σ H' ⟨l, m, times, rest, parts, y5, y6, y7, y8, y9, y10, y11, y12, rfl, s3, nl, nm, nlm, hl, hm, R⟩
        rw [hR.1] at R
        refine ⟨_, rfl, _, rfl, _, rfl, (show 3 ≤ sizeLine by decide), fun p np => ?_⟩
        have s4 : Same H' (upd H' p (.tup [.int times, .ref l, .ref m])) := Same.new np
        exact q p l m _ times rest parts (Same.free s3 np) nl nm (s3.trans s4) upd_same (s4 _ _ hl) (s4 _ _ hm) R
end
end W64
end
section
set_option maxHeartbeats 4000000
namespace W64
open PySem PySem.Spec PyProof.Rows L2 M64
theorem refs_ne {xs : List V} {row : List Int} (h : ∃ p, xs[0]? = some (.ref p)) : xs ≠ zs row := by
  rintro rfl
  obtain ⟨p, h⟩ := h
  rw [List.getElem?_map] at h
  cases e : row[0]? with
  | none => rw [e] at h; cases h
  | some x => rw [e] at h; cases h
/-- all but two addresses as it was -/
def Keep2 (a b : Addr) (H H' : Hp) : Prop := ∀ c o, c ≠ a → c ≠ b → H c = some o → H' c = some o
theorem Keep2.tup {K : PySem.W.Frag} {a b c : Addr} {H H' : Hp} {xs ys zs : List V} (k : Keep2 a b H H') (ha : H a = some (.lst xs)) (hb : H b = some (.lst ys)) (h : SqT K H c zs) : SqT K H' c zs := by
  rcases h with (h | ⟨o, h⟩) | h
  · exact .inl (.inl (k _ _ (ne_of h ha (by intro z; cases z)) (ne_of h hb (by intro z; cases z)) h))
  · exact .inl (.inr ⟨o, k _ _ (ne_of h ha (by intro z; cases z)) (ne_of h hb (by intro z; cases z)) h⟩)
  · exact .inr h
theorem Keep2.seq {K : PySem.W.Frag} {a b c : Addr} {H H' : Hp} {xs ys zs : List V} (k : Keep2 a b H H') (ha : H a = some (.lst xs)) (hb : H b = some (.lst ys)) (na : xs ≠ zs) (nb : ys ≠ zs) (h : SqL K H c zs) : SqL K H' c zs := by
  rcases h with (h | ⟨o, h⟩) | h
  · exact .inl (.inl (k _ _ (ne_of h ha (by intro z; exact na (HO.lst.inj z).symm)) (ne_of h hb (by intro z; exact nb (HO.lst.inj z).symm)) h))
  · exact .inl (.inr ⟨o, k _ _ (ne_of h ha (by intro z; cases z)) (ne_of h hb (by intro z; cases z)) h⟩)
  · exact .inr h
theorem Vecs.keep2 {K : PySem.W.Frag} {H H' : Hp} {a b : Addr} {xs ys : List V} {us : List (List Int)} (h : Vecs K H xs us) (k : Keep2 a b H H') (ha : H a = some (.lst xs)) (hb : H b = some (.lst ys)) : Vecs K H' xs us := ⟨h.1, fun i hi => by
  obtain ⟨p, h1, h2⟩ := h.2 i hi
  exact ⟨p, h1, k.tup ha hb h2⟩⟩
theorem SRows.keep2 {K : PySem.W.Frag} {H H' : Hp} {a b : Addr} {xs ys : List V} {us : List (List Int)} {rs : List SRow} (h : SRows K H ys rs) (V : Vecs K H xs us) (e : rs.length = us.length) (k : Keep2 a b H H') (ha : H a = some (.lst xs)) (hb : H b = some (.lst ys)) : SRows K H' ys rs := ⟨h.1, fun i hi => by
  obtain ⟨p, l, m, h1, h2, h3, h4⟩ := h.2 i hi
  obtain ⟨p0, l0, m0, g1, _⟩ := h.2 0 (by omega)
  obtain ⟨q0, q1, _⟩ := V.2 0 (by omega)
  exact ⟨p, l, m, h1, k.tup ha hb h2, k.seq ha hb (refs_ne ⟨_, q1⟩) (refs_ne ⟨_, g1⟩) h3, k.seq ha hb (refs_ne ⟨_, q1⟩) (refs_ne ⟨_, g1⟩) h4⟩⟩
theorem gf_take {l : List Int} {j : Nat} {g : Nat} (h : j < l.length) : gf (l.take (j + 1)) g = Nat.gcd (gf (l.take j) g) (gi l j).natAbs := by
  rw [List.take_add_one, gi_get h, gf_append]; rfl
section
variable {P : Program} {w : World} {K : PySem.W.Frag} {mg : Str → Option Value} {base : Heap}

theorem ok_keep {f C fR : Addr} {fd fdR : FuncData} (F : Fun K "keep" "Space.keep" s_keep f fd) (T : Txt K mg) (S : Spc K mg C) (m_reduced : Meth K C "reduced" fR) (G_reduced : FnOk P w K mg base CX0 1 fR fdR ["self", "vector"] (spReduced K C)) (b_reduced : Binds K fdR ["self", "vector"] []) : FnOk P w K mg base CX0 2 f fd ["self", "vector"] (spKeep K C) := by
  refine F.ok sc_keep (fun vs H Q E h => ?_) (fun cdv A outer s H vs Q E hr h => ?_)
  · obtain ⟨s, av, lv, lr, xs, ys, size, us, rs, v, rfl, _⟩ := h
    rfl
  · obtain ⟨s, av, lv, lr, xs, ys, size, us, rs, v, rfl, A, hV, hR, O, few, hv, vl, sl, bv, out, q⟩ := h
    have hr_reduced := hr
    refine ⟨_, (pss_cons (ps_asg (pe_meth (pv 0) S.cl m_reduced G_reduced hr_reduced b_reduced .nil pass0 (pa_cons (pv 1) pa_nil)) (pg_tup rfl (pgs_cons (pg_name (i := 2) sc_keep.nd rfl (.inl rfl)) (pgs_cons (pg_name (i := 3) sc_keep.nd rfl (.inl rfl)) (pgs_cons (pg_name (i := 4) sc_keep.nd rfl (.inl rfl)) pgs_nil)))))
      (pss_cons (ps_setLc (i := 5) (own := [("at", 9), ("member", 8)]) (g := gTup K 2 (gCons (gName 9) (gCons (gName 8) gNil))) rfl sc_keep.nd rfl rfl (sw_true rfl rfl rfl (by decide +kernel)) (pi_enum (by rfl) T.enumerate (pa_cons (pv 3) pa_nil)) (blkOk_by (own := [("at", 9), ("member", 8)]) (N := ["self", "vector", "times", "rest", "parts", "places", "made", "common", "member", "at", "part", "a"]) (sc := defScope s_keep) (by decide +kernel)) (fun _ _ _ _ _ => (pg_tup rfl (pgs_cons (pg_name (i := 9) sc_keep.nd rfl (.inl rfl)) (pgs_cons (pg_name (i := 8) sc_keep.nd rfl (.inl rfl)) pgs_nil)))) (fun _ _ _ _ _ => pts_one (pt_cmpR op_ne (pv 8) pe_int (nomark _))) (fun _ _ _ _ _ => (pv 9)))
      (pss_cons (ps_if (pt_not (pt_truth (pv 5) (by intro _; rfl))) (pss_one (ps_ret pe_bl)) pss_nil)
      (pss_cons (ps_set (i := 6) sc_keep.nd rfl (.inl rfl) (pe_op op_cat (pe_lc (own := [("part", 10)]) rfl sc_keep.nd (pi_list (pv 4)) (blkOk_by (own := [("part", 10)]) (N := ["self", "vector", "times", "rest", "parts", "places", "made", "common", "member", "at", "part", "a"]) (sc := defScope s_keep) (by decide +kernel)) (fun _ _ _ _ _ => pg_name (i := 10) sc_keep.nd rfl (Or.inl rfl)) (fun _ _ _ _ _ => pts_nil) (fun _ _ _ _ _ => (pe_op op_sub pe_int (pv 10)))) (pe_lst (pa_cons (pv 2) pa_nil))))
      (pss_cons (ps_set (i := 7) sc_keep.nd rfl (.inr rfl) pe_int)
      (pss_cons (ps_for PassesOwn.never rfl (pi_list (pe_op op_cat (pv 3) (pv 6))) (pg_name (i := 8) sc_keep.nd rfl (.inl rfl)) (pss_one (ps_set (i := 7) sc_keep.nd rfl (.inr rfl) (pe_callBfun cr_gcd (by rfl) T.gcd (pa_cons (pv 7) (pa_cons (pv 8) pa_nil))))))
      (pss_cons (ps_expr (pe_bm PySem.F.plainAttrs_list PySem.F.slot_list_append PySem.F.type_list_append mt_append (pe_fld (pv 0) rfl) (pa_cons (pe_callTy call_tuple_of (by rfl) T.tuple (by decide +kernel) (pa_cons (pv 1) pa_nil)) pa_nil)))
      (pss_cons (ps_expr (pe_bm PySem.F.plainAttrs_list PySem.F.slot_list_append PySem.F.type_list_append mt_append (pe_fld (pv 0) rfl) (pa_cons (pe_tup (pa_cons (pe_ix (r := rIxL K) ix_list (pv 5) pe_int (fun _ _ => rfl)) (pa_cons (pe_lc (own := [("a", 11)]) rfl sc_keep.nd (pi_list (pv 3)) (blkOk_by (own := [("a", 11)]) (N := ["self", "vector", "times", "rest", "parts", "places", "made", "common", "member", "at", "part", "a"]) (sc := defScope s_keep) (by decide +kernel)) (fun _ _ _ _ _ => pg_name (i := 11) sc_keep.nd rfl (Or.inl rfl)) (fun _ _ _ _ _ => pts_nil) (fun _ _ _ _ _ => (pe_op op_fdivW (pv 11) (pv 7)))) (pa_cons (pe_lc (own := [("a", 11)]) rfl sc_keep.nd (pi_list (pv 6)) (blkOk_by (own := [("a", 11)]) (N := ["self", "vector", "times", "rest", "parts", "places", "made", "common", "member", "at", "part", "a"]) (sc := defScope s_keep) (by decide +kernel)) (fun _ _ _ _ _ => pg_name (i := 11) sc_keep.nd rfl (Or.inl rfl)) (fun _ _ _ _ _ => pts_nil) (fun _ _ _ _ _ => (pe_op op_fdivW (pv 11) (pv 7)))) pa_nil)))) pa_nil)))
      (pss_one (ps_ret pe_bl)))))))))), ?_⟩
    obtain ⟨dx, hob⟩ := A.ob
    refine ⟨_, rfl, s, dx, _, rfl, hob, spF_no _ _ (by decide +kernel) (by decide +kernel), _, rfl, s, av, lv, lr, xs, ys, size, us, rs, v, 24, rfl, A, hV.1, hR, O, hv, vl, sl, bv, by decide, by decide, fun p l m H1 times rest parts np nl nm s1 hp hl hm R => ?_⟩
    refine ⟨p, _, rfl, .inl (.inl hp), rfl, _, _, rfl, _, _, rfl, _, _, rfl, rfl, ?_⟩
    have hrl := R.lr
    have hpl := R.lp
    -- places
    refine ⟨_, rfl, l, _, rfl, .inl (.inl hl), fun D nD => lc_enumL (a := l) (xs := zs rest) (fun j H2 => Same H1 H2 ∧ H2 D = some (.lst (zs (nzs rest j)))) ⟨Same.new nD, upd_same⟩ (fun j H2 p => .inl (.inl (p.1 _ _ hl))) ?_ ?_⟩
    · rintro j x t H2 hx ⟨s2, h2⟩ nt
      obtain ⟨rfl, jx⟩ := zs_at hx
      have ntD : D ≠ t := ne_of_none h2 nt
      have s3 := s2.trans (Same.new (o := .tup [.int (j : Nat), .int (gi rest j)]) nt)
      refine ⟨t, _, rfl, .inl (.inl upd_same), rfl, _, _, rfl, _, _, rfl, rfl, rfl, _, rfl, rfl, _, rfl, ite2 (fun e => ?_) (fun e => ?_)⟩
      · refine ⟨_, rfl, _, by rw [upd_ne ntD]; exact h2, ?_, Same.mut s3 nD, ?_⟩
        · rw [zs_len]; exact Nat.lt_of_le_of_lt (Nat.le_trans (nzs_len rest j) (show j ≤ 1000 by omega)) (by decide)
        · rw [upd_same, nzs_yes (is_ne0 e), zs_push]
      · exact ⟨s3, by rw [nzs_no (ne0 e), upd_ne ntD]; exact h2⟩
    · rintro H2 ⟨s2, h2⟩
      rw [zs_len] at h2
      -- if not places
      have hne : nzs rest rest.length ≠ [] := fun z => out ((R.red O).span_iff O.ech |>.mpr fun x hx => nzs_nil z x (by omega))
      obtain ⟨k, g0, k1, k2⟩ := nzs_head hne
      refine ⟨_, rfl, true, .inl ⟨_, .inl (.inl h2), ?_⟩, ?_⟩
      · cases e : nzs rest rest.length with
        | nil => exact absurd e hne
        | cons z r => rfl
      refine iteF ?_
      have hm2 := s2 _ _ hm
      have s02 := s1.trans s2
      have few' := O.few
      -- made = [0 - part for part in parts] + [times]
      refine ⟨_, rfl, m, rfl, ⟨_, .inl (.inl hm2)⟩, fun B nB => lc_list (K := K) (a := m) (xs := zs parts) (fun j H3 => Same H2 H3 ∧ H3 B = some (.lst (zs ((parts.map fun p => 0 - p).take j)))) ⟨Same.new nB, upd_same⟩ (fun j H3 _ p => .inl (.inl (p.1 _ _ hm2))) ?_ ?_⟩
      · rintro j x H3 hx ⟨s3, h3⟩
        obtain ⟨rfl, jx⟩ := zs_at hx
        refine ⟨rfl, _, rfl, _, _, rfl, rfl, ?_⟩
        exact ⟨_, h3, len_line (by rw [List.length_map]; omega) j, Same.mut s3 nB, push_at (by rw [List.length_map]; exact jx) (gi_map (f := fun p => 0 - p) (by decide) parts j)⟩
      · rintro H3 ⟨s3, h3⟩
        rw [zs_len, zs_all (by rw [List.length_map]; exact Nat.le_refl _)] at h3
        refine ⟨_, rfl, (show 1 ≤ sizeLine by decide), fun b nb => ?_⟩
        have s4 : Same H3 (upd H3 b (.lst [.int times])) := Same.new nb
        have e4 : (upd H3 b (.lst [.int times])) b = some (.lst [.int times]) := upd_same
        generalize upd H3 b (.lst [.int times]) = H4 at s4 e4
        refine ⟨B, b, _, _, rfl, rfl, s4 _ _ h3, e4, ?_, fun u nu => ?_⟩
        · rw [zs_len, List.length_map]
          exact Nat.le_trans (show parts.length + 1 ≤ 9 by omega) (by decide)
        have e5 : (upd H4 u (.lst (zs (parts.map fun p => 0 - p) ++ [.int times]))) u = some (.lst (zs (madeOf times parts))) := by rw [upd_same, zs_push]; rfl
        have s5 : Same H4 (upd H4 u (.lst (zs (parts.map fun p => 0 - p) ++ [.int times]))) := Same.new nu
        generalize upd H4 u (.lst (zs (parts.map fun p => 0 - p) ++ [.int times])) = H5 at s5 e5
        have s25 := (s3.trans s4).trans s5
        have hl5 := s25 _ _ (s2 _ _ hl)
        have h25 := s25 _ _ h2
        have s05 := s02.trans s25
        -- common = 0; for member in rest + made
        refine ⟨_, rfl, _, rfl, l, u, _, _, rfl, rfl, hl5, e5, ?_, fun c nc => ?_⟩
        · rw [zs_len, zs_len, madeOf_len]
          exact Nat.le_trans (show rest.length + (parts.length + 1) ≤ 1009 by omega) (by decide)
        have e6 : (upd H5 c (.lst (zs rest ++ zs (madeOf times parts)))) c = some (.lst (zs (rest ++ madeOf times parts))) := by rw [upd_same, ← List.map_append]
        have s6 : Same H5 (upd H5 c (.lst (zs rest ++ zs (madeOf times parts)))) := Same.new nc
        generalize upd H5 c (.lst (zs rest ++ zs (madeOf times parts))) = H6 at s6 e6
        refine ⟨c, rfl, ⟨_, .inl (.inl e6)⟩, for_list (K := K) (a := c) (xs := zs (rest ++ madeOf times parts)) (fun j σ H7 => ∃ y8 : Option V, σ = [some (.ref s), some (.ref av), some (.int times), some (.ref l), some (.ref m), some (.ref D), some (.ref u), some (.int ((gf ((rest ++ madeOf times parts).take j) 0 : Nat) : Int)), y8, none, none, none] ∧ H6 = H7) ⟨_, rfl, rfl⟩ (fun j σ H7 _ ⟨_, _, z⟩ => by rw [← z]; exact .inl (.inl e6)) ?_ ?_⟩
        · rintro j x σ H7 hx ⟨y8, rfl, rfl⟩
          obtain ⟨rfl, jx⟩ := zs_at hx
          refine ⟨_, rfl, _, rfl, _, _, rfl, some (.int (gi (rest ++ madeOf times parts) j)), ?_, rfl⟩
          rw [gf_take jx, Int.natAbs_natCast]; rfl
        · rintro σ H7 ⟨y8, rfl, rfl⟩
          rw [zs_len, List.take_length]
          have g0' : 0 < gf (rest ++ madeOf times parts) 0 := gf_pos (.inr ⟨gi rest k, List.mem_append_left _ (gi_mem k1), k2⟩)
          have dall := gf_dvd (rest ++ madeOf times parts) 0
          have dr : ∀ i, ((gf (rest ++ madeOf times parts) 0 : Nat) : Int) ∣ gi rest i := fun i => by
            by_cases hi : i < rest.length
            · exact Int.ofNat_dvd_left.mpr (dall.2 _ (List.mem_append_left _ (gi_mem hi)))
            · rw [gi_out (by omega)]; exact Int.dvd_zero _
          have dm : ∀ i, ((gf (rest ++ madeOf times parts) 0 : Nat) : Int) ∣ gi (madeOf times parts) i := fun i => by
            by_cases hi : i < (madeOf times parts).length
            · exact Int.ofNat_dvd_left.mpr (dall.2 _ (List.mem_append_right _ (gi_mem hi)))
            · rw [gi_out (by omega)]; exact Int.dvd_zero _
          have gle : gf (rest ++ madeOf times parts) 0 ≤ (gi rest k).natAbs := Nat.le_of_dvd (by omega) (Int.ofNat_dvd_left.mp (dr k))
          have tb1 := TB_small (c := 24) (k := rs.length) (by decide) (by have := O.len; omega)
          have dv : ∀ q : Int, CDivW q ((gf (rest ++ madeOf times parts) 0 : Nat) : Int) := fun q => divW (b := (gi rest k).natAbs) (n := TB 24 rs.length) (by omega) (by omega) (R.br k) (by rw [TB_eq]; omega) (by omega)
          generalize gf (rest ++ madeOf times parts) 0 = g at g0' dr dm dv
          have s06 := s05.trans s6
          -- self.vectors.append(tuple(vector))
          refine ⟨_, rfl, s, C, dx, _, _, rfl, s06 _ _ hob, S.cl, S.nV, spF_v _ _, .inl ⟨rfl, _, .inl (.inl (s06 _ _ A.hv))⟩, _, rfl, av, _, rfl, .inr ⟨Same.tup s06 hv, lv, _, _, rfl, rfl, s06 _ _ A.hv, Nat.lt_of_lt_of_le (show xs.length < 9 by have := hV.1; omega) (by decide), ?_⟩⟩
          have nlv : ∀ {b : Addr}, H b = none → b ≠ lv := fun h => (ne_of_none A.hv h).symm
          have nD0 : H D = none := Same.free s1 nD
          have nu0 : H u = none := Same.free (s02.trans (s3.trans s4)) nu
          have k8 : ∀ b o, b ≠ lv → H6 b = some o → (upd H6 lv (.lst (xs ++ [.ref av]))) b = some o := fun b o n e => by rw [upd_ne n]; exact e
          have e8 : (upd H6 lv (.lst (xs ++ [.ref av]))) lv = some (.lst (xs ++ [.ref av])) := upd_same
          generalize upd H6 lv (.lst (xs ++ [.ref av])) = H8 at k8 e8
          have nsv : s ≠ lv := ne_of hob A.hv (by intro z; cases z)
          have nsr : s ≠ lr := ne_of hob A.hr (by intro z; cases z)
          have nlr : ∀ {b : Addr}, H b = none → b ≠ lr := fun h => (ne_of_none A.hr h).symm
          have hl8 := k8 _ _ (nlv nl) (s6 _ _ hl5)
          have hu8 := k8 _ _ (nlv nu0) (s6 _ _ e5)
          have hD8 := k8 _ _ (nlv nD0) (s6 _ _ h25)
          have hob8 := k8 _ _ nsv (s06 _ _ hob)
          have hlr8 := k8 _ _ A.ne.symm (s06 _ _ A.hr)
          have f8 : ∀ {b : Addr}, H8 b = none → H b = none := fun {b} h => by
            cases z : H b with
            | none => rfl
            | some o =>
              by_cases n : b = lv
              · rw [n, e8] at h; cases h
              · rw [k8 b o n (s06 _ _ z)] at h; cases h
          -- self.rows.append((places[0], [a // common for a in rest], [a // common for a in made]))
          refine ⟨_, rfl, s, C, dx, _, _, rfl, hob8, S.cl, S.nR, spF_r _ _, .inl ⟨rfl, _, .inl (.inl hlr8)⟩, _, rfl, D, _, _, _, rfl, rfl, .inl (.inl hD8), at_of rfl g0, ?_⟩
          refine ⟨_, rfl, l, rfl, ⟨_, .inl (.inl hl8)⟩, fun B1 nB1 => lc_list (K := K) (a := l) (xs := zs rest) (fun j H9 => Same H8 H9 ∧ H9 B1 = some (.lst (zs ((over (g : Int) rest).take j)))) ⟨Same.new nB1, upd_same⟩ (fun j H9 _ p => .inl (.inl (p.1 _ _ hl8))) ?_ ?_⟩
          · rintro j x H9 hx ⟨s9, h9⟩
            obtain ⟨rfl, jx⟩ := zs_at hx
            refine ⟨rfl, _, rfl, _, rfl, _, _, rfl, rfl, dv _, ?_⟩
            exact ⟨_, h9, len_line (by rw [over_len]; omega) j, Same.mut s9 nB1, push_at (by rw [over_len]; exact jx) (over_get _ _ _)⟩
          · rintro H9 ⟨s9, h9⟩
            rw [zs_len, zs_all (by rw [over_len]; exact Nat.le_refl _)] at h9
            have hu9 := s9 _ _ hu8
            refine ⟨_, rfl, u, rfl, ⟨_, .inl (.inl hu9)⟩, fun B2 nB2 => lc_list (K := K) (a := u) (xs := zs (madeOf times parts)) (fun j H10 => Same H9 H10 ∧ H10 B2 = some (.lst (zs ((over (g : Int) (madeOf times parts)).take j)))) ⟨Same.new nB2, upd_same⟩ (fun j H10 _ p => .inl (.inl (p.1 _ _ hu9))) ?_ ?_⟩
            · rintro j x H10 hx ⟨s10, h10⟩
              obtain ⟨rfl, jx⟩ := zs_at hx
              refine ⟨rfl, _, rfl, _, rfl, _, _, rfl, rfl, dv _, ?_⟩
              exact ⟨_, h10, len_line (by rw [over_len, madeOf_len]; omega) j, Same.mut s10 nB2, push_at (by rw [over_len]; exact jx) (over_get _ _ _)⟩
            · rintro H10 ⟨s10, h10⟩
              rw [zs_len, zs_all (by rw [over_len]; exact Nat.le_refl _)] at h10
              refine ⟨(show 3 ≤ sizeLine by decide), fun t nt => ?_⟩
              have s11 : Same H10 (upd H10 t (.tup [.int (k : Nat), .ref B1, .ref B2])) := Same.new nt
              have e11 : (upd H10 t (.tup [.int (k : Nat), .ref B1, .ref B2])) t = some (.tup [.int (k : Nat), .ref B1, .ref B2]) := upd_same
              generalize upd H10 t (.tup [.int (k : Nat), .ref B1, .ref B2]) = H11 at s11 e11
              have s811 := (s9.trans s10).trans s11
              refine ⟨lr, _, _, rfl, rfl, s811 _ _ hlr8, Nat.lt_of_lt_of_le (show ys.length < 9 by have := hR.1; have := O.len; omega) (by decide), ?_⟩
              have kk : Keep2 lv lr H (upd H11 lr (.lst (ys ++ [.ref t]))) := fun b o n1 n2 e => by rw [upd_ne n2]; exact s811 _ _ (k8 _ _ n1 (s06 _ _ e))
              have b1r : B1 ≠ lr := nlr (f8 nB1)
              have b2r : B2 ≠ lr := nlr (f8 (Same.free s9 nB2))
              have tr : t ≠ lr := nlr (f8 (Same.free (s9.trans s10) nt))
              refine q _ (xs ++ [.ref av]) (ys ++ [.ref t]) (rs ++ [⟨k, over (g : Int) rest, over (g : Int) (madeOf times parts)⟩]) ⟨⟨dx, by rw [upd_ne nsr]; exact s811 _ _ hob8⟩, by rw [upd_ne A.ne]; exact s811 _ _ e8, upd_same, A.ne⟩ ((Vecs.keep2 hV kk A.hv A.hr).push (kk.tup A.hv A.hr hv)) ((SRows.keep2 hR hV O.len kk A.hv A.hr).push (.inl (.inl (by rw [upd_ne tr]; exact e11))) (.inl (.inl (by rw [upd_ne b1r]; exact s11 _ _ (s10 _ _ h9)))) (.inl (.inl (by rw [upd_ne b2r]; exact s11 _ _ h10)))) (O.keep R vl few (by omega) k2 (by omega) dr dm) fun b o e n1 n2 => kk b o n1 n2 e
end
end W64
end
section
set_option maxHeartbeats 4000000
namespace W64
open PySem PySem.Spec PyProof.Rows L2 M64
def nzB (l : List Int) (j : Nat) : List Bool := (List.range j).map fun i => !decide (V.int (gi l i) = V.int 0)
theorem nzB_push (l : List Int) (j : Nat) : (nzB l j).map V.bl ++ [V.bl (!decide (V.int (gi l j) = V.int 0))] = (nzB l (j + 1)).map V.bl := by
  unfold nzB
  rw [List.range_succ, List.map_append, List.map_append]; rfl
theorem nzB_len (l : List Int) (j : Nat) : ((nzB l j).map V.bl).length = j := by unfold nzB; simp
theorem nzB_no {l : List Int} {n : Nat} (h : ¬ (nzB l n).any id = true) : ∀ x, x < n → gi l x = 0 := fun x hx => by
  by_cases z : gi l x = 0
  · exact z
  · exfalso
    apply h
    rw [List.any_eq_true]
    refine ⟨!decide (V.int (gi l x) = V.int 0), List.mem_map.mpr ⟨x, List.mem_range.mpr hx, rfl⟩, ?_⟩
    have : decide (V.int (gi l x) = V.int 0) = false := decide_eq_false fun c => z (V.int.inj c)
    rw [this]; rfl
theorem nzB_yes {l : List Int} {n : Nat} (h : (nzB l n).any id = true) : ∃ x, x < n ∧ gi l x ≠ 0 := by
  rw [List.any_eq_true] at h
  obtain ⟨b, hb, hb2⟩ := h
  obtain ⟨x, hx, rfl⟩ := List.mem_map.mp hb
  exact ⟨x, List.mem_range.mp hx, is_ne0 hb2⟩
section
variable {P : Program} {w : World} {K : PySem.W.Frag} {mg : Str → Option Value} {base : Heap}

theorem ok_writing {f C fR : Addr} {fd fdR : FuncData} (F : Fun K "writing" "Space.writing" s_writing f fd) (T : Txt K mg) (S : Spc K mg C) (m_reduced : Meth K C "reduced" fR) (G_reduced : FnOk P w K mg base CX0 1 fR fdR ["self", "vector"] (spReduced K C)) (b_reduced : Binds K fdR ["self", "vector"] []) : FnOk P w K mg base CX0 2 f fd ["self", "vector"] (spWriting K C) := by
  refine F.ok sc_writing (fun vs H Q E h => ?_) (fun cdv A outer s H vs Q E hr h => ?_)
  · obtain ⟨s, av, lv, lr, xs, ys, size, us, rs, v, c, rfl, _⟩ := h
    rfl
  · obtain ⟨s, av, lv, lr, xs, ys, size, us, rs, v, c, rfl, A, hV, hR, O, hv, vl, sl, bv, c0, c1, q1, q2⟩ := h
    have hr_reduced := hr
    refine ⟨_, (pss_cons (ps_asg (pe_meth (pv 0) S.cl m_reduced G_reduced hr_reduced b_reduced .nil pass0 (pa_cons (pv 1) pa_nil)) (pg_tup rfl (pgs_cons (pg_name (i := 2) sc_writing.nd rfl (.inl rfl)) (pgs_cons (pg_name (i := 3) sc_writing.nd rfl (.inl rfl)) (pgs_cons (pg_name (i := 4) sc_writing.nd rfl (.inl rfl)) pgs_nil)))))
      (pss_cons (ps_if (pt_val (pe_callB (cr_any rfl) (by rfl) T.any (by decide +kernel) (pa_cons (pe_lc (own := [("member", 7)]) rfl sc_writing.nd (pi_list (pv 3)) (blkOk_by (own := [("member", 7)]) (N := ["self", "vector", "times", "rest", "parts", "common", "part", "member"]) (sc := defScope s_writing) (by decide +kernel)) (fun _ _ _ _ _ => pg_name (i := 7) sc_writing.nd rfl (Or.inl rfl)) (fun _ _ _ _ _ => pts_nil) (fun _ _ _ _ _ => (pe_cmpR op_ne (pv 7) pe_int (nomark _)))) pa_nil))) (pss_one (ps_ret pe_non)) pss_nil)
      (pss_cons (ps_set (i := 5) sc_writing.nd rfl (.inr rfl) (pe_callB call_abs (by rfl) T.abs (by decide +kernel) (pa_cons (pv 2) pa_nil)))
      (pss_cons (ps_for PassesOwn.never rfl (pi_list (pv 4)) (pg_name (i := 6) sc_writing.nd rfl (.inl rfl)) (pss_one (ps_set (i := 5) sc_writing.nd rfl (.inr rfl) (pe_callBfun cr_gcd (by rfl) T.gcd (pa_cons (pv 5) (pa_cons (pv 6) pa_nil))))))
      (pss_cons (ps_if (pt_cmpR op_lt (pv 2) pe_int (nomark _)) (pss_one (ps_set (i := 5) sc_writing.nd rfl (.inr rfl) (pe_op op_sub pe_int (pv 5)))) pss_nil)
      (pss_one (ps_ret (pe_tup (pa_cons (pe_op op_fdivZ (pv 2) (pv 5)) (pa_cons (pe_callTy call_tuple_of (by rfl) T.tuple (by decide +kernel) (pa_cons (pe_lc (own := [("part", 6)]) rfl sc_writing.nd (pi_list (pv 4)) (blkOk_by (own := [("part", 6)]) (N := ["self", "vector", "times", "rest", "parts", "common", "part", "member"]) (sc := defScope s_writing) (by decide +kernel)) (fun _ _ _ _ _ => pg_name (i := 6) sc_writing.nd rfl (Or.inl rfl)) (fun _ _ _ _ _ => pts_nil) (fun _ _ _ _ _ => (pe_op op_fdivZ (pv 6) (pv 5)))) pa_nil)) pa_nil)))))))))), ?_⟩
    obtain ⟨dx, hob⟩ := A.ob
    refine ⟨_, rfl, s, dx, _, rfl, hob, spF_no _ _ (by decide +kernel) (by decide +kernel), _, rfl, s, av, lv, lr, xs, ys, size, us, rs, v, c, rfl, A, hV, hR, O, hv, vl, sl, bv, c0, c1, fun p l m H1 times rest parts np nl nm s1 hp hl hm R => ?_⟩
    refine ⟨p, _, rfl, .inl (.inl hp), rfl, _, _, rfl, _, _, rfl, _, _, rfl, rfl, ?_⟩
    have hrl := R.lr
    have hpl := R.lp
    have few := O.few
    have spi := (R.red O).span_iff O.ech
    -- if any([member != 0 for member in rest])
    refine ⟨_, rfl, l, rfl, ⟨_, .inl (.inl hl)⟩, fun B nB => lc_list (K := K) (a := l) (xs := zs rest) (fun j H2 => Same H1 H2 ∧ H2 B = some (.lst ((nzB rest j).map V.bl))) ⟨Same.new nB, upd_same⟩ (fun j H2 _ p => .inl (.inl (p.1 _ _ hl))) ?_ ?_⟩
    · rintro j x H2 hx ⟨s2, h2⟩
      obtain ⟨rfl, jx⟩ := zs_at hx
      refine ⟨rfl, _, rfl, rfl, _, h2, ?_, Same.mut s2 nB, ?_⟩
      · rw [nzB_len]; exact Nat.lt_of_le_of_lt (show j ≤ 1000 by omega) (by decide)
      · rw [upd_same, nzB_push]
    · rintro H2 ⟨s2, h2⟩
      rw [zs_len] at h2
      have s02 := s1.trans s2
      refine ⟨B, _, rfl, .inl (.inl h2), _, rfl, ite2 (fun e => ?_) (fun e => ?_)⟩
      · obtain ⟨x, hx, hn⟩ := nzB_yes e
        exact q1 H2 s02 fun z => hn (spi.mp z x (by omega))
      · have hz : ∀ x, x < size → gi rest x = 0 := fun x hx => nzB_no e x (by omega)
        -- common = abs(times)
        refine ⟨_, rfl, _, rfl, ?_⟩
        rw [abs_nat]
        have hm2 := s2 _ _ hm
        refine ⟨_, rfl, m, rfl, ⟨_, .inl (.inl hm2)⟩, for_list (K := K) (a := m) (xs := zs parts) (fun j σ H3 => ∃ y6 : Option V, σ = [some (.ref s), some (.ref av), some (.int times), some (.ref l), some (.ref m), some (.int ((gf (parts.take j) times.natAbs : Nat) : Int)), y6, none] ∧ H2 = H3) ⟨_, rfl, rfl⟩ (fun j σ H3 _ ⟨_, _, z⟩ => by rw [← z]; exact .inl (.inl hm2)) ?_ ?_⟩
        · rintro j x σ H3 hx ⟨y6, rfl, rfl⟩
          obtain ⟨rfl, jx⟩ := zs_at hx
          refine ⟨_, rfl, _, rfl, _, _, rfl, some (.int (gi parts j)), ?_, rfl⟩
          rw [gf_take jx, Int.natAbs_natCast]; rfl
        · rintro σ H3 ⟨y6, rfl, rfl⟩
          rw [zs_len, List.take_length]
          have g0 : 0 < gf parts times.natAbs := gf_pos (.inl (by have := R.t0; omega))
          have gle : gf parts times.natAbs ≤ times.natAbs := Nat.le_of_dvd (by have := R.t0; omega) (gf_dvd parts times.natAbs).1
          have tb1 := TB_small (c := c) (k := rs.length) c1 (by have := O.len; omega)
          have tb0 : 0 < TB c rs.length := by rw [TB_eq]; omega
          have hlog : ∀ z : Int, z.natAbs = gf parts times.natAbs → CDivZ 0 z := fun z hz => ⟨by omega, Nat.lt_of_lt_of_le (PySem.Flt.log2_lt_of tb0 (by rw [hz]; exact Nat.lt_of_le_of_lt gle R.bt)) (by omega)⟩
          have told := fun sg hs => R.told hz (s := sg) hs
          have bps : ∀ sg : Int, sg.natAbs = gf parts times.natAbs → Bits 8300 (parts.map fun p => p.fdiv sg) := fun sg hs i => by
            rw [gi_map (f := fun p => p.fdiv sg) (by exact Int.zero_fdiv sg)]
            by_cases hi : i < parts.length
            · have d : sg ∣ gi parts i := Int.natAbs_dvd_natAbs.mp (by rw [hs]; exact (gf_dvd parts times.natAbs).2 _ (gi_mem hi))
              rw [fdiv_abs (by omega) d]
              exact Nat.lt_of_le_of_lt (Nat.div_le_self _ _) (Nat.lt_of_lt_of_le (R.bp i) (Nat.pow_le_pow_right (by decide) tb1))
            · rw [gi_out (by omega)]
              show (Int.fdiv 0 sg).natAbs < _
              rw [Int.zero_fdiv]
              exact Nat.pow_pos (by decide)
          refine ⟨_, rfl, _, _, rfl, rfl, _, rfl, ite2 (fun e => ?_) (fun e => ?_)⟩
          · have lt0 : times < 0 := of_decide_eq_true e
            refine ⟨_, rfl, _, _, rfl, rfl, ?_⟩
            have T1 := told (0 - ((gf parts times.natAbs : Nat) : Int)) (by rw [if_pos lt0])
            have hd := hlog (0 - ((gf parts times.natAbs : Nat) : Int)) (by omega)
            have hb := bps (0 - ((gf parts times.natAbs : Nat) : Int)) (by omega)
            dsimp only
            generalize 0 - ((gf parts times.natAbs : Nat) : Int) = sg at T1 hd hb
            refine ⟨_, rfl, _, rfl, _, _, rfl, rfl, ⟨hd.1, hd.2⟩, ?_⟩
            refine ⟨_, rfl, m, rfl, ⟨_, .inl (.inl hm2)⟩, fun B2 nB2 => lc_list (K := K) (a := m) (xs := zs parts) (fun j H3 => Same H2 H3 ∧ H3 B2 = some (.lst (zs ((parts.map fun p => p.fdiv sg).take j)))) ⟨Same.new nB2, upd_same⟩ (fun j H3 _ p => .inl (.inl (p.1 _ _ hm2))) ?_ ?_⟩
            · rintro j x H3 hx ⟨s3, h3⟩
              obtain ⟨rfl, jx⟩ := zs_at hx
              refine ⟨rfl, _, rfl, _, rfl, _, _, rfl, rfl, ⟨hd.1, hd.2⟩, ?_⟩
              exact ⟨_, h3, len_line (by rw [List.length_map]; omega) j, Same.mut s3 nB2, push_at (by rw [List.length_map]; exact jx) (gi_map (f := fun p => p.fdiv sg) (by exact Int.zero_fdiv sg) parts j)⟩
            · rintro H3 ⟨s3, h3⟩
              rw [zs_len, zs_all (by rw [List.length_map]; exact Nat.le_refl _)] at h3
              refine ⟨B2, _, rfl, .inl ⟨.inl (.inl h3), fun q nq => ?_⟩⟩
              have s4 : Same H3 (upd H3 q (.tup (zs (parts.map fun p => p.fdiv sg)))) := Same.new nq
              have e4 : (upd H3 q (.tup (zs (parts.map fun p => p.fdiv sg)))) q = some (.tup (zs (parts.map fun p => p.fdiv sg))) := upd_same
              generalize upd H3 q (.tup (zs (parts.map fun p => p.fdiv sg))) = H4 at s4 e4
              refine ⟨(show 2 ≤ sizeLine by decide), fun p np => ?_⟩
              have s5 : Same H4 (upd H4 p (.tup [.int (times.fdiv sg), .ref q])) := Same.new np
              have s04 := (s02.trans s3).trans s4
              exact q2 p q _ _ _ (Same.free s04 np) (Same.free (s02.trans s3) nq) (s04.trans s5) (spi.mpr hz) T1 hb upd_same (s5 _ _ e4)
          · have ge0 : ¬ times < 0 := fun z => e (decide_eq_true z)
            have T1 := told ((gf parts times.natAbs : Nat) : Int) (by rw [if_neg ge0])
            have hd := hlog ((gf parts times.natAbs : Nat) : Int) (by omega)
            have hb := bps ((gf parts times.natAbs : Nat) : Int) (by omega)
            generalize ((gf parts times.natAbs : Nat) : Int) = sg at T1 hd hb
            refine ⟨_, rfl, _, rfl, _, _, rfl, rfl, ⟨hd.1, hd.2⟩, ?_⟩
            refine ⟨_, rfl, m, rfl, ⟨_, .inl (.inl hm2)⟩, fun B2 nB2 => lc_list (K := K) (a := m) (xs := zs parts) (fun j H3 => Same H2 H3 ∧ H3 B2 = some (.lst (zs ((parts.map fun p => p.fdiv sg).take j)))) ⟨Same.new nB2, upd_same⟩ (fun j H3 _ p => .inl (.inl (p.1 _ _ hm2))) ?_ ?_⟩
            · rintro j x H3 hx ⟨s3, h3⟩
              obtain ⟨rfl, jx⟩ := zs_at hx
              refine ⟨rfl, _, rfl, _, rfl, _, _, rfl, rfl, ⟨hd.1, hd.2⟩, ?_⟩
              exact ⟨_, h3, len_line (by rw [List.length_map]; omega) j, Same.mut s3 nB2, push_at (by rw [List.length_map]; exact jx) (gi_map (f := fun p => p.fdiv sg) (by exact Int.zero_fdiv sg) parts j)⟩
            · rintro H3 ⟨s3, h3⟩
              rw [zs_len, zs_all (by rw [List.length_map]; exact Nat.le_refl _)] at h3
              refine ⟨B2, _, rfl, .inl ⟨.inl (.inl h3), fun q nq => ?_⟩⟩
              have s4 : Same H3 (upd H3 q (.tup (zs (parts.map fun p => p.fdiv sg)))) := Same.new nq
              have e4 : (upd H3 q (.tup (zs (parts.map fun p => p.fdiv sg)))) q = some (.tup (zs (parts.map fun p => p.fdiv sg))) := upd_same
              generalize upd H3 q (.tup (zs (parts.map fun p => p.fdiv sg))) = H4 at s4 e4
              refine ⟨(show 2 ≤ sizeLine by decide), fun p np => ?_⟩
              have s5 : Same H4 (upd H4 p (.tup [.int (times.fdiv sg), .ref q])) := Same.new np
              have s04 := (s02.trans s3).trans s4
              exact q2 p q _ _ _ (Same.free s04 np) (Same.free (s02.trans s3) nq) (s04.trans s5) (spi.mpr hz) T1 hb upd_same (s5 _ _ e4)
end
end W64
end
section
set_option maxHeartbeats 4000000
namespace W64
open PySem PySem.Spec PyProof.Rows L2 M64
theorem vf_take {us : List (List Int)} {n i x : Nat} (h : i < n) : vf (us.take n) i x = vf us i x := by
  unfold vf
  rw [List.getD_eq_getElem?_getD, List.getD_eq_getElem?_getD, List.getElem?_take_of_lt h]
theorem span_take {us : List (List Int)} {n size : Nat} {w : Nat → Int} (h : InSpan n size (vf (us.take n)) w) : InSpan n size (vf us) w := by
  obtain ⟨t, c, h1, h2⟩ := h
  refine ⟨t, c, h1, fun x hx => ?_⟩
  rw [h2 x hx]
  exact sm_congr fun i hi => by rw [vf_take hi]
theorem take_succ {us : List (List Int)} {i : Nat} (h : i < us.length) : us.take (i + 1) = us.take i ++ [us.getD i []] := by
  rw [List.take_add_one, List.getElem?_eq_getElem h, List.getD_eq_getElem?_getD, List.getElem?_eq_getElem h]; rfl
theorem Answer.at {size : Nat} {us : List (List Int)} {w : List Int} {H H' : Hp} {Q : VK} (h : Answer size us w H Q) (e : Same H H') : Answer size us w H' Q :=
  ⟨fun H2 s n => h.1 H2 (e.trans s) n, fun p q H2 t ps np nq s i T b hp hq => h.2 p q H2 t ps (Same.free e np) (Same.free e nq) (e.trans s) i T b hp hq⟩
section
variable {P : Program} {w : World} {K : PySem.W.Frag} {mg : Str → Option Value} {base : Heap}

theorem ok_written {f C fI fK fW : Addr} {fd fdI fdK fdW : FuncData} (F : Fun K "written" "written" s_written f fd) (T : Txt K mg) (S : Spc K mg C) (MK : Mk K C fI) (mgC : mg "Space" = some (.ref C))
    (G_init : FnOk P w K mg base CX0 1 fI fdI ["self"] (spInit K C)) (b_init : Binds K fdI ["self"] [])
    (m_keep : Meth K C "keep" fK) (G_keep : FnOk P w K mg base CX0 2 fK fdK ["self", "vector"] (spKeep K C)) (b_keep : Binds K fdK ["self", "vector"] [])
    (m_writing : Meth K C "writing" fW) (G_writing : FnOk P w K mg base CX0 2 fW fdW ["self", "vector"] (spWriting K C)) (b_writing : Binds K fdW ["self", "vector"] []) : FnOk P w K mg base CX0 3 f fd ["vectors", "vector"] (spWritten K) := by
  refine F.ok sc_written (fun vs H Q E h => ?_) (fun cdv A outer s H vs Q E hr h => ?_)
  · obtain ⟨a, av, xs, size, us, v, c, rfl, _⟩ := h
    rfl
  · obtain ⟨a, av, xs, size, us, v, c, rfl, hS, hV, ⟨few, fl, fr⟩, hv, vl, sl, bv, c0, c1, q⟩ := h
    have hr_init : Room (1 + 1) _ := hr
    have hr_keep := hr
    have hr_writing := hr
    refine ⟨_, (pss_cons (ps_set (i := 2) sc_written.nd rfl (.inl rfl) (pe_make0 MK G_init hr_init rfl mgC b_init .nil pass0))
      (pss_cons (ps_for PassesOwn.never rfl (pi_tup (pv 0)) (pg_name (i := 3) sc_written.nd rfl (.inl rfl)) (pss_one (ps_expr (pe_meth (pv 2) S.cl m_keep G_keep hr_keep b_keep .nil pass0 (pa_cons (pv 3) pa_nil)))))
      (pss_one (ps_ret (pe_meth (pv 2) S.cl m_writing G_writing hr_writing b_writing .nil pass0 (pa_cons (pv 1) pa_nil)))))), ?_⟩
    -- space = Space()
    intro x dx nx ndx nex
    refine ⟨x, dx, rfl, upd_same, fun lv lr H1 nlv nlr A1 kp => ⟨rfl, ?_⟩⟩
    have s0 : Same H (upd (upd H dx (.own x)) x (.ins C dx [])) := fun b o e => by
      rw [upd_ne (ne_of_none e nx), upd_ne (ne_of_none e ndx)]
      exact e
    have s1 : Same H H1 := fun b o e => kp b o (s0 b o e) (ne_of_none e nx)
    have nlv0 : H lv = none := Same.free s0 nlv
    have nlr0 : H lr = none := Same.free s0 nlr
    -- for one in vectors: space.keep(one)
    refine ⟨_, rfl, a, rfl, ⟨_, Same.tup s1 hS⟩, for_tup (K := K) (a := a) (xs := xs) (fun i σ H' => ∃ (zx zy : List V) (rs : List SRow) (y3 : Option V), σ = [some (.ref a), some (.ref av), some (.ref x), y3] ∧ Same H H' ∧ SpaceAt K C H' x lv lr zx zy ∧ Vecs K H' zx (us.take i) ∧ SRows K H' zy rs ∧ SpOk size (us.take i) rs)
      ⟨[], [], [], none, rfl, s1, A1, Vecs.nil, ⟨rfl, fun i h => absurd h (by simp)⟩, SpOk.nil size⟩ (fun i σ H' _ ⟨_, _, _, _, _, s2, _⟩ => Same.tup s2 hS) ?_ ?_⟩
    · rintro i y σ H' hi ⟨zx, zy, rs, y3, rfl, s2, A2, V2, R2, O2⟩
      have hil : i < us.length := by rw [← hV.1]; exact (List.getElem?_eq_some_iff.mp hi).1
      obtain ⟨p, h1, h2⟩ := hV.2 i hil
      have ey : y = .ref p := Option.some.inj (hi.symm.trans h1)
      subst ey
      obtain ⟨dy, hob⟩ := A2.ob
      have lt : (us.take i).length = i := by rw [List.length_take]; omega
      refine ⟨_, rfl, x, dy, _, rfl, hob, spF_no _ _ (by decide +kernel) (by decide +kernel), _, rfl, x, p, lv, lr, zx, zy, size, us.take i, rs, us.getD i [], rfl, A2, V2, R2, O2, by omega, Same.tup s2 h2, (fl i hil).1, sl, (fl i hil).2, ?_, fun H3 zx' zy' rs' A3 V3 R3 O3 k3 => ?_⟩
      · rw [lt]
        exact fun z => fr i hil (span_take z)
      · rw [← take_succ hil] at V3 O3
        exact ⟨zx', zy', rs', _, rfl, fun b o e => k3 b o (s2 b o e) (ne_of_none e nlv0) (ne_of_none e nlr0), A3, V3, R3, O3⟩
    · rintro σ H' ⟨zx, zy, rs, y3, rfl, s2, A2, V2, R2, O2⟩
      rw [hV.1, List.take_length] at V2 O2
      obtain ⟨dy, hob⟩ := A2.ob
      exact ⟨_, rfl, x, dy, _, rfl, hob, spF_no _ _ (by decide +kernel) (by decide +kernel), _, rfl, x, av, lv, lr, zx, zy, size, us, rs, v, c, rfl, A2, V2.1, R2, O2, Same.tup s2 hv, vl, sl, bv, c0, c1, q.at s2⟩
end
end W64
end
section
set_option maxHeartbeats 4000000
namespace W64
open PySem PySem.Spec PyProof.Rows L2 M64
theorem tup_cases {K : PySem.W.Frag} {H : Hp} {a : Addr} {l : List Int} {Q : VK} (h : Seq K H a l) (k : ∀ b H', Same H H' → SqT K H' b (zs l) → Q (.ref b) H') :
    (SqL K H a (zs l) ∧ ∀ p, H p = none → Q (.ref p) (upd H p (.tup (zs l)))) ∨ (SqT K H a (zs l) ∧ Q (.ref a) H) := by
  rcases h with h | h
  · exact .inl ⟨h, fun p np => k p _ (Same.new np) (.inl (.inl upd_same))⟩
  · exact .inr ⟨h, k a H (Same.refl H) h⟩
theorem seq_ix {K : PySem.W.Frag} {H : Hp} {a : Addr} {l : List Int} {j : Nat} {i : Int} {Q : VK} (h : Seq K H a l) (e : i = (j : Int)) (hj : j < l.length) (q : Q (.int (gi l j)) H) : rIx K (.ref a) (.int i) H Q := by
  rcases h with h | h
  · exact .inl ⟨a, _, i, _, rfl, rfl, h, at_of e (zs_get hj), q⟩
  · exact .inr (.inl ⟨a, _, i, _, rfl, rfl, h, at_of e (zs_get hj), q⟩)
/-- the members ahead of j that are not 0 -/
def fz (l : List Int) (j : Nat) : List Int := (l.take j).filter fun x => decide (x ≠ 0)
theorem fz_yes {l : List Int} {j : Nat} (h : j < l.length) (hn : gi l j ≠ 0) : fz l (j + 1) = fz l j ++ [gi l j] := by
  unfold fz
  rw [List.take_add_one, gi_get h, List.filter_append]
  simp [hn]
theorem fz_no {l : List Int} {j : Nat} (h : j < l.length) (hn : gi l j = 0) : fz l (j + 1) = fz l j := by
  unfold fz
  rw [List.take_add_one, gi_get h, List.filter_append]
  simp [hn]
theorem fz_len (l : List Int) (j : Nat) : (fz l j).length ≤ j := by
  unfold fz
  have := List.length_filter_le (fun x => decide (x ≠ 0)) (l.take j)
  rw [List.length_take] at this
  omega
theorem fz_nil {l : List Int} : fz l l.length = [] ↔ ∀ x, x < l.length → gi l x = 0 := by
  unfold fz
  rw [List.take_length, List.filter_eq_nil_iff]
  constructor
  · intro h x hx
    by_cases z : gi l x = 0
    · exact z
    · exact absurd (decide_eq_true z) (h _ (gi_mem hx))
  · intro h x hx hc
    obtain ⟨i, hi, rfl⟩ := List.mem_iff_getElem.mp hx
    have := h i hi
    rw [gi_of (List.getElem?_eq_getElem hi)] at this
    exact of_decide_eq_true hc this
theorem ech_cut {n k size : Nat} {v r : Nat → Nat → Int} {a : Nat → Nat} {m : Nat → Nat → Int} (E : Ech n size v r a m) (h : k ≤ n) : Ech k size v r a m :=
  ⟨fun i hi => E.row i (by omega), fun i hi => E.piv i (by omega), fun i hi => E.low i (by omega), fun i hi => E.non i (by omega), fun i hi => E.nil i (by omega)⟩
theorem free_of {size : Nat} {us : List (List Int)} {rs : List SRow} (S : SpOk size us rs) (hb : ∀ i, i < us.length → Bits 24 (us.getD i [])) : Free size us := by
  refine ⟨S.few, fun i hi => ⟨S.vl i hi, hb i hi⟩, fun k hk z => ?_⟩
  obtain ⟨t, c, ht, h⟩ := z
  have E := ech_cut S.ech (show k + 1 ≤ us.length by omega)
  have z := E.indep (fun i => if i < k then c i else -t) (fun j hj => by
    show sm k (fun i => (if i < k then c i else -t) * vf us i _) + (if k < k then c k else -t) * vf us k _ = 0
    rw [sm_congr (g := fun i => c i * vf us i ((rk rs j).at_)) fun i hi => by rw [if_pos hi], if_neg (by omega), ← h _ (E.low j hj), Int.neg_mul]
    omega) k (by omega)
  rw [if_neg (by omega)] at z
  omega
theorem mono_pow {n A : Nat} (h : n ≤ 8) : (2 * (n + 1) * A + 1) ^ n ≤ (2 * (8 + 1) * A + 1) ^ 8 := by
  have h1 : 2 * (n + 1) * A + 1 ≤ 2 * (8 + 1) * A + 1 := by
    have : 2 * (n + 1) * A ≤ 2 * (8 + 1) * A := Nat.mul_le_mul_right A (by omega)
    omega
  exact Nat.le_trans (Nat.pow_le_pow_left h1 n) (Nat.pow_le_pow_right (by omega) h)
theorem fib_small : fib 400 < 2 ^ 300 := by decide +kernel
/-- the products at a place -/
def prods (us : List (List Int)) (ps : List Int) (x : Nat) : List Int := (List.range us.length).map fun k => gi ps k * vf us k x
theorem prods_len (us : List (List Int)) (ps : List Int) (x : Nat) : (prods us ps x).length = us.length := by unfold prods; simp
theorem prods_get {us : List (List Int)} {ps : List Int} {x k : Nat} (h : k < us.length) : gi (prods us ps x) k = gi ps k * vf us k x := gi_of (by unfold prods; rw [List.getElem?_map, List.getElem?_range h]; rfl)
theorem range_sum (f : Nat → Int) : ∀ n : Nat, ((List.range n).map f).sum = sm n f
  | 0 => rfl
  | n + 1 => by
    rw [List.range_succ, List.map_append, List.sum_append, range_sum f n]
    show sm n f + [f n].sum = sm n f + f n
    simp
theorem prods_sum (us : List (List Int)) (ps : List Int) (x : Nat) : (prods us ps x).sum = sm us.length (fun k => gi ps k * vf us k x) := range_sum _ _
section
variable {P : Program} {w : World} {K : PySem.W.Frag} {mg : Str → Option Value} {base : Heap}

theorem ok_right {f fW fR fG : Addr} {fd fdW fdR fdG : FuncData} (F : Fun K "_law_right" "_law_right" s_right f fd) (T : Txt K mg) (c_written : Callee P w K mg base "written" 3 fW fdW ["vectors", "vector"] (spWritten K))
    (c_lred : Callee P w K mg base "_law_reduced" 1 fR fdR ["rows", "vector"] (spLred K)) (c_gcd : Callee P w K mg base "_law_gcd" 1 fG fdG ["one", "other"] spGcd) : FnOk P w K mg base CX0 4 f fd ["vectors", "rows", "vector"] (spRight K) := by
  refine F.ok sc_right (fun vs H Q E h => ?_) (fun cdv A outer s H vs Q E hr h => ?_)
  · obtain ⟨a, ar, av, xs, ys, size, us, rs, v, rfl, _⟩ := h
    rfl
  · obtain ⟨a, ar, av, xs, ys, size, us, rs, v, rfl, hA, hV, hR, hL, S, hbig, hbits, hv, vl, s1, sl, vb, q⟩ := h
    have hr_written := hr
    have hr_lred : Room 1 _ := hr.mono (by decide)
    have hr_gcd : Room 1 _ := hr.mono (by decide)
    refine ⟨_, (pss_cons (ps_set (i := 3) sc_right.nd rfl (.inr rfl) (pe_call c_written.G hr_written (by rfl) c_written.mg c_written.kp c_written.b .nil pass0 (pa_cons (pe_callTy call_tuple_of (by rfl) T.tuple (by decide +kernel) (pa_cons (pv 0) pa_nil)) (pa_cons (pe_callTy call_tuple_of (by rfl) T.tuple (by decide +kernel) (pa_cons (pv 2) pa_nil)) pa_nil))))
      (pss_cons (ps_if (pt_cmpR (op_neD hr.units) (pe_lc (own := [("member", 8)]) rfl sc_right.nd (pi_list (pe_call c_lred.G hr_lred (by rfl) c_lred.mg c_lred.kp c_lred.b .nil pass0 (pa_cons (pv 1) (pa_cons (pv 2) pa_nil)))) (blkOk_by (own := [("member", 8)]) (N := ["vectors", "rows", "vector", "told", "number", "common", "part", "at", "member", "k"]) (sc := defScope s_right) (by decide +kernel)) (fun _ _ _ _ _ => pg_name (i := 8) sc_right.nd rfl (Or.inl rfl)) (fun _ _ _ _ _ => pts_one (pt_cmpR op_ne (pv 8) pe_int (nomark _))) (fun _ _ _ _ _ => (pv 8))) (pe_lst pa_nil) (nomark _)) (pss_one (ps_ret (pe_cmpR op_isN (pv 3) pe_non (nomark _)))) pss_nil)
      (pss_cons (ps_if (PW.pt (pw_or (pt_not (pt_val (pe_callB call_isi (by rfl) T.isinstance (by decide +kernel) (pa_cons (pv 3) (pa_cons (pe_bltn (v := .ty "tuple") (by rfl) T.tuple (by decide +kernel) rfl) pa_nil))))) (pw_or (pt_cmpR op_ne (pe_callB call_len_seq (by rfl) T.len (by decide +kernel) (pa_cons (pv 3) pa_nil)) pe_int (nomark _)) (pw_or (pt_not (pt_val (pe_callB call_isi (by rfl) T.isinstance (by decide +kernel) (pa_cons (pe_ix (r := rIxT K) ix_tup (pv 3) pe_int (fun _ _ => rfl)) (pa_cons (pe_bltn (v := .ty "tuple") (by rfl) T.tuple (by decide +kernel) rfl) pa_nil))))) (pw_or1 (pt_cmpR op_ne (pe_callB call_len_seq (by rfl) T.len (by decide +kernel) (pa_cons (pe_ix (r := rIxT K) ix_tup (pv 3) pe_int (fun _ _ => rfl)) pa_nil)) (pe_callB call_len_seq (by rfl) T.len (by decide +kernel) (pa_cons (pv 0) pa_nil)) (nomark _))))))) (pss_one (ps_ret pe_bl)) pss_nil)
      (pss_cons (ps_for PassesOwn.never rfl (pi_tup (pe_op op_catT (pe_tup (pa_cons (pe_ix (r := rIxT K) ix_tup (pv 3) pe_int (fun _ _ => rfl)) pa_nil)) (pe_ix (r := rIxT K) ix_tup (pv 3) pe_int (fun _ _ => rfl)))) (pg_name (i := 4) sc_right.nd rfl (.inl rfl)) (pss_one (ps_if (PW.pt (pw_or (pt_not (pt_val (pe_callB call_isi (by rfl) T.isinstance (by decide +kernel) (pa_cons (pv 4) (pa_cons (pe_bltn (v := .ty "int") (by rfl) T.int (by decide +kernel) rfl) pa_nil))))) (pw_or1 (pt_val (pe_callB call_isi (by rfl) T.isinstance (by decide +kernel) (pa_cons (pv 4) (pa_cons (pe_bltn (v := .ty "bool") (by rfl) T.bool (by decide +kernel) rfl) pa_nil))))))) (pss_one (ps_ret pe_bl)) pss_nil)))
      (pss_cons (ps_set (i := 5) sc_right.nd rfl (.inl rfl) (pe_ix (r := rIxT K) ix_tup (pv 3) pe_int (fun _ _ => rfl)))
      (pss_cons (ps_for PassesOwn.never rfl (pi_tup (pe_ix (r := rIxT K) ix_tup (pv 3) pe_int (fun _ _ => rfl))) (pg_name (i := 6) sc_right.nd rfl (.inl rfl)) (pss_one (ps_set (i := 5) sc_right.nd rfl (.inl rfl) (pe_call c_gcd.G hr_gcd (by rfl) c_gcd.mg c_gcd.kp c_gcd.b .nil pass0 (pa_cons (pv 5) (pa_cons (pv 6) pa_nil))))))
      (pss_cons (ps_for PassesOwn.never rfl (pi_range1 (by rfl) T.range (pa_cons (pe_callB call_len_seq (by rfl) T.len (by decide +kernel) (pa_cons (pv 2) pa_nil)) pa_nil)) (pg_name (i := 7) sc_right.nd rfl (.inr rfl)) (pss_one (ps_if (pt_cmpR op_ne (pe_op op_mulW (pe_ix (r := rIxT K) ix_tup (pv 3) pe_int (fun _ _ => rfl)) (pe_ix (r := rIx K) ix_seq (pv 2) (pv 7) (fun _ _ => rfl))) (pe_callB (cr_sum rfl) (by rfl) T.sum (by decide +kernel) (pa_cons (pe_lc (own := [("k", 9)]) rfl sc_right.nd (pi_range1 (by rfl) T.range (pa_cons (pe_callB call_len_seq (by rfl) T.len (by decide +kernel) (pa_cons (pv 0) pa_nil)) pa_nil)) (blkOk_by (own := [("k", 9)]) (N := ["vectors", "rows", "vector", "told", "number", "common", "part", "at", "member", "k"]) (sc := defScope s_right) (by decide +kernel)) (fun _ _ _ _ _ => pg_name (i := 9) sc_right.nd rfl (Or.inl rfl)) (fun _ _ _ _ _ => pts_nil) (fun _ _ _ _ _ => (pe_op op_mulW (pe_ix (r := rIxT K) ix_tup (pe_ix (r := rIxT K) ix_tup (pv 3) pe_int (fun _ _ => rfl)) (pv 9) (fun _ _ => rfl)) (pe_ix (r := rIxT K) ix_tup (pe_ix (r := rIxL K) ix_list (pv 0) (pv 9) (fun _ _ => rfl)) (pv 7) (fun _ _ => rfl))))) pa_nil)) (nomark _)) (pss_one (ps_ret pe_bl)) pss_nil)))
      (pss_one (ps_ret (pe_and (pe_cmpR op_gt (pe_ix (r := rIxT K) ix_tup (pv 3) pe_int (fun _ _ => rfl)) pe_int (nomark _)) (pe_one (pe_cmpR op_eq (pv 5) pe_int (nomark _))))))))))))), ?_⟩
    have few := S.few
    have bv : Bits 32 v := fun i => by have := vb i; omega
    have spn := fun (times : Int) (rest parts : List Int) (R : RedSt size us rs v 32 rs.length times rest parts) => (R.red S).span_iff S.ech
    -- told = written(tuple(vectors), tuple(vector))
    refine ⟨_, rfl, a, _, rfl, .inl ⟨hA, fun t nt => ?_⟩⟩
    have st : Same H (upd H t (.tup xs)) := Same.new nt
    have et : (upd H t (.tup xs)) t = some (.tup xs) := upd_same
    generalize upd H t (.tup xs) = H1 at st et
    refine ⟨_, rfl, av, zs v, rfl, ?_⟩
    rcases hv.same st with hv1 | hv1
    case' inl =>
      refine .inl ⟨hv1, fun b nb => ?_⟩
      have s2 : Same H1 (upd H1 b (.tup (zs v))) := Same.new nb
      have hb : SqT K (upd H1 b (.tup (zs v))) b (zs v) := .inl (.inl upd_same)
      generalize upd H1 b (.tup (zs v)) = H2 at s2 hb
    case' inr =>
      refine .inr ⟨hv1, ?_⟩
      have s2 : Same H1 H1 := Same.refl H1
      have hb := hv1
    all_goals
      have s02 := st.trans s2
      refine ⟨t, _, xs, size, us, v, 32, rfl, .inl (.inl (s2 _ _ et)), hV.same s02, free_of S hbits, hb, vl, sl, bv, by decide, by decide, ?_, ?_⟩
      · -- None: then the law's own reducing ends in another thing than 0
        intro H3 s3 out
        have s03 := s02.trans s3
        refine ⟨_, rfl, _, rfl, ar, av, ys, size, us, rs, v, 32, rfl, s03.seq hR, hL.same s03, S, hv.same s03, vl, sl, bv, by decide, by decide, fun l H4 times rest parts nl s4 hl R => ?_⟩
        have hrl := R.lr
        refine ⟨l, rfl, ⟨_, .inl (.inl hl)⟩, fun D nD => lc_list (K := K) (a := l) (xs := zs rest) (fun j H5 => Same H4 H5 ∧ H5 D = some (.lst (zs (fz rest j)))) ⟨Same.new nD, upd_same⟩ (fun j H5 _ p => .inl (.inl (p.1 _ _ hl))) ?_ ?_⟩
        · rintro j x H5 hx ⟨s5, h5⟩
          obtain ⟨rfl, jx⟩ := zs_at hx
          refine ⟨rfl, _, rfl, rfl, _, rfl, ite2 (fun e => ?_) (fun e => ?_)⟩
          · refine ⟨_, rfl, _, h5, ?_, Same.mut s5 nD, ?_⟩
            · rw [zs_len]; exact Nat.lt_of_le_of_lt (Nat.le_trans (fz_len rest j) (show j ≤ 1000 by omega)) (by decide)
            · rw [upd_same, fz_yes jx (is_ne0 e), zs_push]
          · exact ⟨s5, by rw [fz_no jx (ne0 e)]; exact h5⟩
        · rintro H5 ⟨s5, h5⟩
          rw [zs_len] at h5
          refine ⟨by decide, fun p np => ?_⟩
          have s6 : Same H5 (upd H5 p (.lst [])) := Same.new np
          refine ⟨_, _, .lst (.inl (.inl (s6 _ _ h5))) (dpAll_zs _), .lst (.inl (.inl upd_same)) (dpAll_zs []), shaped_list _, shaped_list [], _, rfl, ?_⟩
          rw [eqv_nil]
          have hn : ¬ fz rest rest.length = [] := fun z => out ((spn _ _ _ R).mpr fun x hx => fz_nil.mp z x (by omega))
          rw [decide_eq_false hn]
          refine iteT ?_
          exact ⟨_, rfl, rfl, q _ (((s03.trans s4).trans s5).trans s6)⟩
      · intro p0 q0 H3 t1 ps np0 nq0 s3 inn TT bp hp hq
        have s03 := s02.trans s3
        refine ⟨_, rfl, _, rfl, ar, av, ys, size, us, rs, v, 32, rfl, s03.seq hR, hL.same s03, S, hv.same s03, vl, sl, bv, by decide, by decide, fun l H4 times rest parts nl s4 hl R => ?_⟩
        have hrl := R.lr
        refine ⟨l, rfl, ⟨_, .inl (.inl hl)⟩, fun D nD => lc_list (K := K) (a := l) (xs := zs rest) (fun j H5 => Same H4 H5 ∧ H5 D = some (.lst (zs (fz rest j)))) ⟨Same.new nD, upd_same⟩ (fun j H5 _ p => .inl (.inl (p.1 _ _ hl))) ?_ ?_⟩
        · rintro j x H5 hx ⟨s5, h5⟩
          obtain ⟨rfl, jx⟩ := zs_at hx
          refine ⟨rfl, _, rfl, rfl, _, rfl, ite2 (fun e => ?_) (fun e => ?_)⟩
          · refine ⟨_, rfl, _, h5, ?_, Same.mut s5 nD, ?_⟩
            · rw [zs_len]; exact Nat.lt_of_le_of_lt (Nat.le_trans (fz_len rest j) (show j ≤ 1000 by omega)) (by decide)
            · rw [upd_same, fz_yes jx (is_ne0 e), zs_push]
          · exact ⟨s5, by rw [fz_no jx (ne0 e)]; exact h5⟩
        · rintro H5 ⟨s5, h5⟩
          rw [zs_len] at h5
          refine ⟨by decide, fun p np => ?_⟩
          have s6 : Same H5 (upd H5 p (.lst [])) := Same.new np
          refine ⟨_, _, .lst (.inl (.inl (s6 _ _ h5))) (dpAll_zs _), .lst (.inl (.inl upd_same)) (dpAll_zs []), shaped_list _, shaped_list [], _, rfl, ?_⟩
          rw [eqv_nil]
          have hn : fz rest rest.length = [] := fz_nil.mpr fun x hx => (spn _ _ _ R).mp inn x (by omega)
          rw [decide_eq_true hn]
          refine iteF ?_
          have s36 := (s4.trans s5).trans s6
          generalize upd H5 p (.lst []) = H6 at s6 s36
          have s06 := s03.trans s36
          have hp6 := s36 _ _ hp
          have hq6 := s36 _ _ hq
          have tl := TT.len
          -- the form
          refine ⟨_, rfl, _, _, _, _, true, rfl, .ty "tuple", .base (.tup hp6), kit_ty (by decide +kernel), true, rfl, ?_⟩
          refine iteF ?_
          refine ⟨_, rfl, p0, _, rfl, .inr (.inl (.inl hp6)), rfl, _, rfl, iteNS rfl ?_⟩
          refine ⟨_, rfl, p0, _, 1, _, rfl, rfl, .inl (.inl hp6), at_of (j := 1) rfl rfl, _, _, _, _, true, rfl, .ty "tuple", .base (.tup hq6), kit_ty (by decide +kernel), true, rfl, ?_⟩
          refine iteF ?_
          refine ⟨_, rfl, p0, _, 1, _, rfl, rfl, .inl (.inl hp6), at_of (j := 1) rfl rfl, q0, _, rfl, .inr (.inl (.inl hq6)), _, rfl, a, _, rfl, .inl (s06.seq hA), rfl, _, rfl, iteNS (by rw [zs_len, hV.1, tl]) ?_⟩
          -- for number in (told[0],) + told[1]
          refine ⟨_, rfl, p0, _, 0, _, rfl, rfl, .inl (.inl hp6), at_of (j := 0) rfl rfl, (show 1 ≤ sizeLine by decide), fun c nc => ?_⟩
          have s7 : Same H6 (upd H6 c (.tup [.int t1])) := Same.new nc
          have e7 : (upd H6 c (.tup [.int t1])) c = some (.tup [.int t1]) := upd_same
          generalize upd H6 c (.tup [.int t1]) = H7 at s7 e7
          refine ⟨_, rfl, p0, _, 1, _, rfl, rfl, .inl (.inl (s7 _ _ hp6)), at_of (j := 1) rfl rfl, c, q0, [.int t1], zs ps, rfl, rfl, .inl (.inl e7), .inl (.inl (s7 _ _ hq6)), by simp, Nat.le_trans (show [V.int t1].length + (zs ps).length ≤ 9 by rw [zs_len, tl]; simp; omega) (by decide), ?_⟩
          by_cases pe : ps = []
          case' pos =>
            refine ⟨fun _ => ?_, fun n => absurd (by rw [pe]; rfl) n⟩
            have h8 : SqT K H7 c (zs (t1 :: ps)) := by rw [pe]; exact .inl (.inl e7)
            have s68 := s7
            generalize c = d at h8
            generalize H7 = H8 at h8 s68
          case' neg =>
            refine ⟨fun n => absurd (List.map_eq_nil_iff.mp n) pe, fun _ d nd => ?_⟩
            have h8 : SqT K (upd H7 d (.tup ([.int t1] ++ zs ps))) d (zs (t1 :: ps)) := .inl (.inl upd_same)
            have s68 := s7.trans (Same.new (o := .tup ([.int t1] ++ zs ps)) nd)
            generalize upd H7 d (.tup ([.int t1] ++ zs ps)) = H8 at h8 s68
          all_goals
            refine ⟨d, rfl, ⟨_, h8⟩, for_tup (K := K) (a := d) (xs := zs (t1 :: ps)) (fun j σ H9 => ∃ y4 : Option V, σ = [some (.ref a), some (.ref ar), some (.ref av), some (.ref p0), y4, none, none, none, none, none] ∧ H8 = H9) ⟨_, rfl, rfl⟩ (fun j σ H9 _ ⟨_, _, z⟩ => by rw [← z]; exact h8) ?_ ?_⟩
            · rintro j x σ H9 hx ⟨y4, rfl, rfl⟩
              obtain ⟨rfl, jx⟩ := zs_at hx
              refine ⟨_, rfl, _, _, _, _, true, rfl, .ty "int", .base (.int _), kit_ty (by decide +kernel), true, rfl, ?_⟩
              refine iteF ?_
              refine ⟨_, rfl, _, _, _, _, false, rfl, .ty "bool", .base (.int _), kit_ty (by decide +kernel), false, rfl, ?_⟩
              refine iteF ?_
              exact ⟨_, rfl, rfl⟩
            · rintro σ H9 ⟨y4, rfl, rfl⟩
              have hp8 := s68 _ _ hp6
              have hq8 := s68 _ _ hq6
              have s08 := s06.trans s68
              have tn : (t1.natAbs : Int) = t1 := by have := TT.pos; omega
              have tsm : t1.natAbs < fib 400 := Nat.lt_of_le_of_lt (Nat.le_trans (TT.small S (A := 432047955) hbig vb) (mono_pow few)) bound400
              -- common = told[0]; for part in told[1]
              refine ⟨_, rfl, p0, _, 0, _, rfl, rfl, .inl (.inl hp8), at_of (j := 0) rfl rfl, ?_⟩
              refine ⟨_, rfl, p0, _, 1, _, rfl, rfl, .inl (.inl hp8), at_of (j := 1) rfl rfl, q0, rfl, ⟨_, .inl (.inl hq8)⟩, for_tup (K := K) (a := q0) (xs := zs ps) (fun j σ H9 => ∃ y4 y6 : Option V, σ = [some (.ref a), some (.ref ar), some (.ref av), some (.ref p0), y4, some (.int ((gf (ps.take j) t1.natAbs : Nat) : Int)), y6, none, none, none] ∧ H8 = H9) ⟨y4, none, by rw [List.take_zero, gf_nil, tn]; rfl, rfl⟩ (fun j σ H9 _ ⟨_, _, _, z⟩ => by rw [← z]; exact .inl (.inl hq8)) ?_ ?_⟩
              · rintro j x σ H9 hx ⟨y4, y6, rfl, rfl⟩
                obtain ⟨rfl, jx⟩ := zs_at hx
                have gle : gf (ps.take j) t1.natAbs ≤ t1.natAbs := Nat.le_of_dvd (by have := TT.pos; omega) (gf_dvd (ps.take j) t1.natAbs).1
                refine ⟨_, rfl, _, rfl, _, _, rfl, Nat.lt_of_le_of_lt (Nat.min_le_left _ _) (by rw [Int.natAbs_natCast]; omega), y4, some (.int (gi ps j)), ?_, rfl⟩
                rw [gf_take jx, Int.natAbs_natCast]; rfl
              · rintro σ H9 ⟨y4, y6, rfl, rfl⟩
                rw [zs_len, List.take_length, TT.one]
                -- for at in range(len(vector))
                have hv8 := hv.same s08
                refine ⟨_, rfl, av, zs v, rfl, hv8, (v.length : Int), by rw [zs_len], by omega, by omega, for_range (n := v.length) (fun j σ H9 => ∃ y4 y6 y7 : Option V, σ = [some (.ref a), some (.ref ar), some (.ref av), some (.ref p0), y4, some (.int 1), y6, y7, none, none] ∧ Same H8 H9) ⟨y4, y6, none, rfl, Same.refl _⟩ ?_ ?_⟩
                · rintro j σ H9 hj ⟨y4, y6, y7, rfl, s9⟩
                  have s09 := s08.trans s9
                  have ez : (0 : Int) + (j : Int) = (j : Int) := Int.zero_add _
                  refine ⟨_, rfl, p0, _, 0, _, rfl, rfl, .inl (.inl (s9 _ _ hp8)), at_of (j := 0) rfl rfl, _, rfl, _, rfl, seq_ix (hv8.same s9) ez hj ⟨_, _, rfl, rfl, mulW (m := 300) (n := 32) (Nat.lt_trans tsm fib_small) (bv j) (by decide) (by decide), ?_⟩⟩
                  refine ⟨_, rfl, a, _, rfl, .inl (s09.seq hA), (us.length : Int), by rw [hV.1], by omega, by omega, fun B nB => lc_range (lo := 0) (n := us.length) (fun k H10 => Same H9 H10 ∧ H10 B = some (.lst (zs ((prods us ps j).take k)))) ⟨Same.new nB, upd_same⟩ ?_ ?_⟩
                  · rintro k H10 hk ⟨s10, h10⟩
                    have ek : (0 : Int) + (k : Int) = (k : Int) := Int.zero_add _
                    obtain ⟨r, g1, g2⟩ := hV.2 k hk
                    have jl : j < (us.getD k []).length := by rw [S.vl k hk]; omega
                    refine ⟨rfl, _, rfl, p0, _, 1, _, rfl, rfl, .inl (.inl (s10 _ _ (s9 _ _ hp8))), at_of (j := 1) rfl rfl, _, rfl, q0, _, _, _, rfl, rfl, .inl (.inl (s10 _ _ (s9 _ _ hq8))), at_of ek (zs_get (by omega)), ?_⟩
                    refine ⟨_, rfl, _, rfl, a, _, _, _, rfl, rfl, s10.seq (s09.seq hA), at_of ek g1, _, rfl, r, _, _, _, rfl, rfl, Same.tup s10 (Same.tup s09 g2), at_of ez (zs_get jl), _, _, rfl, rfl, mulW (m := 8300) (n := 24) (bp k) (hbits k hk j) (by decide) (by decide), ?_⟩
                    exact ⟨_, h10, len_line (by rw [prods_len]; omega) k, Same.mut s10 nB, push_at (by rw [prods_len]; exact hk) (prods_get hk)⟩
                  · rintro H10 ⟨s10, h10⟩
                    rw [zs_all (by rw [prods_len]; exact Nat.le_refl _)] at h10
                    refine ⟨B, prods us ps j, rfl, .inl (.inl h10), rfl, _, rfl, ?_⟩
                    have eqv : V.int (t1 * gi v j) = V.int (prods us ps j).sum := by rw [prods_sum, TT.eq j (by omega)]
                    refine iteNS eqv ?_
                    exact ⟨_, _, _, rfl, s9.trans s10⟩
                · rintro σ H9 ⟨y4, y6, y7, rfl, s9⟩
                  -- return told[0] > 0 and common == 1
                  refine ⟨_, rfl, p0, _, 0, _, rfl, rfl, .inl (.inl (s9 _ _ hp8)), at_of (j := 0) rfl rfl, _, _, rfl, rfl, true, ?_, iteT ⟨_, rfl, rfl, ?_⟩⟩
                  · exact congrArg V.bl (decide_eq_true TT.pos)
                  · exact q _ (s08.trans s9)
end
end W64
end
section
set_option maxHeartbeats 4000000
namespace W64
open PySem PySem.Spec PyProof.Rows L2 M64
theorem gf_le {B : Nat} : ∀ (l : List Int) (g : Nat), g ≤ B → (∀ x ∈ l, x.natAbs ≤ B) → gf l g ≤ B
  | [], g, h, _ => h
  | x :: l, g, h, hl => by
    rw [gf_cons]
    refine gf_le l _ ?_ fun y hy => hl y (List.mem_cons_of_mem _ hy)
    by_cases z : g = 0
    · rw [z, Nat.gcd_zero_left]; exact hl x (List.mem_cons_self ..)
    · exact Nat.le_trans (Nat.gcd_le_left _ (by omega)) h
/-- ms + f * v, place by place -/
def mixL (f : Int) (ms v : List Int) : List Int := (List.range ms.length).map fun k => gi ms k + f * gi v k
theorem mixL_len (f : Int) (ms v : List Int) : (mixL f ms v).length = ms.length := by unfold mixL; simp
theorem mixL_get {f : Int} {ms v : List Int} {i : Nat} (h : i < ms.length) : gi (mixL f ms v) i = gi ms i + f * gi v i := gi_of (by unfold mixL; rw [List.getElem?_map, List.getElem?_range h]; rfl)
/-- all members at most B in size -/
def Sz (B : Int) (l : List Int) : Prop := ∀ i, -B ≤ gi l i ∧ gi l i ≤ B
theorem mixL_sz {f : Int} {ms v : List Int} {B : Int} (h0 : 0 ≤ B) (hf : -6 ≤ f ∧ f ≤ 6) (hm : Sz B ms) (hv : Sz 9000999 v) : Sz (B + 54005994) (mixL f ms v) := fun i => by
  by_cases h : i < ms.length
  · rw [mixL_get h]
    have h1 := hm i
    have h2 := hv i
    have h3 : (f * gi v i).natAbs ≤ 6 * 9000999 := by
      rw [Int.natAbs_mul]
      exact Nat.mul_le_mul (by omega) (by omega)
    omega
  · rw [gi_out (by rw [mixL_len]; omega)]; omega
theorem over_sz {c : Int} {l : List Int} {B : Int} (hc : 0 < c) (h : Sz B l) : Sz B (over c l) := fun i => by
  have h1 := h i
  rw [over_get]
  have h2 := abs_div_le (gi l i) c.natAbs
  have h3 : ((c.natAbs : Nat) : Int) = c := by omega
  rw [h3] at h2
  omega
theorem zeros_sz {n : Nat} {B : Int} (h : 0 ≤ B) : Sz B (List.replicate n 0) := fun i => by
  by_cases hi : i < n
  · rw [gi_of (x := 0) (by rw [List.getElem?_replicate, if_pos hi])]; omega
  · rw [gi_out (by simp; omega)]; omega
theorem set_sz {l : List Int} {j : Nat} {z B : Int} (h : Sz B l) (hz : -B ≤ z ∧ z ≤ B) : Sz B (l.set j z) := fun i => by
  unfold gi
  rw [List.getD_eq_getElem?_getD, List.getElem?_set]
  split
  · split
    · exact hz
    · have := h l.length; rw [gi_out (Nat.le_refl _)] at this; exact this
  · rw [← List.getD_eq_getElem?_getD]; exact h i
theorem Dr.vecs {K : PySem.W.Frag} {H : Hp} {d lr : Addr} {xs : List V} {us : List (List Int)} (h : Dr H d lr) (V : Vecs K H xs us) : Vecs K (hid d H) xs us := ⟨V.1, fun i hi => by
  obtain ⟨p, h1, h2⟩ := V.2 i hi
  exact ⟨p, h1, h.hidT h2⟩⟩
theorem Dr.lrows {K : PySem.W.Frag} {H : Hp} {d lr : Addr} {ys : List V} {rs : List SRow} (h : Dr H d lr) (L : LRows K H ys rs) : LRows K (hid d H) ys rs := ⟨L.1, fun i hi => by
  obtain ⟨p, l, h1, h2, h3⟩ := L.2 i hi
  exact ⟨p, l, h1, h.hidT h2, h.hidL h3⟩⟩
theorem Dr.isD {H : Hp} {d lr a : Addr} {xs : List V} (h : Dr H d lr) (ha : H a = some (.lst xs)) : a ≠ d := by
  obtain ⟨_, _, h1, _⟩ := h
  exact ne_of ha h1 (by intro c; cases c)
theorem LRows.keep1 {K : PySem.W.Frag} {H H' : Hp} {a : Addr} {xs ys : List V} {rs : List SRow} (h : LRows K H ys rs) (k : Keep2 a a H H') (ha : H a = some (.lst xs)) (na : ∀ i, i < rs.length → xs ≠ zs (rk rs i).row) : LRows K H' ys rs := ⟨h.1, fun i hi => by
  obtain ⟨p, l, h1, h2, h3⟩ := h.2 i hi
  exact ⟨p, l, h1, k.tup ha ha h2, k.seq ha ha (na i hi) (na i hi) h3⟩⟩
/-- what stands of the vectors and the rows -/
structure LawAt (K : PySem.W.Frag) (H1 H : Hp) (d lr a rr : Addr) (size : Nat) (xs ys : List V) (us : List (List Int)) (rs : List SRow) : Prop where
  but : SameBut d H1 H
  dr : Dr H d lr
  na : H1 a = none
  ha : H a = some (.lst xs)
  hr : H rr = some (.lst ys)
  ne : a ≠ rr
  hV : Vecs K H xs us
  hL : LRows K H ys rs
  hS : SpOk size us rs
  bits : ∀ i, i < us.length → Bits 24 (us.getD i [])
  big : ∀ i, i < us.length → Sz 9000999 (us.getD i [])
theorem LawAt.step {K : PySem.W.Frag} {H1 H H' : Hp} {d lr a rr : Addr} {size : Nat} {xs ys : List V} {us : List (List Int)} {rs : List SRow} (h : LawAt K H1 H d lr a rr size xs ys us rs) (b : SameBut d H H') (D : Dr H' d lr) : LawAt K H1 H' d lr a rr size xs ys us rs where
  but := but_trans h.but b
  dr := D
  na := h.na
  ha := but_at b (h.dr.isD h.ha) h.ha
  hr := but_at b (h.dr.isD h.hr) h.hr
  ne := h.ne
  hV := (h.dr.vecs h.hV).same b
  hL := (h.dr.lrows h.hL).same b
  hS := h.hS
  bits := h.bits
  big := h.big
theorem LawAt.same {K : PySem.W.Frag} {H1 H H' : Hp} {d lr a rr : Addr} {size : Nat} {xs ys : List V} {us : List (List Int)} {rs : List SRow} (h : LawAt K H1 H d lr a rr size xs ys us rs) (e : Same H H') : LawAt K H1 H' d lr a rr size xs ys us rs := h.step (but_of e) (h.dr.same e)
theorem LawAt.free {K : PySem.W.Frag} {H1 H : Hp} {d lr a rr p : Addr} {size : Nat} {xs ys : List V} {us : List (List Int)} {rs : List SRow} (h : LawAt K H1 H d lr a rr size xs ys us rs) (n : H p = none) : H1 p = none := but_free h.but (h.dr.ne n) n
/-- one vector more -/
theorem LawAt.more {K : PySem.W.Frag} {H1 H H' : Hp} {d lr a rr p l : Addr} {size : Nat} {xs ys ys' : List V} {us : List (List Int)} {rs rs' : List SRow} {v : List Int} (h : LawAt K H1 H d lr a rr size xs ys us rs) (s1 : 1 ≤ size)
    (hp : H p = some (.tup (zs v))) (nl : H l = none) (e : Same H H') (hl : H' l = some (.lst ys')) (L' : LRows K H' ys' rs') (S' : SpOk size (us ++ [v]) rs') (bv : Bits 24 v) (sv : Sz 9000999 v) : LawAt K H1 (upd H' a (.lst (xs ++ [.ref p]))) d lr a l size (xs ++ [.ref p]) ys' (us ++ [v]) rs' := by
  have g := h.same e
  have al : a ≠ l := ne_of_none h.ha nl
  have k : Keep2 a a H' (upd H' a (.lst (xs ++ [.ref p]))) := fun c o n _ hc => by rw [upd_ne n]; exact hc
  have hp' := e _ _ hp
  have pa : p ≠ a := ne_of hp' g.ha (by intro c; cases c)
  refine ⟨Same.mut g.but (hid_none h.na), g.dr.mut (g.dr.isD g.ha), h.na, upd_same, by rw [upd_ne al.symm]; exact hl, al, Vecs.push (g.hV.keep2 k g.ha g.ha) (.inl (.inl (by rw [upd_ne pa]; exact hp'))), L'.keep1 k g.ha fun i hi z => ?_, S', fun i hi => ?_, fun i hi => ?_⟩
  · have rl := S'.rl i hi
    by_cases e0 : us.length = 0
    · have : xs.length = 0 := by rw [h.hV.1, e0]
      rw [z, zs_len] at this
      omega
    · obtain ⟨q, q1, _⟩ := h.hV.2 0 (by omega)
      exact refs_ne ⟨q, q1⟩ z
  · by_cases hlt : i < us.length
    · rw [List.getD_eq_getElem?_getD, List.getElem?_append_left hlt, ← List.getD_eq_getElem?_getD]; exact h.bits i hlt
    · simp at hi
      have : i = us.length := by omega
      subst this
      simpa using bv
  · by_cases hlt : i < us.length
    · rw [List.getD_eq_getElem?_getD, List.getElem?_append_left hlt, ← List.getD_eq_getElem?_getD]; exact h.big i hlt
    · simp at hi
      have : i = us.length := by omega
      subst this
      simpa using sv
end W64
end
section
set_option maxHeartbeats 4000000
namespace W64
open PySem PySem.Spec PyProof.Rows L2 M64
theorem seq_nx {c : TT} {t1 t2 u : TS} {D : Ends} {σ : L2.St} {H : Hp} (Pv : L2.St → Hp → Prop) (h1 : (∀ σ H, Pv σ H → u D σ H) → tIfS c t1 t2 { D with nx := u D } σ H) (h2 : ∀ σ H, Pv σ H → u D σ H) : tSeq (tIfS c t1 t2) u D σ H := h1 h2
theorem seq_nxA {t : TE} {g : TG} {u : TS} {D : Ends} {σ : L2.St} {H : Hp} (Pv : L2.St → Hp → Prop) (h1 : (∀ σ H, Pv σ H → u D σ H) → tAsg t g { D with nx := u D } σ H) (h2 : ∀ σ H, Pv σ H → u D σ H) : tSeq (tAsg t g) u D σ H := h1 h2
theorem fib_big : 432047955 < fib 400 := by decide +kernel
theorem span_nil {size : Nat} {w : Nat → Int} : InSpan ([] : List (List Int)).length size (vf []) w ↔ ∀ x, x < size → w x = 0 := by
  constructor
  · rintro ⟨t, c, ht, h⟩ x hx
    have h1 : t * w x = 0 := h x hx
    rcases Int.mul_eq_zero.mp h1 with z | z
    · exact absurd z ht
    · exact z
  · intro h
    refine ⟨1, fun _ => 0, by decide, fun x hx => ?_⟩
    rw [h x hx]
    rfl
theorem told_nil {size : Nat} {w : List Int} {t : Int} {ps : List Int} (T : Told size [] w t ps) : t = 1 ∧ ps = [] := by
  have h1 : ps = [] := List.length_eq_zero_iff.mp T.len
  subst h1
  have h2 : t.natAbs = 1 := T.one
  have h3 := T.pos
  exact ⟨by omega, rfl⟩
theorem ans_nil {size : Nat} {w : List Int} {H : Hp} {Q : VK} (hn : (∃ x, x < size ∧ gi w x ≠ 0) → ∀ H', Same H H' → Q .non H') (hz : (∀ x, x < size → gi w x = 0) → ∀ p q H', H p = none → H q = none → Same H H' → H' p = some (.tup [.int 1, .ref q]) → H' q = some (.tup []) → Q (.ref p) H') : Answer size [] w H Q := by
  refine ⟨fun H' s n => hn ?_ H' s, fun p q H' t ps np nq s i T b hp hq => ?_⟩
  · by_cases z : ∃ x, x < size ∧ gi w x ≠ 0
    · exact z
    · exfalso
      refine n (span_nil.mpr fun x hx => ?_)
      by_cases e : gi w x = 0
      · exact e
      · exact absurd ⟨x, hx, e⟩ z
  · obtain ⟨rfl, rfl⟩ := told_nil T
    exact hz (span_nil.mp i) p q H' np nq s hp hq
def oneD : PyData := .tuple [.int 1, .tuple []]
theorem one_dp {K : PySem.W.Frag} {H : Hp} {p q : Addr} (hp : H p = some (.tup [.int 1, .ref q])) (hq : H q = some (.tup [])) : Dp K H (.ref p) oneD := .tup (.inl (.inl hp)) (.cons (.int 1) (.cons (.tup (.inl (.inl hq)) .nil) .nil))
theorem one_shaped : SeqAt.shaped oneD = true := by
  unfold SeqAt.shaped oneD
  simp [PyData.canLay0, PyData.canLayAll0, PyData.depth, PyData.depthAll]
theorem non_shaped : SeqAt.shaped .none = true := by
  unfold SeqAt.shaped
  simp [PyData.canLay0, PyData.depth]
theorem one_eqv : PyData.eqv oneD oneD = true := by
  unfold oneD
  simp [PyData.eqv, PyData.eqvAll]
theorem non_eqv : PyData.eqv .none .none = true := by simp [PyData.eqv]
theorem free_nil (size : Nat) : Free size [] := ⟨by decide, fun i h => absurd h (by simp), fun i h => absurd h (by simp)⟩
theorem zeros_gi (n x : Nat) : gi (List.replicate n 0) x = 0 := by
  have := zeros_sz (n := n) (B := 0) (by decide) x
  omega
theorem bits_sz {B : Int} {l : List Int} {c : Nat} (h : Sz B l) (hb : B < 2 ^ c) : Bits c l := fun i => by
  have h1 := h i
  have h2 : ((gi l i).natAbs : Int) < ((2 ^ c : Nat) : Int) := by
    have e : ((2 ^ c : Nat) : Int) = (2 : Int) ^ c := by simp
    rw [e]; omega
  exact Int.ofNat_lt.mp h2
section
variable {P : Program} {w : World} {K : PySem.W.Frag} {mg : Str → Option Value} {base : Heap}
theorem ok_law {f fS fP fM fK fG fR fW : Addr} {fd fdS fdP fdM fdK fdG fdR fdW : FuncData} (F : Fun K "law" "law" s_law f fd) (T : Txt K mg)
    (c_stream : Callee P w K mg base "_law_stream" 2 fS fdS ["script", "most"] (spStream K))
    (c_pick : Callee P w K mg base "_law_pick" 2 fP fdP ["draws", "many"] (spPick K))
    (c_members : Callee P w K mg base "_law_members" 3 fM fdM ["draws", "size"] (spMembers K))
    (c_kept : Callee P w K mg base "_law_kept" 2 fK fdK ["rows", "vector"] (spKept K))
    (c_gcd : Callee P w K mg base "_law_gcd" 1 fG fdG ["one", "other"] spGcd)
    (c_right : Callee P w K mg base "_law_right" 4 fR fdR ["vectors", "rows", "vector"] (spRight K))
    (c_written : Callee P w K mg base "written" 3 fW fdW ["vectors", "vector"] (spWritten K)) : FnOk P w K mg base CX0 5 f fd ["script"] (spLaw K) := by
  refine F.ok sc_law (fun vs H Q E h => ?_) (fun cdv A outer s H vs Q E hr h => ?_)
  · obtain ⟨a, ns, rfl, _⟩ := h
    rfl
  · obtain ⟨a0, ns, rfl, hS0, hlen, q⟩ := h
    have hr_right : Room 4 _ := hr
    have hr_written : Room 3 _ := hr.mono (by decide)
    have hr_members : Room 3 _ := hr.mono (by decide)
    have hr_stream : Room 2 _ := hr.mono (by decide)
    have hr_pick : Room 2 _ := hr.mono (by decide)
    have hr_kept : Room 2 _ := hr.mono (by decide)
    have hr_gcd : Room 1 _ := hr.mono (by decide)
    refine ⟨_, (pss_cons (ps_set (i := 1) sc_law.nd rfl (.inl rfl) (pe_call c_stream.G hr_stream (by rfl) c_stream.mg c_stream.kp c_stream.b .nil pass0 (pa_cons (pv 0) (pa_cons pe_int pa_nil))))
      (pss_cons (ps_set (i := 2) sc_law.nd rfl (.inl rfl) (pe_op op_add pe_int (pe_call c_pick.G hr_pick (by rfl) c_pick.mg c_pick.kp c_pick.b .nil pass0 (pa_cons (pv 1) (pa_cons pe_int pa_nil)))))
      (pss_cons (ps_set (i := 3) sc_law.nd rfl (.inl rfl) (pe_lst pa_nil))
      (pss_cons (ps_set (i := 4) sc_law.nd rfl (.inl rfl) (pe_lst pa_nil))
      (pss_cons (ps_for PassesOwn.never rfl (pi_range1 (by rfl) T.range (pa_cons (pe_call c_pick.G hr_pick (by rfl) c_pick.mg c_pick.kp c_pick.b .nil pass0 (pa_cons (pv 1) (pa_cons pe_int pa_nil))) pa_nil)) (pg_name (i := 5) sc_law.nd rfl (.inl rfl)) (pss_cons (ps_set (i := 6) sc_law.nd rfl (.inr rfl) (pe_call c_members.G hr_members (by rfl) c_members.mg c_members.kp c_members.b .nil pass0 (pa_cons (pv 1) (pa_cons (pv 2) pa_nil))))
      (pss_cons (ps_set (i := 7) sc_law.nd rfl (.inl rfl) (pe_call c_kept.G hr_kept (by rfl) c_kept.mg c_kept.kp c_kept.b .nil pass0 (pa_cons (pv 4) (pa_cons (pv 6) pa_nil))))
      (pss_one (ps_if (pt_cmpR op_gt (pe_callB call_len_seq (by rfl) T.len (by decide +kernel) (pa_cons (pv 7) pa_nil)) (pe_callB call_len_seq (by rfl) T.len (by decide +kernel) (pa_cons (pv 4) pa_nil)) (nomark _)) (pss_cons (ps_expr (pe_bm PySem.F.plainAttrs_list PySem.F.slot_list_append PySem.F.type_list_append mt_append (pv 3) (pa_cons (pv 6) pa_nil)))
      (pss_one (ps_set (i := 4) sc_law.nd rfl (.inl rfl) (pv 7)))) pss_nil)))))
      (pss_cons (ps_set (i := 8) sc_law.nd rfl (.inr rfl) (pe_lc (own := [("k", 15)]) rfl sc_law.nd (pi_range1 (by rfl) T.range (pa_cons (pv 2) pa_nil)) (blkOk_by (own := [("k", 15)]) (N := ["script", "draws", "size", "vectors", "rows", "turn", "vector", "longer", "mixed", "factor", "common", "member", "changed", "at", "due", "k"]) (sc := defScope s_law) (by decide +kernel)) (fun _ _ _ _ _ => pg_name (i := 15) sc_law.nd rfl (Or.inl rfl)) (fun _ _ _ _ _ => pts_nil) (fun _ _ _ _ _ => pe_int)))
      (pss_cons (ps_for PassesOwn.never rfl (pi_list (pv 3)) (pg_name (i := 6) sc_law.nd rfl (.inr rfl)) (pss_cons (ps_set (i := 9) sc_law.nd rfl (.inr rfl) (pe_op op_sub (pe_call c_pick.G hr_pick (by rfl) c_pick.mg c_pick.kp c_pick.b .nil pass0 (pa_cons (pv 1) (pa_cons pe_int pa_nil))) pe_int))
      (pss_one (ps_set (i := 8) sc_law.nd rfl (.inr rfl) (pe_lc (own := [("k", 15)]) rfl sc_law.nd (pi_range1 (by rfl) T.range (pa_cons (pv 2) pa_nil)) (blkOk_by (own := [("k", 15)]) (N := ["script", "draws", "size", "vectors", "rows", "turn", "vector", "longer", "mixed", "factor", "common", "member", "changed", "at", "due", "k"]) (sc := defScope s_law) (by decide +kernel)) (fun _ _ _ _ _ => pg_name (i := 15) sc_law.nd rfl (Or.inl rfl)) (fun _ _ _ _ _ => pts_nil) (fun _ _ _ _ _ => (pe_op op_add (pe_ix (r := rIxL K) ix_list (pv 8) (pv 15) (fun _ _ => rfl)) (pe_op op_mulW (pv 9) (pe_ix (r := rIxT K) ix_tup (pv 6) (pv 15) (fun _ _ => rfl))))))))))
      (pss_cons (ps_set (i := 10) sc_law.nd rfl (.inr rfl) pe_int)
      (pss_cons (ps_for PassesOwn.never rfl (pi_list (pv 8)) (pg_name (i := 11) sc_law.nd rfl (.inl rfl)) (pss_one (ps_set (i := 10) sc_law.nd rfl (.inr rfl) (pe_call c_gcd.G hr_gcd (by rfl) c_gcd.mg c_gcd.kp c_gcd.b .nil pass0 (pa_cons (pv 10) (pa_cons (pv 11) pa_nil))))))
      (pss_cons (ps_if (PW.pt (pw_and (pt_cmpR op_gt (pv 10) pe_int (nomark _)) (pw_and1 (pt_cmpR op_eq (pe_call c_pick.G hr_pick (by rfl) c_pick.mg c_pick.kp c_pick.b .nil pass0 (pa_cons (pv 1) (pa_cons pe_int pa_nil))) pe_int (nomark _))))) (pss_one (ps_set (i := 8) sc_law.nd rfl (.inr rfl) (pe_lc (own := [("member", 11)]) rfl sc_law.nd (pi_list (pv 8)) (blkOk_by (own := [("member", 11)]) (N := ["script", "draws", "size", "vectors", "rows", "turn", "vector", "longer", "mixed", "factor", "common", "member", "changed", "at", "due", "k"]) (sc := defScope s_law) (by decide +kernel)) (fun _ _ _ _ _ => pg_name (i := 11) sc_law.nd rfl (Or.inl rfl)) (fun _ _ _ _ _ => pts_nil) (fun _ _ _ _ _ => (pe_op op_fdivW (pv 11) (pv 10)))))) pss_nil)
      (pss_cons (ps_set (i := 12) sc_law.nd rfl (.inl rfl) (pe_callTy call_list_of (by rfl) T.list (by decide +kernel) (pa_cons (pv 8) pa_nil)))
      (pss_cons (ps_set (i := 13) sc_law.nd rfl (.inl rfl) (pe_call c_pick.G hr_pick (by rfl) c_pick.mg c_pick.kp c_pick.b .nil pass0 (pa_cons (pv 1) (pa_cons (pv 2) pa_nil))))
      (pss_cons (ps_asg (pe_op op_add (pe_op op_add (pe_ix (r := rIxL K) ix_list (pv 12) (pv 13) (fun _ _ => rfl)) pe_int) (pe_call c_pick.G hr_pick (by rfl) c_pick.mg c_pick.kp c_pick.b .nil pass0 (pa_cons (pv 1) (pa_cons pe_int pa_nil)))) (pg_sub (pv 12) (pv 13) set_list))
      (pss_cons (ps_for PassesOwn.never rfl (pi_tup (pe_tup (pa_cons (pv 8) (pa_cons (pv 12) (pa_cons (pe_call c_members.G hr_members (by rfl) c_members.mg c_members.kp c_members.b .nil pass0 (pa_cons (pv 1) (pa_cons (pv 2) pa_nil))) (pa_cons (pe_lc (own := [("k", 15)]) rfl sc_law.nd (pi_range1 (by rfl) T.range (pa_cons (pv 2) pa_nil)) (blkOk_by (own := [("k", 15)]) (N := ["script", "draws", "size", "vectors", "rows", "turn", "vector", "longer", "mixed", "factor", "common", "member", "changed", "at", "due", "k"]) (sc := defScope s_law) (by decide +kernel)) (fun _ _ _ _ _ => pg_name (i := 15) sc_law.nd rfl (Or.inl rfl)) (fun _ _ _ _ _ => pts_nil) (fun _ _ _ _ _ => pe_int)) pa_nil)))))) (pg_name (i := 6) sc_law.nd rfl (.inr rfl)) (pss_one (ps_if (pt_not (pt_val (pe_call c_right.G hr_right (by rfl) c_right.mg c_right.kp c_right.b .nil pass0 (pa_cons (pv 3) (pa_cons (pv 4) (pa_cons (pv 6) pa_nil)))))) (pss_one (ps_ret pe_bl)) pss_nil)))
      (pss_cons (ps_set (i := 14) sc_law.nd rfl (.inl rfl) (pe_ifExp (pt_cmpR (op_eqD hr.units) (pe_lc (own := [("member", 11)]) rfl sc_law.nd (pi_list (pv 12)) (blkOk_by (own := [("member", 11)]) (N := ["script", "draws", "size", "vectors", "rows", "turn", "vector", "longer", "mixed", "factor", "common", "member", "changed", "at", "due", "k"]) (sc := defScope s_law) (by decide +kernel)) (fun _ _ _ _ _ => pg_name (i := 11) sc_law.nd rfl (Or.inl rfl)) (fun _ _ _ _ _ => pts_one (pt_cmpR op_ne (pv 11) pe_int (nomark _))) (fun _ _ _ _ _ => (pv 11))) (pe_lst pa_nil) (nomark _)) (pe_tup (pa_cons pe_int (pa_cons (pe_tup pa_nil) pa_nil))) pe_non))
      (pss_one (ps_ret (pe_and (pe_cmpR (op_eqD hr.units) (pe_call c_written.G hr_written (by rfl) c_written.mg c_written.kp c_written.b .nil pass0 (pa_cons (pe_tup pa_nil) (pa_cons (pe_callTy call_tuple_of (by rfl) T.tuple (by decide +kernel) (pa_cons (pe_lc (own := [("k", 15)]) rfl sc_law.nd (pi_range1 (by rfl) T.range (pa_cons (pv 2) pa_nil)) (blkOk_by (own := [("k", 15)]) (N := ["script", "draws", "size", "vectors", "rows", "turn", "vector", "longer", "mixed", "factor", "common", "member", "changed", "at", "due", "k"]) (sc := defScope s_law) (by decide +kernel)) (fun _ _ _ _ _ => pg_name (i := 15) sc_law.nd rfl (Or.inl rfl)) (fun _ _ _ _ _ => pts_nil) (fun _ _ _ _ _ => pe_int)) pa_nil)) pa_nil))) (pe_tup (pa_cons pe_int (pa_cons (pe_tup pa_nil) pa_nil))) (nomark _)) (pe_one (pe_cmpR (op_eqD hr.units) (pe_call c_written.G hr_written (by rfl) c_written.mg c_written.kp c_written.b .nil pass0 (pa_cons (pe_tup pa_nil) (pa_cons (pe_callTy call_tuple_of (by rfl) T.tuple (by decide +kernel) (pa_cons (pv 12) pa_nil)) pa_nil))) (pv 14) (nomark _))))))))))))))))))))), ?_⟩
    -- draws = _law_stream(script, 150)
    refine ⟨_, rfl, a0, ns, 150, rfl, hS0, hlen, by decide, by decide, fun d lr row H1 nd s1 D1 hR1 => ?_⟩
    have hR0 : SqL K (hid d H1) lr (zs row) := D1.hidL hR1
    -- size = 1 + _law_pick(draws, 9)
    refine ⟨_, rfl, d, lr, 9, row, rfl, by decide, D1, hR1, fun r0 H2 r0a r0b b2 D2 => ⟨_, _, rfl, rfl, ?_⟩⟩
    obtain ⟨size, esz, sz1, sz9⟩ : ∃ n : Nat, (1 + r0 : Int) = (n : Int) ∧ 1 ≤ n ∧ n ≤ 9 := ⟨(1 + r0).toNat, by omega, by omega, by omega⟩
    have esz' : (fun i j : Int => V.int (i + j)) 1 r0 = V.int (size : Int) := congrArg V.int esz
    rw [esz']
    -- vectors = [], rows = []
    refine ⟨by decide, fun a na => ⟨by decide, fun b nb => ?_⟩⟩
    have s3 : Same H2 (upd H2 a (.lst [])) := Same.new na
    have ha3 : (upd H2 a (.lst [])) a = some (.lst []) := upd_same
    generalize upd H2 a (.lst []) = H3 at s3 ha3 nb
    have s4 : Same H3 (upd H3 b (.lst [])) := Same.new nb
    have hb4 : (upd H3 b (.lst [])) b = some (.lst []) := upd_same
    generalize upd H3 b (.lst []) = H4 at s4 hb4
    have s24 := s3.trans s4
    have A4 : LawAt K H1 H4 d lr a b size [] [] [] [] := ⟨but_trans b2 (but_of s24), D2.same s24, but_free b2 (D2.ne na) na, s4 _ _ ha3, hb4, ne_of_none ha3 nb, Vecs.nil, ⟨rfl, fun i h => absurd h (by simp)⟩, SpOk.nil size, fun i h => absurd h (by simp), fun i h => absurd h (by simp)⟩
    -- for turn in range(_law_pick(draws, 9))
    refine ⟨_, rfl, d, lr, 9, row, rfl, by decide, A4.dr, A4.but.seq hR0, fun r1 H5 r1a r1b b5 D5 => ?_⟩
    refine ⟨r1, rfl, by omega, by omega, for_range (n := r1.toNat) (fun i σ H => ∃ (rr : Addr) (xs ys : List V) (us : List (List Int)) (rs : List SRow) (y5 y6 y7 : Option V), σ = [some (.ref a0), some (.ref d), some (.int (size : Int)), some (.ref a), some (.ref rr), y5, y6, y7, none, none, none, none, none, none, none, none] ∧ us.length ≤ i ∧ LawAt K H1 H d lr a rr size xs ys us rs)
      ⟨b, [], [], [], [], none, none, none, rfl, by simp, A4.step b5 D5⟩ ?_ ?_⟩
    · rintro i σ H hi ⟨rr, xs, ys, us, rs, y5, y6, y7, rfl, ui, A⟩
      -- vector = _law_members(draws, size)
      refine ⟨_, rfl, _, rfl, d, lr, (size : Int), row, rfl, by omega, by omega, A.dr, A.but.seq hR0, fun p H' v np b6 D6 hp vl vb => ?_⟩
      have A6 := A.step b6 D6
      have bv : Bits 24 v := fun i => by have := vb i; omega
      have sv : Sz 9000999 v := fun i => by have := vb i; omega
      -- longer = _law_kept(rows, vector)
      refine ⟨_, rfl, _, rfl, rr, p, ys, size, us, rs, v, rfl, A6.hr, A6.hL, A6.hS, by omega, .inr (.inl (.inl hp)), by omega, by omega, bv, ?_, fun H7 s7 => ?_, fun l H7 ys' rs' nl s7 hl L' S' el => ?_⟩
      · refine ⟨_, rfl, rr, ys, rfl, .inl (.inl (.inl A6.hr)), _, rfl, rr, ys, rfl, .inl (.inl (.inl A6.hr)), _, _, rfl, rfl, _, rfl, ite2 (fun e => ?_) (fun _ => ?_)⟩
        · exact absurd (of_decide_eq_true e) (Int.lt_irrefl _)
        · exact ⟨rr, xs, ys, us, rs, _, _, _, rfl, by omega, A6⟩
      · have A7 := A6.same s7
        refine ⟨_, rfl, rr, ys, rfl, .inl (.inl (.inl A7.hr)), _, rfl, rr, ys, rfl, .inl (.inl (.inl A7.hr)), _, _, rfl, rfl, _, rfl, ite2 (fun e => ?_) (fun _ => ?_)⟩
        · exact absurd (of_decide_eq_true e) (Int.lt_irrefl _)
        · exact ⟨rr, xs, ys, us, rs, _, _, _, rfl, by omega, A7⟩
      · have A7 := A6.same s7
        refine ⟨_, rfl, l, ys', rfl, .inl (.inl (.inl hl)), _, rfl, rr, ys, rfl, .inl (.inl (.inl A7.hr)), _, _, rfl, rfl, _, rfl, ite2 (fun _ => ?_) (fun e => ?_)⟩
        · have few := A6.hS.few
          have lx : xs.length ≤ 1000 := by rw [A6.hV.1]; omega
          refine ⟨_, rfl, .inl ⟨rfl, _, .inl (.inl A7.ha)⟩, _, rfl, a, xs, _, rfl, rfl, A7.ha, Nat.lt_of_le_of_lt lx (by decide), ?_⟩
          refine ⟨_, rfl, l, _, ys', _, rs', _, _, _, rfl, ?_, A6.more sz1 hp nl s7 hl L' S' bv sv⟩
          simp; omega
        · exfalso
          apply e
          have h1 : ys.length = rs.length := A6.hL.1
          have h2 : ys'.length = rs'.length := L'.1
          exact decide_eq_true (by omega)
    · rintro σ H ⟨rr, xs, ys, us, rs, y5, y6, y7, rfl, ui, A⟩
      have e0 : ∀ k : Nat, (0 : Int) + (k : Int) = (k : Int) := fun k => Int.zero_add _
      -- mixed = [0 for k in range(size)]
      refine ⟨_, rfl, (size : Int), rfl, by omega, by omega, fun B nB => lc_range (lo := 0) (n := size) (fun k H7 => Same H H7 ∧ H7 B = some (.lst (zs (List.replicate k 0)))) ⟨Same.new nB, upd_same⟩ ?_ ?_⟩
      · rintro k H7 hk ⟨s7, h7⟩
        refine ⟨rfl, _, h7, by rw [zs_len, List.length_replicate]; exact Nat.lt_of_lt_of_le (show k < 10 by omega) (by decide), Same.mut s7 nB, ?_⟩
        rw [upd_same, List.replicate_succ', ← zs_push]
      · rintro H7 ⟨s7, h7⟩
        have A7 := A.same s7
        have few := A.hS.few
        -- for vector in vectors
        refine ⟨_, rfl, a, rfl, ⟨_, .inl (.inl A7.ha)⟩, for_list (K := K) (a := a) (xs := xs) (fun i σ H => ∃ (mm : Addr) (ms : List Int) (y6 y9 : Option V), σ = [some (.ref a0), some (.ref d), some (.int (size : Int)), some (.ref a), some (.ref rr), y5, y6, y7, some (.ref mm), y9, none, none, none, none, none, none] ∧ LawAt K H1 H d lr a rr size xs ys us rs ∧ H mm = some (.lst (zs ms)) ∧ ms.length = size ∧ Sz (54005994 * i) ms)
          ⟨B, List.replicate size 0, y6, none, rfl, A7, h7, by simp, zeros_sz (by decide)⟩ (fun i σ H _ ⟨_, _, _, _, _, A8, _⟩ => .inl (.inl A8.ha)) ?_ ?_⟩
        · rintro i x σ H hx ⟨mm, ms, y6, y9, rfl, A8, hm, ml, msz⟩
          have il : i < us.length := by rw [← A.hV.1]; exact (List.getElem?_eq_some_iff.mp hx).1
          obtain ⟨p, h1, h2⟩ := A8.hV.2 i il
          have ex : x = .ref p := Option.some.inj (hx.symm.trans h1)
          subst ex
          -- factor = _law_pick(draws, 13) - 6
          refine ⟨_, rfl, d, lr, 13, row, rfl, by decide, A8.dr, A8.but.seq hR0, fun r2 H9 r2a r2b b9 D9 => ⟨_, _, rfl, rfl, ?_⟩⟩
          have A9 := A8.step b9 D9
          have hm9 := but_at b9 (A8.dr.isD hm) hm
          have hp9 : SqT K H9 p (zs (us.getD i [])) := Same.tup b9 (A8.dr.hidT h2)
          have vl := A.hS.vl i il
          have vsz := A.big i il
          refine ⟨_, rfl, (size : Int), rfl, by omega, by omega, fun C nC => lc_range (lo := 0) (n := size) (fun k H7 => Same H9 H7 ∧ H7 C = some (.lst (zs ((mixL (r2 - 6) ms (us.getD i [])).take k)))) ⟨Same.new nC, upd_same⟩ ?_ ?_⟩
          · rintro k H10 hk ⟨s10, h10⟩
            have gm := msz k
            have gv := vsz k
            refine ⟨rfl, _, rfl, _, rfl, mm, _, _, _, rfl, rfl, .inl (.inl (s10 _ _ hm9)), at_of (e0 k) (zs_get (by omega)), _, rfl, _, rfl, _, rfl, p, _, _, _, rfl, rfl, Same.tup s10 hp9, at_of (e0 k) (zs_get (by omega)), _, _, rfl, rfl, mulW (m := 24) (n := 24) (by omega) (by omega) (by decide) (by decide), _, _, rfl, rfl, ?_⟩
            exact ⟨_, h10, len_line (by rw [mixL_len]; omega) k, Same.mut s10 nC, push_at (by rw [mixL_len]; omega) (mixL_get (by omega))⟩
          · rintro H10 ⟨s10, h10⟩
            rw [zs_all (by rw [mixL_len]; omega)] at h10
            refine ⟨C, _, _, _, rfl, A9.same s10, h10, by rw [mixL_len]; exact ml, ?_⟩
            have := mixL_sz (f := r2 - 6) (by omega) ⟨by omega, by omega⟩ msz vsz
            have e : (54005994 * ((i + 1 : Nat) : Int)) = 54005994 * (i : Int) + 54005994 := by omega
            rw [e]
            exact this
        · rintro σ H ⟨mm, ms, y6, y9, rfl, A8, hm, ml, msz0⟩
          have msz : Sz 432047952 ms := fun x => by
            have := msz0 x
            have h8 : xs.length ≤ 8 := by rw [A.hV.1]; exact few
            omega
          -- common: the divisor of all
          refine ⟨_, rfl, mm, rfl, ⟨_, .inl (.inl hm)⟩, for_list (K := K) (a := mm) (xs := zs ms) (fun i σ H9 => ∃ y11 : Option V, σ = [some (.ref a0), some (.ref d), some (.int (size : Int)), some (.ref a), some (.ref rr), y5, y6, y7, some (.ref mm), y9, some (.int ((gf (ms.take i) 0 : Nat) : Int)), y11, none, none, none, none] ∧ H = H9) ⟨none, rfl, rfl⟩ (fun i σ H9 _ ⟨_, _, z⟩ => by rw [← z]; exact .inl (.inl hm)) ?_ ?_⟩
          · rintro j x σ H9 hx ⟨y11, rfl, rfl⟩
            obtain ⟨rfl, jx⟩ := zs_at hx
            have mb := msz j
            have fb := fib_big
            refine ⟨_, rfl, _, rfl, _, _, rfl, Nat.lt_of_le_of_lt (Nat.min_le_right _ _) (by omega), some (.int (gi ms j)), ?_, rfl⟩
            rw [gf_take jx, Int.natAbs_natCast]; rfl
          · rintro σ H9 ⟨y11, rfl, rfl⟩
            rw [zs_len, List.take_length]
            have cle : gf ms 0 ≤ 432047952 := gf_le ms 0 (by decide) fun x hx => by
              obtain ⟨i, hi, rfl⟩ := List.mem_iff_getElem.mp hx
              have := msz i
              rw [gi_of (List.getElem?_eq_getElem hi)] at this
              omega
            dsimp only
            refine seq_nx (fun σ H10 => ∃ (mm : Addr) (ms : List Int) (y9 y10 y11 : Option V), σ = [some (.ref a0), some (.ref d), some (.int (size : Int)), some (.ref a), some (.ref rr), y5, y6, y7, some (.ref mm), y9, y10, y11, none, none, none, none] ∧ LawAt K H1 H10 d lr a rr size xs ys us rs ∧ H10 mm = some (.lst (zs ms)) ∧ ms.length = size ∧ Sz 432047952 ms) (fun rest => ?_) ?_
            rotate_left
            · rintro σ H10 ⟨mm, ms, y9, y10, y11, rfl, A10, hm10, ml, msz⟩
              -- changed = list(mixed)
              refine ⟨_, rfl, mm, zs ms, rfl, .inl (.inl (.inl hm10)), fun cc nc => ?_⟩
              have s11 : Same H10 (upd H10 cc (.lst (zs ms))) := Same.new nc
              have hc11 : (upd H10 cc (.lst (zs ms))) cc = some (.lst (zs ms)) := upd_same
              generalize upd H10 cc (.lst (zs ms)) = H11 at s11 hc11
              have A11 := A10.same s11
              -- at = _law_pick(draws, size)
              refine ⟨_, rfl, _, rfl, d, lr, (size : Int), row, rfl, by omega, A11.dr, A11.but.seq hR0, fun r4 H12 r4a r4b b12 D12 => ?_⟩
              have A12 := A11.step b12 D12
              have hc12 := but_at b12 (A11.dr.isD hc11) hc11
              obtain ⟨j, ej, jlt⟩ : ∃ j : Nat, r4 = (j : Int) ∧ j < size := ⟨r4.toNat, by omega, by omega⟩
              subst ej
              -- changed[at] = changed[at] + 1 + _law_pick(draws, 3)
              refine ⟨_, rfl, _, rfl, cc, _, _, _, rfl, rfl, .inl (.inl hc12), at_of (j := j) rfl (zs_get (by omega)), _, _, rfl, rfl, _, rfl, d, lr, 3, row, rfl, by decide, D12, A12.but.seq hR0, fun r5 H13 r5a r5b b13 D13 => ?_⟩
              have hc13 := but_at b13 (A12.dr.isD hc12) hc12
              refine ⟨_, _, rfl, rfl, _, rfl, _, rfl, cc, _, _, j, rfl, rfl, hc13, (by unfold ixN; rw [if_pos (by omega), if_pos (by rw [zs_len]; omega)]; rfl), ?_⟩
              dsimp only
              rw [zs_set]
              have csz : Sz 432047955 (ms.set j (gi ms j + 1 + r5)) := set_sz (fun i => by have := msz i; omega) (by have := msz j; omega)
              have cl : (ms.set j (gi ms j + 1 + r5)).length = size := by rw [List.length_set]; exact ml
              generalize ms.set j (gi ms j + 1 + r5) = cs at csz cl
              have bb : SameBut d H10 (upd H13 cc (.lst (zs cs))) := Same.mut (but_trans (but_trans (but_of s11) b12) b13) (hid_none nc)
              have hc14 : (upd H13 cc (.lst (zs cs))) cc = some (.lst (zs cs)) := upd_same
              have A14 := A10.step bb (D13.mut (A10.dr.ne nc))
              have hm14 := but_at bb (A10.dr.isD hm10) hm10
              generalize upd H13 cc (.lst (zs cs)) = H14 at bb hc14 A14 hm14
              -- for vector in (mixed, changed, _law_members(draws, size), [0 for k in range(size)])
              refine ⟨_, rfl, _, rfl, _, rfl, _, rfl, d, lr, (size : Int), row, rfl, by omega, by omega, A14.dr, A14.but.seq hR0, fun p H15 v np b15 D15 hp vl vb => ?_⟩
              have A15 := A14.step b15 D15
              have hm15 := but_at b15 (A14.dr.isD hm14) hm14
              have hc15 := but_at b15 (A14.dr.isD hc14) hc14
              refine ⟨_, rfl, (size : Int), rfl, by omega, by omega, fun Z nZ => lc_range (lo := 0) (n := size) (fun k H7 => Same H15 H7 ∧ H7 Z = some (.lst (zs (List.replicate k 0)))) ⟨Same.new nZ, upd_same⟩ ?_ ?_⟩
              · rintro k H7 hk ⟨s7, h7⟩
                refine ⟨rfl, _, h7, by rw [zs_len, List.length_replicate]; exact Nat.lt_of_lt_of_le (show k < 10 by omega) (by decide), Same.mut s7 nZ, ?_⟩
                rw [upd_same, List.replicate_succ', ← zs_push]
              · rintro H16 ⟨s16, hZ⟩
                refine ⟨(show 4 ≤ sizeLine by decide), fun t nt => ?_⟩
                have st : Same H16 (upd H16 t (.tup [.ref mm, .ref cc, .ref p, .ref Z])) := Same.new nt
                have ht : (upd H16 t (.tup [.ref mm, .ref cc, .ref p, .ref Z])) t = some (.tup [.ref mm, .ref cc, .ref p, .ref Z]) := upd_same
                generalize upd H16 t (.tup [.ref mm, .ref cc, .ref p, .ref Z]) = H17 at st ht
                have s17 := s16.trans st
                have A17 := A15.same s17
                have hc17 := s17 _ _ hc15
                have all : ∀ (i : Nat) (x : V), [V.ref mm, .ref cc, .ref p, .ref Z][i]? = some x → ∃ av v, x = .ref av ∧ Seq K H17 av v ∧ v.length = size ∧ Sz 432047955 v := by
                  intro i x hx
                  match i, hx with
                  | 0, hx => exact ⟨mm, ms, (Option.some.inj hx).symm, .inl (.inl (.inl (s17 _ _ hm15))), ml, fun i => by have := msz i; omega⟩
                  | 1, hx => exact ⟨cc, cs, (Option.some.inj hx).symm, .inl (.inl (.inl hc17)), cl, csz⟩
                  | 2, hx => exact ⟨p, v, (Option.some.inj hx).symm, .inr (.inl (.inl (s17 _ _ hp))), by omega, fun i => by have := vb i; omega⟩
                  | 3, hx => exact ⟨Z, List.replicate size 0, (Option.some.inj hx).symm, .inl (.inl (.inl (st _ _ hZ))), by simp, zeros_sz (by decide)⟩
                  | n + 4, hx => cases hx
                refine ⟨t, rfl, ⟨_, .inl (.inl ht)⟩, for_tup (K := K) (a := t) (xs := [V.ref mm, .ref cc, .ref p, .ref Z]) (fun i σ H => ∃ y6 : Option V, σ = [some (.ref a0), some (.ref d), some (.int (size : Int)), some (.ref a), some (.ref rr), y5, y6, y7, some (.ref mm), y9, y10, y11, some (.ref cc), some (.int (j : Int)), none, none] ∧ Same H17 H) ⟨y6, rfl, Same.refl _⟩ (fun i σ H _ ⟨_, _, s⟩ => .inl (.inl (s _ _ ht))) ?_ ?_⟩
                · rintro i x σ H hx ⟨y6, rfl, s18⟩
                  obtain ⟨av, v, rfl, hv, vl, vsz⟩ := all i x hx
                  have A18 := A17.same s18
                  refine ⟨_, rfl, _, rfl, _, rfl, a, rr, av, xs, ys, size, us, rs, v, rfl, .inl (.inl A18.ha), A18.hV, .inl (.inl A18.hr), A18.hL, A18.hS, (fun i hi x => by have := A18.big i hi x; unfold vf; omega), A18.bits, hv.same s18, vl, sz1, by omega, vsz, fun H' s19 => ⟨true, rfl, iteF ?_⟩⟩
                  exact ⟨_, rfl, s18.trans s19⟩
                · rintro σ H ⟨y6, rfl, s18⟩
                  have hc18 := s18 _ _ hc17
                  dsimp only
                  refine seq_nxA (fun σ H2 => ∃ dv : V, σ = [some (.ref a0), some (.ref d), some (.int (size : Int)), some (.ref a), some (.ref rr), y5, y6, y7, some (.ref mm), y9, y10, y11, some (.ref cc), some (.int (j : Int)), some dv, none] ∧ Same H H2 ∧ (((∀ x, x < size → gi cs x = 0) ∧ ∃ p q, dv = .ref p ∧ H2 p = some (.tup [.int 1, .ref q]) ∧ H2 q = some (.tup [])) ∨ ((∃ x, x < size ∧ gi cs x ≠ 0) ∧ dv = .non))) (fun rest => ?_) ?_
                  · -- due
                    refine ⟨_, rfl, cc, rfl, ⟨_, .inl (.inl hc18)⟩, fun D nD => lc_list (K := K) (a := cc) (xs := zs cs) (fun j H5 => Same H H5 ∧ H5 D = some (.lst (zs (fz cs j)))) ⟨Same.new nD, upd_same⟩ (fun j H5 _ p => .inl (.inl (p.1 _ _ hc18))) ?_ ?_⟩
                    · rintro j x H5 hx ⟨s5, h5⟩
                      obtain ⟨rfl, jx⟩ := zs_at hx
                      refine ⟨rfl, _, rfl, rfl, _, rfl, ite2 (fun e => ?_) (fun e => ?_)⟩
                      · refine ⟨_, rfl, _, h5, ?_, Same.mut s5 nD, ?_⟩
                        · rw [zs_len]; exact Nat.lt_of_le_of_lt (Nat.le_trans (fz_len cs j) (show j ≤ 1000 by omega)) (by decide)
                        · rw [upd_same, fz_yes jx (is_ne0 e), zs_push]
                      · exact ⟨s5, by rw [fz_no jx (ne0 e)]; exact h5⟩
                    · rintro H5 ⟨s5, h5⟩
                      rw [zs_len] at h5
                      refine ⟨by decide, fun p np => ?_⟩
                      have s6 : Same H5 (upd H5 p (.lst [])) := Same.new np
                      refine ⟨_, _, .lst (.inl (.inl (s6 _ _ h5))) (dpAll_zs _), .lst (.inl (.inl upd_same)) (dpAll_zs []), shaped_list _, shaped_list [], _, rfl, ?_⟩
                      rw [eqv_nil]
                      refine ite2 (fun e => ?_) (fun e => ?_)
                      · have z : fz cs cs.length = [] := of_decide_eq_true e
                        refine ⟨by decide, fun u nu => ⟨(show 2 ≤ sizeLine by decide), fun w nw => ?_⟩⟩
                        have s7 : Same (upd H5 p (.lst [])) (upd (upd H5 p (.lst [])) u (.tup [])) := Same.new nu
                        have s8 : Same (upd (upd H5 p (.lst [])) u (.tup [])) (upd (upd (upd H5 p (.lst [])) u (.tup [])) w (.tup [.int 1, .ref u])) := Same.new nw
                        exact rest _ _ ⟨.ref w, rfl, s5.trans (s6.trans (s7.trans s8)), .inl ⟨fun x hx => fz_nil.mp z x (by omega), w, u, rfl, upd_same, s8 _ _ upd_same⟩⟩
                      · refine rest _ _ ⟨.non, rfl, s5.trans s6, .inr ⟨?_, rfl⟩⟩
                        by_cases z : ∃ x, x < size ∧ gi cs x ≠ 0
                        · exact z
                        · exfalso
                          refine e (decide_eq_true (fz_nil.mpr fun x hx => ?_))
                          by_cases c : gi cs x = 0
                          · exact c
                          · exact absurd ⟨x, by omega, c⟩ z
                  · rintro σ H2 ⟨dv, rfl, s20, due⟩
                    have hc20 := s20 _ _ hc18
                    -- written((), zeros) == (1, ())
                    refine ⟨by decide, fun e1 ne1 => ?_⟩
                    have s21 : Same H2 (upd H2 e1 (.tup [])) := Same.new ne1
                    have he1 : (upd H2 e1 (.tup [])) e1 = some (.tup []) := upd_same
                    generalize upd H2 e1 (.tup []) = H3 at s21 he1
                    refine ⟨_, rfl, (size : Int), rfl, by omega, by omega, fun Z nZ => lc_range (lo := 0) (n := size) (fun k H7 => Same H3 H7 ∧ H7 Z = some (.lst (zs (List.replicate k 0)))) ⟨Same.new nZ, upd_same⟩ ?_ ?_⟩
                    · rintro k H7 hk ⟨s7, h7⟩
                      refine ⟨rfl, _, h7, by rw [zs_len, List.length_replicate]; exact Nat.lt_of_lt_of_le (show k < 10 by omega) (by decide), Same.mut s7 nZ, ?_⟩
                      rw [upd_same, List.replicate_succ', ← zs_push]
                    · rintro H4 ⟨s4, hZ4⟩
                      refine ⟨Z, _, rfl, .inl ⟨.inl (.inl hZ4), fun t2 nt2 => ?_⟩⟩
                      have s5 : Same H4 (upd H4 t2 (.tup (zs (List.replicate size 0)))) := Same.new nt2
                      have ht2 : (upd H4 t2 (.tup (zs (List.replicate size 0)))) t2 = some (.tup (zs (List.replicate size 0))) := upd_same
                      generalize upd H4 t2 (.tup (zs (List.replicate size 0))) = H5 at s5 ht2
                      have s25 := s21.trans (s4.trans s5)
                      refine ⟨e1, t2, [], size, [], List.replicate size 0, 24, rfl, .inl (.inl (s5 _ _ (s4 _ _ he1))), Vecs.nil, free_nil size, .inl (.inl ht2), by simp, by omega, (fun i => by rw [zeros_gi]; decide), by decide, by decide, ans_nil (fun ⟨x, hx, e⟩ => absurd (zeros_gi _ _) e) (fun _ p1 q1 H6 np1 nq1 s6 hp1 hq1 => ?_)⟩
                      refine ⟨by decide, fun u nu => ⟨(show 2 ≤ sizeLine by decide), fun w nw => ?_⟩⟩
                      have s7 : Same H6 (upd H6 u (.tup [])) := Same.new nu
                      have s8 : Same (upd H6 u (.tup [])) (upd (upd H6 u (.tup [])) w (.tup [.int 1, .ref u])) := Same.new nw
                      have hu8 := s8 _ _ (upd_same (H := H6) (a := u) (o := .tup []))
                      have hw8 : (upd (upd H6 u (.tup [])) w (.tup [.int 1, .ref u])) w = some (.tup [.int 1, .ref u]) := upd_same
                      have s68 := s7.trans s8
                      generalize upd (upd H6 u (.tup [])) w (.tup [.int 1, .ref u]) = H8 at s68 hu8 hw8
                      refine ⟨oneD, oneD, one_dp (s68 _ _ hp1) (s68 _ _ hq1), one_dp hw8 hu8, one_shaped, one_shaped, _, rfl, ?_⟩
                      rw [one_eqv]
                      refine iteT ?_
                      have s28 := s25.trans (s6.trans s68)
                      -- written((), tuple(changed)) == due
                      refine ⟨by decide, fun e2 ne2 => ?_⟩
                      have s9 : Same H8 (upd H8 e2 (.tup [])) := Same.new ne2
                      have he2 : (upd H8 e2 (.tup [])) e2 = some (.tup []) := upd_same
                      generalize upd H8 e2 (.tup []) = H9 at s9 he2
                      have s29 := s28.trans s9
                      refine ⟨_, rfl, cc, zs cs, rfl, .inl ⟨.inl (.inl (s29 _ _ hc20)), fun t3 nt3 => ?_⟩⟩
                      have s10 : Same H9 (upd H9 t3 (.tup (zs cs))) := Same.new nt3
                      have ht3 : (upd H9 t3 (.tup (zs cs))) t3 = some (.tup (zs cs)) := upd_same
                      generalize upd H9 t3 (.tup (zs cs)) = H10 at s10 ht3
                      have s30 := s29.trans s10
                      refine ⟨e2, t3, [], size, [], cs, 32, rfl, .inl (.inl (s10 _ _ he2)), Vecs.nil, free_nil size, .inl (.inl ht3), cl, by omega, (fun i => by have := csz i; omega), by decide, by decide, ans_nil (fun nz H11 s11 => ?_) (fun az p2 q2 H11 np2 nq2 s11 hp2 hq2 => ?_)⟩
                      · rcases due with ⟨az, _⟩ | ⟨_, rfl⟩
                        · obtain ⟨x, hx, e⟩ := nz
                          exact absurd (az x hx) e
                        · refine ⟨_, rfl, .none, .none, .non, .non, non_shaped, non_shaped, ?_⟩
                          rw [non_eqv]
                          exact q _
                      · rcases due with ⟨_, p3, q3, rfl, hp3, hq3⟩ | ⟨⟨x, hx, e⟩, _⟩
                        · have s31 := s30.trans s11
                          refine ⟨_, rfl, oneD, oneD, one_dp hp2 hq2, one_dp (s31 _ _ hp3) (s31 _ _ hq3), one_shaped, one_shaped, ?_⟩
                          rw [one_eqv]
                          exact q _
                        · exact absurd (az x hx) e
            -- if common > 1 and _law_pick(draws, 2) == 0
            refine ⟨_, rfl, _, _, rfl, rfl, _, rfl, ite2 (fun e1 => ?_) (fun _ => iteF ?_)⟩
            · have c1 : (1 : Int) < ((gf ms 0 : Nat) : Int) := of_decide_eq_true e1
              refine ⟨_, rfl, d, lr, 2, row, rfl, by decide, A8.dr, A8.but.seq hR0, fun r3 H9 _ _ b9 D9 => ⟨rfl, _, rfl, ite2 (fun _ => ?_) (fun _ => ?_)⟩⟩
              · have A9 := A8.step b9 D9
                have hm9 := but_at b9 (A8.dr.isD hm) hm
                refine ⟨_, rfl, mm, rfl, ⟨_, .inl (.inl hm9)⟩, fun C nC => lc_list (K := K) (a := mm) (xs := zs ms) (fun k H10 => Same H9 H10 ∧ H10 C = some (.lst (zs ((over ((gf ms 0 : Nat) : Int) ms).take k)))) ⟨Same.new nC, upd_same⟩ (fun k H10 _ p => .inl (.inl (p.1 _ _ hm9))) ?_ ?_⟩
                · rintro k x H10 hx ⟨s10, h10⟩
                  obtain ⟨rfl, jx⟩ := zs_at hx
                  refine ⟨rfl, _, rfl, _, rfl, _, _, rfl, rfl, divW (b := 432047952) (n := 32) (by omega) (by omega) (by decide) (by decide) (by decide), ?_⟩
                  exact ⟨_, h10, len_line (by rw [over_len]; omega) k, Same.mut s10 nC, push_at (by rw [over_len]; exact jx) (over_get _ _ _)⟩
                · rintro H10 ⟨s10, h10⟩
                  rw [zs_len, zs_all (by rw [over_len]; exact Nat.le_refl _)] at h10
                  exact rest _ _ ⟨C, _, _, _, _, rfl, A9.same s10, h10, by rw [over_len]; exact ml, over_sz (by omega) msz⟩
              · have A9 := A8.step b9 D9
                have hm9 := but_at b9 (A8.dr.isD hm) hm
                exact rest _ _ ⟨mm, ms, _, _, _, rfl, A9, hm9, ml, msz⟩
            · exact rest _ _ ⟨mm, ms, _, _, _, rfl, A8, hm, ml, msz⟩
end
end W64
end
section
set_option maxHeartbeats 4000000
namespace W64
open PySem PySem.Spec PyProof.Rows L2 M64
theorem all_mk {l : PySem.W.OpenLaw} {w : World} {K : PySem.W.Frag} {h : Heap} {mg : Str → Option Value} {fa C f0 f1 f2 f3 f4 f5 f6 f7 f8 f9 f10 f11 f12 f13 : Addr} (X : K.In h) (G : h.Ns mainGlobals mg) (hfa : mg "law" = some (.ref fa))
    {od0 an0 od1 an1 od2 an2 od3 an3 od4 an4 od5 an5 od6 an6 od7 an7 od8 an8 od9 an9 od10 an10 od11 an11 od12 an12 od13 an13 : Option Addr} {sl0 sl1 sl2 sl3 sl4 sl5 sl6 sl7 sl8 sl9 sl10 sl11 sl12 sl13 : Array (Option Value)} {oc0 kV0 dc0 pm0 cd0 ct0 oc1 kV1 dc1 pm1 cd1 ct1 oc2 kV2 dc2 pm2 cd2 ct2 oc3 kV3 dc3 pm3 cd3 ct3 oc4 kV4 dc4 pm4 cd4 ct4 oc5 kV5 dc5 pm5 cd5 ct5 oc6 kV6 dc6 pm6 cd6 ct6 oc7 kV7 dc7 pm7 cd7 ct7 oc8 kV8 dc8 pm8 cd8 ct8 oc9 kV9 dc9 pm9 cd9 ct9 oc10 kV10 dc10 pm10 cd10 ct10 oc11 kV11 dc11 pm11 cd11 ct11 oc12 kV12 dc12 pm12 cd12 ct12 oc13 kV13 dc13 pm13 cd13 ct13 : Value}
    (aC : PySem.W.nsIn K mainGlobals "Space" = some (some (.ref C)))
    (a0 : PySem.W.findIn K (.ref C) "__init__" = some (some (.ref f0))) (i0 : PySem.W.isFn K (.ref f0) = true)
    (l0 : K.lookup f0 = some ⟨oc0, od0, .func (PySem.W.fnOf "__init__" "Space.__init__" (defArgs s_init) (defBody s_init) (defScope s_init) .none kV0 dc0 pm0 an0 cd0 ct0), sl0⟩) (c0 : PySem.W.codeIn K cd0 "Space.__init__" = true) (k0 : PySem.W.keepIn K (.ref f0) = true)
    (a1 : PySem.W.findIn K (.ref C) "reduced" = some (some (.ref f1))) (i1 : PySem.W.isFn K (.ref f1) = true)
    (l1 : K.lookup f1 = some ⟨oc1, od1, .func (PySem.W.fnOf "reduced" "Space.reduced" (defArgs s_reduced) (defBody s_reduced) (defScope s_reduced) .none kV1 dc1 pm1 an1 cd1 ct1), sl1⟩) (c1 : PySem.W.codeIn K cd1 "Space.reduced" = true) (k1 : PySem.W.keepIn K (.ref f1) = true)
    (a2 : PySem.W.findIn K (.ref C) "keep" = some (some (.ref f2))) (i2 : PySem.W.isFn K (.ref f2) = true)
    (l2 : K.lookup f2 = some ⟨oc2, od2, .func (PySem.W.fnOf "keep" "Space.keep" (defArgs s_keep) (defBody s_keep) (defScope s_keep) .none kV2 dc2 pm2 an2 cd2 ct2), sl2⟩) (c2 : PySem.W.codeIn K cd2 "Space.keep" = true) (k2 : PySem.W.keepIn K (.ref f2) = true)
    (a3 : PySem.W.findIn K (.ref C) "writing" = some (some (.ref f3))) (i3 : PySem.W.isFn K (.ref f3) = true)
    (l3 : K.lookup f3 = some ⟨oc3, od3, .func (PySem.W.fnOf "writing" "Space.writing" (defArgs s_writing) (defBody s_writing) (defScope s_writing) .none kV3 dc3 pm3 an3 cd3 ct3), sl3⟩) (c3 : PySem.W.codeIn K cd3 "Space.writing" = true) (k3 : PySem.W.keepIn K (.ref f3) = true)
    (a4 : PySem.W.nsIn K mainGlobals "written" = some (some (.ref f4)))
    (l4 : K.lookup f4 = some ⟨oc4, od4, .func (PySem.W.fnOf "written" "written" (defArgs s_written) (defBody s_written) (defScope s_written) .none kV4 dc4 pm4 an4 cd4 ct4), sl4⟩) (c4 : PySem.W.codeIn K cd4 "written" = true) (k4 : PySem.W.keepIn K (.ref f4) = true)
    (a5 : PySem.W.nsIn K mainGlobals "_law_mix" = some (some (.ref f5)))
    (l5 : K.lookup f5 = some ⟨oc5, od5, .func (PySem.W.fnOf "_law_mix" "_law_mix" (defArgs s_mix) (defBody s_mix) (defScope s_mix) .none kV5 dc5 pm5 an5 cd5 ct5), sl5⟩) (c5 : PySem.W.codeIn K cd5 "_law_mix" = true) (k5 : PySem.W.keepIn K (.ref f5) = true)
    (a6 : PySem.W.nsIn K mainGlobals "_law_stream" = some (some (.ref f6)))
    (l6 : K.lookup f6 = some ⟨oc6, od6, .func (PySem.W.fnOf "_law_stream" "_law_stream" (defArgs s_stream) (defBody s_stream) (defScope s_stream) .none kV6 dc6 pm6 an6 cd6 ct6), sl6⟩) (c6 : PySem.W.codeIn K cd6 "_law_stream" = true) (k6 : PySem.W.keepIn K (.ref f6) = true)
    (a7 : PySem.W.nsIn K mainGlobals "_law_pick" = some (some (.ref f7)))
    (l7 : K.lookup f7 = some ⟨oc7, od7, .func (PySem.W.fnOf "_law_pick" "_law_pick" (defArgs s_pick) (defBody s_pick) (defScope s_pick) .none kV7 dc7 pm7 an7 cd7 ct7), sl7⟩) (c7 : PySem.W.codeIn K cd7 "_law_pick" = true) (k7 : PySem.W.keepIn K (.ref f7) = true)
    (a8 : PySem.W.nsIn K mainGlobals "_law_gcd" = some (some (.ref f8)))
    (l8 : K.lookup f8 = some ⟨oc8, od8, .func (PySem.W.fnOf "_law_gcd" "_law_gcd" (defArgs s_gcd) (defBody s_gcd) (defScope s_gcd) .none kV8 dc8 pm8 an8 cd8 ct8), sl8⟩) (c8 : PySem.W.codeIn K cd8 "_law_gcd" = true) (k8 : PySem.W.keepIn K (.ref f8) = true)
    (a9 : PySem.W.nsIn K mainGlobals "_law_reduced" = some (some (.ref f9)))
    (l9 : K.lookup f9 = some ⟨oc9, od9, .func (PySem.W.fnOf "_law_reduced" "_law_reduced" (defArgs s_lred) (defBody s_lred) (defScope s_lred) .none kV9 dc9 pm9 an9 cd9 ct9), sl9⟩) (c9 : PySem.W.codeIn K cd9 "_law_reduced" = true) (k9 : PySem.W.keepIn K (.ref f9) = true)
    (a10 : PySem.W.nsIn K mainGlobals "_law_kept" = some (some (.ref f10)))
    (l10 : K.lookup f10 = some ⟨oc10, od10, .func (PySem.W.fnOf "_law_kept" "_law_kept" (defArgs s_kept) (defBody s_kept) (defScope s_kept) .none kV10 dc10 pm10 an10 cd10 ct10), sl10⟩) (c10 : PySem.W.codeIn K cd10 "_law_kept" = true) (k10 : PySem.W.keepIn K (.ref f10) = true)
    (a11 : PySem.W.nsIn K mainGlobals "_law_members" = some (some (.ref f11)))
    (l11 : K.lookup f11 = some ⟨oc11, od11, .func (PySem.W.fnOf "_law_members" "_law_members" (defArgs s_members) (defBody s_members) (defScope s_members) .none kV11 dc11 pm11 an11 cd11 ct11), sl11⟩) (c11 : PySem.W.codeIn K cd11 "_law_members" = true) (k11 : PySem.W.keepIn K (.ref f11) = true)
    (a12 : PySem.W.nsIn K mainGlobals "_law_right" = some (some (.ref f12)))
    (l12 : K.lookup f12 = some ⟨oc12, od12, .func (PySem.W.fnOf "_law_right" "_law_right" (defArgs s_right) (defBody s_right) (defScope s_right) .none kV12 dc12 pm12 an12 cd12 ct12), sl12⟩) (c12 : PySem.W.codeIn K cd12 "_law_right" = true) (k12 : PySem.W.keepIn K (.ref f12) = true)
    (a13 : PySem.W.nsIn K mainGlobals "law" = some (some (.ref f13)))
    (l13 : K.lookup f13 = some ⟨oc13, od13, .func (PySem.W.fnOf "law" "law" (defArgs s_law) (defBody s_law) (defScope s_law) .none kV13 dc13 pm13 an13 cd13 ct13), sl13⟩) (c13 : PySem.W.codeIn K cd13 "law" = true) (k13 : PySem.W.keepIn K (.ref f13) = true)
    (pg : PySem.W.plainGet K C Str.empty = true) (hd : PySem.W.hasDictIn K C = true) (po : PySem.W.plainOver K C = true) (sa : PySem.W.findIn K (.ref C) "__setattr__" = some (some (.builtin "object.__setattr__"))) (mk : PySem.W.makesIn K C = true) (kc : PySem.W.keepIn K (.ref C) = true)
    (nV : PySem.W.findIn K (.ref C) "vectors" = some none) (nR : PySem.W.findIn K (.ref C) "rows" = some none)
    (z0 : PySem.W.nsIn K mainGlobals "range" = some none) (z1 : PySem.W.nsIn K mainGlobals "min" = some none) (z2 : PySem.W.nsIn K mainGlobals "len" = some none) (z3 : PySem.W.nsIn K mainGlobals "int" = some none) (z4 : PySem.W.nsIn K mainGlobals "sum" = some none) (z5 : PySem.W.nsIn K mainGlobals "abs" = some none) (z6 : PySem.W.nsIn K mainGlobals "any" = some none) (z7 : PySem.W.nsIn K mainGlobals "list" = some none) (z8 : PySem.W.nsIn K mainGlobals "tuple" = some none) (z9 : PySem.W.nsIn K mainGlobals "zip" = some none) (z10 : PySem.W.nsIn K mainGlobals "enumerate" = some none) (z11 : PySem.W.nsIn K mainGlobals "isinstance" = some none) (z12 : PySem.W.nsIn K mainGlobals "bool" = some none) (zg : PySem.W.nsIn K mainGlobals "gcd" = some (some (.builtin "math.gcd"))) :
    ∃ fd : FuncData, (∀ (s : Shared) (v : Value), BindsTo s fd ⟨[v], []⟩ [("script", v)]) ∧ ∀ base : Heap, K.In base → base.Ns mainGlobals mg → FnOk l.prog w K mg base CX0 5 fa fd ["script"] (spLaw K) := by
  have e := hfa.symm.trans (PySem.W.mg_of X G a13)
  cases e
  have T : Txt K mg := ⟨PySem.W.mg_none_of X G z0, PySem.W.mg_none_of X G z1, PySem.W.mg_none_of X G z2, PySem.W.mg_none_of X G z3, PySem.W.mg_none_of X G z4, PySem.W.mg_none_of X G z5, PySem.W.mg_none_of X G z6, PySem.W.mg_none_of X G z7, PySem.W.mg_none_of X G z8, PySem.W.mg_none_of X G z9, PySem.W.mg_none_of X G z10, PySem.W.mg_none_of X G z11, PySem.W.mg_none_of X G z12, PySem.W.mg_of X G zg⟩
  have S : Spc K mg C := ⟨⟨pg, hd, po, sa⟩, nV, nR⟩
  have F0 := fun_mk (st := s_init) l0 c0 k0
  have b0 := F0.binds (ps := ["self"]) fun _ _ _ _ _ _ us hl => match us, hl with | [_], _ => rfl
  have F1 := fun_mk (st := s_reduced) l1 c1 k1
  have b1 := F1.binds (ps := ["self", "vector"]) fun _ _ _ _ _ _ us hl => match us, hl with | [_, _], _ => rfl
  have F2 := fun_mk (st := s_keep) l2 c2 k2
  have b2 := F2.binds (ps := ["self", "vector"]) fun _ _ _ _ _ _ us hl => match us, hl with | [_, _], _ => rfl
  have F3 := fun_mk (st := s_writing) l3 c3 k3
  have b3 := F3.binds (ps := ["self", "vector"]) fun _ _ _ _ _ _ us hl => match us, hl with | [_, _], _ => rfl
  have F4 := fun_mk (st := s_written) l4 c4 k4
  have b4 := F4.binds (ps := ["vectors", "vector"]) fun _ _ _ _ _ _ us hl => match us, hl with | [_, _], _ => rfl
  have F5 := fun_mk (st := s_mix) l5 c5 k5
  have b5 := F5.binds (ps := ["cell", "k"]) fun _ _ _ _ _ _ us hl => match us, hl with | [_, _], _ => rfl
  have F6 := fun_mk (st := s_stream) l6 c6 k6
  have b6 := F6.binds (ps := ["script", "most"]) fun _ _ _ _ _ _ us hl => match us, hl with | [_, _], _ => rfl
  have F7 := fun_mk (st := s_pick) l7 c7 k7
  have b7 := F7.binds (ps := ["draws", "many"]) fun _ _ _ _ _ _ us hl => match us, hl with | [_, _], _ => rfl
  have F8 := fun_mk (st := s_gcd) l8 c8 k8
  have b8 := F8.binds (ps := ["one", "other"]) fun _ _ _ _ _ _ us hl => match us, hl with | [_, _], _ => rfl
  have F9 := fun_mk (st := s_lred) l9 c9 k9
  have b9 := F9.binds (ps := ["rows", "vector"]) fun _ _ _ _ _ _ us hl => match us, hl with | [_, _], _ => rfl
  have F10 := fun_mk (st := s_kept) l10 c10 k10
  have b10 := F10.binds (ps := ["rows", "vector"]) fun _ _ _ _ _ _ us hl => match us, hl with | [_, _], _ => rfl
  have F11 := fun_mk (st := s_members) l11 c11 k11
  have b11 := F11.binds (ps := ["draws", "size"]) fun _ _ _ _ _ _ us hl => match us, hl with | [_, _], _ => rfl
  have F12 := fun_mk (st := s_right) l12 c12 k12
  have b12 := F12.binds (ps := ["vectors", "rows", "vector"]) fun _ _ _ _ _ _ us hl => match us, hl with | [_, _, _], _ => rfl
  have F13 := fun_mk (st := s_law) l13 c13 k13
  refine ⟨PySem.W.fnOf "law" "law" (defArgs s_law) (defBody s_law) (defScope s_law) .none kV13 dc13 pm13 an13 cd13 ct13, fun s v => .of_eq rfl, fun base _ _ => ?_⟩
  have G_init := ok_init (P := l.prog) (w := w) (mg := mg) (base := base) F0 S
  have G_reduced := ok_reduced (P := l.prog) (w := w) (mg := mg) (base := base) F1 T S
  have G_keep := ok_keep (P := l.prog) (w := w) (mg := mg) (base := base) F2 T S ⟨a1, i1, k1⟩ G_reduced b1
  have G_writing := ok_writing (P := l.prog) (w := w) (mg := mg) (base := base) F3 T S ⟨a1, i1, k1⟩ G_reduced b1
  have G_written := ok_written (P := l.prog) (w := w) (mg := mg) (base := base) F4 T S ⟨mk, a0, i0, kc⟩ (PySem.W.mg_of X G aC) G_init b0 ⟨a2, i2, k2⟩ G_keep b2 ⟨a3, i3, k3⟩ G_writing b3
  have c_written := Callee.mk G_written (PySem.W.mg_of X G a4) k4 b4
  have G_mix := ok_mix (P := l.prog) (w := w) (mg := mg) (base := base) F5 T
  have c_mix := Callee.mk G_mix (PySem.W.mg_of X G a5) k5 b5
  have G_stream := ok_stream (P := l.prog) (w := w) (mg := mg) (base := base) F6 T c_mix
  have c_stream := Callee.mk G_stream (PySem.W.mg_of X G a6) k6 b6
  have G_pick := ok_pick (P := l.prog) (w := w) (mg := mg) (base := base) F7 T c_mix
  have c_pick := Callee.mk G_pick (PySem.W.mg_of X G a7) k7 b7
  have G_gcd := ok_gcd (P := l.prog) (w := w) (mg := mg) (base := base) F8 T
  have c_gcd := Callee.mk G_gcd (PySem.W.mg_of X G a8) k8 b8
  have G_lred := ok_lred (P := l.prog) (w := w) (mg := mg) (base := base) F9 T
  have c_lred := Callee.mk G_lred (PySem.W.mg_of X G a9) k9 b9
  have G_kept := ok_kept (P := l.prog) (w := w) (mg := mg) (base := base) F10 T c_lred
  have c_kept := Callee.mk G_kept (PySem.W.mg_of X G a10) k10 b10
  have G_members := ok_members (P := l.prog) (w := w) (mg := mg) (base := base) F11 T c_pick
  have c_members := Callee.mk G_members (PySem.W.mg_of X G a11) k11 b11
  have G_right := ok_right (P := l.prog) (w := w) (mg := mg) (base := base) F12 T c_written c_lred c_gcd
  have c_right := Callee.mk G_right (PySem.W.mg_of X G a12) k12 b12
  exact ok_law F13 T c_stream c_pick c_members c_kept c_gcd c_right c_written
end W64
open PySem PySem.W PyProof.Rows
set_option maxHeartbeats 0 in
theorem PySem.Challenge.cw_threescribes_k64_writings_of_vectors_holds : PySem.Challenge.rw_threescribes_k64_writings_of_vectors.Holds := by
  w_on; o_law; k_head; (case hw => w_witness2)
  k_fill
  refine L2.walk_of (l := PySem.Challenge.rw_threescribes_k64_writings_of_vectors) (n := 63) (k := 5) (x := "script") (CX := fun _ => L2.CX0) (sp := fun w => W64.spLaw _) rfl (by decide) rfl ⟨rfl, by decide, by decide⟩ (fun w h Y => PySem.W.kIn_of Y) ?F (fun _ _ a ns hl _ hS => ⟨a, ns, rfl, hS, hl, fun _ => rfl⟩) (fun _ _ _ _ _ h => h)
  case F =>
    intro w mg fa h KX G hmg
    refine' W64.all_mk KX G hmg ?aC ?a0 ?i0 ?l0 ?c0 ?k0 ?a1 ?i1 ?l1 ?c1 ?k1 ?a2 ?i2 ?l2 ?c2 ?k2 ?a3 ?i3 ?l3 ?c3 ?k3 ?a4 ?l4 ?c4 ?k4 ?a5 ?l5 ?c5 ?k5 ?a6 ?l6 ?c6 ?k6 ?a7 ?l7 ?c7 ?k7 ?a8 ?l8 ?c8 ?k8 ?a9 ?l9 ?c9 ?k9 ?a10 ?l10 ?c10 ?k10 ?a11 ?l11 ?c11 ?k11 ?a12 ?l12 ?c12 ?k12 ?a13 ?l13 ?c13 ?k13 ?pg ?hd ?po ?sa ?mk ?kc ?nV ?nR ?z0 ?z1 ?z2 ?z3 ?z4 ?z5 ?z6 ?z7 ?z8 ?z9 ?z10 ?z11 ?z12 ?zg
    (case aC => k_is); (case a0 => k_is); (case i0 => k_is); (case l0 => k_is); (case c0 => k_is); (case k0 => k_is)
    (case a1 => k_is); (case i1 => k_is); (case l1 => k_is); (case c1 => k_is); (case k1 => k_is); (case a2 => k_is)
    (case i2 => k_is); (case l2 => k_is); (case c2 => k_is); (case k2 => k_is); (case a3 => k_is); (case i3 => k_is)
    (case l3 => k_is); (case c3 => k_is); (case k3 => k_is); (case a4 => k_is); (case l4 => k_is); (case c4 => k_is)
    (case k4 => k_is); (case a5 => k_is); (case l5 => k_is); (case c5 => k_is); (case k5 => k_is); (case a6 => k_is)
    (case l6 => k_is); (case c6 => k_is); (case k6 => k_is); (case a7 => k_is); (case l7 => k_is); (case c7 => k_is)
    (case k7 => k_is); (case a8 => k_is); (case l8 => k_is); (case c8 => k_is); (case k8 => k_is); (case a9 => k_is)
    (case l9 => k_is); (case c9 => k_is); (case k9 => k_is); (case a10 => k_is); (case l10 => k_is); (case c10 => k_is)
    (case k10 => k_is); (case a11 => k_is); (case l11 => k_is); (case c11 => k_is); (case k11 => k_is); (case a12 => k_is)
    (case l12 => k_is); (case c12 => k_is); (case k12 => k_is); (case a13 => k_is); (case l13 => k_is); (case c13 => k_is)
    (case k13 => k_is); (case pg => k_is); (case hd => k_is); (case po => k_is); (case sa => k_is); (case mk => k_is)
    (case kc => k_is); (case nV => k_is); (case nR => k_is); (case z0 => k_is); (case z1 => k_is); (case z2 => k_is)
    (case z3 => k_is); (case z4 => k_is); (case z5 => k_is); (case z6 => k_is); (case z7 => k_is); (case z8 => k_is)
    (case z9 => k_is); (case z10 => k_is); (case z11 => k_is); (case z12 => k_is); (case zg => k_is)
end
