import PyProof.Rows.All
import Wide.All
import OpenK.AllK
import Wide.FinOn
import HandS.ForMost
import HandS.Evl
import HandS.Walk
import HandS.Gcd
import HandS.WideBits
import HandS.Property
import HandS.DictComp
import HandS.IsInst
import HandS.More
import HandS.Deep
import HandS.Strs
import HandS.Style
import HandS.Zip
import KE.GoesZip
import HandS.DictTup
import HandS.TupLe
import HandS.Flt
import HandS.TryOnly
import HandS.Codes
import PySem.Challenge.RW_textworths_k08_whole_heads_are_first_fre
set_option Elab.async false
set_option linter.all false
set_option maxRecDepth 100000
set_option maxHeartbeats 4000000
set_option exponentiation.threshold 100000
/-! Sums over rationals and integers, dependence, small integer relations, primitive vectors on a line. -/
namespace Tw

/-- the sum of the first n values -/
def sm (f : Nat → Rat) : Nat → Rat
  | 0 => 0
  | n + 1 => sm f n + f n
theorem sm_congr {f g : Nat → Rat} : ∀ {n : Nat}, (∀ i, i < n → f i = g i) → sm f n = sm g n
  | 0, _ => rfl
  | n + 1, h => by
    show sm f n + f n = sm g n + g n
    rw [sm_congr fun i hi => h i (Nat.lt_succ_of_lt hi), h n (Nat.lt_succ_self n)]
theorem sm_zero {f : Nat → Rat} {n : Nat} (h : ∀ i, i < n → f i = 0) : sm f n = 0 := by
  rw [sm_congr (g := fun _ => 0) h]
  induction n with
  | zero => rfl
  | succ n ih =>
    show sm (fun _ => 0) n + 0 = 0
    rw [ih fun i hi => h i (Nat.lt_succ_of_lt hi)]
    grind
theorem sm_add (f g : Nat → Rat) (n : Nat) : sm (fun i => f i + g i) n = sm f n + sm g n := by
  induction n with
  | zero => simp only [sm]; grind
  | succ n ih => simp only [sm, ih]; grind
theorem sm_sub (f g : Nat → Rat) (n : Nat) : sm (fun i => f i - g i) n = sm f n - sm g n := by
  induction n with
  | zero => simp only [sm]; grind
  | succ n ih => simp only [sm, ih]; grind
theorem sm_mul (c : Rat) (f : Nat → Rat) (n : Nat) : sm (fun i => c * f i) n = c * sm f n := by
  induction n with
  | zero => simp only [sm]; grind
  | succ n ih => simp only [sm, ih]; grind
theorem sm_mulr (c : Rat) (f : Nat → Rat) (n : Nat) : sm (fun i => f i * c) n = sm f n * c := by
  induction n with
  | zero => simp only [sm]; grind
  | succ n ih => simp only [sm, ih]; grind
theorem sm_comm (f : Nat → Nat → Rat) (n m : Nat) : sm (fun i => sm (fun j => f i j) m) n = sm (fun j => sm (fun i => f i j) n) m := by
  induction n with
  | zero => exact (sm_zero fun _ _ => rfl).symm
  | succ n ih =>
    show sm (fun i => sm (fun j => f i j) m) n + sm (fun j => f n j) m = sm (fun j => sm (fun i => f i j) n + f n j) m
    rw [sm_add, ih]
/-- one term alone -/
theorem sm_one {f : Nat → Rat} {n p : Nat} (hp : p < n) (h : ∀ i, i < n → i ≠ p → f i = 0) : sm f n = f p := by
  induction n with
  | zero => omega
  | succ n ih =>
    show sm f n + f n = f p
    by_cases e : p = n
    · subst e
      rw [sm_zero fun i hi => h i (by omega) (by omega)]
      grind
    · rw [ih (by omega) fun i hi hne => h i (by omega) hne, h n (by omega) (by omega)]
      grind
/-- an index left out -/
def skp (p i : Nat) : Nat := if i < p then i else i + 1
theorem sm_skip {f : Nat → Rat} {n p : Nat} (hp : p < n + 1) : sm f (n + 1) = f p + sm (fun i => f (skp p i)) n := by
  induction n with
  | zero =>
    have e : p = 0 := by omega
    subst e
    simp only [sm]; grind
  | succ n ih =>
    by_cases e : p = n + 1
    · subst e
      have e2 : sm (fun i => f (skp (n + 1) i)) (n + 1) = sm f (n + 1) := sm_congr fun i hi => by
        show f (if i < n + 1 then i else i + 1) = f i
        rw [if_pos hi]
      rw [e2]
      show sm f (n + 1) + f (n + 1) = _
      grind
    · show sm f (n + 1) + f (n + 1) = f p + (sm (fun i => f (skp p i)) n + f (skp p n))
      have e3 : skp p n = n + 1 := by
        unfold skp
        rw [if_neg (by omega)]
      rw [ih (by omega), e3]
      grind
theorem sm_extend {f : Nat → Rat} {n m : Nat} (hnm : n ≤ m) (h : ∀ i, n ≤ i → i < m → f i = 0) : sm f m = sm f n := by
  induction m with
  | zero =>
    have e : n = 0 := by omega
    subst e
    rfl
  | succ m ih =>
    by_cases e : n = m + 1
    · subst e
      rfl
    · show sm f m + f m = sm f n
      rw [ih (by omega) fun i h1 h2 => h i h1 (by omega), h m (by omega) (by omega)]
      grind

/-- more vectors than places: a relation -/
theorem dep : ∀ (k r : Nat) (v : Nat → Nat → Rat), k < r → ∃ a : Nat → Rat, (∃ i, i < r ∧ a i ≠ 0) ∧ ∀ j, j < k → sm (fun i => a i * v i j) r = 0
  | 0, r, v, h => ⟨fun _ => 1, ⟨0, h, by decide⟩, fun j hj => by omega⟩
  | k + 1, r, v, h => by
    by_cases hz : ∀ i, i < r → v i k = 0
    · obtain ⟨a, ha, hr⟩ := dep k r v (by omega)
      refine ⟨a, ha, fun j hj => ?_⟩
      by_cases e : j = k
      · subst e
        exact sm_zero fun i hi => by rw [hz i hi]; grind
      · exact hr j (by omega)
    · have hz' : ∃ p, p < r ∧ v p k ≠ 0 := by
        apply Classical.byContradiction
        intro hn
        exact hz fun i hi => Classical.byContradiction fun hv => hn ⟨i, hi, hv⟩
      obtain ⟨p, hp, hv⟩ := hz'
      obtain ⟨r', rfl⟩ : ∃ r', r = r' + 1 := ⟨r - 1, by omega⟩
      obtain ⟨b, ⟨q, hq, hb⟩, hr⟩ := dep k r' (fun i j => v (skp p i) j - (v (skp p i) k / v p k) * v p j) (by omega)
      let t : Rat := sm (fun i => b i * (v (skp p i) k / v p k)) r'
      let a : Nat → Rat := fun i => if i = p then - t else if i < p then b i else b (i - 1)
      have ap : a p = - t := if_pos rfl
      have as : ∀ i, a (skp p i) = b i := fun i => by
        show (if skp p i = p then - t else if skp p i < p then b (skp p i) else b (skp p i - 1)) = b i
        unfold skp
        by_cases h1 : i < p
        · rw [if_pos h1, if_neg (by omega), if_pos h1]
        · rw [if_neg h1, if_neg (by omega), if_neg (by omega), Nat.add_sub_cancel]
      have sl : ∀ i, i < r' → skp p i < r' + 1 := fun i hi => by
        unfold skp
        split <;> omega
      have rel : ∀ j, sm (fun i => a i * v i j) (r' + 1) = sm (fun i => b i * (v (skp p i) j - (v (skp p i) k / v p k) * v p j)) r' := fun j => by
        rw [sm_skip hp, ap]
        have e1 : sm (fun i => a (skp p i) * v (skp p i) j) r' = sm (fun i => b i * v (skp p i) j) r' := sm_congr fun i _ => by rw [as i]
        rw [e1]
        have e2 : sm (fun i => b i * (v (skp p i) j - (v (skp p i) k / v p k) * v p j)) r' = sm (fun i => b i * v (skp p i) j - (b i * (v (skp p i) k / v p k)) * v p j) r' := sm_congr fun i _ => by grind
        rw [e2, sm_sub, sm_mulr]
        show - t * v p j + sm (fun i => b i * v (skp p i) j) r' = sm (fun i => b i * v (skp p i) j) r' - t * v p j
        grind
      refine ⟨a, ⟨skp p q, sl q hq, by rw [as q]; exact hb⟩, fun j hj => ?_⟩
      rw [rel j]
      by_cases e : j = k
      · subst e
        exact sm_zero fun i hi => by grind
      · exact hr j (by omega)

/-! ### pigeons -/
theorem pigeon : ∀ (n : Nat) (f : Nat → Nat), (∀ i, i ≤ n → f i < n) → ∃ i j, i < j ∧ j ≤ n ∧ f i = f j
  | 0, f, h => absurd (h 0 (Nat.le_refl 0)) (by omega)
  | n + 1, f, h => by
    by_cases hx : ∃ i, i ≤ n ∧ f i = f (n + 1)
    · obtain ⟨i, hi, e⟩ := hx
      exact ⟨i, n + 1, by omega, Nat.le_refl _, e⟩
    · have hne : ∀ i, i ≤ n → f i ≠ f (n + 1) := fun i hi e => hx ⟨i, hi, e⟩
      obtain ⟨i, j, hij, hj, e⟩ := pigeon n (fun i => if f i > f (n + 1) then f i - 1 else f i) (fun i hi => by
        have a := h i (by omega)
        have b := h (n + 1) (Nat.le_refl _)
        have c := hne i hi
        show (if f i > f (n + 1) then f i - 1 else f i) < n
        split <;> omega)
      refine ⟨i, j, hij, by omega, ?_⟩
      have c := hne i (by omega)
      have d := hne j (by omega)
      have e' : (if f i > f (n + 1) then f i - 1 else f i) = (if f j > f (n + 1) then f j - 1 else f j) := e
      split at e' <;> split at e' <;> omega

/-- the sum of the first n integers -/
def si (f : Nat → Int) : Nat → Int
  | 0 => 0
  | n + 1 => si f n + f n
theorem si_congr {f g : Nat → Int} : ∀ {n : Nat}, (∀ i, i < n → f i = g i) → si f n = si g n
  | 0, _ => rfl
  | n + 1, h => by
    show si f n + f n = si g n + g n
    rw [si_congr fun i hi => h i (Nat.lt_succ_of_lt hi), h n (Nat.lt_succ_self n)]
theorem si_sub (f g : Nat → Int) (n : Nat) : si (fun i => f i - g i) n = si f n - si g n := by
  induction n with
  | zero => rfl
  | succ n ih => simp only [si, ih]; omega
theorem si_bound {f : Nat → Int} {B : Nat} : ∀ {n : Nat}, (∀ i, i < n → (f i).natAbs ≤ B) → (si f n).natAbs ≤ n * B
  | 0, _ => Nat.zero_le _
  | n + 1, h => by
    have a := si_bound (n := n) fun i hi => h i (Nat.lt_succ_of_lt hi)
    have b := h n (Nat.lt_succ_self n)
    show (si f n + f n).natAbs ≤ (n + 1) * B
    rw [Nat.succ_mul]
    omega
theorem cast_si (f : Nat → Int) (n : Nat) : ((si f n : Int) : Rat) = sm (fun i => ((f i : Int) : Rat)) n := by
  induction n with
  | zero => rfl
  | succ n ih =>
    show ((si f n + f n : Int) : Rat) = sm (fun i => ((f i : Int) : Rat)) n + ((f n : Int) : Rat)
    rw [Rat.intCast_add, ih]

/-- digits of t to the base b -/
def dg (b t i : Nat) : Nat := t / b ^ i % b
theorem dg_inj {b : Nat} (hb : 0 < b) : ∀ (n s t : Nat), s < b ^ n → t < b ^ n → (∀ i, i < n → dg b s i = dg b t i) → s = t
  | 0, s, t, hs, ht, _ => by
    rw [Nat.pow_zero] at hs ht
    omega
  | n + 1, s, t, hs, ht, h => by
    have e0 : s % b = t % b := by
      have := h 0 (Nat.succ_pos n)
      unfold dg at this
      rw [Nat.pow_zero, Nat.div_one, Nat.div_one] at this
      exact this
    have ed : s / b = t / b := dg_inj hb n (s / b) (t / b) (Nat.div_lt_of_lt_mul (by rw [Nat.pow_succ, Nat.mul_comm] at hs; exact hs)) (Nat.div_lt_of_lt_mul (by rw [Nat.pow_succ, Nat.mul_comm] at ht; exact ht)) fun i hi => by
      have := h (i + 1) (by omega)
      unfold dg at this ⊢
      rw [Nat.pow_succ, Nat.mul_comm, ← Nat.div_div_eq_div_mul, ← Nat.div_div_eq_div_mul] at this
      exact this
    have a := Nat.div_add_mod s b
    have c := Nat.div_add_mod t b
    rw [← a, ← c, ed, e0]
/-- numbers below b, written to the base b -/
def enc (b : Nat) (c : Nat → Nat) : Nat → Nat
  | 0 => 0
  | n + 1 => enc b c n * b + c n
theorem enc_lt {b : Nat} {c : Nat → Nat} (hb : 0 < b) : ∀ {n : Nat}, (∀ i, i < n → c i < b) → enc b c n < b ^ n
  | 0, _ => by rw [Nat.pow_zero]; exact Nat.one_pos
  | n + 1, h => by
    have a := enc_lt (n := n) hb fun i hi => h i (Nat.lt_succ_of_lt hi)
    have e := h n (Nat.lt_succ_self n)
    show enc b c n * b + c n < b ^ (n + 1)
    rw [Nat.pow_succ]
    have k : (enc b c n + 1) * b ≤ b ^ n * b := Nat.mul_le_mul_right b a
    rw [Nat.succ_mul] at k
    omega
theorem enc_inj {b : Nat} {c d : Nat → Nat} (hb : 0 < b) : ∀ {n : Nat}, (∀ i, i < n → c i < b) → (∀ i, i < n → d i < b) → enc b c n = enc b d n → ∀ i, i < n → c i = d i
  | 0, _, _, _, i, hi => by omega
  | n + 1, hc, hd, e, i, hi => by
    have e' : enc b c n * b + c n = enc b d n * b + d n := e
    have c1 := hc n (Nat.lt_succ_self n)
    have d1 := hd n (Nat.lt_succ_self n)
    have em : c n = d n := by
      have := congrArg (· % b) e'
      simp only [Nat.mul_add_mod_self_right] at this
      rw [Nat.mod_eq_of_lt c1, Nat.mod_eq_of_lt d1] at this
      exact this
    have eq : enc b c n = enc b d n := by
      rw [em] at e'
      exact Nat.eq_of_mul_eq_mul_right hb (by omega)
    by_cases h : i = n
    · subst h
      exact em
    · exact enc_inj hb (fun j hj => hc j (by omega)) (fun j hj => hd j (by omega)) eq i (by omega)

/-- a small integer relation of more integer vectors than places -/
theorem siegel (k X A : Nat) (v : Nat → Nat → Int) (hX : ∀ i j, i < k + 1 → j < k → (v i j).natAbs ≤ X) (hA : (2 * (k + 1) * X + 1) ^ k ≤ A + 1) (hA1 : 1 ≤ A) :
    ∃ a : Nat → Int, (∃ i, i < k + 1 ∧ a i ≠ 0) ∧ (∀ i, (a i).natAbs ≤ A) ∧ ∀ j, j < k → si (fun i => a i * v i j) (k + 1) = 0 := by
  let S : Nat := (k + 1) * (A * X)
  let B : Nat := 2 * S + 1
  have hB : 0 < B := Nat.succ_pos _
  let cd : Nat → Nat → Int := fun t j => si (fun i => (dg (A + 1) t i : Int) * v i j) (k + 1)
  have dl : ∀ t i, dg (A + 1) t i ≤ A := fun t i => Nat.le_of_lt_succ (Nat.mod_lt _ (Nat.succ_pos A))
  have cb : ∀ t j, j < k → (cd t j).natAbs ≤ S := fun t j hj => si_bound fun i hi => by
    rw [Int.natAbs_mul, Int.natAbs_natCast]
    exact Nat.mul_le_mul (dl t i) (hX i j hi hj)
  let c : Nat → Nat → Nat := fun t j => (cd t j + (S : Int)).toNat
  have cl : ∀ t j, j < k → c t j < B := fun t j hj => by
    have := cb t j hj
    show (cd t j + (S : Int)).toNat < 2 * S + 1
    omega
  let f : Nat → Nat := fun t => enc B (c t) k
  have hlt : B ^ k < (A + 1) ^ (k + 1) := by
    have h1 : B ≤ (2 * (k + 1) * X + 1) * (A + 1) - 1 := by
      have : (2 * (k + 1) * X + 1) * (A + 1) = 2 * S + (2 * (k + 1) * X) + A + 1 := by
        show (2 * (k + 1) * X + 1) * (A + 1) = 2 * ((k + 1) * (A * X)) + (2 * (k + 1) * X) + A + 1
        grind
      rw [this]
      show 2 * S + 1 ≤ _
      omega
    rw [Nat.pow_succ]
    have h2 : B ^ k ≤ ((2 * (k + 1) * X + 1) * (A + 1) - 1) ^ k := Nat.pow_le_pow_left h1 k
    by_cases hk : k = 0
    · subst hk
      simp only [Nat.pow_zero]
      omega
    · have h3 : ((2 * (k + 1) * X + 1) * (A + 1) - 1) ^ k < ((2 * (k + 1) * X + 1) * (A + 1)) ^ k := Nat.pow_lt_pow_left (by
        have : 0 < (2 * (k + 1) * X + 1) * (A + 1) := Nat.mul_pos (Nat.succ_pos _) (Nat.succ_pos _)
        omega) hk
      rw [Nat.mul_pow] at h3
      rw [Nat.mul_comm ((A + 1) ^ k)]
      have h4 : (2 * (k + 1) * X + 1) ^ k * (A + 1) ^ k ≤ (A + 1) * (A + 1) ^ k := Nat.mul_le_mul_right _ hA
      omega
  obtain ⟨s, t, hst, ht, e⟩ := pigeon (B ^ k) f fun i _ => enc_lt hB fun j hj => cl i j hj
  have ec := enc_inj hB (fun j hj => cl s j hj) (fun j hj => cl t j hj) e
  refine ⟨fun i => (dg (A + 1) s i : Int) - (dg (A + 1) t i : Int), ?_, fun i => ?_, fun j hj => ?_⟩
  · apply Classical.byContradiction
    intro hn
    have hall : ∀ i, i < k + 1 → dg (A + 1) s i = dg (A + 1) t i := fun i hi => by
      apply Classical.byContradiction
      intro hne
      exact hn ⟨i, hi, by show (dg (A + 1) s i : Int) - (dg (A + 1) t i : Int) ≠ 0; omega⟩
    have := dg_inj (Nat.succ_pos A) (k + 1) s t (Nat.lt_of_lt_of_le hst (Nat.le_trans ht (Nat.le_of_lt hlt))) (Nat.lt_of_le_of_lt ht hlt) hall
    omega
  · have a := dl s i
    have b := dl t i
    show ((dg (A + 1) s i : Int) - (dg (A + 1) t i : Int)).natAbs ≤ A
    omega
  · have h1 := ec j hj
    have e1 : cd s j = cd t j := by
      have a := cb s j hj
      have b := cb t j hj
      have h1' : (cd s j + (S : Int)).toNat = (cd t j + (S : Int)).toNat := h1
      omega
    have e2 : si (fun i => ((dg (A + 1) s i : Int) - (dg (A + 1) t i : Int)) * v i j) (k + 1) = si (fun i => (dg (A + 1) s i : Int) * v i j - (dg (A + 1) t i : Int) * v i j) (k + 1) := si_congr fun i _ => Int.sub_mul _ _ _
    show si (fun i => ((dg (A + 1) s i : Int) - (dg (A + 1) t i : Int)) * v i j) (k + 1) = 0
    rw [e2, si_sub]
    show cd s j - cd t j = 0
    omega
end Tw

/-! A primitive integer vector on a line that bears a small one is small. -/
namespace Tw

theorem den_ne (q : Rat) : (q.den : Rat) ≠ 0 := fun z => q.den_nz (Rat.natCast_eq_zero_iff.mp z)
theorem mul_den (q : Rat) : q * (q.den : Rat) = (q.num : Rat) := by
  have e : Rat.divInt q.num (q.den : Int) = q := Rat.num_divInt_den q
  rw [Rat.divInt_eq_div, Rat.intCast_natCast] at e
  have h := den_ne q
  grind
/-- where q times x is an integer, the integer below q divides x -/
theorem den_dvd {q : Rat} {x y : Int} (h : q * x = y) : (q.den : Int) ∣ x := by
  have e1 : q.num * x = y * (q.den : Int) := by
    apply Rat.intCast_inj.mp
    rw [Rat.intCast_mul, Rat.intCast_mul, Rat.intCast_natCast, ← mul_den q, ← h]
    grind
  have e2 : q.den ∣ q.num.natAbs * x.natAbs := by
    rw [← Int.natAbs_mul, e1, Int.natAbs_mul, Int.natAbs_natCast]
    exact Nat.dvd_mul_left _ _
  have e3 : q.den ∣ x.natAbs := Nat.Coprime.dvd_of_dvd_mul_left q.reduced.symm e2
  exact Int.natAbs_dvd_natAbs.mp (by rw [Int.natAbs_natCast]; exact e3)

/-- a and b on the same line through whole vectors: see prim_bound -/
theorem prim_bound (k N X A : Nat) (G : Nat → Nat → Int) (p : Nat → Nat) (c : Nat → Rat) (x : Nat → Int)
    (hG : ∀ i j, i < k + 1 → j < N → (G i j).natAbs ≤ X) (hA : (2 * (k + 1) * X + 1) ^ k ≤ A + 1) (hA1 : 1 ≤ A)
    (hp : ∀ l, l < k → p l < N) (hc : c 0 ≠ 0) (hx : ∀ j, j < N → (x j : Rat) = sm (fun i => c i * (G i j : Rat)) (k + 1)) (hz : ∀ l, l < k → x (p l) = 0)
    (nd : ∀ a : Nat → Rat, (∀ l, l < k → sm (fun i => a i * (G (i + 1) (p l) : Rat)) k = 0) → ∀ i, i < k → a i = 0)
    (pr : (∀ j, j < N → x j = 0) ∨ ∀ d : Nat, (∀ j, j < N → (d : Int) ∣ x j) → d = 1) : ∀ j, j < N → (x j).natAbs ≤ (k + 1) * (A * X) := by
  obtain ⟨a, ⟨q, hq, haq⟩, hab, hr⟩ := siegel k X A (fun i l => G i (p l)) (fun i l hi hl => hG i (p l) hi (hp l hl)) hA hA1
  let Z : Nat → Int := fun j => si (fun i => a i * G i j) (k + 1)
  have zb : ∀ j, j < N → (Z j).natAbs ≤ (k + 1) * (A * X) := fun j hj => si_bound fun i hi => by
    rw [Int.natAbs_mul]
    exact Nat.mul_le_mul (hab i) (hG i j hi hj)
  have zr : ∀ j, ((Z j : Int) : Rat) = sm (fun i => (a i : Rat) * (G i j : Rat)) (k + 1) := fun j => by
    show ((si (fun i => a i * G i j) (k + 1) : Int) : Rat) = _
    rw [cast_si]
    exact sm_congr fun i _ => Rat.intCast_mul _ _
  -- a 0 x - c 0 Z has no part of row 0
  have sp0 : ∀ f : Nat → Rat, sm f (k + 1) = f 0 + sm (fun i => f (i + 1)) k := fun f => by
    rw [sm_skip (p := 0) (Nat.succ_pos k)]
    congr 1
  have rel : ∀ i, i < k → (a 0 : Rat) * c (i + 1) = c 0 * (a (i + 1) : Rat) := by
    have h := nd (fun i => (a 0 : Rat) * c (i + 1) - c 0 * (a (i + 1) : Rat)) fun l hl => by
      have e1 := hx (p l) (hp l hl)
      rw [hz l hl, sp0] at e1
      have e2 := zr (p l)
      rw [show Z (p l) = 0 from hr l hl, sp0] at e2
      have e3 : sm (fun i => ((a 0 : Rat) * c (i + 1) - c 0 * (a (i + 1) : Rat)) * (G (i + 1) (p l) : Rat)) k = sm (fun i => (a 0 : Rat) * (c (i + 1) * (G (i + 1) (p l) : Rat)) - c 0 * ((a (i + 1) : Rat) * (G (i + 1) (p l) : Rat))) k := sm_congr fun i _ => by grind
      rw [e3, sm_sub, sm_mul, sm_mul]
      have e0 : ((0 : Int) : Rat) = 0 := rfl
      rw [e0] at e1 e2
      grind
    intro i hi
    have := h i hi
    grind
  have a0 : a 0 ≠ 0 := by
    intro h0
    have e0 : (a 0 : Rat) = 0 := by rw [h0]; rfl
    have all : ∀ i, i < k → a (i + 1) = 0 := fun i hi => by
      have h := rel i hi
      rw [e0] at h
      have h2 : (a (i + 1) : Rat) = 0 := by grind
      exact Rat.intCast_eq_zero_iff.mp h2
    cases q with
    | zero => exact haq h0
    | succ q => exact haq (all q (by omega))
  have a0r : (a 0 : Rat) ≠ 0 := fun z => a0 (Rat.intCast_eq_zero_iff.mp z)
  have line : ∀ j, j < N → c 0 * (Z j : Rat) = (a 0 : Rat) * (x j : Rat) := fun j hj => by
    rw [zr, hx j hj, ← sm_mul, ← sm_mul]
    refine sm_congr fun i hi => ?_
    cases i with
    | zero => grind
    | succ i =>
      have := rel i (by omega)
      grind
  have tau : ∀ j, j < N → ((a 0 : Rat) / c 0) * (x j : Rat) = (Z j : Rat) := fun j hj => by
    have := line j hj
    grind
  rcases pr with hx0 | hpr
  · intro j hj
    rw [hx0 j hj]
    exact Nat.zero_le _
  · have d1 : ((a 0 : Rat) / c 0).den = 1 := hpr _ fun j hj => den_dvd (tau j hj)
    have hn : ((a 0 : Rat) / c 0) = (((a 0 : Rat) / c 0).num : Rat) := by
      have e := mul_den ((a 0 : Rat) / c 0)
      rw [d1] at e
      have e1 : ((1 : Nat) : Rat) = 1 := rfl
      rw [e1] at e
      grind
    intro j hj
    have t := tau j hj
    rw [hn, ← Rat.intCast_mul] at t
    have t2 : ((a 0 : Rat) / c 0).num * x j = Z j := Rat.intCast_inj.mp t
    have nz : ((a 0 : Rat) / c 0).num ≠ 0 := by
      intro z
      rw [z] at hn
      have e0 : ((0 : Int) : Rat) = 0 := rfl
      rw [e0] at hn
      have : (a 0 : Rat) = 0 := by grind
      exact a0r this
    have b := zb j hj
    rw [← t2, Int.natAbs_mul] at b
    have : 1 ≤ ((a 0 : Rat) / c 0).num.natAbs := by omega
    have := Nat.mul_le_mul_right (x j).natAbs this
    omega
end Tw

/-! Bounds of rationals by an integer below; the bound of a row that was reduced. -/
namespace Tw

/-- D times q is an integer of at most X -/
def RB (D X : Nat) (q : Rat) : Prop := ∃ z : Int, (z : Rat) = (D : Rat) * q ∧ z.natAbs ≤ X
theorem RB.den {D X : Nat} {q : Rat} (h : RB D X q) : q.den ∣ D := by
  obtain ⟨z, e, _⟩ := h
  have : q * ((D : Int) : Rat) = z := by rw [Rat.intCast_natCast, e]; grind
  exact Int.natCast_dvd_natCast.mp (den_dvd this)
theorem RB.num {D X : Nat} {q : Rat} (h : RB D X q) (hD : 0 < D) : q.num.natAbs ≤ X := by
  obtain ⟨c, hc⟩ := h.den
  obtain ⟨z, e, hz⟩ := h
  have e2 : z = q.num * (c : Int) := by
    apply Rat.intCast_inj.mp
    rw [Rat.intCast_mul, Rat.intCast_natCast, e, hc, ← mul_den q, Rat.natCast_mul]
    grind
  have c0 : 1 ≤ c := by
    cases c with
    | zero => rw [Nat.mul_zero] at hc; omega
    | succ c => omega
  rw [e2, Int.natAbs_mul, Int.natAbs_natCast] at hz
  exact Nat.le_trans (Nat.le_mul_of_pos_right _ c0) hz
theorem RB.mono {D X Y : Nat} {q : Rat} (h : RB D X q) (hx : X ≤ Y) : RB D Y q := let ⟨z, e, hz⟩ := h; ⟨z, e, Nat.le_trans hz hx⟩
theorem RB.scale {D X : Nat} {q : Rat} (c : Nat) (h : RB D X q) : RB (D * c) (X * c) q := by
  obtain ⟨z, e, hz⟩ := h
  refine ⟨z * (c : Int), ?_, ?_⟩
  · rw [Rat.intCast_mul, Rat.intCast_natCast, e, Rat.natCast_mul]
    grind
  · rw [Int.natAbs_mul, Int.natAbs_natCast]
    exact Nat.mul_le_mul_right c hz
theorem RB.zero (D X : Nat) : RB D X 0 := ⟨0, by show (0 : Rat) = _; grind, Nat.zero_le _⟩
theorem RB.add {D X Y : Nat} {q r : Rat} (h : RB D X q) (k : RB D Y r) : RB D (X + Y) (q + r) := by
  obtain ⟨z, e, hz⟩ := h
  obtain ⟨y, e', hy⟩ := k
  refine ⟨z + y, ?_, by omega⟩
  rw [Rat.intCast_add, e, e']
  grind
theorem RB.mul {D X E Y : Nat} {q r : Rat} (h : RB D X q) (k : RB E Y r) : RB (D * E) (X * Y) (q * r) := by
  obtain ⟨z, e, hz⟩ := h
  obtain ⟨y, e', hy⟩ := k
  refine ⟨z * y, ?_, ?_⟩
  · rw [Rat.intCast_mul, e, e', Rat.natCast_mul]
    grind
  · rw [Int.natAbs_mul]
    exact Nat.mul_le_mul hz hy

/-- integers, own one and shares of a row reduced by t kept rows are small -/
theorem left_bound (m t D X A : Nat) (row : Nat → Rat) (F : Nat → Nat → Rat) (izs shares : Nat → Int) (own : Int) (p : Nat → Nat) (hDX : D ≤ X) (hD : 0 < D)
    (hA : (2 * (t + 1) * X + 1) ^ t ≤ A + 1) (hA1 : 1 ≤ A)
    (hrow : ∀ j, j < m → RB D X (row j)) (hF : ∀ i j, i < t → j < m → RB D X (F i j)) (own0 : own ≠ 0)
    (rel : ∀ j, j < m → (izs j : Rat) = (own : Rat) * row j + sm (fun i => (shares i : Rat) * F i j) t)
    (hp : ∀ l, l < t → p l < m) (hz : ∀ l, l < t → izs (p l) = 0)
    (nd : ∀ a : Nat → Rat, (∀ l, l < t → sm (fun i => a i * F i (p l)) t = 0) → ∀ i, i < t → a i = 0)
    (pr : ∀ d : Nat, (∀ j, j < m → (d : Int) ∣ izs j) → (d : Int) ∣ own → (∀ i, i < t → (d : Int) ∣ shares i) → d = 1) :
    (∀ j, j < m → (izs j).natAbs ≤ (t + 1) * (A * X)) ∧ own.natAbs ≤ (t + 1) * (A * X) ∧ ∀ i, i < t → (shares i).natAbs ≤ (t + 1) * (A * X) := by
  have Dr : (D : Rat) ≠ 0 := fun z => by
    have := Rat.natCast_eq_zero_iff.mp z
    omega
  -- the integer rows, with their units behind
  let g : Rat → Int := fun q => Classical.epsilon fun z : Int => (z : Rat) = (D : Rat) * q ∧ z.natAbs ≤ X
  have gs : ∀ q, RB D X q → (g q : Rat) = (D : Rat) * q ∧ (g q).natAbs ≤ X := fun q h => Classical.epsilon_spec h
  let G : Nat → Nat → Int := fun i j => match i with
    | 0 => if j < m then g (row j) else if j = m + t then (D : Int) else 0
    | i + 1 => if j < m then g (F i j) else if j = m + i then (D : Int) else 0
  let x : Nat → Int := fun j => if j < m then izs j else if j = m + t then own else shares (j - m)
  let c : Nat → Rat := fun i => match i with
    | 0 => (own : Rat) / (D : Rat)
    | i + 1 => (shares i : Rat) / (D : Rat)
  have sp0 : ∀ f : Nat → Rat, sm f (t + 1) = f 0 + sm (fun i => f (i + 1)) t := fun f => by
    rw [sm_skip (p := 0) (Nat.succ_pos t)]
    congr 1
  have ownr : (own : Rat) ≠ 0 := fun z => own0 (Rat.intCast_eq_zero_iff.mp z)
  have key := prim_bound t (m + t + 1) X A G p c x (fun i j hi hj => by
      cases i with
      | zero =>
        show (if j < m then g (row j) else if j = m + t then (D : Int) else 0).natAbs ≤ X
        split
        · rename_i h; exact (gs _ (hrow j h)).2
        · split <;> omega
      | succ i =>
        show (if j < m then g (F i j) else if j = m + i then (D : Int) else 0).natAbs ≤ X
        split
        · rename_i h; exact (gs _ (hF i j (by omega) h)).2
        · split <;> omega) hA hA1 (fun l hl => by have := hp l hl; omega) (by
      show (own : Rat) / (D : Rat) ≠ 0
      intro z
      apply ownr
      grind) (fun j hj => by
      rw [sp0]
      show ((if j < m then izs j else if j = m + t then own else shares (j - m) : Int) : Rat) = (own : Rat) / (D : Rat) * ((if j < m then g (row j) else if j = m + t then (D : Int) else 0 : Int) : Rat) + sm (fun i => (shares i : Rat) / (D : Rat) * ((if j < m then g (F i j) else if j = m + i then (D : Int) else 0 : Int) : Rat)) t
      by_cases h : j < m
      · rw [if_pos h, if_pos h, rel j h, (gs _ (hrow j h)).1]
        have e : sm (fun i => (shares i : Rat) / (D : Rat) * ((if j < m then g (F i j) else if j = m + i then (D : Int) else 0 : Int) : Rat)) t = sm (fun i => (shares i : Rat) * F i j) t := sm_congr fun i hi => by
          rw [if_pos h, (gs _ (hF i j hi h)).1]
          grind
        rw [e]
        grind
      · rw [if_neg h, if_neg h]
        by_cases h2 : j = m + t
        · rw [if_pos h2, if_pos h2, sm_zero fun i hi => by
            rw [if_neg h, if_neg (by omega)]
            show _ * (0 : Rat) = 0
            grind, Rat.intCast_natCast]
          grind
        · rw [if_neg h2, if_neg h2, sm_one (p := j - m) (by omega) fun i hi hne => by
            rw [if_neg h, if_neg (by omega)]
            show _ * (0 : Rat) = 0
            grind]
          rw [if_neg h, if_pos (by omega), Rat.intCast_natCast]
          have e0 : ((0 : Int) : Rat) = 0 := rfl
          rw [e0]
          grind) (fun l hl => by
      show (if p l < m then izs (p l) else _ : Int) = 0
      rw [if_pos (hp l hl)]
      exact hz l hl) (fun a ha => nd a fun l hl => by
      have h := ha l hl
      have e : sm (fun i => a i * (G (i + 1) (p l) : Rat)) t = sm (fun i => (D : Rat) * (a i * F i (p l))) t := sm_congr fun i hi => by
        show a i * ((if p l < m then g (F i (p l)) else if p l = m + i then (D : Int) else 0 : Int) : Rat) = _
        rw [if_pos (hp l hl), (gs _ (hF i _ hi (hp l hl))).1]
        grind
      rw [e, sm_mul] at h
      grind) (.inr fun d hd => pr d (fun j hj => by
        have h := hd j (by omega)
        have e : x j = izs j := if_pos hj
        rw [e] at h
        exact h) (by
        have h := hd (m + t) (by omega)
        have e : x (m + t) = own := (if_neg (by omega)).trans (if_pos rfl)
        rw [e] at h
        exact h) fun i hi => by
        have h := hd (m + i) (by omega)
        have e : x (m + i) = shares (m + i - m) := (if_neg (by omega)).trans (if_neg (by omega))
        rw [e, Nat.add_sub_cancel_left] at h
        exact h)
  refine ⟨fun j hj => ?_, ?_, fun i hi => ?_⟩
  · have h := key j (by omega)
    have e : x j = izs j := if_pos hj
    rw [e] at h
    exact h
  · have h := key (m + t) (by omega)
    have e : x (m + t) = own := (if_neg (by omega)).trans (if_pos rfl)
    rw [e] at h
    exact h
  · have h := key (m + i) (by omega)
    have e : x (m + i) = shares (m + i - m) := (if_neg (by omega)).trans (if_neg (by omega))
    rw [e, Nat.add_sub_cancel_left] at h
    exact h
end Tw

/-! A basis of free rows, kept reduced: what left, put and told do. -/
namespace Tw

def Bd : Nat := 2 ^ 1800
/-- the entry of row i at place j -/
def fq (F : List (List Rat)) (i j : Nat) : Rat := (F.getD i []).getD j 0
abbrev Ent := Nat × List Int × List Int
def pvt (kp : List Ent) (l : Nat) : Nat := (kp.getD l (0, [], [])).1
theorem pvt_of {kp : List Ent} {l : Nat} {e : Ent} (h : kp[l]? = some e) : pvt kp l = e.1 := by
  unfold pvt
  rw [List.getD_eq_getElem?_getD, h]
  rfl
theorem fq_append {F : List (List Rat)} {r : List Rat} {i j : Nat} (h : i < F.length) : fq (F ++ [r]) i j = fq F i j := by
  have e : (F ++ [r]).getD i [] = F.getD i [] := by
    rw [List.getD_eq_getElem?_getD, List.getD_eq_getElem?_getD, List.getElem?_append_left h]
  show ((F ++ [r]).getD i []).getD j 0 = (F.getD i []).getD j 0
  rw [e]
theorem fq_last {F : List (List Rat)} {r : List Rat} {j : Nat} : fq (F ++ [r]) F.length j = r.getD j 0 := by
  have e : (F ++ [r]).getD F.length [] = r := by
    rw [List.getD_eq_getElem?_getD, List.getElem?_append_right (Nat.le_refl _), Nat.sub_self]
    rfl
  show ((F ++ [r]).getD F.length []).getD j 0 = r.getD j 0
  rw [e]

structure EOk (m : Nat) (F : List (List Rat)) (kp : List Ent) (t : Nat) (e : Ent) : Prop where
  p : e.1 < m
  ol : e.2.1.length = m
  sl : e.2.2.length = t + 1
  nz : e.2.1.getD e.1 0 ≠ 0
  rel : ∀ j, j < m → ((e.2.1.getD j 0 : Int) : Rat) = sm (fun i => ((e.2.2.getD i 0 : Int) : Rat) * fq F i j) (t + 1)
  own : e.2.2.getD t 0 ≠ 0
  z : ∀ l, l < t → e.2.1.getD (pvt kp l) 0 = 0
  bi : ∀ j, (e.2.1.getD j 0).natAbs ≤ Bd
  bs : ∀ j, (e.2.2.getD j 0).natAbs ≤ Bd
structure KOk (m D X : Nat) (F : List (List Rat)) (kp : List Ent) : Prop where
  len : kp.length = F.length
  fl : ∀ f ∈ F, f.length = m
  fb : ∀ i j, RB D X (fq F i j)
  ent : ∀ t e, kp[t]? = some e → EOk m F kp t e
  nd : ∀ t, t ≤ F.length → ∀ a : Nat → Rat, (∀ l, l < t → sm (fun i => a i * fq F i (pvt kp l)) t = 0) → ∀ i, i < t → a i = 0

def InSpan (m : Nat) (F : List (List Rat)) (row : List Rat) : Prop := ∃ c : Nat → Rat, ∀ j, j < m → row.getD j 0 = sm (fun i => c i * fq F i j) F.length
def Indep (m : Nat) (F : List (List Rat)) : Prop := ∀ a : Nat → Rat, (∀ j, j < m → sm (fun i => a i * fq F i j) F.length = 0) → ∀ i, i < F.length → a i = 0
theorem KOk.pvlt {m D X : Nat} {F : List (List Rat)} {kp : List Ent} (K : KOk m D X F kp) {l : Nat} (h : l < F.length) : pvt kp l < m := by
  have hl : l < kp.length := by rw [K.len]; exact h
  have e : kp[l]? = some kp[l] := List.getElem?_eq_getElem hl
  rw [pvt_of e]
  exact (K.ent l _ e).p
theorem KOk.indep {m D X : Nat} {F : List (List Rat)} {kp : List Ent} (K : KOk m D X F kp) : Indep m F := fun a h =>
  K.nd F.length (Nat.le_refl _) a fun l hl => h _ (K.pvlt hl)
theorem Indep.le {m : Nat} {F : List (List Rat)} (h : Indep m F) : F.length ≤ m := by
  apply Classical.byContradiction
  intro hn
  obtain ⟨a, ⟨i, hi, ha⟩, hr⟩ := dep m F.length (fun i j => fq F i j) (by omega)
  exact ha (h a hr i hi)
theorem KOk.le {m D X : Nat} {F : List (List Rat)} {kp : List Ent} (K : KOk m D X F kp) : F.length ≤ m := K.indep.le
theorem kok_nil (m D X : Nat) : KOk m D X [] [] where
  len := rfl
  fl := fun _ h => nomatch h
  fb := fun i j => RB.zero D X
  ent := fun t e h => nomatch h
  nd := fun t ht a _ i hi => by
    have : t ≤ 0 := ht
    omega

/-- left's state behind t of the kept rows -/
structure LSt (m : Nat) (F : List (List Rat)) (kp : List Ent) (row : List Rat) (t : Nat) (izs : List Int) (own : Int) (shares : List Int) : Prop where
  il : izs.length = m
  sl : shares.length = F.length
  own0 : own ≠ 0
  rel : ∀ j, j < m → ((izs.getD j 0 : Int) : Rat) = (own : Rat) * row.getD j 0 + sm (fun i => ((shares.getD i 0 : Int) : Rat) * fq F i j) t
  sz : ∀ i, t ≤ i → shares.getD i 0 = 0
  z : ∀ l, l < t → izs.getD (pvt kp l) 0 = 0
  bi : ∀ j, (izs.getD j 0).natAbs ≤ Bd
  bo : own.natAbs ≤ Bd
  bs : ∀ j, (shares.getD j 0).natAbs ≤ Bd

theorem getD_of_lt {α : Type} {xs : List α} {i : Nat} (d : α) (h : i < xs.length) : xs.getD i d = xs[i] := by
  rw [List.getD_eq_getElem?_getD, List.getElem?_eq_getElem h]
  rfl
theorem getD_of_le {α : Type} {xs : List α} {i : Nat} (d : α) (h : xs.length ≤ i) : xs.getD i d = d := by
  rw [List.getD_eq_getElem?_getD, List.getElem?_eq_none h]
  rfl
theorem getD_map' {α β : Type} (f : α → β) (xs : List α) (i : Nat) (a : α) (b : β) (h : f a = b) : (xs.map f).getD i b = f (xs.getD i a) := by
  rw [List.getD_eq_getElem?_getD, List.getD_eq_getElem?_getD, List.getElem?_map]
  cases xs[i]? with
  | none => exact h.symm
  | some x => rfl
theorem getD_zip {α β γ : Type} (f : α → β → γ) {xs : List α} {ys : List β} {i : Nat} (a : α) (b : β) (c : γ) (h1 : i < xs.length) (h2 : i < ys.length) : (List.zipWith f xs ys).getD i c = f (xs.getD i a) (ys.getD i b) := by
  rw [getD_of_lt c (by rw [List.length_zipWith]; omega), getD_of_lt a h1, getD_of_lt b h2, List.getElem_zipWith]
theorem getD_pad (xs : List Int) (n i : Nat) : (xs ++ List.replicate n (0 : Int)).getD i 0 = xs.getD i 0 := by
  by_cases h : i < xs.length
  · rw [List.getD_eq_getElem?_getD, List.getElem?_append_left h, ← List.getD_eq_getElem?_getD]
  · rw [getD_of_le (xs := xs) 0 (by omega), List.getD_eq_getElem?_getD, List.getElem?_append_right (by omega), List.getElem?_replicate]
    split <;> rfl

/-- the numbers that all is proved for: rows of at most six places, over an integer below of at most 250 bits -/
structure Lim (m D X : Nat) : Prop where
  m6 : m ≤ 6
  D0 : 0 < D
  DX : D ≤ X
  X2 : X ≤ 2 ^ 250
theorem Lim.a {m D X t : Nat} (L : Lim m D X) (ht : t ≤ m) : (2 * (t + 1) * X + 1) ^ t ≤ 2 ^ 1530 + 1 := by
  have h6 : t ≤ 6 := Nat.le_trans ht L.m6
  have hx := L.X2
  have e : (2 : Nat) ^ 254 = 2 ^ 250 * 16 := by rw [show 254 = 250 + 4 from rfl, Nat.pow_add]
  have hp : 0 < (2 : Nat) ^ 250 := Nat.pow_pos (by decide)
  have h1 : 2 * (t + 1) * X ≤ 14 * 2 ^ 250 := Nat.mul_le_mul (by omega) hx
  have h2 : 2 * (t + 1) * X + 1 ≤ 2 ^ 254 := by omega
  have h3 : (2 * (t + 1) * X + 1) ^ t ≤ (2 ^ 254) ^ t := Nat.pow_le_pow_left h2 t
  have h4 : ((2 : Nat) ^ 254) ^ t ≤ (2 ^ 254) ^ 6 := Nat.pow_le_pow_right (Nat.pow_pos (by decide)) h6
  have h5 : ((2 : Nat) ^ 254) ^ 6 ≤ 2 ^ 1530 := by
    rw [← Nat.pow_mul]
    exact Nat.pow_le_pow_right (by decide) (by decide)
  omega
theorem Lim.b {m D X t : Nat} (L : Lim m D X) (ht : t ≤ m) : (t + 1) * (2 ^ 1530 * X) ≤ Bd := by
  have h6 : t ≤ 6 := Nat.le_trans ht L.m6
  have h1 : (t + 1) * (2 ^ 1530 * X) ≤ 2 ^ 3 * (2 ^ 1530 * 2 ^ 250) := Nat.mul_le_mul (by have : (2 : Nat) ^ 3 = 8 := rfl; omega) (Nat.mul_le_mul_left _ L.X2)
  refine Nat.le_trans h1 ?_
  rw [← Nat.pow_add, ← Nat.pow_add]
  exact Nat.pow_le_pow_right (by decide) (by decide)
theorem Lim.x {m D X : Nat} (L : Lim m D X) : X ≤ Bd := Nat.le_trans L.X2 (Nat.pow_le_pow_right (by decide) (by decide))

section
variable {m D X : Nat} {F : List (List Rat)} {kp : List Ent} {row : List Rat} {t : Nat} {izs shares : List Int} {own : Int}
/-- the start: the row over one integer below -/
theorem lst_start (L : Lim m D X) (hl : row.length = m) (hr : ∀ j, RB D X (row.getD j 0)) (ho : 0 < own) (hD : (own.toNat : Nat) ∣ D) (il : izs.length = m)
    (hi : ∀ j, j < m → ((izs.getD j 0 : Int) : Rat) = (own : Rat) * row.getD j 0) : LSt m F kp row 0 izs own (List.replicate F.length 0) := by
  have hz : ∀ i, (List.replicate F.length (0 : Int)).getD i 0 = 0 := fun i => by
    rw [List.getD_eq_getElem?_getD, List.getElem?_replicate]
    split <;> rfl
  have o1 : own.natAbs ≤ D := by
    have := Nat.le_of_dvd L.D0 hD
    omega
  refine ⟨il, List.length_replicate, by omega, fun j hj => ?_, fun i _ => hz i, fun l hl => by omega, fun j => ?_, Nat.le_trans o1 (Nat.le_trans L.DX L.x), fun j => by rw [hz j]; exact Nat.zero_le _⟩
  · rw [hi j hj]
    show _ = _ + (0 : Rat)
    grind
  · by_cases hj : j < m
    · obtain ⟨z, e, hz⟩ := hr j
      obtain ⟨c, hc⟩ := hD
      have e2 : z = izs.getD j 0 * (c : Int) := by
        apply Rat.intCast_inj.mp
        rw [Rat.intCast_mul, Rat.intCast_natCast, e, hi j hj, hc, Rat.natCast_mul]
        have e3 : ((own.toNat : Nat) : Rat) = (own : Rat) := by
          rw [← Rat.intCast_natCast, Int.toNat_of_nonneg (by omega)]
        rw [e3]
        grind
      have c1 : 1 ≤ c := by
        cases c with
        | zero => rw [Nat.mul_zero] at hc; have := L.D0; omega
        | succ c => omega
      rw [e2, Int.natAbs_mul, Int.natAbs_natCast] at hz
      exact Nat.le_trans (Nat.le_trans (Nat.le_mul_of_pos_right _ c1) hz) L.x
    · rw [getD_of_le 0 (by omega)]
      exact Nat.zero_le _
/-- a kept row at whose place there is nothing -/
theorem lst_skip (S : LSt m F kp row t izs own shares) (h : izs.getD (pvt kp t) 0 = 0) : LSt m F kp row (t + 1) izs own shares := by
  refine ⟨S.il, S.sl, S.own0, fun j hj => ?_, fun i hi => S.sz i (by omega), fun l hl => ?_, S.bi, S.bo, S.bs⟩
  · rw [S.rel j hj]
    show _ = _ + (sm _ t + ((shares.getD t 0 : Int) : Rat) * fq F t j)
    rw [S.sz t (Nat.le_refl t)]
    have e0 : ((0 : Int) : Rat) = 0 := rfl
    rw [e0]
    grind
  · by_cases e : l = t
    · rw [e]; exact h
    · exact S.z l (by omega)

def mix (sc ld : Int) (xs ys : List Int) : List Int := List.zipWith (fun one two => sc * one - ld * two) xs ys
theorem mix_len {sc ld : Int} {xs ys : List Int} (h : xs.length = ys.length) : (mix sc ld xs ys).length = xs.length := by
  unfold mix
  rw [List.length_zipWith, h, Nat.min_self]
theorem mix_at {sc ld : Int} {xs ys : List Int} (h : xs.length = ys.length) (i : Nat) : (mix sc ld xs ys).getD i 0 = sc * xs.getD i 0 - ld * ys.getD i 0 := by
  by_cases hi : i < xs.length
  · exact getD_zip _ 0 0 0 hi (by omega)
  · rw [getD_of_le 0 (by rw [mix_len h]; omega), getD_of_le 0 (by omega), getD_of_le 0 (by omega)]
    omega
def cut (g : Int) (xs : List Int) : List Int := xs.map (· / g)
theorem cut_at (g : Int) (xs : List Int) (i : Nat) : (cut g xs).getD i 0 = xs.getD i 0 / g := getD_map' _ xs i 0 0 (Int.zero_ediv g)

/-- a kept row taken away: sc, ld the factors, g the greatest divisor of all -/
theorem lst_step (L : Lim m D X) (K : KOk m D X F kp) (hr : ∀ j, RB D X (row.getD j 0)) (ht : t < F.length) {e : Ent} (he : kp[t]? = some e) (S : LSt m F kp row t izs own shares) (hn : izs.getD e.1 0 ≠ 0)
    {c sc ld g : Int} (hc : c ≠ 0) (hsc : e.2.1.getD e.1 0 = sc * c) (hld : izs.getD e.1 0 = ld * c) (hg : 0 < g)
    (g1 : g ∣ own * sc) (g2 : ∀ x ∈ mix sc ld izs e.2.1, g ∣ x) (g3 : ∀ x ∈ mix sc ld shares (e.2.2 ++ List.replicate (shares.length - e.2.2.length) 0), g ∣ x)
    (gm : ∀ d : Int, d ∣ own * sc → (∀ x ∈ mix sc ld izs e.2.1, d ∣ x) → (∀ x ∈ mix sc ld shares (e.2.2 ++ List.replicate (shares.length - e.2.2.length) 0), d ∣ x) → d ∣ g) :
    LSt m F kp row (t + 1) (cut g (mix sc ld izs e.2.1)) (own * sc / g) (cut g (mix sc ld shares (e.2.2 ++ List.replicate (shares.length - e.2.2.length) 0))) := by
  have E := K.ent t e he
  have ep : pvt kp t = e.1 := pvt_of he
  have hg0 : g ≠ 0 := by omega
  have gr : (g : Rat) ≠ 0 := fun z => hg0 (Rat.intCast_eq_zero_iff.mp z)
  have li : izs.length = e.2.1.length := by rw [S.il, E.ol]
  have ls : shares.length = (e.2.2 ++ List.replicate (shares.length - e.2.2.length) (0 : Int)).length := by
    rw [List.length_append, List.length_replicate, E.sl, S.sl]
    omega
  have dvd1 : ∀ j, g ∣ (mix sc ld izs e.2.1).getD j 0 := fun j => by
    by_cases hj : j < (mix sc ld izs e.2.1).length
    · rw [getD_of_lt 0 hj]
      exact g2 _ (List.getElem_mem hj)
    · rw [getD_of_le 0 (by omega)]
      exact Int.dvd_zero g
  have dvd2 : ∀ j, g ∣ (mix sc ld shares (e.2.2 ++ List.replicate (shares.length - e.2.2.length) 0)).getD j 0 := fun j => by
    by_cases hj : j < (mix sc ld shares (e.2.2 ++ List.replicate (shares.length - e.2.2.length) 0)).length
    · rw [getD_of_lt 0 hj]
      exact g3 _ (List.getElem_mem hj)
    · rw [getD_of_le 0 (by omega)]
      exact Int.dvd_zero g
  have ea : ∀ j, (cut g (mix sc ld izs e.2.1)).getD j 0 * g = sc * izs.getD j 0 - ld * e.2.1.getD j 0 := fun j => by
    rw [cut_at, Int.ediv_mul_cancel (dvd1 j), mix_at li]
  have eb : ∀ j, (cut g (mix sc ld shares (e.2.2 ++ List.replicate (shares.length - e.2.2.length) 0))).getD j 0 * g = sc * shares.getD j 0 - ld * e.2.2.getD j 0 := fun j => by
    rw [cut_at, Int.ediv_mul_cancel (dvd2 j), mix_at ls, getD_pad]
  have ec : own * sc / g * g = own * sc := Int.ediv_mul_cancel g1
  generalize hi' : cut g (mix sc ld izs e.2.1) = izs' at ea ⊢
  generalize hs' : cut g (mix sc ld shares (e.2.2 ++ List.replicate (shares.length - e.2.2.length) 0)) = shares' at eb ⊢
  generalize ho' : own * sc / g = own' at ec ⊢
  have sc0 : sc ≠ 0 := by
    intro z
    rw [z, Int.zero_mul] at hsc
    exact E.nz hsc
  have own0' : own' ≠ 0 := by
    intro z
    rw [z, Int.zero_mul] at ec
    rcases Int.mul_eq_zero.mp ec.symm with h | h
    · exact S.own0 h
    · exact sc0 h
  have il' : izs'.length = m := by
    rw [← hi']
    unfold cut
    rw [List.length_map, mix_len li, S.il]
  have sl' : shares'.length = F.length := by
    rw [← hs']
    unfold cut
    rw [List.length_map, mix_len ls, S.sl]
  have rel' : ∀ j, j < m → ((izs'.getD j 0 : Int) : Rat) = (own' : Rat) * row.getD j 0 + sm (fun i => ((shares'.getD i 0 : Int) : Rat) * fq F i j) (t + 1) := fun j hj => by
    have h1 : (izs'.getD j 0 : Rat) * g = sc * (izs.getD j 0 : Rat) - ld * (e.2.1.getD j 0 : Rat) := by
      rw [← Rat.intCast_mul, ea, Rat.intCast_sub, Rat.intCast_mul, Rat.intCast_mul]
    have h2 : (own' : Rat) * g = own * sc := by rw [← Rat.intCast_mul, ec, Rat.intCast_mul]
    have h3 : sm (fun i => ((shares'.getD i 0 : Int) : Rat) * fq F i j) (t + 1) * g = sc * sm (fun i => ((shares.getD i 0 : Int) : Rat) * fq F i j) t - ld * sm (fun i => ((e.2.2.getD i 0 : Int) : Rat) * fq F i j) (t + 1) := by
      have hx : sm (fun i => ((shares.getD i 0 : Int) : Rat) * fq F i j) t = sm (fun i => ((shares.getD i 0 : Int) : Rat) * fq F i j) (t + 1) := by
        show _ = sm (fun i => ((shares.getD i 0 : Int) : Rat) * fq F i j) t + ((shares.getD t 0 : Int) : Rat) * fq F t j
        rw [S.sz t (Nat.le_refl t)]
        have e0 : ((0 : Int) : Rat) = 0 := rfl
        rw [e0]
        grind
      rw [hx, ← sm_mulr, ← sm_mul, ← sm_mul, ← sm_sub]
      refine sm_congr fun i _ => ?_
      have : (shares'.getD i 0 : Rat) * g = sc * (shares.getD i 0 : Rat) - ld * (e.2.2.getD i 0 : Rat) := by
        rw [← Rat.intCast_mul, eb, Rat.intCast_sub, Rat.intCast_mul, Rat.intCast_mul]
      grind
    have h4 := S.rel j hj
    have h5 := E.rel j hj
    have h6 : ((izs'.getD j 0 : Int) : Rat) * g = ((own' : Rat) * row.getD j 0 + sm (fun i => ((shares'.getD i 0 : Int) : Rat) * fq F i j) (t + 1)) * g := by
      rw [h1, h4, h5]
      grind
    grind
  have sz' : ∀ i, t + 1 ≤ i → shares'.getD i 0 = 0 := fun i hi => by
    have h := eb i
    rw [S.sz i (by omega), getD_of_le (xs := e.2.2) 0 (by rw [E.sl]; omega), Int.mul_zero, Int.mul_zero] at h
    rcases Int.mul_eq_zero.mp (show shares'.getD i 0 * g = 0 by omega) with h | h
    · exact h
    · exact absurd h hg0
  have z' : ∀ l, l < t + 1 → izs'.getD (pvt kp l) 0 = 0 := fun l hl => by
    have h := ea (pvt kp l)
    have hz : sc * izs.getD (pvt kp l) 0 - ld * e.2.1.getD (pvt kp l) 0 = 0 := by
      by_cases hlt : l = t
      · rw [hlt, ep, hsc, hld]
        rw [Int.mul_left_comm]
        omega
      · rw [S.z l (by omega), E.z l (by omega), Int.mul_zero, Int.mul_zero]
        rfl
    rw [hz] at h
    rcases Int.mul_eq_zero.mp h with h | h
    · exact h
    · exact absurd h hg0
  have mem1 : ∀ x ∈ mix sc ld izs e.2.1, ∃ j, j < m ∧ x = izs'.getD j 0 * g := fun x hx => by
    obtain ⟨j, hj, e2⟩ := List.getElem_of_mem hx
    refine ⟨j, by rw [mix_len li, S.il] at hj; exact hj, ?_⟩
    rw [ea, ← mix_at li, getD_of_lt 0 hj, e2]
  have mem2 : ∀ x ∈ mix sc ld shares (e.2.2 ++ List.replicate (shares.length - e.2.2.length) 0), ∃ j, x = shares'.getD j 0 * g := fun x hx => by
    obtain ⟨j, hj, e2⟩ := List.getElem_of_mem hx
    refine ⟨j, ?_⟩
    rw [eb, ← getD_pad e.2.2 (shares.length - e.2.2.length), ← mix_at ls, getD_of_lt 0 hj, e2]
  have bnd := left_bound m (t + 1) D X (2 ^ 1530) (fun j => row.getD j 0) (fq F) (fun j => izs'.getD j 0) (fun j => shares'.getD j 0) own' (pvt kp) L.DX L.D0
    (L.a (Nat.le_trans ht K.le)) (Nat.one_le_two_pow) (fun j _ => hr j) (fun i j _ _ => K.fb i j) own0' rel' (fun l hl => K.pvlt (by omega)) z' (K.nd (t + 1) ht) fun d d1 d2 d3 => by
      have h : ((d : Int) * g) ∣ g := gm _ (by
          rw [← ec]
          exact Int.mul_dvd_mul_right g d2) (fun x hx => by
          obtain ⟨j, hj, e2⟩ := mem1 x hx
          rw [e2]
          exact Int.mul_dvd_mul_right g (d1 j hj)) fun x hx => by
          obtain ⟨j, e2⟩ := mem2 x hx
          rw [e2]
          by_cases hj : j < t + 1
          · exact Int.mul_dvd_mul_right g (d3 j hj)
          · rw [sz' j (by omega), Int.zero_mul]
            exact Int.dvd_zero _
      obtain ⟨y, hy⟩ := h
      have h1 : ((d : Int) * y - 1) * g = 0 := by
        rw [Int.sub_mul]
        have : (d : Int) * y * g = d * g * y := Int.mul_right_comm _ _ _
        omega
      rcases Int.mul_eq_zero.mp h1 with h | h
      · have h2 : (d : Int) * y = 1 := by omega
        have h3 : (d : Int) ∣ 1 := ⟨y, h2.symm⟩
        have h4 : d ∣ 1 := Int.natCast_dvd_natCast.mp h3
        exact Nat.dvd_one.mp h4
      · exact absurd h hg0
  have hb := L.b (t := t + 1) (Nat.le_trans ht K.le)
  refine ⟨il', sl', own0', rel', sz', z', fun j => ?_, Nat.le_trans bnd.2.1 hb, fun j => ?_⟩
  · by_cases hj : j < m
    · exact Nat.le_trans (bnd.1 j hj) hb
    · rw [getD_of_le 0 (by omega)]
      exact Nat.zero_le _
  · by_cases hj : j < t + 1
    · exact Nat.le_trans (bnd.2.2 j hj) hb
    · rw [sz' j (by omega)]
      exact Nat.zero_le _
end
end Tw

/-! put and told over such a basis. -/
namespace Tw
section
variable {m D X : Nat} {F : List (List Rat)} {kp : List Ent} {row : List Rat} {izs shares : List Int} {own : Int}
theorem kok_put (K : KOk m D X F kp) (hl : row.length = m) (hr : ∀ j, RB D X (row.getD j 0)) (S : LSt m F kp row F.length izs own shares) {p : Nat} (hp : p < m) (hn : izs.getD p 0 ≠ 0) :
    KOk m D X (F ++ [row]) (kp ++ [(p, izs, shares ++ [own])]) := by
  have fe : ∀ i j, i < F.length → fq (F ++ [row]) i j = fq F i j := fun i j h => fq_append h
  have pe : ∀ l, l < F.length → pvt (kp ++ [(p, izs, shares ++ [own])]) l = pvt kp l := fun l h => by
    have h2 : l < kp.length := by rw [K.len]; exact h
    have e : (kp ++ [(p, izs, shares ++ [own])])[l]? = some kp[l] := by
      rw [List.getElem?_append_left h2]
      exact List.getElem?_eq_getElem h2
    rw [pvt_of e, pvt_of (List.getElem?_eq_getElem h2)]
  have pl : pvt (kp ++ [(p, izs, shares ++ [own])]) F.length = p := by
    have e : (kp ++ [(p, izs, shares ++ [own])])[F.length]? = some (p, izs, shares ++ [own]) := by
      rw [← K.len, List.getElem?_append_right (Nat.le_refl _), Nat.sub_self]
      rfl
    rw [pvt_of e]
  have so : ∀ i, (shares ++ [own]).getD i 0 = if i = F.length then own else shares.getD i 0 := fun i => by
    by_cases h : i < shares.length
    · rw [if_neg (by rw [S.sl] at h; omega), List.getD_eq_getElem?_getD, List.getElem?_append_left h, ← List.getD_eq_getElem?_getD]
    · by_cases h2 : i = F.length
      · rw [if_pos h2, List.getD_eq_getElem?_getD, List.getElem?_append_right (by omega), h2, S.sl, Nat.sub_self]
        rfl
      · have hs := S.sl
        rw [if_neg h2, getD_of_le 0 (by rw [List.length_append, S.sl, List.length_singleton]; omega), getD_of_le 0 (by omega)]
  have newrel : ∀ j, j < m → ((izs.getD j 0 : Int) : Rat) = sm (fun i => (((shares ++ [own]).getD i 0 : Int) : Rat) * fq (F ++ [row]) i j) (F.length + 1) := fun j hj => by
    show _ = sm _ F.length + (((shares ++ [own]).getD F.length 0 : Int) : Rat) * fq (F ++ [row]) F.length j
    rw [so F.length, if_pos rfl, fq_last, S.rel j hj]
    have e : sm (fun i => (((shares ++ [own]).getD i 0 : Int) : Rat) * fq (F ++ [row]) i j) F.length = sm (fun i => ((shares.getD i 0 : Int) : Rat) * fq F i j) F.length := sm_congr fun i hi => by
      rw [so i, if_neg (by omega), fe i j hi]
    rw [e]
    grind
  refine ⟨by rw [List.length_append, List.length_append, K.len]; rfl, fun f hf => ?_, fun i j => ?_, fun t e he => ?_, fun t ht a ha => ?_⟩
  · rcases List.mem_append.mp hf with h | h
    · exact K.fl f h
    · rw [List.mem_singleton.mp h]
      exact hl
  · by_cases h : i < F.length
    · rw [fe i j h]
      exact K.fb i j
    · by_cases h2 : i = F.length
      · rw [h2, fq_last]
        exact hr j
      · have e : fq (F ++ [row]) i j = 0 := by
          unfold fq
          rw [getD_of_le (xs := F ++ [row]) [] (by rw [List.length_append, List.length_singleton]; omega)]
          rfl
        rw [e]
        exact RB.zero D X
  · by_cases h : t < kp.length
    · rw [List.getElem?_append_left h] at he
      have E := K.ent t e he
      have ht : t < F.length := by rw [← K.len]; exact h
      refine ⟨E.p, E.ol, E.sl, E.nz, fun j hj => ?_, E.own, fun l hl => ?_, E.bi, E.bs⟩
      · rw [E.rel j hj]
        exact sm_congr fun i hi => by rw [fe i j (by omega)]
      · rw [pe l (by omega)]
        exact E.z l hl
    · rw [List.getElem?_append_right (by omega)] at he
      obtain ⟨e1, e2⟩ : t = F.length ∧ e = (p, izs, shares ++ [own]) := by
        have hk := K.len
        cases q : t - kp.length with
        | zero =>
          rw [q] at he
          exact ⟨by omega, (Option.some.inj he).symm⟩
        | succ n =>
          rw [q] at he
          simp at he
      subst e1 e2
      refine ⟨hp, S.il, by rw [List.length_append, S.sl]; rfl, hn, newrel, by rw [so, if_pos rfl]; exact S.own0, fun l hl => by rw [pe l hl]; exact S.z l hl, S.bi, fun j => ?_⟩
      show ((shares ++ [own]).getD j 0).natAbs ≤ Bd
      rw [so j]
      split
      · exact S.bo
      · exact S.bs j
  · have ht' : t ≤ F.length + 1 := by
      rw [List.length_append] at ht
      exact ht
    by_cases h : t ≤ F.length
    · refine K.nd t h a fun l hl => ?_
      have q := ha l hl
      rw [pe l (by omega)] at q
      rw [← q]
      exact sm_congr fun i hi => by rw [fe i _ (by omega)]
    · have e : t = F.length + 1 := by omega
      subst e
      have ownr : (own : Rat) ≠ 0 := fun z => S.own0 (Rat.intCast_eq_zero_iff.mp z)
      -- less a multiple of the new kept row
      have z : ∀ i, i < F.length → a i - a F.length / own * ((shares.getD i 0 : Int) : Rat) = 0 := K.nd F.length (Nat.le_refl _) (fun i => a i - a F.length / own * ((shares.getD i 0 : Int) : Rat)) fun l hl => by
        have q : sm (fun i => a i * fq (F ++ [row]) i (pvt (kp ++ [(p, izs, shares ++ [own])]) l)) F.length + a F.length * fq (F ++ [row]) F.length (pvt (kp ++ [(p, izs, shares ++ [own])]) l) = 0 := ha l (by omega)
        rw [pe l hl, fq_last] at q
        have e1 : sm (fun i => a i * fq (F ++ [row]) i (pvt kp l)) F.length = sm (fun i => a i * fq F i (pvt kp l)) F.length := sm_congr fun i hi => by rw [fe i _ hi]
        rw [e1] at q
        have r := S.rel (pvt kp l) (K.pvlt hl)
        rw [S.z l hl] at r
        have e0 : ((0 : Int) : Rat) = 0 := rfl
        rw [e0] at r
        have e2 : sm (fun i => (a i - a F.length / own * ((shares.getD i 0 : Int) : Rat)) * fq F i (pvt kp l)) F.length = sm (fun i => a i * fq F i (pvt kp l)) F.length - (a F.length / own) * sm (fun i => ((shares.getD i 0 : Int) : Rat) * fq F i (pvt kp l)) F.length := by
          rw [← sm_mul, ← sm_sub]
          exact sm_congr fun i _ => by grind
        rw [e2]
        grind
      have al : a F.length = 0 := by
        have q : sm (fun i => a i * fq (F ++ [row]) i (pvt (kp ++ [(p, izs, shares ++ [own])]) F.length)) F.length + a F.length * fq (F ++ [row]) F.length (pvt (kp ++ [(p, izs, shares ++ [own])]) F.length) = 0 := ha F.length (by omega)
        rw [pl, fq_last] at q
        have e1 : sm (fun i => a i * fq (F ++ [row]) i p) F.length = (a F.length / own) * sm (fun i => ((shares.getD i 0 : Int) : Rat) * fq F i p) F.length := by
          rw [← sm_mul]
          refine sm_congr fun i hi => ?_
          have := z i hi
          rw [fe i _ hi]
          grind
        rw [e1] at q
        have r := S.rel p hp
        have nr : ((izs.getD p 0 : Int) : Rat) ≠ 0 := fun z => hn (Rat.intCast_eq_zero_iff.mp z)
        have q2 : (a F.length / own) * ((izs.getD p 0 : Int) : Rat) = 0 := by
          rw [r]
          grind
        rcases Rat.mul_eq_zero.mp q2 with h1 | h1
        · grind
        · exact absurd h1 nr
      intro i hi
      by_cases h2 : i = F.length
      · rw [h2]
        exact al
      · have := z i (by omega)
        rw [al] at this
        grind
/-- the row is told by the kept ones where nothing is left -/
theorem told_at (S : LSt m F kp row F.length izs own shares) (hz : ∀ j, j < m → izs.getD j 0 = 0) : ∀ j, j < m → row.getD j 0 = sm (fun i => (-((shares.getD i 0 : Int) : Rat) / (own : Rat)) * fq F i j) F.length := fun j hj => by
  have ownr : (own : Rat) ≠ 0 := fun z => S.own0 (Rat.intCast_eq_zero_iff.mp z)
  have r := S.rel j hj
  rw [hz j hj] at r
  have e0 : ((0 : Int) : Rat) = 0 := rfl
  rw [e0] at r
  have e : sm (fun i => (-((shares.getD i 0 : Int) : Rat) / (own : Rat)) * fq F i j) F.length = (-1 / (own : Rat)) * sm (fun i => ((shares.getD i 0 : Int) : Rat) * fq F i j) F.length := by
    rw [← sm_mul]
    exact sm_congr fun i _ => by grind
  rw [e]
  grind
theorem span_of (S : LSt m F kp row F.length izs own shares) (hz : ∀ j, j < m → izs.getD j 0 = 0) : InSpan m F row := ⟨_, told_at S hz⟩
theorem zero_of (K : KOk m D X F kp) (S : LSt m F kp row F.length izs own shares) (h : InSpan m F row) : ∀ j, j < m → izs.getD j 0 = 0 := by
  obtain ⟨c, hc⟩ := h
  have e : ∀ j, j < m → ((izs.getD j 0 : Int) : Rat) = sm (fun i => ((own : Rat) * c i + ((shares.getD i 0 : Int) : Rat)) * fq F i j) F.length := fun j hj => by
    rw [S.rel j hj, hc j hj, ← sm_mul, ← sm_add]
    exact sm_congr fun i _ => by grind
  have z := K.nd F.length (Nat.le_refl _) (fun i => (own : Rat) * c i + ((shares.getD i 0 : Int) : Rat)) fun l hl => by
    rw [← e _ (K.pvlt hl), S.z l hl]
    rfl
  intro j hj
  apply Rat.intCast_eq_zero_iff.mp
  rw [e j hj]
  refine sm_zero fun i hi => ?_
  rw [z i hi]
  grind
end
end Tw

/-! Machines: rows behind messages, columns of messages, their worths and bounds. -/
namespace Tw

abbrev Edge := Nat × Nat × Rat
/-- what comes to place j over the edges -/
def stepF : List Edge → (Nat → Rat) → Nat → Rat
  | [], _, _ => 0
  | e :: r, v, j => (if e.2.1 = j then v e.1 * e.2.2 else 0) + stepF r v j
def swp (es : List Edge) : List Edge := es.map fun e => (e.2.1, e.1, e.2.2)
def tab (n : Nat) (f : Nat → Rat) : List Rat := (List.range n).map f
theorem tab_len (n : Nat) (f : Nat → Rat) : (tab n f).length = n := by
  unfold tab
  rw [List.length_map, List.length_range]
theorem tab_at {n : Nat} {f : Nat → Rat} {i : Nat} (h : i < n) : (tab n f).getD i 0 = f i := by
  rw [getD_of_lt 0 (by rw [tab_len]; exact h)]
  unfold tab
  rw [List.getElem_map, List.getElem_range]
theorem tab_ge {n : Nat} {f : Nat → Rat} {i : Nat} (h : n ≤ i) : (tab n f).getD i 0 = 0 := getD_of_le 0 (by rw [tab_len]; exact h)
theorem tab_congr {n : Nat} {f g : Nat → Rat} (h : ∀ i, i < n → f i = g i) : tab n f = tab n g := by
  unfold tab
  exact List.map_congr_left fun i hi => h i (List.mem_range.mp hi)
theorem tab_self {n : Nat} {r : List Rat} (h : r.length = n) : tab n (fun i => r.getD i 0) = r := by
  apply List.ext_getElem
  · rw [tab_len, h]
  · intro i h1 h2
    have := tab_at (f := fun i => r.getD i 0) (show i < n by omega)
    rw [getD_of_lt 0 h1] at this
    rw [this, getD_of_lt 0 h2]
theorem stepF_congr {es : List Edge} {v w : Nat → Rat} {j : Nat} (h : ∀ e ∈ es, v e.1 = w e.1) : stepF es v j = stepF es w j := by
  induction es with
  | nil => rfl
  | cons e r ih =>
    show (if e.2.1 = j then v e.1 * e.2.2 else 0) + stepF r v j = (if e.2.1 = j then w e.1 * e.2.2 else 0) + stepF r w j
    rw [ih fun x hx => h x (List.mem_cons_of_mem _ hx), h e List.mem_cons_self]
theorem stepF_sm {es : List Edge} {c : Nat → Rat} {v : Nat → Nat → Rat} {j k : Nat} : stepF es (fun i => sm (fun t => c t * v t i) k) j = sm (fun t => c t * stepF es (v t) j) k := by
  induction es with
  | nil =>
    refine (sm_zero fun i _ => ?_).symm
    show _ * (0 : Rat) = 0
    grind
  | cons e r ih =>
    show (if e.2.1 = j then sm (fun t => c t * v t e.1) k * e.2.2 else 0) + stepF r _ j = sm (fun t => c t * ((if e.2.1 = j then v t e.1 * e.2.2 else 0) + stepF r (v t) j)) k
    rw [ih]
    by_cases h : e.2.1 = j
    · rw [if_pos h, ← sm_mulr, ← sm_add]
      exact sm_congr fun t _ => by rw [if_pos h]; grind
    · rw [if_neg h]
      have e0 : sm (fun t => c t * ((if e.2.1 = j then v t e.1 * e.2.2 else 0) + stepF r (v t) j)) k = sm (fun t => c t * stepF r (v t) j) k := sm_congr fun t _ => by rw [if_neg h]; grind
      rw [e0]
      grind
theorem adjoint {n : Nat} {es : List Edge} {v w : Nat → Rat} (h : ∀ e ∈ es, e.1 < n ∧ e.2.1 < n) : sm (fun j => stepF es v j * w j) n = sm (fun i => v i * stepF (swp es) w i) n := by
  induction es with
  | nil =>
    rw [sm_zero (f := fun j => stepF [] v j * w j) fun i _ => show (0 : Rat) * w i = 0 by grind, sm_zero (f := fun i => v i * stepF (swp []) w i) fun i _ => show v i * (0 : Rat) = 0 by grind]
  | cons e r ih =>
    have h0 := h e List.mem_cons_self
    have e1 : sm (fun j => stepF (e :: r) v j * w j) n = sm (fun j => (if e.2.1 = j then v e.1 * e.2.2 * w j else 0) + stepF r v j * w j) n := sm_congr fun j _ => by
      show ((if e.2.1 = j then v e.1 * e.2.2 else 0) + stepF r v j) * w j = _
      by_cases q : e.2.1 = j
      · rw [if_pos q, if_pos q]; grind
      · rw [if_neg q, if_neg q]; grind
    have e2 : sm (fun i => v i * stepF (swp (e :: r)) w i) n = sm (fun i => (if e.1 = i then v i * (w e.2.1 * e.2.2) else 0) + v i * stepF (swp r) w i) n := sm_congr fun i _ => by
      show v i * ((if e.1 = i then w e.2.1 * e.2.2 else 0) + stepF (swp r) w i) = _
      by_cases q : e.1 = i
      · rw [if_pos q, if_pos q]; grind
      · rw [if_neg q, if_neg q]; grind
    rw [e1, e2, sm_add, sm_add, ih fun x hx => h x (List.mem_cons_of_mem _ hx), sm_one (p := e.2.1) h0.2 fun i _ hne => if_neg (Ne.symm hne), sm_one (p := e.1) h0.1 fun i _ hne => if_neg (Ne.symm hne), if_pos rfl, if_pos rfl]
    grind
theorem stepF_rb {es : List Edge} {D X E Y : Nat} {v : Nat → Rat} {j : Nat} (hv : ∀ e ∈ es, RB D X (v e.1)) (he : ∀ e ∈ es, RB E Y e.2.2) : RB (D * E) (es.length * (X * Y)) (stepF es v j) := by
  induction es with
  | nil => exact RB.zero _ _
  | cons e r ih =>
    have h1 := ih (fun x hx => hv x (List.mem_cons_of_mem _ hx)) fun x hx => he x (List.mem_cons_of_mem _ hx)
    have h2 : RB (D * E) (X * Y) (if e.2.1 = j then v e.1 * e.2.2 else 0) := by
      split
      · exact (hv e List.mem_cons_self).mul (he e List.mem_cons_self)
      · exact RB.zero _ _
    have h3 := h2.add h1
    rw [List.length_cons, Nat.succ_mul, Nat.add_comm]
    exact h3
theorem sm_rb {D X : Nat} {f : Nat → Rat} : ∀ {n : Nat}, (∀ i, i < n → RB D X (f i)) → RB D (n * X) (sm f n)
  | 0, _ => RB.zero _ _
  | n + 1, h => by
    rw [Nat.succ_mul]
    exact (sm_rb fun i hi => h i (Nat.lt_succ_of_lt hi)).add (h n (Nat.lt_succ_self n))

/-- a machine: signs, begin, roads (state, sign, next, number), end -/
structure Mach where
  signs : List Nat
  bg : List Rat
  roads : List (Nat × Nat × Nat × Rat)
  en : List Rat
def Mach.n (m : Mach) : Nat := m.bg.length
def Mach.eds (m : Mach) (s : Nat) : List Edge := m.roads.filterMap fun r => if r.2.1 = s then some (r.1, r.2.2.1, r.2.2.2) else none
structure Mach.Ok (m : Mach) : Prop where
  el : m.en.length = m.n
  rd : ∀ r ∈ m.roads, r.1 < m.n ∧ r.2.1 ∈ m.signs ∧ r.2.2.1 < m.n
def rowF (m : Mach) (u : List Nat) : Nat → Rat := u.foldl (fun v s => stepF (m.eds s) v) fun i => m.bg.getD i 0
def colF (m : Mach) (w : List Nat) : Nat → Rat := w.foldr (fun s v => stepF (swp (m.eds s)) v) fun i => m.en.getD i 0
def rowL (m : Mach) (u : List Nat) : List Rat := tab m.n (rowF m u)
def colL (m : Mach) (w : List Nat) : List Rat := tab m.n (colF m w)
/-- the worth of u and w put together -/
def wt (m : Mach) (u w : List Nat) : Rat := sm (fun i => rowF m u i * colF m w i) m.n
theorem mem_eds {m : Mach} {s : Nat} {e : Edge} (h : e ∈ m.eds s) : (e.1, s, e.2.1, e.2.2) ∈ m.roads := by
  obtain ⟨r, hr, q⟩ := List.mem_filterMap.mp h
  split at q
  · rename_i hs
    cases q
    rw [← hs]
    exact hr
  · cases q
theorem mem_swp {es : List Edge} {e : Edge} (h : e ∈ swp es) : (e.2.1, e.1, e.2.2) ∈ es := by
  obtain ⟨r, hr, q⟩ := List.mem_map.mp h
  rw [← q]
  exact hr
theorem Mach.Ok.ed {m : Mach} (ok : m.Ok) {s : Nat} {e : Edge} (h : e ∈ m.eds s) : e.1 < m.n ∧ e.2.1 < m.n := by
  have := ok.rd _ (mem_eds h)
  exact ⟨this.1, this.2.2⟩
theorem rowF_snoc (m : Mach) (u : List Nat) (s : Nat) : rowF m (u ++ [s]) = stepF (m.eds s) (rowF m u) := by
  unfold rowF
  rw [List.foldl_append]
  rfl
theorem wt_snoc {m : Mach} (ok : m.Ok) (u w : List Nat) (s : Nat) : wt m (u ++ [s]) w = wt m u (s :: w) := by
  unfold wt
  rw [rowF_snoc]
  exact adjoint fun e he => ok.ed he
theorem step_row {m : Mach} (ok : m.Ok) (u : List Nat) (s : Nat) : tab m.n (stepF (m.eds s) fun i => (rowL m u).getD i 0) = rowL m (u ++ [s]) := by
  unfold rowL
  rw [rowF_snoc]
  exact tab_congr fun j _ => stepF_congr fun e he => tab_at (ok.ed he).1
theorem step_col {m : Mach} (ok : m.Ok) (w : List Nat) (s : Nat) : tab m.n (stepF (swp (m.eds s)) fun i => (colL m w).getD i 0) = colL m (s :: w) :=
  tab_congr fun j _ => stepF_congr fun e he => tab_at (ok.ed (mem_swp he)).2
theorem rowL_nil (m : Mach) : rowL m [] = m.bg := tab_self rfl
theorem colL_nil {m : Mach} (ok : m.Ok) : colL m [] = m.en := tab_self ok.el
theorem dot_wt (m : Mach) (u w : List Nat) : sm (fun i => (rowL m u).getD i 0 * (colL m w).getD i 0) m.n = wt m u w :=
  sm_congr fun i hi => by
    unfold rowL colL
    rw [tab_at hi, tab_at hi]

/-! ### bounds -/
/-- the given machines: numbers of one digit, at most 24 roads, at most six states -/
structure Mach.Sm (m : Mach) : Prop where
  n6 : m.n ≤ 6
  r24 : m.roads.length ≤ 24
  b : ∀ q ∈ m.bg, RB 2520 12600 q
  e : ∀ q ∈ m.en, RB 2520 12600 q
  r : ∀ x ∈ m.roads, RB 2520 12600 x.2.2.2
theorem eds_len (m : Mach) (s : Nat) : (m.eds s).length ≤ m.roads.length := List.length_filterMap_le _ _
theorem getD_rb {D X : Nat} {xs : List Rat} (h : ∀ q ∈ xs, RB D X q) (i : Nat) : RB D X (xs.getD i 0) := by
  by_cases hi : i < xs.length
  · rw [getD_of_lt 0 hi]
    exact h _ (List.getElem_mem hi)
  · rw [getD_of_le 0 (by omega)]
    exact RB.zero D X
theorem rb_step {es : List Edge} {L : Nat} {v : Nat → Rat} {j : Nat} (hl : es.length ≤ 24) (he : ∀ e ∈ es, RB 2520 12600 e.2.2) (hv : ∀ i, RB (2520 ^ (L + 1)) (12600 * 302400 ^ L) (v i)) : RB (2520 ^ (L + 1 + 1)) (12600 * 302400 ^ (L + 1)) (stepF es v j) := by
  have h := stepF_rb (j := j) (fun e _ => hv e.1) he
  rw [← Nat.pow_succ] at h
  refine h.mono ?_
  have : 12600 * 302400 ^ (L + 1) = 24 * (12600 * 302400 ^ L * 12600) := by
    rw [Nat.pow_succ]
    have e : (302400 : Nat) = 24 * 12600 := rfl
    generalize 302400 ^ L = y
    omega
  rw [this]
  exact Nat.mul_le_mul_right _ hl
theorem Mach.Sm.row {m : Mach} (S : m.Sm) (u : List Nat) : ∀ i, RB (2520 ^ (u.length + 1)) (12600 * 302400 ^ u.length) (rowF m u i) := by
  have key : ∀ (u : List Nat) (L : Nat) (v : Nat → Rat), (∀ i, RB (2520 ^ (L + 1)) (12600 * 302400 ^ L) (v i)) → ∀ i, RB (2520 ^ (L + u.length + 1)) (12600 * 302400 ^ (L + u.length)) (u.foldl (fun v s => stepF (m.eds s) v) v i) := by
    intro u
    induction u with
    | nil => intro L v h i; exact h i
    | cons s r ih =>
      intro L v h i
      have := ih (L + 1) (stepF (m.eds s) v) (fun j => rb_step (Nat.le_trans (eds_len m s) S.r24) (fun e he => S.r _ (mem_eds he)) h) i
      rw [List.length_cons, show L + (r.length + 1) = L + 1 + r.length by omega]
      exact this
  intro i
  have := key u 0 (fun i => m.bg.getD i 0) (fun i => getD_rb S.b i) i
  rw [Nat.zero_add] at this
  exact this
theorem Mach.Sm.col {m : Mach} (S : m.Sm) (w : List Nat) : ∀ i, RB (2520 ^ (w.length + 1)) (12600 * 302400 ^ w.length) (colF m w i) := by
  induction w with
  | nil => exact fun i => getD_rb S.e i
  | cons s r ih =>
    intro i
    exact rb_step (by
      unfold swp
      rw [List.length_map]
      exact Nat.le_trans (eds_len m s) S.r24) (fun e he => S.r _ (mem_eds (mem_swp he))) ih
theorem rb_up {L M : Nat} {q : Rat} (h : RB (2520 ^ (L + 1)) (12600 * 302400 ^ L) q) (hm : L ≤ M) : RB (2520 ^ (M + 1)) (12600 * 302400 ^ M) q := by
  have e : M + 1 = (L + 1) + (M - L) := by omega
  have e2 : M = L + (M - L) := by omega
  have h2 := h.scale (2520 ^ (M - L))
  rw [← Nat.pow_add, ← e] at h2
  refine h2.mono ?_
  rw [Nat.mul_assoc]
  refine Nat.mul_le_mul_left _ ?_
  conv => rhs; rw [e2, Nat.pow_add]
  exact Nat.mul_le_mul_left _ (Nat.pow_le_pow_left (by decide) _)
def DW : Nat := 2520 ^ 14
def XW : Nat := 6 * (12600 * 12600 * 302400 ^ 12)
def DC : Nat := 2520 ^ 7
def XC : Nat := 12600 * 302400 ^ 6
theorem lim_w {m : Nat} (h : m ≤ 6) : Lim m DW XW := ⟨h, by decide, by decide, by decide⟩
theorem lim_c {m : Nat} (h : m ≤ 6) : Lim m DC XC := ⟨h, by decide, by decide, by decide⟩
theorem Mach.Sm.colL {m : Mach} (S : m.Sm) {w : List Nat} (h : w.length ≤ 6) (j : Nat) : RB DC XC ((colL m w).getD j 0) := by
  by_cases hj : j < m.n
  · have : (Tw.colL m w).getD j 0 = colF m w j := tab_at hj
    rw [this]
    exact rb_up (S.col w j) h
  · have : (Tw.colL m w).getD j 0 = 0 := tab_ge (by omega)
    rw [this]
    exact RB.zero _ _
theorem Mach.Sm.wt {m : Mach} (S : m.Sm) {u w : List Nat} (h : u.length + w.length ≤ 12) : RB DW XW (wt m u w) := by
  have h1 : RB (2520 ^ (u.length + w.length + 2)) (m.n * (12600 * 302400 ^ u.length * (12600 * 302400 ^ w.length))) (Tw.wt m u w) := by
    have := sm_rb (n := m.n) fun i _ => (S.row u i).mul (S.col w i)
    rw [← Nat.pow_add] at this
    rw [show u.length + w.length + 2 = u.length + 1 + (w.length + 1) by omega]
    exact this
  have h2 := h1.scale (2520 ^ (12 - (u.length + w.length)))
  rw [← Nat.pow_add, show u.length + w.length + 2 + (12 - (u.length + w.length)) = 14 by omega] at h2
  refine h2.mono ?_
  have e1 : 12600 * 302400 ^ u.length * (12600 * 302400 ^ w.length) = 12600 * 12600 * 302400 ^ (u.length + w.length) := by
    rw [Nat.pow_add]
    generalize 302400 ^ u.length = a
    generalize 302400 ^ w.length = b
    grind
  rw [e1, Nat.mul_assoc]
  show _ ≤ 6 * (12600 * 12600 * 302400 ^ 12)
  refine Nat.mul_le_mul S.n6 ?_
  rw [Nat.mul_assoc (12600 * 12600)]
  refine Nat.mul_le_mul_left _ ?_
  have e2 : 302400 ^ 12 = 302400 ^ (u.length + w.length) * 302400 ^ (12 - (u.length + w.length)) := by
    rw [← Nat.pow_add]
    congr 1
    omega
  rw [e2]
  exact Nat.mul_le_mul_left _ (Nat.pow_le_pow_left (by decide) _)
end Tw

/-! Free columns, rests, the order of messages. -/
namespace Tw

/-- a message over the signs -/
def Wd (m : Mach) (w : List Nat) : Prop := ∀ s ∈ w, s ∈ m.signs
theorem Wd.nil (m : Mach) : Wd m [] := fun _ h => nomatch h
theorem Wd.cons {m : Mach} {s : Nat} {w : List Nat} (hs : s ∈ m.signs) (h : Wd m w) : Wd m (s :: w) := fun x hx => by
  rcases List.mem_cons.mp hx with e | e
  · rw [e]; exact hs
  · exact h x e
theorem Wd.tail {m : Mach} {s : Nat} {w : List Nat} (h : Wd m (s :: w)) : s ∈ m.signs ∧ Wd m w := ⟨h s List.mem_cons_self, fun x hx => h x (List.mem_cons_of_mem _ hx)⟩
theorem Wd.snoc {m : Mach} {s : Nat} {w : List Nat} (h : Wd m w) (hs : s ∈ m.signs) : Wd m (w ++ [s]) := fun x hx => by
  rcases List.mem_append.mp hx with e | e
  · exact h x e
  · rw [List.mem_singleton.mp e]; exact hs
theorem Wd.init {m : Mach} {s : Nat} {w : List Nat} (h : Wd m (w ++ [s])) : Wd m w ∧ s ∈ m.signs := ⟨fun x hx => h x (List.mem_append_left _ hx), h s (List.mem_append_right _ (List.mem_singleton.mpr rfl))⟩

/-- what free_columns hands back -/
structure FreeC (m : Mach) (C : List (List Rat)) : Prop where
  ws : ∃ ws : List (List Nat), C = ws.map (colL m) ∧ ∀ w ∈ ws, Wd m w ∧ w.length < m.n
  ind : Indep m.n C
  e : InSpan m.n C m.en
  cl : ∀ w, colL m w ∈ C → ∀ s ∈ m.signs, InSpan m.n C (colL m (s :: w))
theorem fq_map {m : Mach} {ws : List (List Nat)} {i j : Nat} (hi : i < ws.length) (hj : j < m.n) : fq (ws.map (colL m)) i j = colF m (ws.getD i []) j := by
  unfold fq
  have e : (ws.map (colL m)).getD i [] = colL m (ws.getD i []) := by
    rw [getD_of_lt [] (by rw [List.length_map]; exact hi), getD_of_lt [] hi, List.getElem_map]
  rw [e]
  exact tab_at hj
theorem FreeC.all {m : Mach} {C : List (List Rat)} (ok : m.Ok) (F : FreeC m C) : ∀ w, Wd m w → InSpan m.n C (colL m w)
  | [], _ => by
    rw [colL_nil ok]
    exact F.e
  | s :: w, h => by
    obtain ⟨hs, hw⟩ := h.tail
    obtain ⟨c, hc⟩ := F.all ok w hw
    obtain ⟨ws, rfl, hws⟩ := F.ws
    -- each column's own step is in the span
    have each : ∀ i, i < ws.length → InSpan m.n (ws.map (colL m)) (colL m (s :: ws.getD i [])) := fun i hi => by
      refine F.cl _ ?_ s hs
      rw [getD_of_lt [] hi]
      exact List.mem_map.mpr ⟨_, List.getElem_mem hi, rfl⟩
    have hd : ∃ d : Nat → Nat → Rat, ∀ i, i < ws.length → ∀ j, j < m.n → (colL m (s :: ws.getD i [])).getD j 0 = sm (fun k => d i k * fq (ws.map (colL m)) k j) (ws.map (colL m)).length :=
      ⟨fun i => Classical.epsilon fun d => ∀ j, j < m.n → (colL m (s :: ws.getD i [])).getD j 0 = sm (fun k => d k * fq (ws.map (colL m)) k j) (ws.map (colL m)).length, fun i hi => Classical.epsilon_spec (each i hi)⟩
    obtain ⟨d, hd⟩ := hd
    refine ⟨fun k => sm (fun i => c i * d i k) ws.length, fun j hj => ?_⟩
    have lw : (ws.map (colL m)).length = ws.length := List.length_map ..
    rw [lw]
    have e1 : (colL m (s :: w)).getD j 0 = stepF (swp (m.eds s)) (fun i => sm (fun t => c t * colF m (ws.getD t []) i) ws.length) j := by
      rw [← step_col ok, tab_at hj]
      refine stepF_congr fun e he => ?_
      have h1 := (ok.ed (mem_swp he)).2
      rw [hc e.1 h1, lw]
      exact sm_congr fun t ht => by rw [fq_map ht h1]
    rw [e1, stepF_sm]
    have e2 : sm (fun t => c t * stepF (swp (m.eds s)) (colF m (ws.getD t [])) j) ws.length = sm (fun t => sm (fun k => c t * d t k * fq (ws.map (colL m)) k j) ws.length) ws.length := sm_congr fun t ht => by
      have h1 := hd t ht j hj
      rw [lw] at h1
      have h2 : (colL m (s :: ws.getD t [])).getD j 0 = stepF (swp (m.eds s)) (colF m (ws.getD t [])) j := tab_at hj
      rw [← h2, h1, ← sm_mul]
      exact sm_congr fun k _ => by grind
    rw [e2, sm_comm]
    exact sm_congr fun k _ => by rw [sm_mulr]

/-- the rest behind u over the columns of ws -/
def rho (m : Mach) (ws : List (List Nat)) (u : List Nat) : List Rat := ws.map fun w => wt m u w
theorem rho_at {m : Mach} {ws : List (List Nat)} {u : List Nat} {j : Nat} (h : j < ws.length) : (rho m ws u).getD j 0 = wt m u (ws.getD j []) := by
  unfold rho
  rw [getD_of_lt 0 (by rw [List.length_map]; exact h), getD_of_lt [] h, List.getElem_map]
theorem rho_len (m : Mach) (ws : List (List Nat)) (u : List Nat) : (rho m ws u).length = ws.length := List.length_map ..
/-- a relation of rests that holds on the columns holds on all messages -/
theorem rel_all {m : Mach} (ok : m.Ok) {ws : List (List Nat)} (F : FreeC m (ws.map (colL m))) {a : Nat → Rat} {us : Nat → List Nat} {k : Nat} (h : ∀ j, j < ws.length → sm (fun i => a i * wt m (us i) (ws.getD j [])) k = 0) :
    ∀ w, Wd m w → sm (fun i => a i * wt m (us i) w) k = 0 := fun w hw => by
  obtain ⟨c, hc⟩ := F.all ok w hw
  have lw : (ws.map (colL m)).length = ws.length := List.length_map ..
  rw [lw] at hc
  have e : ∀ i, wt m (us i) w = sm (fun j => c j * wt m (us i) (ws.getD j [])) ws.length := fun i => by
    show sm (fun p => rowF m (us i) p * colF m w p) m.n = _
    have e1 : sm (fun p => rowF m (us i) p * colF m w p) m.n = sm (fun p => sm (fun j => rowF m (us i) p * (c j * colF m (ws.getD j []) p)) ws.length) m.n := sm_congr fun p hp => by
      have h1 := hc p hp
      have h2 : (colL m w).getD p 0 = colF m w p := tab_at hp
      rw [← h2, h1, ← sm_mul]
      exact sm_congr fun j hj => by rw [fq_map hj hp]
    rw [e1, sm_comm]
    refine sm_congr fun j _ => ?_
    show _ = c j * sm (fun p => rowF m (us i) p * colF m (ws.getD j []) p) m.n
    rw [← sm_mul]
    exact sm_congr fun p _ => by grind
  have e3 : sm (fun i => a i * wt m (us i) w) k = sm (fun j => c j * sm (fun i => a i * wt m (us i) (ws.getD j [])) k) ws.length := by
    have e4 : sm (fun i => a i * wt m (us i) w) k = sm (fun i => sm (fun j => a i * (c j * wt m (us i) (ws.getD j []))) ws.length) k := sm_congr fun i _ => by rw [e i, ← sm_mul]
    rw [e4, sm_comm]
    refine sm_congr fun j _ => ?_
    rw [← sm_mul]
    exact sm_congr fun i _ => by grind
  rw [e3]
  exact sm_zero fun j hj => by rw [h j hj]; grind
/-- .. and with a sign more behind each message -/
theorem rel_snoc {m : Mach} (ok : m.Ok) {a : Nat → Rat} {us : Nat → List Nat} {k : Nat} {s : Nat} (hs : s ∈ m.signs) (h : ∀ w, Wd m w → sm (fun i => a i * wt m (us i) w) k = 0) : ∀ w, Wd m w → sm (fun i => a i * wt m (us i ++ [s]) w) k = 0 := fun w hw => by
  have e := h (s :: w) (hw.cons hs)
  rw [← e]
  exact sm_congr fun i _ => by rw [wt_snoc ok]

/-! ### the order of messages -/
/-- text order -/
def lx : List Nat → List Nat → Prop
  | [], [] => False
  | [], _ :: _ => True
  | _ :: _, [] => False
  | a :: r, b :: t => a < b ∨ (a = b ∧ lx r t)
theorem lx_irrefl : ∀ u, ¬ lx u u
  | [], h => h
  | a :: r, h => by
    rcases h with h | h
    · omega
    · exact lx_irrefl r h.2
theorem lx_trans : ∀ {u v w}, lx u v → lx v w → lx u w
  | [], [], _, h, _ => h.elim
  | [], _ :: _, [], _, k => k.elim
  | [], _ :: _, _ :: _, _, _ => trivial
  | _ :: _, [], _, h, _ => h.elim
  | _ :: _, _ :: _, [], _, k => k.elim
  | a :: r, b :: t, c :: q, h, k => by
    rcases h with h | ⟨h, h'⟩
    · rcases k with k | ⟨k, k'⟩
      · exact .inl (by omega)
      · exact .inl (by omega)
    · rcases k with k | ⟨k, k'⟩
      · exact .inl (by omega)
      · exact .inr ⟨by omega, lx_trans h' k'⟩
theorem lx_snoc : ∀ {u v : List Nat} (a b : Nat), u.length = v.length → lx u v → lx (u ++ [a]) (v ++ [b])
  | [], [], _, _, _, h => h.elim
  | [], _ :: _, _, _, e, _ => by simp at e
  | _ :: _, [], _, _, e, _ => by simp at e
  | x :: r, y :: t, a, b, e, h => by
    rcases h with h | ⟨h, h'⟩
    · exact .inl h
    · exact .inr ⟨h, lx_snoc a b (by simpa using e) h'⟩
theorem lx_last : ∀ (u : List Nat) {a b : Nat}, a < b → lx (u ++ [a]) (u ++ [b])
  | [], _, _, h => .inl h
  | _ :: r, _, _, h => .inr ⟨rfl, lx_last r h⟩
/-- by length, then as texts -/
def lt (u v : List Nat) : Prop := u.length < v.length ∨ (u.length = v.length ∧ lx u v)
theorem lt_irrefl (u : List Nat) : ¬ lt u u := fun h => by
  rcases h with h | h
  · omega
  · exact lx_irrefl u h.2
theorem lt_trans {u v w : List Nat} (h : lt u v) (k : lt v w) : lt u w := by
  rcases h with h | ⟨h, h'⟩
  · rcases k with k | ⟨k, k'⟩
    · exact .inl (by omega)
    · exact .inl (by omega)
  · rcases k with k | ⟨k, k'⟩
    · exact .inl (by omega)
    · exact .inr ⟨by omega, lx_trans h' k'⟩
theorem lt_snoc {u v : List Nat} (a b : Nat) (h : lt u v) : lt (u ++ [a]) (v ++ [b]) := by
  rcases h with h | ⟨h, h'⟩
  · exact .inl (by rw [List.length_append, List.length_append]; exact Nat.add_lt_add_right h 1)
  · exact .inr ⟨by rw [List.length_append, List.length_append, h]; rfl, lx_snoc a b h h'⟩
theorem lt_last (u : List Nat) {a b : Nat} (h : a < b) : lt (u ++ [a]) (u ++ [b]) := .inr ⟨by rw [List.length_append, List.length_append]; rfl, lx_last u h⟩
theorem lt_more (u : List Nat) (a : Nat) : lt u (u ++ [a]) := .inl (by rw [List.length_append]; exact Nat.lt_succ_self _)
theorem lt_nil {u : List Nat} : ¬ lt u [] := fun h => by
  rcases h with h | ⟨h, h'⟩
  · exact Nat.not_lt_zero _ h
  · cases u with
    | nil => exact h'
    | cons a r => simp at h
abbrev Up (l : List (List Nat)) : Prop := l.Pairwise lt
theorem Up.get {l : List (List Nat)} (h : Up l) {i j : Nat} (hij : i < j) (hj : j < l.length) : lt l[i] l[j] := List.pairwise_iff_getElem.mp h i j (by omega) hj hij
/-- two rising lists of the same messages are one -/
theorem up_ext : ∀ {l k : List (List Nat)}, Up l → Up k → (∀ x, x ∈ l ↔ x ∈ k) → l = k
  | [], [], _, _, _ => rfl
  | [], b :: t, _, _, h => absurd ((h b).mpr List.mem_cons_self) (by simp)
  | a :: r, [], _, _, h => absurd ((h a).mp List.mem_cons_self) (by simp)
  | a :: r, b :: t, hl, hk, h => by
    obtain ⟨ha, hr⟩ := List.pairwise_cons.mp hl
    obtain ⟨hb, ht⟩ := List.pairwise_cons.mp hk
    have e : a = b := by
      rcases List.mem_cons.mp ((h a).mp List.mem_cons_self) with e | e
      · exact e
      · rcases List.mem_cons.mp ((h b).mpr List.mem_cons_self) with e2 | e2
        · exact e2.symm
        · exact absurd (lt_trans (ha b e2) (hb a e)) (lt_irrefl a)
    subst e
    congr 1
    refine up_ext hr ht fun x => ⟨fun hx => ?_, fun hx => ?_⟩
    · rcases List.mem_cons.mp ((h x).mp (List.mem_cons_of_mem _ hx)) with e | e
      · exact absurd (ha x hx) (by rw [e]; exact lt_irrefl a)
      · exact e
    · rcases List.mem_cons.mp ((h x).mpr (List.mem_cons_of_mem _ hx)) with e | e
      · exact absurd (hb x hx) (by rw [e]; exact lt_irrefl a)
      · exact e
end Tw

/-! Heads: the free messages; the machine of the form; the law's messages. -/
namespace Tw

def T3 (tb : List (List (List Rat))) (i k j : Nat) : Rat := ((tb.getD i []).getD k []).getD j 0
abbrev hd (hs : List (List Nat)) (i : Nat) : List Nat := hs.getD i []

structure HOk (m : Mach) (hs : List (List Nat)) (tb : List (List (List Rat))) : Prop where
  up : Up hs
  wd : ∀ h ∈ hs, Wd m h
  e0 : hs ≠ [] → hs[0]? = some []
  en : hs = [] → ∀ w, Wd m w → wt m [] w = 0
  pre : ∀ i, 0 < i → i < hs.length → ∃ p s, p < i ∧ s ∈ m.signs ∧ hd hs i = hd hs p ++ [s]
  tl : tb.length = hs.length
  tk : ∀ i, i < hs.length → (tb.getD i []).length = m.signs.length
  tj : ∀ i k, i < hs.length → k < m.signs.length → ((tb.getD i []).getD k []).length = hs.length
  rel : ∀ i k s, i < hs.length → m.signs[k]? = some s → ∀ w, Wd m w → wt m (hd hs i ++ [s]) w = sm (fun j => T3 tb i k j * wt m (hd hs j) w) hs.length
  row : ∀ i k s, i < hs.length → m.signs[k]? = some s → (∃ j, hs[j]? = some (hd hs i ++ [s]) ∧ ∀ j', j' < hs.length → T3 tb i k j' = if j' = j then 1 else 0) ∨ (hd hs i ++ [s] ∉ hs ∧ ∀ j, j < hs.length → T3 tb i k j ≠ 0 → lt (hd hs j) (hd hs i ++ [s]))
  ind : ∀ a : Nat → Rat, (∀ w, Wd m w → sm (fun j => a j * wt m (hd hs j) w) hs.length = 0) → ∀ j, j < hs.length → a j = 0

section
variable {m : Mach} {hs : List (List Nat)} {tb : List (List (List Rat))}
theorem hd_mem {i : Nat} (h : i < hs.length) : hd hs i ∈ hs := by
  unfold hd
  rw [getD_of_lt [] h]
  exact List.getElem_mem h
theorem hd_of {x : List Nat} (h : x ∈ hs) : ∃ i, i < hs.length ∧ hd hs i = x := by
  obtain ⟨i, hi, e⟩ := List.getElem_of_mem h
  refine ⟨i, hi, ?_⟩
  unfold hd
  rw [getD_of_lt [] hi, e]
theorem HOk.len (H : HOk m hs tb) : ∀ i, i < hs.length → (hd hs i).length ≤ i := by
  intro i
  induction i using Nat.strongRecOn with
  | ind i ih =>
    intro hi
    by_cases h0 : i = 0
    · subst h0
      have hne : hs ≠ [] := by
        intro z
        rw [z] at hi
        exact absurd hi (Nat.not_lt_zero _)
      have := H.e0 hne
      unfold hd
      rw [List.getD_eq_getElem?_getD, this]
      exact Nat.le_refl 0
    · obtain ⟨p, s, hp, _, e⟩ := H.pre i (by omega) hi
      have := ih p hp (by omega)
      rw [e, List.length_append]
      show (hd hs p).length + 1 ≤ i
      omega
/-- u's rest is a sum of multiples of those of heads ahead of u -/
def Below (m : Mach) (hs : List (List Nat)) (u : List Nat) : Prop := ∃ c : Nat → Rat, (∀ j, j < hs.length → c j ≠ 0 → lt (hd hs j) u) ∧ ∀ w, Wd m w → wt m u w = sm (fun j => c j * wt m (hd hs j) w) hs.length
/-- a head, or below it -/
theorem below_or_head (hx : u ∈ hs ∨ Below m hs u) : ∃ c : Nat → Rat, (∀ j, j < hs.length → c j ≠ 0 → hd hs j = u ∨ lt (hd hs j) u) ∧ ∀ w, Wd m w → wt m u w = sm (fun j => c j * wt m (hd hs j) w) hs.length := by
  rcases hx with h | ⟨c, h1, h2⟩
  · obtain ⟨i, hi, e⟩ := hd_of h
    refine ⟨fun j => if j = i then 1 else 0, fun j _ hj => ?_, fun w _ => ?_⟩
    · by_cases q : j = i
      · rw [q]; exact .inl e
      · exact absurd (if_neg q) hj
    · rw [sm_one (p := i) hi fun j _ hne => by
        show (if j = i then (1 : Rat) else 0) * _ = 0
        rw [if_neg hne]
        grind]
      show wt m u w = (if i = i then (1 : Rat) else 0) * wt m (hd hs i) w
      rw [if_pos rfl, e]
      grind
  · exact ⟨c, fun j hj hc => .inr (h1 j hj hc), h2⟩
theorem HOk.claim (ok : m.Ok) (H : HOk m hs tb) : ∀ (n : Nat) (u : List Nat), u.length = n → Wd m u → u ∈ hs ∨ Below m hs u := by
  intro n
  induction n with
  | zero =>
    intro u hu _
    have e : u = [] := List.length_eq_zero_iff.mp hu
    subst e
    by_cases h : hs = []
    · refine .inr ⟨fun _ => 0, fun _ _ hc => absurd rfl hc, fun w hw => ?_⟩
      rw [H.en h w hw]
      exact (sm_zero fun _ _ => by grind).symm
    · exact .inl (List.mem_of_getElem? (H.e0 h))
  | succ n ih =>
    intro u hu hw
    obtain ⟨v, s, rfl⟩ : ∃ v s, u = v ++ [s] := ⟨u.dropLast, u.getLast (by intro z; rw [z] at hu; simp at hu), (List.dropLast_concat_getLast _).symm⟩
    have hv : v.length = n := by
      rw [List.length_append] at hu
      exact Nat.succ.inj hu
    obtain ⟨wv, ws⟩ := hw.init
    -- one sign behind a head
    have one : ∀ i, i < hs.length → hd hs i ++ [s] ∈ hs ∨ Below m hs (hd hs i ++ [s]) := fun i hi => by
      obtain ⟨k, hk, ek⟩ := List.getElem_of_mem ws
      have ek' : m.signs[k]? = some s := by rw [List.getElem?_eq_getElem hk, ek]
      rcases H.row i k s hi ek' with ⟨j, hj, _⟩ | ⟨_, hlt⟩
      · exact .inl (List.mem_of_getElem? hj)
      · exact .inr ⟨fun j => T3 tb i k j, hlt, H.rel i k s hi ek'⟩
    rcases ih v hv wv with h | ⟨c, h1, h2⟩
    · obtain ⟨i, hi, e⟩ := hd_of h
      rw [← e]
      exact one i hi
    · right
      -- each head ahead of v, with the sign behind it
      have hd' : ∃ d : Nat → Nat → Rat, ∀ i, i < hs.length → (∀ j, j < hs.length → d i j ≠ 0 → hd hs j = hd hs i ++ [s] ∨ lt (hd hs j) (hd hs i ++ [s])) ∧ ∀ w, Wd m w → wt m (hd hs i ++ [s]) w = sm (fun j => d i j * wt m (hd hs j) w) hs.length :=
        ⟨fun i => Classical.epsilon fun d => (∀ j, j < hs.length → d j ≠ 0 → hd hs j = hd hs i ++ [s] ∨ lt (hd hs j) (hd hs i ++ [s])) ∧ ∀ w, Wd m w → wt m (hd hs i ++ [s]) w = sm (fun j => d j * wt m (hd hs j) w) hs.length, fun i hi => Classical.epsilon_spec (below_or_head (one i hi))⟩
      obtain ⟨d, hdd⟩ := hd'
      refine ⟨fun j => sm (fun i => c i * d i j) hs.length, fun j hj hne => ?_, fun w hw => ?_⟩
      · have : ∃ i, i < hs.length ∧ c i * d i j ≠ 0 := by
          apply Classical.byContradiction
          intro hn
          exact hne (sm_zero fun i hi => Classical.byContradiction fun hc => hn ⟨i, hi, hc⟩)
        obtain ⟨i, hi, hc⟩ := this
        have c1 : c i ≠ 0 := fun z => hc (by rw [z]; grind)
        have c2 : d i j ≠ 0 := fun z => hc (by rw [z]; grind)
        have l1 : lt (hd hs i ++ [s]) (v ++ [s]) := lt_snoc s s (h1 i hi c1)
        rcases (hdd i hi).1 j hj c2 with e | e
        · rw [e]; exact l1
        · exact lt_trans e l1
      · have e1 : wt m (v ++ [s]) w = sm (fun i => c i * wt m (hd hs i ++ [s]) w) hs.length := by
          rw [wt_snoc ok, h2 (s :: w) (hw.cons ws)]
          exact sm_congr fun i _ => by rw [wt_snoc ok]
        rw [e1]
        have e2 : sm (fun i => c i * wt m (hd hs i ++ [s]) w) hs.length = sm (fun i => sm (fun j => c i * d i j * wt m (hd hs j) w) hs.length) hs.length := sm_congr fun i hi => by
          rw [(hdd i hi).2 w hw, ← sm_mul]
          exact sm_congr fun j _ => by grind
        rw [e2, sm_comm]
        exact sm_congr fun j _ => by rw [sm_mulr]
/-- a head is no sum of multiples of heads ahead of it -/
theorem HOk.head_free (H : HOk m hs tb) {u : List Nat} (hu : u ∈ hs) : ¬ Below m hs u := by
  rintro ⟨c, h1, h2⟩
  obtain ⟨i, hi, e⟩ := hd_of hu
  have z := H.ind (fun j => c j - if j = i then 1 else 0) fun w hw => by
    have e1 : sm (fun j => (c j - if j = i then 1 else 0) * wt m (hd hs j) w) hs.length = sm (fun j => c j * wt m (hd hs j) w) hs.length - sm (fun j => (if j = i then 1 else 0) * wt m (hd hs j) w) hs.length := by
      rw [← sm_sub]
      exact sm_congr fun j _ => by grind
    rw [e1, ← h2 w hw, sm_one (p := i) hi fun j _ hne => by rw [if_neg hne]; grind, if_pos rfl, e]
    grind
  have zi := z i hi
  rw [if_pos rfl] at zi
  have : c i ≠ 0 := by
    intro q
    rw [q] at zi
    grind
  have := h1 i hi this
  rw [e] at this
  exact lt_irrefl u this

/-! ### the machine of the form -/
/-- its columns are the worths behind the heads -/
structure Mir (m m2 : Mach) (hs : List (List Nat)) (tb : List (List (List Rat))) : Prop where
  ok : m2.Ok
  n : m2.n = hs.length
  sg : m2.signs = m.signs
  en : ∀ i, i < hs.length → m2.en.getD i 0 = wt m (hd hs i) []
  st : ∀ k s, m.signs[k]? = some s → ∀ (v : Nat → Rat) i, i < hs.length → stepF (swp (m2.eds s)) v i = sm (fun j => T3 tb i k j * v j) hs.length
theorem Mir.col {m2 : Mach} (ok : m.Ok) (H : HOk m hs tb) (R : Mir m m2 hs tb) : ∀ w, Wd m w → ∀ i, i < hs.length → colF m2 w i = wt m (hd hs i) w
  | [], _, i, hi => R.en i hi
  | s :: w, h, i, hi => by
    obtain ⟨hs', hw⟩ := h.tail
    obtain ⟨k, hk, ek⟩ := List.getElem_of_mem hs'
    have ek' : m.signs[k]? = some s := by rw [List.getElem?_eq_getElem hk, ek]
    show stepF (swp (m2.eds s)) (colF m2 w) i = _
    rw [R.st k s ek' _ i hi, ← wt_snoc ok, H.rel i k s hi ek' w hw]
    exact sm_congr fun j hj => by rw [R.col ok H w hw j hj]
/-- it has as many free columns as there are heads -/
theorem Mir.count {m2 : Mach} {C : List (List Rat)} (ok : m.Ok) (H : HOk m hs tb) (R : Mir m m2 hs tb) (F : FreeC m2 C) : C.length = hs.length := by
  have h1 : C.length ≤ m2.n := F.ind.le
  rw [R.n] at h1
  apply Classical.byContradiction
  intro hne
  obtain ⟨a, ⟨i, hi, ha⟩, hr⟩ := dep C.length hs.length (fun i j => fq C j i) (by omega)
  refine ha (H.ind a (fun w hw => ?_) i hi)
  have hw2 : Wd m2 w := fun s hs' => by rw [R.sg]; exact hw s hs'
  obtain ⟨c, hc⟩ := F.all R.ok w hw2
  have e : sm (fun j => a j * wt m (hd hs j) w) hs.length = sm (fun j => sm (fun t => c t * (a j * fq C t j)) C.length) hs.length := sm_congr fun j hj => by
    rw [← R.col ok H w hw j hj]
    have h2 := hc j (by rw [R.n]; exact hj)
    have h3 : (colL m2 w).getD j 0 = colF m2 w j := tab_at (by rw [R.n]; exact hj)
    rw [← h3, h2, ← sm_mul]
    exact sm_congr fun t _ => by grind
  rw [e, sm_comm]
  exact sm_zero fun t ht => by
    rw [sm_mul, hr t ht]
    grind
theorem HOk.le (ok : m.Ok) (H : HOk m hs tb) {C : List (List Rat)} (F : FreeC m C) : hs.length ≤ m.n := by
  obtain ⟨ws, rfl, _⟩ := F.ws
  have h1 := F.ind.le
  rw [List.length_map] at h1
  apply Classical.byContradiction
  intro hne
  obtain ⟨a, ⟨i, hi, ha⟩, hr⟩ := dep ws.length hs.length (fun i j => wt m (hd hs i) (ws.getD j [])) (by omega)
  exact ha (H.ind a (rel_all ok F hr) i hi)

/-! ### the law's messages -/
def lvl (sg : List Nat) : Nat → List (List Nat)
  | 0 => [[]]
  | k + 1 => (lvl sg k).flatMap fun u => sg.map fun s => u ++ [s]
def msgs (sg : List Nat) : Nat → List (List Nat)
  | 0 => []
  | k + 1 => msgs sg k ++ lvl sg k
theorem lvl_mem {sg : List Nat} : ∀ {k : Nat} {u : List Nat}, u ∈ lvl sg k ↔ u.length = k ∧ ∀ s ∈ u, s ∈ sg
  | 0, u => by
    show u ∈ [[]] ↔ _
    rw [List.mem_singleton]
    exact ⟨fun e => by rw [e]; exact ⟨rfl, fun _ h => nomatch h⟩, fun h => List.length_eq_zero_iff.mp h.1⟩
  | k + 1, u => by
    show u ∈ (lvl sg k).flatMap (fun u => sg.map fun s => u ++ [s]) ↔ _
    rw [List.mem_flatMap]
    constructor
    · rintro ⟨v, hv, hu⟩
      obtain ⟨s, hs, e⟩ := List.mem_map.mp hu
      obtain ⟨h1, h2⟩ := lvl_mem.mp hv
      rw [← e, List.length_append, h1]
      refine ⟨rfl, fun x hx => ?_⟩
      rcases List.mem_append.mp hx with q | q
      · exact h2 x q
      · rw [List.mem_singleton.mp q]; exact hs
    · rintro ⟨h1, h2⟩
      have hne : u ≠ [] := by intro z; rw [z] at h1; simp at h1
      refine ⟨u.dropLast, lvl_mem.mpr ⟨by rw [List.length_dropLast, h1]; rfl, fun s hs => h2 s ((List.dropLast_sublist u).subset hs)⟩, List.mem_map.mpr ⟨u.getLast hne, h2 _ (List.getLast_mem hne), List.dropLast_concat_getLast hne⟩⟩
theorem msgs_mem {sg : List Nat} : ∀ {k : Nat} {u : List Nat}, u ∈ msgs sg k ↔ u.length < k ∧ ∀ s ∈ u, s ∈ sg
  | 0, u => ⟨fun h => (List.not_mem_nil h).elim, fun h => absurd h.1 (Nat.not_lt_zero _)⟩
  | k + 1, u => by
    show u ∈ msgs sg k ++ lvl sg k ↔ _
    rw [List.mem_append, msgs_mem, lvl_mem]
    constructor
    · rintro (⟨h1, h2⟩ | ⟨h1, h2⟩)
      · exact ⟨by omega, h2⟩
      · exact ⟨by omega, h2⟩
    · rintro ⟨h1, h2⟩
      by_cases h : u.length < k
      · exact .inl ⟨h, h2⟩
      · exact .inr ⟨by omega, h2⟩
theorem pw_flat {α β : Type} {R : β → β → Prop} {S : α → α → Prop} {f : α → List β} : ∀ {l : List α}, l.Pairwise S → (∀ a, a ∈ l → (f a).Pairwise R) → (∀ a b, S a b → ∀ x ∈ f a, ∀ y ∈ f b, R x y) → (l.flatMap f).Pairwise R
  | [], _, _, _ => List.Pairwise.nil
  | a :: r, h, h1, h2 => by
    obtain ⟨ha, hr⟩ := List.pairwise_cons.mp h
    show (f a ++ r.flatMap f).Pairwise R
    refine List.pairwise_append.mpr ⟨h1 a List.mem_cons_self, pw_flat hr (fun b hb => h1 b (List.mem_cons_of_mem _ hb)) h2, fun x hx y hy => ?_⟩
    obtain ⟨b, hb, hy⟩ := List.mem_flatMap.mp hy
    exact h2 a b (ha b hb) x hx y hy
theorem lvl_up {sg : List Nat} (hsg : sg.Pairwise (· < ·)) : ∀ k, Up (lvl sg k)
  | 0 => List.pairwise_singleton _ _
  | k + 1 => by
    refine pw_flat (lvl_up hsg k) (fun u _ => ?_) fun u v h x hx y hy => ?_
    · exact List.Pairwise.map _ (fun a b h => lt_last u h) hsg
    · obtain ⟨s, _, rfl⟩ := List.mem_map.mp hx
      obtain ⟨t, _, rfl⟩ := List.mem_map.mp hy
      exact lt_snoc s t h
theorem msgs_up {sg : List Nat} (hsg : sg.Pairwise (· < ·)) : ∀ k, Up (msgs sg k)
  | 0 => List.Pairwise.nil
  | k + 1 => by
    refine List.pairwise_append.mpr ⟨msgs_up hsg k, lvl_up hsg k, fun x hx y hy => ?_⟩
    have h1 := (msgs_mem.mp hx).1
    have h2 := (lvl_mem.mp hy).1
    exact .inl (by omega)
/-- the law's list, told by the heads, is the heads -/
theorem heads_eq (hsg : m.signs.Pairwise (· < ·)) (H : HOk m hs tb) (hle : hs.length ≤ m.n) : (msgs m.signs m.n).filter (fun u => decide (u ∈ hs)) = hs := by
  refine up_ext ((msgs_up hsg m.n).filter _) H.up fun x => ?_
  rw [List.mem_filter]
  constructor
  · rintro ⟨_, h⟩
    exact of_decide_eq_true h
  · intro h
    obtain ⟨i, hi, e⟩ := hd_of h
    have := H.len i hi
    rw [e] at this
    exact ⟨msgs_mem.mpr ⟨by omega, H.wd x h⟩, decide_eq_true h⟩
end
end Tw

/-! The law's own elimination, over integers. -/
namespace Tw

abbrev LEnt := Nat × List Int
def gz (G : List (List Int)) (i j : Nat) : Int := (G.getD i []).getD j 0
def lpv (kp : List LEnt) (l : Nat) : Nat := (kp.getD l (0, [])).1
theorem lpv_of {kp : List LEnt} {l : Nat} {e : LEnt} (h : kp[l]? = some e) : lpv kp l = e.1 := by
  unfold lpv
  rw [List.getD_eq_getElem?_getD, h]
  rfl
theorem gz_append {G : List (List Int)} {r : List Int} {i j : Nat} (h : i < G.length) : gz (G ++ [r]) i j = gz G i j := by
  have e : (G ++ [r]).getD i [] = G.getD i [] := by
    rw [List.getD_eq_getElem?_getD, List.getD_eq_getElem?_getD, List.getElem?_append_left h]
  show ((G ++ [r]).getD i []).getD j 0 = (G.getD i []).getD j 0
  rw [e]
theorem gz_last {G : List (List Int)} {r : List Int} {j : Nat} : gz (G ++ [r]) G.length j = r.getD j 0 := by
  have e : (G ++ [r]).getD G.length [] = r := by
    rw [List.getD_eq_getElem?_getD, List.getElem?_append_right (Nat.le_refl _), Nat.sub_self]
    rfl
  show ((G ++ [r]).getD G.length []).getD j 0 = r.getD j 0
  rw [e]

/-- cur is a multiple, not by 0, of row, and multiples of the first t rows -/
def LRel (N : Nat) (G : List (List Int)) (row : Nat → Rat) (t : Nat) (cur : List Int) : Prop :=
  ∃ (c0 : Rat) (c : Nat → Rat), c0 ≠ 0 ∧ ∀ j, j < N → ((cur.getD j 0 : Int) : Rat) = c0 * row j + sm (fun i => c i * (gz G i j : Rat)) t
structure LEOk (N : Nat) (G : List (List Int)) (kp : List LEnt) (t : Nat) (e : LEnt) : Prop where
  p : e.1 < N
  ol : e.2.length = N
  nz : e.2.getD e.1 0 ≠ 0
  rel : LRel N G (fun j => (gz G t j : Rat)) t e.2
  z : ∀ l, l < t → e.2.getD (lpv kp l) 0 = 0
  bi : ∀ j, (e.2.getD j 0).natAbs ≤ Bd
structure LKOk (N : Nat) (G : List (List Int)) (kp : List LEnt) : Prop where
  len : kp.length = G.length
  six : G.length ≤ 6
  fb : ∀ i j, (gz G i j).natAbs ≤ XW
  ent : ∀ t e, kp[t]? = some e → LEOk N G kp t e
  nd : ∀ t, t ≤ G.length → ∀ a : Nat → Rat, (∀ l, l < t → sm (fun i => a i * (gz G i (lpv kp l) : Rat)) t = 0) → ∀ i, i < t → a i = 0
theorem lkok_nil (N : Nat) : LKOk N [] [] where
  len := rfl
  six := Nat.zero_le _
  fb := fun i j => Nat.zero_le _
  ent := fun t e h => nomatch h
  nd := fun t ht a _ i hi => by
    have : t ≤ 0 := ht
    omega
theorem LKOk.pvlt {N : Nat} {G : List (List Int)} {kp : List LEnt} (K : LKOk N G kp) {l : Nat} (h : l < G.length) : lpv kp l < N := by
  have hl : l < kp.length := by rw [K.len]; exact h
  have e : kp[l]? = some kp[l] := List.getElem?_eq_getElem hl
  rw [lpv_of e]
  exact (K.ent l _ e).p
structure LwSt (N : Nat) (G : List (List Int)) (kp : List LEnt) (row : List Int) (t : Nat) (cur : List Int) : Prop where
  il : cur.length = N
  rel : LRel N G (fun j => ((row.getD j 0 : Int) : Rat)) t cur
  z : ∀ l, l < t → cur.getD (lpv kp l) 0 = 0
  bi : ∀ j, (cur.getD j 0).natAbs ≤ Bd
theorem XW_le : XW ≤ Bd := Nat.le_trans (show XW ≤ 2 ^ 250 by decide) (Nat.pow_le_pow_right (by decide) (by decide))
section
variable {N : Nat} {G : List (List Int)} {kp : List LEnt} {row cur : List Int} {t : Nat}
theorem lw_start (hl : row.length = N) (hb : ∀ j, (row.getD j 0).natAbs ≤ XW) : LwSt N G kp row 0 row :=
  ⟨hl, ⟨1, fun _ => 0, by decide, fun j _ => by show _ = 1 * _ + (0 : Rat); grind⟩, fun l hl => by omega, fun j => Nat.le_trans (hb j) XW_le⟩
theorem lw_skip (S : LwSt N G kp row t cur) (h : cur.getD (lpv kp t) 0 = 0) : LwSt N G kp row (t + 1) cur := by
  obtain ⟨c0, c, h0, hc⟩ := S.rel
  refine ⟨S.il, ⟨c0, fun i => if i = t then 0 else c i, h0, fun j hj => ?_⟩, fun l hl => ?_, S.bi⟩
  · rw [hc j hj]
    show _ = _ + (sm (fun i => (if i = t then 0 else c i) * (gz G i j : Rat)) t + (if t = t then 0 else c t) * (gz G t j : Rat))
    have e : sm (fun i => (if i = t then 0 else c i) * (gz G i j : Rat)) t = sm (fun i => c i * (gz G i j : Rat)) t := sm_congr fun i hi => by rw [if_neg (by omega)]
    rw [e, if_pos rfl]
    grind
  · by_cases e : l = t
    · rw [e]; exact h
    · exact S.z l (by omega)
/-- divided by g where g is more than 1 -/
def lcut (g : Int) (xs : List Int) : List Int := if g > 1 then cut g xs else xs
theorem lw_step (K : LKOk N G kp) (hb : ∀ j, (row.getD j 0).natAbs ≤ XW) (ht : t < G.length) {e : LEnt} (he : kp[t]? = some e) (S : LwSt N G kp row t cur) {g : Int}
    (g0 : 0 ≤ g) (g2 : ∀ x ∈ mix (e.2.getD e.1 0) (cur.getD e.1 0) cur e.2, g ∣ x) (gm : ∀ d : Int, (∀ x ∈ mix (e.2.getD e.1 0) (cur.getD e.1 0) cur e.2, d ∣ x) → d ∣ g) :
    LwSt N G kp row (t + 1) (lcut g (mix (e.2.getD e.1 0) (cur.getD e.1 0) cur e.2)) := by
  have E := K.ent t e he
  have ep : lpv kp t = e.1 := lpv_of he
  have li : cur.length = e.2.length := by rw [S.il, E.ol]
  obtain ⟨c0, c, h0, hc⟩ := S.rel
  obtain ⟨k0, k, hk0, hk⟩ := E.rel
  have scr : ((e.2.getD e.1 0 : Int) : Rat) ≠ 0 := fun z => E.nz (Rat.intCast_eq_zero_iff.mp z)
  -- one divisor for all cases
  have hq : ∃ q : Int, 0 < q ∧ (∀ j, (lcut g (mix (e.2.getD e.1 0) (cur.getD e.1 0) cur e.2)).getD j 0 * q = (mix (e.2.getD e.1 0) (cur.getD e.1 0) cur e.2).getD j 0) ∧
      ((∀ j, (lcut g (mix (e.2.getD e.1 0) (cur.getD e.1 0) cur e.2)).getD j 0 = 0) ∨ ∀ d : Nat, (∀ j, j < N → (d : Int) ∣ (lcut g (mix (e.2.getD e.1 0) (cur.getD e.1 0) cur e.2)).getD j 0) → d = 1) := by
    generalize hm : mix (e.2.getD e.1 0) (cur.getD e.1 0) cur e.2 = mx at g2 gm ⊢
    have ml : mx.length = N := by rw [← hm, mix_len li, S.il]
    have dv : ∀ j, g ∣ mx.getD j 0 := fun j => by
      by_cases hj : j < mx.length
      · rw [getD_of_lt 0 hj]; exact g2 _ (List.getElem_mem hj)
      · rw [getD_of_le 0 (by omega)]; exact Int.dvd_zero g
    by_cases h1 : g > 1
    · refine ⟨g, by omega, fun j => ?_, .inr fun d hd => ?_⟩
      · unfold lcut
        rw [if_pos h1, cut_at, Int.ediv_mul_cancel (dv j)]
      · have h : ((d : Int) * g) ∣ g := gm _ fun x hx => by
          obtain ⟨j, hj, e2⟩ := List.getElem_of_mem hx
          have q := hd j (by omega)
          unfold lcut at q
          rw [if_pos h1, cut_at, getD_of_lt 0 hj, e2] at q
          have := Int.mul_dvd_mul_right g q
          rw [Int.ediv_mul_cancel (g2 x hx)] at this
          exact this
        obtain ⟨y, hy⟩ := h
        have h1 : ((d : Int) * y - 1) * g = 0 := by
          rw [Int.sub_mul]
          have : (d : Int) * y * g = d * g * y := Int.mul_right_comm _ _ _
          omega
        rcases Int.mul_eq_zero.mp h1 with h | h
        · have h3 : (d : Int) ∣ 1 := ⟨y, by omega⟩
          exact Nat.dvd_one.mp (Int.natCast_dvd_natCast.mp h3)
        · omega
    · have el : lcut g mx = mx := by unfold lcut; rw [if_neg h1]
      rw [el]
      refine ⟨1, by decide, fun j => Int.mul_one _, ?_⟩
      by_cases h2 : g = 0
      · left
        intro j
        have := dv j
        rw [h2] at this
        exact Int.zero_dvd.mp this
      · right
        intro d hd
        have h3 : (d : Int) ∣ g := gm _ fun x hx => by
          obtain ⟨j, hj, e2⟩ := List.getElem_of_mem hx
          have q := hd j (by omega)
          rw [getD_of_lt 0 hj, e2] at q
          exact q
        rw [show g = 1 by omega] at h3
        exact Nat.dvd_one.mp (Int.natCast_dvd_natCast.mp h3)
  have ll : (lcut g (mix (e.2.getD e.1 0) (cur.getD e.1 0) cur e.2)).length = N := by
    unfold lcut
    split
    · unfold cut; rw [List.length_map, mix_len li, S.il]
    · rw [mix_len li, S.il]
  generalize lcut g (mix (e.2.getD e.1 0) (cur.getD e.1 0) cur e.2) = cur' at hq ll ⊢
  obtain ⟨q, hq0, hq1, hpr⟩ := hq
  have qr : (q : Rat) ≠ 0 := fun z => by
    have := Rat.intCast_eq_zero_iff.mp z
    omega
  have at' : ∀ j, (cur'.getD j 0 : Rat) * q = (e.2.getD e.1 0 : Rat) * (cur.getD j 0 : Rat) - (cur.getD e.1 0 : Rat) * (e.2.getD j 0 : Rat) := fun j => by
    rw [← Rat.intCast_mul, hq1 j, mix_at li, Rat.intCast_sub, Rat.intCast_mul, Rat.intCast_mul]
  let sc : Rat := (e.2.getD e.1 0 : Rat)
  let ld : Rat := (cur.getD e.1 0 : Rat)
  let d : Nat → Rat := fun i => if i = t then -(ld * k0) / q else (sc * c i - ld * k i) / q
  have rel' : ∀ j, j < N → ((cur'.getD j 0 : Int) : Rat) = sc * c0 / q * ((row.getD j 0 : Int) : Rat) + sm (fun i => d i * (gz G i j : Rat)) (t + 1) := fun j hj => by
    have h1 := at' j
    rw [hc j hj, hk j hj] at h1
    show _ = _ + (sm (fun i => d i * (gz G i j : Rat)) t + d t * (gz G t j : Rat))
    have e1 : sm (fun i => d i * (gz G i j : Rat)) t = (sc / q) * sm (fun i => c i * (gz G i j : Rat)) t - (ld / q) * sm (fun i => k i * (gz G i j : Rat)) t := by
      rw [← sm_mul, ← sm_mul, ← sm_sub]
      refine sm_congr fun i hi => ?_
      show (if i = t then -(ld * k0) / q else (sc * c i - ld * k i) / q) * _ = _
      rw [if_neg (by omega)]
      grind
    have e2 : d t = -(ld * k0) / q := if_pos rfl
    rw [e1, e2]
    have h1' : (cur'.getD j 0 : Rat) * q = sc * (c0 * ((row.getD j 0 : Int) : Rat) + sm (fun i => c i * (gz G i j : Rat)) t) - ld * (k0 * (gz G t j : Rat) + sm (fun i => k i * (gz G i j : Rat)) t) := h1
    grind
  have z' : ∀ l, l < t + 1 → cur'.getD (lpv kp l) 0 = 0 := fun l hl => by
    have h := hq1 (lpv kp l)
    rw [mix_at li] at h
    have hz : e.2.getD e.1 0 * cur.getD (lpv kp l) 0 - cur.getD e.1 0 * e.2.getD (lpv kp l) 0 = 0 := by
      by_cases hlt : l = t
      · rw [hlt, ep, Int.mul_comm]
        omega
      · rw [S.z l (by omega), E.z l (by omega), Int.mul_zero, Int.mul_zero]
        rfl
    rw [hz] at h
    rcases Int.mul_eq_zero.mp h with h | h
    · exact h
    · omega
  have sc0 : sc * c0 / q ≠ 0 := by
    intro z
    have z1 : sc * c0 = 0 := by grind
    rcases Rat.mul_eq_zero.mp z1 with h | h
    · exact scr h
    · exact h0 h
  have L : Lim 6 1 XW := ⟨by decide, by decide, by decide, by decide⟩
  have sp0 : ∀ f : Nat → Rat, sm f (t + 1 + 1) = f 0 + sm (fun i => f (i + 1)) (t + 1) := fun f => by
    rw [sm_skip (p := 0) (Nat.succ_pos (t + 1))]
    congr 1
  have bnd := prim_bound (t + 1) N XW (2 ^ 1530) (fun i j => match i with | 0 => row.getD j 0 | i + 1 => gz G i j) (lpv kp) (fun i => match i with | 0 => sc * c0 / q | i + 1 => d i) (fun j => cur'.getD j 0)
    (fun i j _ _ => by
      cases i with
      | zero => exact hb j
      | succ i => exact K.fb i j) (L.a (Nat.le_trans ht K.six)) Nat.one_le_two_pow (fun l hl => K.pvlt (by omega)) sc0 (fun j hj => by rw [sp0]; exact rel' j hj) z' (K.nd (t + 1) ht) (hpr.imp (fun h j _ => h j) id)
  refine ⟨ll, ⟨_, _, sc0, rel'⟩, z', fun j => ?_⟩
  by_cases hj : j < N
  · exact Nat.le_trans (bnd j hj) (L.b (t := t + 1) (Nat.le_trans ht K.six))
  · rw [getD_of_le 0 (by omega)]
    exact Nat.zero_le _

def LSpan (N : Nat) (G : List (List Int)) (row : List Int) : Prop := ∃ c : Nat → Rat, ∀ j, j < N → ((row.getD j 0 : Int) : Rat) = sm (fun i => c i * (gz G i j : Rat)) G.length
theorem lspan_of (S : LwSt N G kp row G.length cur) (hz : ∀ j, j < N → cur.getD j 0 = 0) : LSpan N G row := by
  obtain ⟨c0, c, h0, hc⟩ := S.rel
  refine ⟨fun i => - c i / c0, fun j hj => ?_⟩
  have h := hc j hj
  rw [hz j hj] at h
  have e0 : ((0 : Int) : Rat) = 0 := rfl
  rw [e0] at h
  have e : sm (fun i => - c i / c0 * (gz G i j : Rat)) G.length = (-1 / c0) * sm (fun i => c i * (gz G i j : Rat)) G.length := by
    rw [← sm_mul]
    exact sm_congr fun i _ => by grind
  rw [e]
  grind
theorem lzero_of (K : LKOk N G kp) (S : LwSt N G kp row G.length cur) (h : LSpan N G row) : ∀ j, j < N → cur.getD j 0 = 0 := by
  obtain ⟨b, hb⟩ := h
  obtain ⟨c0, c, h0, hc⟩ := S.rel
  have e : ∀ j, j < N → ((cur.getD j 0 : Int) : Rat) = sm (fun i => (c0 * b i + c i) * (gz G i j : Rat)) G.length := fun j hj => by
    rw [hc j hj]
    dsimp only
    rw [hb j hj, ← sm_mul, ← sm_add]
    exact sm_congr fun i _ => by grind
  have z := K.nd G.length (Nat.le_refl _) (fun i => c0 * b i + c i) fun l hl => by
    rw [← e _ (K.pvlt hl), S.z l hl]
    rfl
  intro j hj
  apply Rat.intCast_eq_zero_iff.mp
  rw [e j hj]
  refine sm_zero fun i hi => ?_
  rw [z i hi]
  grind
theorem lkok_put (K : LKOk N G kp) (h6 : G.length + 1 ≤ 6) (hb : ∀ j, (row.getD j 0).natAbs ≤ XW) (S : LwSt N G kp row G.length cur) {p : Nat} (hp : p < N) (hn : cur.getD p 0 ≠ 0) : LKOk N (G ++ [row]) (kp ++ [(p, cur)]) := by
  have fe : ∀ i j, i < G.length → gz (G ++ [row]) i j = gz G i j := fun i j h => gz_append h
  have pe : ∀ l, l < G.length → lpv (kp ++ [(p, cur)]) l = lpv kp l := fun l h => by
    have h2 : l < kp.length := by rw [K.len]; exact h
    have e : (kp ++ [(p, cur)])[l]? = some kp[l] := by
      rw [List.getElem?_append_left h2]
      exact List.getElem?_eq_getElem h2
    rw [lpv_of e, lpv_of (List.getElem?_eq_getElem h2)]
  have pl : lpv (kp ++ [(p, cur)]) G.length = p := by
    have e : (kp ++ [(p, cur)])[G.length]? = some (p, cur) := by
      rw [← K.len, List.getElem?_append_right (Nat.le_refl _), Nat.sub_self]
      rfl
    rw [lpv_of e]
  obtain ⟨c0, c, h0, hc⟩ := S.rel
  refine ⟨by rw [List.length_append, List.length_append, K.len]; rfl, by rw [List.length_append]; exact h6, fun i j => ?_, fun t e he => ?_, fun t ht a ha => ?_⟩
  · by_cases h : i < G.length
    · rw [fe i j h]
      exact K.fb i j
    · by_cases h2 : i = G.length
      · rw [h2, gz_last]
        exact hb j
      · have e : gz (G ++ [row]) i j = 0 := by
          unfold gz
          rw [getD_of_le (xs := G ++ [row]) [] (by rw [List.length_append, List.length_singleton]; omega)]
          rfl
        rw [e]
        exact Nat.zero_le _
  · by_cases h : t < kp.length
    · rw [List.getElem?_append_left h] at he
      have E := K.ent t e he
      have ht : t < G.length := by rw [← K.len]; exact h
      obtain ⟨k0, k, hk0, hk⟩ := E.rel
      refine ⟨E.p, E.ol, E.nz, ⟨k0, k, hk0, fun j hj => ?_⟩, fun l hl => ?_, E.bi⟩
      · rw [hk j hj]
        dsimp only
        rw [fe t j ht]
        congr 1
        exact sm_congr fun i hi => by rw [fe i j (by omega)]
      · rw [pe l (by omega)]
        exact E.z l hl
    · rw [List.getElem?_append_right (by omega)] at he
      obtain ⟨e1, e2⟩ : t = G.length ∧ e = (p, cur) := by
        have hk := K.len
        cases q : t - kp.length with
        | zero =>
          rw [q] at he
          exact ⟨by omega, (Option.some.inj he).symm⟩
        | succ n =>
          rw [q] at he
          simp at he
      subst e1 e2
      refine ⟨hp, S.il, hn, ⟨c0, c, h0, fun j hj => ?_⟩, fun l hl => by rw [pe l hl]; exact S.z l hl, S.bi⟩
      rw [hc j hj]
      dsimp only
      rw [gz_last]
      congr 1
      exact sm_congr fun i hi => by rw [fe i j hi]
  · have ht' : t ≤ G.length + 1 := by
      rw [List.length_append] at ht
      exact ht
    by_cases h : t ≤ G.length
    · refine K.nd t h a fun l hl => ?_
      have q := ha l hl
      rw [pe l (by omega)] at q
      rw [← q]
      exact sm_congr fun i hi => by rw [fe i _ (by omega)]
    · have e : t = G.length + 1 := by omega
      subst e
      have z : ∀ i, i < G.length → a i - a G.length / c0 * c i = 0 := K.nd G.length (Nat.le_refl _) (fun i => a i - a G.length / c0 * c i) fun l hl => by
        have q : sm (fun i => a i * (gz (G ++ [row]) i (lpv (kp ++ [(p, cur)]) l) : Rat)) G.length + a G.length * (gz (G ++ [row]) G.length (lpv (kp ++ [(p, cur)]) l) : Rat) = 0 := ha l (by omega)
        rw [pe l hl, gz_last] at q
        have e1 : sm (fun i => a i * (gz (G ++ [row]) i (lpv kp l) : Rat)) G.length = sm (fun i => a i * (gz G i (lpv kp l) : Rat)) G.length := sm_congr fun i hi => by rw [fe i _ hi]
        rw [e1] at q
        have r := hc (lpv kp l) (K.pvlt hl)
        rw [S.z l hl] at r
        have e0 : ((0 : Int) : Rat) = 0 := rfl
        rw [e0] at r
        have e2 : sm (fun i => (a i - a G.length / c0 * c i) * (gz G i (lpv kp l) : Rat)) G.length = sm (fun i => a i * (gz G i (lpv kp l) : Rat)) G.length - (a G.length / c0) * sm (fun i => c i * (gz G i (lpv kp l) : Rat)) G.length := by
          rw [← sm_mul, ← sm_sub]
          exact sm_congr fun i _ => by grind
        rw [e2]
        grind
      have al : a G.length = 0 := by
        have q : sm (fun i => a i * (gz (G ++ [row]) i (lpv (kp ++ [(p, cur)]) G.length) : Rat)) G.length + a G.length * (gz (G ++ [row]) G.length (lpv (kp ++ [(p, cur)]) G.length) : Rat) = 0 := ha G.length (by omega)
        rw [pl, gz_last] at q
        have e1 : sm (fun i => a i * (gz (G ++ [row]) i p : Rat)) G.length = (a G.length / c0) * sm (fun i => c i * (gz G i p : Rat)) G.length := by
          rw [← sm_mul]
          refine sm_congr fun i hi => ?_
          have := z i hi
          rw [fe i _ hi]
          grind
        rw [e1] at q
        have r := hc p hp
        have nr : ((cur.getD p 0 : Int) : Rat) ≠ 0 := fun z => hn (Rat.intCast_eq_zero_iff.mp z)
        have q2 : (a G.length / c0) * ((cur.getD p 0 : Int) : Rat) = 0 := by
          rw [r]
          grind
        rcases Rat.mul_eq_zero.mp q2 with h1 | h1
        · grind
        · exact absurd h1 nr
      intro i hi
      by_cases h2 : i = G.length
      · rw [h2]
        exact al
      · have := z i (by omega)
        rw [al] at this
        grind
end

/-! ### which messages the law keeps -/
theorem transfer {m : Mach} {A B : List (List Nat)} {c : Nat → Rat} (h : ∀ j, j < A.length → c j ≠ 0 → hd A j ∈ B) : ∃ d : Nat → Rat, (∀ i, i < B.length → d i ≠ 0 → ∃ j, j < A.length ∧ c j ≠ 0 ∧ hd A j = hd B i) ∧
    ∀ w, sm (fun j => c j * wt m (hd A j) w) A.length = sm (fun i => d i * wt m (hd B i) w) B.length := by
  have hs : ∃ σ : Nat → Nat, ∀ j, j < A.length → c j ≠ 0 → σ j < B.length ∧ hd B (σ j) = hd A j :=
    ⟨fun j => Classical.epsilon fun i => i < B.length ∧ hd B i = hd A j, fun j hj hc => Classical.epsilon_spec (hd_of (h j hj hc))⟩
  obtain ⟨σ, hσ⟩ := hs
  refine ⟨fun i => sm (fun j => if σ j = i then c j else 0) A.length, fun i hi hne => ?_, fun w => ?_⟩
  · have : ∃ j, j < A.length ∧ σ j = i ∧ c j ≠ 0 := by
      apply Classical.byContradiction
      intro hn
      refine hne (sm_zero fun j hj => ?_)
      by_cases q : σ j = i
      · rw [if_pos q]
        exact Classical.byContradiction fun hc => hn ⟨j, hj, q, hc⟩
      · exact if_neg q
    obtain ⟨j, hj, q, hc⟩ := this
    exact ⟨j, hj, hc, by rw [← q]; exact ((hσ j hj hc).2).symm⟩
  · have e : sm (fun i => sm (fun j => if σ j = i then c j else 0) A.length * wt m (hd B i) w) B.length = sm (fun i => sm (fun j => (if σ j = i then c j else 0) * wt m (hd B i) w) A.length) B.length := sm_congr fun i _ => (sm_mulr _ _ _).symm
    rw [e, sm_comm]
    refine sm_congr fun j hj => ?_
    by_cases hc : c j = 0
    · rw [hc, sm_zero fun i _ => by split <;> grind]
      grind
    · obtain ⟨h1, h2⟩ := hσ j hj hc
      rw [sm_one (p := σ j) h1 fun i _ hne => by rw [if_neg (Ne.symm hne)]; grind, if_pos rfl, h2]
/-- the law's table: integers that are the worths, row by row and column by column times a number -/
structure LTab (m : Mach) (ms : List (List Nat)) (hr : List Nat → List Int) : Prop where
  len : ∀ u ∈ ms, (hr u).length = ms.length
  b : ∀ u ∈ ms, ∀ j, ((hr u).getD j 0).natAbs ≤ XW
  v : ∃ (K κ : List Nat → Rat), (∀ u, K u ≠ 0) ∧ (∀ u, κ u ≠ 0) ∧ ∀ u ∈ ms, ∀ j, j < ms.length → (((hr u).getD j 0 : Int) : Rat) = K u * κ (hd ms j) * wt m u (hd ms j)
theorem gz_map {hr : List Nat → List Int} {f : List (List Nat)} {i j : Nat} (h : i < f.length) : gz (f.map hr) i j = (hr (hd f i)).getD j 0 := by
  unfold gz
  have e : (f.map hr).getD i [] = hr (hd f i) := by
    unfold hd
    rw [getD_of_lt [] (by rw [List.length_map]; exact h), getD_of_lt [] h, List.getElem_map]
  rw [e]
section
variable {m : Mach} {hs : List (List Nat)} {tb : List (List (List Rat))} {hr : List Nat → List Int}
/-- in the law's table a message is free of the free ones ahead exactly if it is a head -/
theorem law_free (ok : m.Ok) (hsg : m.signs.Pairwise (· < ·)) (H : HOk m hs tb) (hle : hs.length ≤ m.n) {C : List (List Rat)} (F : FreeC m C) (T : LTab m (msgs m.signs m.n) hr) {t : Nat} (ht : t < (msgs m.signs m.n).length) :
    LSpan (msgs m.signs m.n).length ((((msgs m.signs m.n).take t).filter fun u => decide (u ∈ hs)).map hr) (hr ((msgs m.signs m.n)[t])) ↔ (msgs m.signs m.n)[t] ∉ hs := by
  have up := msgs_up hsg m.n
  generalize hms : msgs m.signs m.n = ms at ht T up ⊢
  have memms : ∀ u, u ∈ ms ↔ u.length < m.n ∧ ∀ s ∈ u, s ∈ m.signs := fun u => by rw [← hms]; exact msgs_mem
  generalize hf : (ms.take t).filter (fun u => decide (u ∈ hs)) = f
  have fm : ∀ x, x ∈ f ↔ x ∈ ms.take t ∧ x ∈ hs := fun x => by rw [← hf, List.mem_filter, decide_eq_true_iff]
  have ftk : ∀ x ∈ f, x ∈ ms := fun x hx => List.mem_of_mem_take ((fm x).mp hx).1
  have flt : ∀ x ∈ f, lt x ms[t] := fun x hx => by
    obtain ⟨i, hi, e⟩ := List.getElem_of_mem ((fm x).mp hx).1
    rw [List.length_take] at hi
    rw [List.getElem_take] at e
    rw [← e]
    exact up.get (by omega) ht
  obtain ⟨K, κ, hK, hκ, hv⟩ := T.v
  have hu : ms[t] ∈ ms := List.getElem_mem ht
  have lf : (f.map hr).length = f.length := List.length_map ..
  constructor
  · rintro ⟨c, hc⟩ hmem
    refine H.head_free hmem ?_
    -- the relation on the messages of the table
    have r1 : ∀ j, j < ms.length → wt m ms[t] (hd ms j) = sm (fun i => (c i * K (hd f i) / K ms[t]) * wt m (hd f i) (hd ms j)) f.length := fun j hj => by
      have h1 := hc j hj
      rw [lf, hv _ hu j hj] at h1
      have e1 : sm (fun i => c i * (gz (f.map hr) i j : Rat)) f.length = κ (hd ms j) * sm (fun i => c i * K (hd f i) * wt m (hd f i) (hd ms j)) f.length := by
        rw [← sm_mul]
        refine sm_congr fun i hi => ?_
        rw [gz_map hi, hv _ (ftk _ (hd_mem hi)) j hj]
        grind
      have e2 : sm (fun i => (c i * K (hd f i) / K ms[t]) * wt m (hd f i) (hd ms j)) f.length = (1 / K ms[t]) * sm (fun i => c i * K (hd f i) * wt m (hd f i) (hd ms j)) f.length := by
        rw [← sm_mul]
        exact sm_congr fun i _ => by grind
      rw [e1] at h1
      rw [e2]
      have a := hK ms[t]
      have b := hκ (hd ms j)
      grind
    obtain ⟨ws, rfl, hws⟩ := F.ws
    have r2 : ∀ w, Wd m w → wt m ms[t] w = sm (fun i => (c i * K (hd f i) / K ms[t]) * wt m (hd f i) w) f.length := fun w hw => by
      have h := rel_all ok F (a := fun i => match i with | 0 => -1 | i + 1 => c i * K (hd f i) / K ms[t]) (us := fun i => match i with | 0 => ms[t] | i + 1 => hd f i) (k := f.length + 1) (fun j hj => by
        rw [sm_skip (p := 0) (Nat.succ_pos _)]
        show (-1 : Rat) * wt m ms[t] (ws.getD j []) + sm (fun i => (c i * K (hd f i) / K ms[t]) * wt m (hd f i) (ws.getD j [])) f.length = 0
        have hm : ws.getD j [] ∈ ms := by
          rw [getD_of_lt [] hj]
          have := hws _ (List.getElem_mem hj)
          exact (memms _).mpr ⟨this.2, this.1⟩
        obtain ⟨q, hq, e⟩ := hd_of hm
        rw [← e, r1 q hq]
        grind) w hw
      rw [sm_skip (p := 0) (Nat.succ_pos _)] at h
      have h' : (-1 : Rat) * wt m ms[t] w + sm (fun i => (c i * K (hd f i) / K ms[t]) * wt m (hd f i) w) f.length = 0 := h
      grind
    obtain ⟨d, hd1, hd2⟩ := transfer (m := m) (A := f) (B := hs) (c := fun i => c i * K (hd f i) / K ms[t]) fun j hj _ => ((fm _).mp (hd_mem hj)).2
    refine ⟨d, fun i hi hne => ?_, fun w hw => by rw [r2 w hw]; exact hd2 w⟩
    obtain ⟨j, hj, _, e⟩ := hd1 i hi hne
    rw [← e]
    exact flt _ (hd_mem hj)
  · intro hn
    have wd : Wd m ms[t] := ((memms _).mp hu).2
    rcases H.claim ok _ _ rfl wd with h | ⟨c, h1, h2⟩
    · exact absurd h hn
    · obtain ⟨d, _, hd2⟩ := transfer (m := m) (A := hs) (B := f) (c := c) fun j hj hne => by
        refine (fm _).mpr ⟨?_, hd_mem hj⟩
        have hl := H.len j hj
        have hjm : hd hs j ∈ ms := (memms _).mpr ⟨by omega, H.wd _ (hd_mem hj)⟩
        obtain ⟨q, hq, e⟩ := List.getElem_of_mem hjm
        have hqt : q < t := by
          apply Classical.byContradiction
          intro hge
          have l1 := h1 j hj hne
          rw [← e] at l1
          by_cases h : q = t
          · subst h
            exact lt_irrefl _ l1
          · exact lt_irrefl _ (lt_trans l1 (up.get (by omega) hq))
        rw [← e]
        exact List.mem_iff_getElem.mpr ⟨q, by rw [List.length_take]; omega, by rw [List.getElem_take]⟩
      refine ⟨fun i => d i * K ms[t] / K (hd f i), fun j hj => ?_⟩
      have hwj : Wd m (hd ms j) := ((memms _).mp (hd_mem hj)).2
      rw [lf, hv _ hu j hj, h2 _ hwj, hd2, ← sm_mul]
      refine sm_congr fun i hi => ?_
      rw [gz_map hi, hv _ (ftk _ (hd_mem hi)) j hj]
      have a := hK (hd f i)
      grind
end
end Tw

/-! The search for free columns, in plain words. -/
namespace Tw
theorem InSpan.snoc {m : Nat} {F : List (List Rat)} {r x : List Rat} (h : InSpan m F r) : InSpan m (F ++ [x]) r := by
  obtain ⟨c, hc⟩ := h
  refine ⟨fun i => if i < F.length then c i else 0, fun j hj => ?_⟩
  rw [List.length_append, List.length_singleton, hc j hj]
  show _ = sm (fun i => (if i < F.length then c i else 0) * fq (F ++ [x]) i j) F.length + (if F.length < F.length then c F.length else 0) * fq (F ++ [x]) F.length j
  have e : sm (fun i => (if i < F.length then c i else 0) * fq (F ++ [x]) i j) F.length = sm (fun i => c i * fq F i j) F.length := sm_congr fun i hi => by rw [if_pos hi, fq_append hi]
  rw [if_neg (Nat.lt_irrefl _), e]
  grind
theorem InSpan.last {m : Nat} {F : List (List Rat)} {r : List Rat} : InSpan m (F ++ [r]) r := by
  refine ⟨fun i => if i < F.length then 0 else 1, fun j hj => ?_⟩
  rw [List.length_append, List.length_singleton]
  show _ = sm (fun i => (if i < F.length then 0 else 1) * fq (F ++ [r]) i j) F.length + (if F.length < F.length then 0 else 1) * fq (F ++ [r]) F.length j
  have e : sm (fun i => (if i < F.length then 0 else 1) * fq (F ++ [r]) i j) F.length = 0 := sm_zero fun i hi => by rw [if_pos hi]; grind
  rw [if_neg (Nat.lt_irrefl _), fq_last, e]
  grind
theorem InSpan.eq {m : Nat} {F : List (List Rat)} {r x : List Rat} (h : InSpan m F r) (e : r = x) : InSpan m F x := e ▸ h
abbrev cols (m : Mach) (ws : List (List Nat)) : List (List Rat) := ws.map (colL m)
/-- ahead of a level -/
structure FcSt (m : Mach) (lev : Nat) (ws pend : List (List Nat)) : Prop where
  pl : ∀ w ∈ pend, Wd m w ∧ w.length = lev
  wl : ∀ w ∈ ws, Wd m w ∧ w.length < m.n
  lw : pend ≠ [] → lev ≤ ws.length
  le : ws.length ≤ m.n
  en : [] ∈ pend ∨ InSpan m.n (cols m ws) m.en
  cl : ∀ w ∈ ws, ∀ s ∈ m.signs, (s :: w) ∈ pend ∨ InSpan m.n (cols m ws) (colL m (s :: w))
/-- amid a level -/
structure FcIn (m : Mach) (lev k : Nat) (rest ws ls : List (List Nat)) : Prop where
  pl : ∀ w ∈ rest, Wd m w ∧ w.length = lev
  wl : ∀ w ∈ ws, Wd m w ∧ w.length < m.n
  ll : ∀ w ∈ ls, Wd m w ∧ w.length = lev + 1
  kl : lev ≤ k
  gr : k ≤ ws.length
  gl : ls ≠ [] → k < ws.length
  lb : ls.length ≤ m.signs.length * ws.length
  le : ws.length ≤ m.n
  en : [] ∈ rest ∨ InSpan m.n (cols m ws) m.en
  cl : ∀ w ∈ ws, ∀ s ∈ m.signs, (s :: w) ∈ rest ∨ (s :: w) ∈ ls ∨ InSpan m.n (cols m ws) (colL m (s :: w))
theorem fc_start (m : Mach) : FcSt m 0 [] [[]] where
  pl := fun w h => by rw [List.mem_singleton.mp h]; exact ⟨Wd.nil m, rfl⟩
  wl := fun w h => nomatch h
  lw := fun _ => Nat.zero_le _
  le := Nat.zero_le _
  en := .inl List.mem_cons_self
  cl := fun w h => nomatch h
theorem fc_in {m : Mach} {lev : Nat} {ws pend : List (List Nat)} (S : FcSt m lev ws pend) (hne : pend ≠ []) : FcIn m lev ws.length pend ws [] where
  pl := S.pl
  wl := S.wl
  ll := fun w h => nomatch h
  kl := S.lw hne
  gr := Nat.le_refl _
  gl := fun h => absurd rfl h
  lb := Nat.zero_le _
  le := S.le
  en := S.en
  cl := fun w hw s hs => (S.cl w hw s hs).elim .inl fun h => .inr (.inr h)
theorem cols_snoc (m : Mach) (ws : List (List Nat)) (w : List Nat) : cols m (ws ++ [w]) = cols m ws ++ [colL m w] := by
  show List.map _ _ = List.map _ _ ++ _
  rw [List.map_append]
  rfl
/-- the column is free -/
theorem fc_put {m : Mach} {lev k : Nat} {w : List Nat} {rest ws ls : List (List Nat)} (ok : m.Ok) (S : FcIn m lev k (w :: rest) ws ls) (hi : Indep m.n (cols m (ws ++ [w]))) : FcIn m lev k rest (ws ++ [w]) (ls ++ m.signs.map fun s => s :: w) := by
  obtain ⟨hw, hl⟩ := S.pl w List.mem_cons_self
  have hle : ws.length + 1 ≤ m.n := by
    have := hi.le
    rwa [List.length_map, List.length_append, List.length_singleton] at this
  have g := S.gr
  have kl := S.kl
  refine ⟨fun v h => S.pl v (List.mem_cons_of_mem _ h), fun v h => ?_, fun v h => ?_, S.kl, ?_, fun _ => ?_, ?_, ?_, ?_, fun v h s hs => ?_⟩
  · rcases List.mem_append.mp h with h | h
    · exact S.wl v h
    · rw [List.mem_singleton.mp h]
      exact ⟨hw, by omega⟩
  · rcases List.mem_append.mp h with h | h
    · exact S.ll v h
    · obtain ⟨s, hs, rfl⟩ := List.mem_map.mp h
      exact ⟨Wd.cons hs hw, by rw [List.length_cons, hl]⟩
  · rw [List.length_append]; omega
  · rw [List.length_append, List.length_singleton]; omega
  · rw [List.length_append, List.length_append, List.length_map, List.length_singleton, Nat.mul_add, Nat.mul_one]
    exact Nat.add_le_add_right S.lb _
  · rw [List.length_append]; exact hle
  · rw [cols_snoc]
    rcases S.en with h | h
    · rcases List.mem_cons.mp h with h | h
      · rw [← h]
        exact .inr ((InSpan.last).eq (colL_nil ok))
      · exact .inl h
    · exact .inr h.snoc
  · rw [cols_snoc]
    rcases List.mem_append.mp h with h | h
    · rcases S.cl v h s hs with q | q | q
      · rcases List.mem_cons.mp q with q | q
        · rw [q]
          exact .inr (.inr InSpan.last)
        · exact .inl q
      · exact .inr (.inl (List.mem_append_left _ q))
      · exact .inr (.inr q.snoc)
    · rw [List.mem_singleton.mp h]
      exact .inr (.inl (List.mem_append_right _ (List.mem_map.mpr ⟨s, hs, rfl⟩)))
/-- the column is told by those found -/
theorem fc_skip {m : Mach} {lev k : Nat} {w : List Nat} {rest ws ls : List (List Nat)} (ok : m.Ok) (S : FcIn m lev k (w :: rest) ws ls) (hi : InSpan m.n (cols m ws) (colL m w)) : FcIn m lev k rest ws ls where
  pl := fun v h => S.pl v (List.mem_cons_of_mem _ h)
  wl := S.wl
  ll := S.ll
  kl := S.kl
  gr := S.gr
  gl := S.gl
  lb := S.lb
  le := S.le
  en := by
    rcases S.en with h | h
    · rcases List.mem_cons.mp h with h | h
      · rw [← h] at hi
        exact .inr (hi.eq (colL_nil ok))
      · exact .inl h
    · exact .inr h
  cl := fun v hv s hs => by
    rcases S.cl v hv s hs with q | q | q
    · rcases List.mem_cons.mp q with q | q
      · rw [q]
        exact .inr (.inr hi)
      · exact .inl q
    · exact .inr (.inl q)
    · exact .inr (.inr q)
theorem fc_next {m : Mach} {lev k : Nat} {ws ls : List (List Nat)} (S : FcIn m lev k [] ws ls) : FcSt m (lev + 1) ws ls where
  pl := S.ll
  wl := S.wl
  lw := fun h => by have := S.gl h; have := S.kl; omega
  le := S.le
  en := S.en.elim (fun h => nomatch h) .inr
  cl := fun w hw s hs => (S.cl w hw s hs).elim (fun h => nomatch h) id
theorem fc_done {m : Mach} {lev : Nat} {ws : List (List Nat)} (ok : m.Ok) (S : FcSt m lev ws []) (hi : Indep m.n (cols m ws)) : FreeC m (cols m ws) where
  ws := ⟨ws, rfl, S.wl⟩
  ind := hi
  e := S.en.elim (fun h => nomatch h) id
  cl := fun w hw s hs => by
    obtain ⟨v, hv, e⟩ := List.mem_map.mp hw
    have h1 := (S.cl v hv s hs).elim (fun h => nomatch h) id
    refine h1.eq ?_
    rw [← step_col ok v s, ← step_col ok w s, e]
end Tw

/-! The form of a machine, in plain words. -/
namespace Tw
abbrev rhos (m : Mach) (ws hs : List (List Nat)) : List (List Rat) := hs.map (rho m ws)
/-- c tells what u is worth by the heads, or says that u is one -/
structure RowP (m : Mach) (ws hs : List (List Nat)) (u : List Nat) (c : List Rat) : Prop where
  len : c.length ≤ hs.length
  x : ∃ X : Nat, 0 < X ∧ X ≤ Bd ∧ ∀ q ∈ c, RB X Bd q
  rel : ∀ j, j < ws.length → wt m u (ws.getD j []) = sm (fun t => c.getD t 0 * wt m (hd hs t) (ws.getD j [])) hs.length
  alt : (∃ j, hs[j]? = some u ∧ ∀ j', c.getD j' 0 = if j' = j then 1 else 0) ∨ (u ∉ hs ∧ ∀ j, c.getD j 0 ≠ 0 → lt (hd hs j) u)
theorem hd_app {hs : List (List Nat)} {v : List Nat} {t : Nat} (h : t < hs.length) : hd (hs ++ [v]) t = hd hs t := by
  unfold hd
  rw [List.getD_eq_getElem?_getD, List.getD_eq_getElem?_getD, List.getElem?_append_left h]
theorem hd_end {hs : List (List Nat)} {v : List Nat} : hd (hs ++ [v]) hs.length = v := by
  unfold hd
  rw [List.getD_eq_getElem?_getD, List.getElem?_append_right (Nat.le_refl _), Nat.sub_self]
  rfl
theorem RowP.more {m : Mach} {ws hs : List (List Nat)} {u v : List Nat} {c : List Rat} (h : RowP m ws hs u c) (hv : lt u v) : RowP m ws (hs ++ [v]) u c where
  len := by rw [List.length_append]; have := h.len; omega
  x := h.x
  rel := fun j hj => by
    rw [h.rel j hj, List.length_append, List.length_singleton]
    show _ = sm (fun t => c.getD t 0 * wt m (hd (hs ++ [v]) t) (ws.getD j [])) hs.length + c.getD hs.length 0 * wt m (hd (hs ++ [v]) hs.length) (ws.getD j [])
    have e : sm (fun t => c.getD t 0 * wt m (hd (hs ++ [v]) t) (ws.getD j [])) hs.length = sm (fun t => c.getD t 0 * wt m (hd hs t) (ws.getD j [])) hs.length := sm_congr fun t ht => by rw [hd_app ht]
    rw [e, getD_of_le 0 h.len]
    grind
  alt := by
    rcases h.alt with ⟨j, h1, h2⟩ | ⟨h1, h2⟩
    · exact .inl ⟨j, by rw [List.getElem?_append_left (List.getElem?_eq_some_iff.mp h1).1]; exact h1, h2⟩
    · refine .inr ⟨fun z => ?_, fun j hj => ?_⟩
      · rcases List.mem_append.mp z with z | z
        · exact h1 z
        · rw [List.mem_singleton.mp z] at hv
          exact lt_irrefl _ hv
      · have hl : j < c.length := by
          rcases Nat.lt_or_ge j c.length with q | q
          · exact q
          · exact absurd (getD_of_le 0 q) hj
        rw [hd_app (Nat.lt_of_lt_of_le hl h.len)]
        exact h2 j hj
/-- how far the table is: i places are done, at the next one k signs are -/
def Dn (i k i' k' : Nat) : Prop := i' < i ∨ (i' = i ∧ k' < k)
structure FmSt (m : Mach) (ws hs : List (List Nat)) (tb : List (List (List Rat))) (nb : List (List Rat)) : Prop where
  up : Up hs
  wd : ∀ h ∈ hs, Wd m h
  e0 : hs[0]? = some []
  cd : ∀ h ∈ hs, h = [] ∨ ∃ i k s, Dn tb.length nb.length i k ∧ m.signs[k]? = some s ∧ h = hd hs i ++ [s]
  ln : ∀ i, i < hs.length → (hd hs i).length ≤ i
  pre : ∀ i, 0 < i → i < hs.length → ∃ p s, p < i ∧ s ∈ m.signs ∧ hd hs i = hd hs p ++ [s]
  il : tb.length ≤ hs.length
  tk : ∀ i, i < tb.length → (tb.getD i []).length = m.signs.length
  rp : ∀ i k s, Dn tb.length nb.length i k → m.signs[k]? = some s → RowP m ws hs (hd hs i ++ [s]) (((tb ++ [nb]).getD i []).getD k [])
section
variable {m : Mach} {ws hs : List (List Nat)} {tb : List (List (List Rat))} {nb : List (List Rat)} {s : Nat} {c : List Rat}
theorem fm_start : FmSt m ws [[]] [] [] where
  up := List.pairwise_singleton _ _
  wd := fun h hh => by rw [List.mem_singleton.mp hh]; exact Wd.nil m
  e0 := rfl
  cd := fun h hh => .inl (List.mem_singleton.mp hh)
  ln := fun i hi => by
    have : i = 0 := by rw [List.length_singleton] at hi; omega
    rw [this]
    exact Nat.le_refl _
  pre := fun i h1 h2 => by rw [List.length_singleton] at h2; omega
  il := Nat.zero_le _
  tk := fun i h => absurd h (Nat.not_lt_zero _)
  rp := fun i k s h => by rcases h with h | h; exact absurd h (Nat.not_lt_zero _); exact absurd h.2 (Nat.not_lt_zero _)
theorem FmSt.hne (S : FmSt m ws hs tb nb) : 0 < hs.length := (List.getElem?_eq_some_iff.mp S.e0).1
theorem sg_lt (hsg : m.signs.Pairwise (· < ·)) {k k' a b : Nat} (h : k < k') (ha : m.signs[k]? = some a) (hb : m.signs[k']? = some b) : a < b := by
  obtain ⟨h1, e1⟩ := List.getElem?_eq_some_iff.mp ha
  obtain ⟨h2, e2⟩ := List.getElem?_eq_some_iff.mp hb
  rw [← e1, ← e2]
  exact List.pairwise_iff_getElem.mp hsg k k' h1 h2 h
/-- candidates grow -/
theorem cand_lt (hsg : m.signs.Pairwise (· < ·)) (up : Up hs) {i k i' k' a b : Nat} (hi : i < hs.length) (h : Dn i k i' k') (ha : m.signs[k']? = some a) (hb : m.signs[k]? = some b) : lt (hd hs i' ++ [a]) (hd hs i ++ [b]) := by
  rcases h with h | ⟨h1, h2⟩
  · refine lt_snoc a b ?_
    have := up.get h hi
    unfold hd
    rw [getD_of_lt [] hi, getD_of_lt [] (by omega)]
    exact this
  · rw [h1]
    exact lt_last _ (sg_lt hsg h2 ha hb)
/-- every head lies before the next candidate -/
theorem FmSt.below (hsg : m.signs.Pairwise (· < ·)) (S : FmSt m ws hs tb nb) (hi : tb.length < hs.length) (hs' : m.signs[nb.length]? = some s) : ∀ h ∈ hs, lt h (hd hs tb.length ++ [s]) := fun h hh => by
  rcases S.cd h hh with e | ⟨i, k, a, hd', ha, e⟩
  · rw [e]
    exact .inl (by rw [List.length_append, List.length_singleton]; exact Nat.zero_lt_succ _)
  · rw [e]
    exact cand_lt hsg S.up hi hd' ha hs'
theorem getD_snoc {α : Type} {xs : List α} {x d : α} {i : Nat} : (xs ++ [x]).getD i d = if i < xs.length then xs.getD i d else if i = xs.length then x else d := by
  rw [List.getD_eq_getElem?_getD]
  by_cases h : i < xs.length
  · rw [if_pos h, List.getElem?_append_left h, List.getD_eq_getElem?_getD]
  · rw [if_neg h, List.getElem?_append_right (by omega)]
    by_cases q : i = xs.length
    · rw [if_pos q, q, Nat.sub_self]
      rfl
    · rw [if_neg q, List.getElem?_eq_none (by rw [List.length_singleton]; omega)]
      rfl
/-- what was done is kept where one more row is told -/
theorem tl_old {i k : Nat} (h : Dn tb.length nb.length i k) : ((tb ++ [nb ++ [c]]).getD i []).getD k [] = ((tb ++ [nb]).getD i []).getD k [] := by
  rw [getD_snoc, getD_snoc]
  rcases h with h | ⟨h1, h2⟩
  · rw [if_pos h, if_pos h]
  · rw [if_neg (by omega), if_pos h1, if_neg (by omega), if_pos h1, getD_snoc, if_pos h2]
theorem tl_new : ((tb ++ [nb ++ [c]]).getD tb.length []).getD nb.length [] = c := by
  rw [getD_snoc, if_neg (Nat.lt_irrefl _), if_pos rfl, getD_snoc, if_neg (Nat.lt_irrefl _), if_pos rfl]
theorem dn_snoc {i k i' k' : Nat} (h : Dn i (k + 1) i' k') : Dn i k i' k' ∨ (i' = i ∧ k' = k) := by
  rcases h with h | ⟨h1, h2⟩
  · exact .inl (.inl h)
  · rcases Nat.lt_or_eq_of_le (Nat.le_of_lt_succ h2) with q | q
    · exact .inl (.inr ⟨h1, q⟩)
    · exact .inr ⟨h1, q⟩
/-- the candidate is told by the heads -/
theorem fm_told (hsg : m.signs.Pairwise (· < ·)) (S : FmSt m ws hs tb nb) (hi : tb.length < hs.length) (hs' : m.signs[nb.length]? = some s) (hl : c.length = hs.length) (hx : ∃ X : Nat, 0 < X ∧ X ≤ Bd ∧ ∀ q ∈ c, RB X Bd q)
    (hr : ∀ j, j < ws.length → (rho m ws (hd hs tb.length ++ [s])).getD j 0 = sm (fun t => c.getD t 0 * fq (rhos m ws hs) t j) hs.length) : FmSt m ws hs tb (nb ++ [c]) where
  up := S.up
  wd := S.wd
  e0 := S.e0
  cd := fun h hh => (S.cd h hh).imp id fun ⟨i, k, a, d, e⟩ => ⟨i, k, a, d.imp id fun ⟨x, y⟩ => ⟨x, by rw [List.length_append, List.length_singleton]; omega⟩, e⟩
  ln := S.ln
  pre := S.pre
  il := S.il
  tk := S.tk
  rp := fun i k a d ha => by
    rw [List.length_append, List.length_singleton] at d
    rcases dn_snoc d with d | ⟨h1, h2⟩
    · rw [tl_old d]
      exact S.rp i k a d ha
    · subst h1 h2
      rw [tl_new]
      have e : a = s := by rw [hs'] at ha; exact (Option.some.inj ha).symm
      subst e
      have bl := S.below hsg hi hs'
      refine ⟨Nat.le_of_eq hl, hx, fun j hj => ?_, .inr ⟨fun z => lt_irrefl _ (bl _ z), fun j hj => ?_⟩⟩
      · rw [← rho_at hj, hr j hj]
        refine sm_congr fun t ht => ?_
        have : fq (rhos m ws hs) t j = wt m (hd hs t) (ws.getD j []) := by
          unfold fq rhos
          rw [getD_of_lt [] (by rw [List.length_map]; exact ht), List.getElem_map, rho_at hj]
          unfold hd
          rw [getD_of_lt [] ht]
        rw [this]
      · have : j < c.length := by
          rcases Nat.lt_or_ge j c.length with q | q
          · exact q
          · exact absurd (getD_of_le 0 q) hj
        exact bl _ (hd_mem (by omega))
/-- the candidate is a head -/
theorem fm_head (hsg : m.signs.Pairwise (· < ·)) (S : FmSt m ws hs tb nb) (hi : tb.length < hs.length) (hs' : m.signs[nb.length]? = some s) : FmSt m ws (hs ++ [hd hs tb.length ++ [s]]) tb (nb ++ [List.replicate hs.length 0 ++ [1]]) := by
  have bl := S.below hsg hi hs'
  have sm' : s ∈ m.signs := List.mem_of_getElem? hs'
  have wu : Wd m (hd hs tb.length ++ [s]) := (S.wd _ (hd_mem hi)).snoc sm'
  have ha : ∀ {i}, i < hs.length → hd (hs ++ [hd hs tb.length ++ [s]]) i = hd hs i := fun h => hd_app h
  have cat : ∀ j', (List.replicate hs.length (0 : Rat) ++ [1]).getD j' 0 = if j' = hs.length then 1 else 0 := fun j' => by
    rw [getD_snoc, List.length_replicate]
    split
    · rw [if_neg (by omega), List.getD_eq_getElem?_getD, List.getElem?_replicate]
      split <;> rfl
    · rfl
  refine ⟨?_, ?_, ?_, ?_, ?_, ?_, ?_, S.tk, ?_⟩
  · refine List.pairwise_append.mpr ⟨S.up, List.pairwise_singleton _ _, fun a h b hb => ?_⟩
    rw [List.mem_singleton.mp hb]
    exact bl a h
  · intro h hh
    rcases List.mem_append.mp hh with hh | hh
    · exact S.wd h hh
    · rw [List.mem_singleton.mp hh]; exact wu
  · rw [List.getElem?_append_left S.hne]
    exact S.e0
  · intro h hh
    rcases List.mem_append.mp hh with hh | hh
    · refine (S.cd h hh).imp id fun ⟨i, k, a, d, e1, e2⟩ => ⟨i, k, a, d.imp id fun ⟨x, y⟩ => ⟨x, by rw [List.length_append, List.length_singleton]; omega⟩, e1, ?_⟩
      rw [ha (by rcases d with d | d <;> omega)]
      exact e2
    · refine .inr ⟨tb.length, nb.length, s, .inr ⟨rfl, by rw [List.length_append, List.length_singleton]; omega⟩, hs', ?_⟩
      rw [List.mem_singleton.mp hh, ha hi]
  · intro i h
    rw [List.length_append, List.length_singleton] at h
    by_cases q : i < hs.length
    · rw [ha q]
      exact S.ln i q
    · have e : i = hs.length := by omega
      subst e
      rw [hd_end, List.length_append, List.length_singleton]
      have := S.ln _ hi
      omega
  · intro i h0 h
    rw [List.length_append, List.length_singleton] at h
    by_cases q : i < hs.length
    · obtain ⟨p, a, h1, h2, h3⟩ := S.pre i h0 q
      exact ⟨p, a, h1, h2, by rw [ha q, ha (by omega)]; exact h3⟩
    · have e : i = hs.length := by omega
      subst e
      exact ⟨tb.length, s, hi, sm', by rw [hd_end, ha hi]⟩
  · rw [List.length_append, List.length_singleton]
    have := S.il
    omega
  · intro i k a d hk
    rw [List.length_append, List.length_singleton] at d
    rcases dn_snoc d with d | ⟨h1, h2⟩
    · rw [tl_old d, ha (by rcases d with d | d <;> omega)]
      exact (S.rp i k a d hk).more (cand_lt hsg S.up hi d hk hs')
    · subst h1 h2
      have e : a = s := by rw [hs'] at hk; exact (Option.some.inj hk).symm
      subst e
      rw [tl_new, ha hi]
      refine ⟨by rw [List.length_append, List.length_append, List.length_replicate]; exact Nat.le_refl _, ⟨1, by decide, Nat.one_le_two_pow, fun q hq => ?_⟩, fun j hj => ?_, .inl ⟨hs.length, ?_, cat⟩⟩
      · rcases List.mem_append.mp hq with hq | hq
        · rw [(List.mem_replicate.mp hq).2]
          exact RB.zero _ _
        · rw [List.mem_singleton.mp hq]
          exact ⟨1, by show (1 : Rat) = _; grind, Nat.one_le_two_pow⟩
      · rw [List.length_append, List.length_singleton]
        show _ = sm _ hs.length + _
        rw [sm_zero fun t ht => by rw [cat t, if_neg (by omega)]; grind]
        show _ = 0 + (List.replicate hs.length (0 : Rat) ++ [1]).getD hs.length 0 * wt m (hd (hs ++ [hd hs tb.length ++ [a]]) hs.length) (ws.getD j [])
        rw [cat, if_pos rfl, hd_end]
        grind
      · rw [List.getElem?_append_right (Nat.le_refl _), Nat.sub_self]
        rfl
/-- a place is done -/
theorem fm_place (S : FmSt m ws hs tb nb) (hi : tb.length < hs.length) (hk : nb.length = m.signs.length) : FmSt m ws hs (tb ++ [nb]) [] := by
  have hl : (tb ++ [nb]).length = tb.length + 1 := by rw [List.length_append]; rfl
  have dn : ∀ {i k a}, m.signs[k]? = some a → (Dn (tb ++ [nb]).length 0 i k ↔ Dn tb.length nb.length i k) := fun {i k a} ha => by
    have : k < m.signs.length := (List.getElem?_eq_some_iff.mp ha).1
    rw [hl]
    unfold Dn
    omega
  refine ⟨S.up, S.wd, S.e0, fun h hh => (S.cd h hh).imp id fun ⟨i, k, a, d, e1, e2⟩ => ⟨i, k, a, (dn e1).mpr d, e1, e2⟩, S.ln, S.pre, by rw [hl]; exact hi, fun i h => ?_, fun i k a d ha => ?_⟩
  · rw [getD_snoc]
    rw [hl] at h
    by_cases q : i < tb.length
    · rw [if_pos q]; exact S.tk i q
    · rw [if_neg q, if_pos (by omega)]; exact hk
  · have d2 := (dn ha).mp d
    have h2 : i < (tb ++ [nb]).length := by rw [hl]; rcases d2 with d2 | d2 <;> omega
    rw [getD_snoc, if_pos h2]
    exact S.rp i k a d2 ha
/-! ### done -/
def padR (n : Nat) (c : List Rat) : List Rat := c ++ List.replicate (n - c.length) 0
def padT (n : Nat) (tb : List (List (List Rat))) : List (List (List Rat)) := tb.map fun nb => nb.map (padR n)
theorem padR_at (n : Nat) (c : List Rat) (j : Nat) : (padR n c).getD j 0 = c.getD j 0 := by
  unfold padR
  rw [List.getD_eq_getElem?_getD, List.getD_eq_getElem?_getD]
  by_cases h : j < c.length
  · rw [List.getElem?_append_left h]
  · rw [List.getElem?_append_right (by omega), List.getElem?_eq_none (by omega : c.length ≤ j), List.getElem?_replicate]
    split <;> rfl
theorem padR_len {n : Nat} {c : List Rat} (h : c.length ≤ n) : (padR n c).length = n := by
  unfold padR
  rw [List.length_append, List.length_replicate]
  omega
theorem padT_at (n i k : Nat) (tb : List (List (List Rat))) (hi : i < tb.length) (hk : k < (tb.getD i []).length) : ((padT n tb).getD i []).getD k [] = padR n ((tb.getD i []).getD k []) := by
  have e1 : (padT n tb).getD i [] = (tb.getD i []).map (padR n) := getD_map' _ tb i [] [] rfl
  rw [e1, getD_of_lt [] (by rw [List.length_map]; exact hk), List.getElem_map, getD_of_lt [] hk]
theorem wt_all (ok : m.Ok) (F : FreeC m (cols m ws)) {u : List Nat} {c : Nat → Rat} (h : ∀ j, j < ws.length → wt m u (ws.getD j []) = sm (fun t => c t * wt m (hd hs t) (ws.getD j [])) hs.length) : ∀ w, Wd m w → wt m u w = sm (fun t => c t * wt m (hd hs t) w) hs.length := fun w hw => by
  have e : ∀ v, sm (fun i => (fun i => if i < hs.length then c i else -1) i * wt m ((fun i => if i < hs.length then hd hs i else u) i) v) (hs.length + 1) = sm (fun t => c t * wt m (hd hs t) v) hs.length - wt m u v := fun v => by
    show sm (fun i => (if i < hs.length then c i else -1) * wt m (if i < hs.length then hd hs i else u) v) hs.length + (if hs.length < hs.length then c hs.length else -1) * wt m (if hs.length < hs.length then hd hs hs.length else u) v = _
    have e1 : sm (fun i => (if i < hs.length then c i else -1) * wt m (if i < hs.length then hd hs i else u) v) hs.length = sm (fun t => c t * wt m (hd hs t) v) hs.length := sm_congr fun i hi => by rw [if_pos hi, if_pos hi]
    rw [e1, if_neg (Nat.lt_irrefl _), if_neg (Nat.lt_irrefl _)]
    grind
  have key := rel_all ok F (a := fun i => if i < hs.length then c i else -1) (us := fun i => if i < hs.length then hd hs i else u) (k := hs.length + 1) (fun j hj => by rw [e, h j hj]; grind) w hw
  rw [e] at key
  grind
theorem ws_wd (F : FreeC m (cols m ws)) (hw : ∀ w ∈ ws, Wd m w ∧ w.length < m.n) : ∀ j, j < ws.length → Wd m (ws.getD j []) := fun j hj => by
  rw [getD_of_lt [] hj]
  exact (hw _ (List.getElem_mem hj)).1
theorem rhos_at {i j : Nat} (hi : i < hs.length) (hj : j < ws.length) : fq (rhos m ws hs) i j = wt m (hd hs i) (ws.getD j []) := by
  unfold fq rhos
  rw [getD_of_lt [] (by rw [List.length_map]; exact hi), List.getElem_map, rho_at hj]
  unfold hd
  rw [getD_of_lt [] hi]
theorem fm_done (ok : m.Ok) (F : FreeC m (cols m ws)) (hw : ∀ w ∈ ws, Wd m w ∧ w.length < m.n) (S : FmSt m ws hs tb []) (hi : tb.length = hs.length) (ind : Indep ws.length (rhos m ws hs)) : HOk m hs (padT hs.length tb) := by
  have kl : ∀ i, i < hs.length → (tb.getD i []).length = m.signs.length := fun i h => S.tk i (by omega)
  have rp : ∀ i k s, i < hs.length → m.signs[k]? = some s → RowP m ws hs (hd hs i ++ [s]) ((tb.getD i []).getD k []) := fun i k s h1 h2 => by
    have := S.rp i k s (.inl (by omega)) h2
    rw [getD_snoc, if_pos (by omega)] at this
    exact this
  have t3 : ∀ i k s j, i < hs.length → m.signs[k]? = some s → T3 (padT hs.length tb) i k j = ((tb.getD i []).getD k []).getD j 0 := fun i k s j h1 h2 => by
    unfold T3
    rw [padT_at _ _ _ _ (by omega) (by rw [kl i h1]; exact (List.getElem?_eq_some_iff.mp h2).1), padR_at]
  refine ⟨S.up, S.wd, fun _ => S.e0, fun h => ?_, S.pre, ?_, fun i h => ?_, fun i k h1 h2 => ?_, fun i k s h1 h2 w hw' => ?_, fun i k s h1 h2 => ?_, fun a ha j hj => ?_⟩
  · have := S.hne
    rw [h] at this
    exact absurd this (Nat.lt_irrefl _)
  · unfold padT
    rw [List.length_map, hi]
  · rw [show (padT hs.length tb).getD i [] = (tb.getD i []).map (padR hs.length) from getD_map' _ tb i [] [] rfl, List.length_map, kl i h]
  · rw [padT_at _ _ _ _ (by omega) (by rw [kl i h1]; exact h2)]
    exact padR_len (rp i k _ h1 (List.getElem?_eq_getElem h2)).len
  · rw [sm_congr (g := fun t => ((tb.getD i []).getD k []).getD t 0 * wt m (hd hs t) w) fun t _ => by rw [t3 i k s t h1 h2]]
    exact wt_all ok F (rp i k s h1 h2).rel w hw'
  · rcases (rp i k s h1 h2).alt with ⟨j, e1, e2⟩ | ⟨e1, e2⟩
    · exact .inl ⟨j, e1, fun j' _ => by rw [t3 i k s j' h1 h2, e2]⟩
    · exact .inr ⟨e1, fun j _ hj => e2 j (by rw [← t3 i k s j h1 h2]; exact hj)⟩
  · refine ind a (fun i hi' => ?_) j (by rw [List.length_map]; exact hj)
    rw [List.length_map]
    rw [← ha _ (ws_wd F hw i hi')]
    exact sm_congr fun t ht => by rw [rhos_at ht hi']
/-- no head at all -/
theorem fm_none (ok : m.Ok) (F : FreeC m (cols m ws)) (h : InSpan ws.length [] (rho m ws [])) : HOk m [] [] where
  up := List.Pairwise.nil
  wd := fun _ h => nomatch h
  e0 := fun h => absurd rfl h
  en := fun _ w hw => by
    obtain ⟨c, hc⟩ := h
    have := wt_all (hs := []) (u := []) (c := fun _ => 0) ok F (fun j hj => by rw [← rho_at hj, hc j hj]; rfl) w hw
    exact this
  pre := fun i _ h => absurd h (Nat.not_lt_zero _)
  tl := rfl
  tk := fun i h => absurd h (Nat.not_lt_zero _)
  tj := fun i k h => absurd h (Nat.not_lt_zero _)
  rel := fun i k s h => absurd h (Nat.not_lt_zero _)
  row := fun i k s h => absurd h (Nat.not_lt_zero _)
  ind := fun a _ j h => absurd h (Nat.not_lt_zero _)
end
end Tw

/-! The machine of a form, in plain words. -/
namespace Tw
abbrev RoadT := Nat × Nat × Nat × Rat
/-- the roads of one place and sign, told up to j -/
def rdJ (i s : Nat) (row : List Rat) (j : Nat) : List RoadT := (List.range j).filterMap fun t => if row.getD t 0 = 0 then none else some (i, s, t, row.getD t 0)
def rdK (sg : List Nat) (i : Nat) (nb : List (List Rat)) (k : Nat) : List RoadT := (List.range k).flatMap fun t => rdJ i (sg.getD t 0) (nb.getD t []) (nb.getD t []).length
def rdI (sg : List Nat) (tb : List (List (List Rat))) (i : Nat) : List RoadT := (List.range i).flatMap fun t => rdK sg t (tb.getD t []) sg.length
theorem rdJ_succ (i s : Nat) (row : List Rat) (j : Nat) : rdJ i s row (j + 1) = rdJ i s row j ++ (if row.getD j 0 = 0 then [] else [(i, s, j, row.getD j 0)]) := by
  unfold rdJ
  rw [List.range_succ, List.filterMap_append]
  congr 1
  rw [List.filterMap_cons]
  split
  · rename_i h
    split at h
    · rename_i q; rw [if_pos q]; rfl
    · cases h
  · rename_i h
    split at h
    · cases h
    · rename_i q
      cases h
      rw [if_neg q]
      rfl
theorem rdK_succ (sg : List Nat) (i : Nat) (nb : List (List Rat)) (k : Nat) : rdK sg i nb (k + 1) = rdK sg i nb k ++ rdJ i (sg.getD k 0) (nb.getD k []) (nb.getD k []).length := by
  unfold rdK
  rw [List.range_succ, List.flatMap_append]
  congr 1
  rw [List.flatMap_cons, List.flatMap_nil, List.append_nil]
theorem rdI_succ (sg : List Nat) (tb : List (List (List Rat))) (i : Nat) : rdI sg tb (i + 1) = rdI sg tb i ++ rdK sg i (tb.getD i []) sg.length := by
  unfold rdI
  rw [List.range_succ, List.flatMap_append]
  congr 1
  rw [List.flatMap_cons, List.flatMap_nil, List.append_nil]
theorem rdJ_len (i s : Nat) (row : List Rat) (j : Nat) : (rdJ i s row j).length ≤ j := by
  unfold rdJ
  exact Nat.le_trans (List.length_filterMap_le _ _) (Nat.le_of_eq List.length_range)
theorem rdK_len (sg : List Nat) (i : Nat) (nb : List (List Rat)) {n : Nat} (h : ∀ k, (nb.getD k []).length ≤ n) : ∀ k, (rdK sg i nb k).length ≤ k * n
  | 0 => Nat.zero_le _
  | k + 1 => by
    rw [rdK_succ, List.length_append, Nat.add_mul, Nat.one_mul]
    exact Nat.add_le_add (rdK_len sg i nb h k) (Nat.le_trans (rdJ_len _ _ _ _) (h k))
theorem rdI_len (sg : List Nat) (tb : List (List (List Rat))) {n : Nat} (h : ∀ i k, ((tb.getD i []).getD k []).length ≤ n) : ∀ i, (rdI sg tb i).length ≤ i * (sg.length * n)
  | 0 => Nat.zero_le _
  | i + 1 => by
    rw [rdI_succ, List.length_append, Nat.add_mul, Nat.one_mul]
    exact Nat.add_le_add (rdI_len sg tb h i) (rdK_len sg i _ (h i) _)
theorem mem_rdI {sg : List Nat} {tb : List (List (List Rat))} {n : Nat} {r : RoadT} (h : r ∈ rdI sg tb n) : ∃ i k j, i < n ∧ k < sg.length ∧ j < ((tb.getD i []).getD k []).length ∧ r = (i, sg.getD k 0, j, T3 tb i k j) := by
  obtain ⟨i, hi, h⟩ := List.mem_flatMap.mp h
  obtain ⟨k, hk, h⟩ := List.mem_flatMap.mp h
  obtain ⟨j, hj, h⟩ := List.mem_filterMap.mp h
  split at h
  · cases h
  · cases h
    exact ⟨i, k, j, List.mem_range.mp hi, List.mem_range.mp hk, List.mem_range.mp hj, rfl⟩
/-- what the roads with sign s bring back to i -/
def stS (roads : List RoadT) (s : Nat) (v : Nat → Rat) (i : Nat) : Rat := stepF (swp (roads.filterMap fun r => if r.2.1 = s then some (r.1, r.2.2.1, r.2.2.2) else none)) v i
theorem stepF_app (a b : List Edge) (v : Nat → Rat) (i : Nat) : stepF (a ++ b) v i = stepF a v i + stepF b v i := by
  induction a with
  | nil => show _ = 0 + _; rw [Rat.zero_add]; rfl
  | cons e a ih =>
    show (if e.2.1 = i then v e.1 * e.2.2 else 0) + stepF (a ++ b) v i = (if e.2.1 = i then v e.1 * e.2.2 else 0) + stepF a v i + stepF b v i
    rw [ih, Rat.add_assoc]
theorem stS_app (a b : List RoadT) (s : Nat) (v : Nat → Rat) (i : Nat) : stS (a ++ b) s v i = stS a s v i + stS b s v i := by
  unfold stS swp
  rw [List.filterMap_append, List.map_append, stepF_app]
theorem stS_one (r : RoadT) (s : Nat) (v : Nat → Rat) (i : Nat) : stS [r] s v i = if r.2.1 = s ∧ r.1 = i then v r.2.2.1 * r.2.2.2 else 0 := by
  unfold stS
  by_cases h : r.2.1 = s
  · rw [List.filterMap_cons, if_pos h]
    show (if r.1 = i then v r.2.2.1 * r.2.2.2 else 0) + 0 = _
    by_cases q : r.1 = i
    · rw [if_pos q, if_pos ⟨h, q⟩, Rat.add_zero]
    · rw [if_neg q, if_neg (fun z => q z.2), Rat.add_zero]
  · rw [List.filterMap_cons, if_neg h, if_neg (fun z => h z.1)]
    rfl
theorem stS_nil (s : Nat) (v : Nat → Rat) (i : Nat) : stS [] s v i = 0 := rfl
theorem stS_J (i' s' : Nat) (row : List Rat) (s : Nat) (v : Nat → Rat) (i : Nat) : ∀ n, stS (rdJ i' s' row n) s v i = if s' = s ∧ i' = i then sm (fun j => row.getD j 0 * v j) n else 0
  | 0 => by
    show (0 : Rat) = _
    split <;> rfl
  | n + 1 => by
    rw [rdJ_succ, stS_app, stS_J i' s' row s v i n]
    by_cases h : row.getD n 0 = 0
    · rw [if_pos h, stS_nil]
      split
      · show _ = sm _ n + row.getD n 0 * v n
        rw [h]; grind
      · grind
    · rw [if_neg h, stS_one]
      split
      · show _ = sm _ n + row.getD n 0 * v n
        grind
      · grind
theorem stS_K (sg : List Nat) (i' : Nat) (nb : List (List Rat)) (s : Nat) (v : Nat → Rat) (i : Nat) : ∀ n, stS (rdK sg i' nb n) s v i = sm (fun k => if sg.getD k 0 = s ∧ i' = i then sm (fun j => (nb.getD k []).getD j 0 * v j) (nb.getD k []).length else 0) n
  | 0 => rfl
  | n + 1 => by
    rw [rdK_succ, stS_app, stS_K sg i' nb s v i n, stS_J]
    rfl
theorem stS_I (sg : List Nat) (tb : List (List (List Rat))) (s : Nat) (v : Nat → Rat) (i : Nat) : ∀ n, stS (rdI sg tb n) s v i = sm (fun t => stS (rdK sg t (tb.getD t []) sg.length) s v i) n
  | 0 => rfl
  | n + 1 => by
    rw [rdI_succ, stS_app, stS_I sg tb s v i n]
    rfl
/-- the machine of the form -/
def mach2 (m : Mach) (hs : List (List Nat)) (tb : List (List (List Rat))) : Mach := ⟨m.signs, (List.range hs.length).map fun i => if i = 0 then 1 else 0, rdI m.signs tb tb.length, hs.map fun h => wt m h []⟩
section
variable {m : Mach} {hs : List (List Nat)} {tb : List (List (List Rat))}
theorem mach2_n : (mach2 m hs tb).n = hs.length := by
  show ((List.range hs.length).map _).length = _
  rw [List.length_map, List.length_range]
theorem HOk.t3len (H : HOk m hs tb) {i k : Nat} (hi : i < hs.length) (hk : k < m.signs.length) : ((tb.getD i []).getD k []).length = hs.length := H.tj i k hi hk
theorem mach2_ok (H : HOk m hs tb) : (mach2 m hs tb).Ok where
  el := by
    show (hs.map _).length = _
    rw [List.length_map, mach2_n]
  rd := fun r hr => by
    obtain ⟨i, k, j, hi, hk, hj, rfl⟩ := mem_rdI hr
    rw [H.tl] at hi
    rw [H.t3len hi hk] at hj
    rw [mach2_n]
    exact ⟨hi, by show m.signs.getD k 0 ∈ m.signs; rw [getD_of_lt 0 hk]; exact List.getElem_mem hk, hj⟩
theorem mach2_mir (hsg : m.signs.Pairwise (· < ·)) (H : HOk m hs tb) : Mir m (mach2 m hs tb) hs tb where
  ok := mach2_ok H
  n := mach2_n
  sg := rfl
  en := fun i hi => by
    show (hs.map fun h => wt m h []).getD i 0 = _
    rw [getD_of_lt 0 (by rw [List.length_map]; exact hi), List.getElem_map]
    unfold hd
    rw [getD_of_lt [] hi]
  st := fun k s hk v i hi => by
    obtain ⟨hk1, hk2⟩ := List.getElem?_eq_some_iff.mp hk
    have e0 : stepF (swp ((mach2 m hs tb).eds s)) v i = stS (rdI m.signs tb tb.length) s v i := rfl
    rw [e0, stS_I, H.tl, sm_one hi fun t ht hne => by
      rw [stS_K]
      exact sm_zero fun k' _ => if_neg fun z => hne z.2]
    rw [stS_K, sm_one hk1 fun k' hk' hne => if_neg fun z => by
      have z1 := z.1
      rw [getD_of_lt 0 hk', ← hk2] at z1
      rcases Nat.lt_or_ge k' k with q | q
      · have := List.pairwise_iff_getElem.mp hsg k' k hk' hk1 q
        omega
      · have := List.pairwise_iff_getElem.mp hsg k k' hk1 hk' (by omega)
        omega]
    rw [if_pos ⟨by rw [getD_of_lt 0 hk1, hk2], rfl⟩, H.t3len hi hk1]
    rfl
/-- one integer below all that the places tell at sign k -/
theorem x_all {k : Nat} (hb : ∀ i, ∃ X : Nat, 0 < X ∧ X ≤ Bd ∧ ∀ q ∈ (tb.getD i []).getD k [], q.den ∣ X) : ∀ n, ∃ X : Nat, 0 < X ∧ X ≤ Bd ^ n ∧ ∀ i, i < n → ∀ q ∈ (tb.getD i []).getD k [], q.den ∣ X
  | 0 => ⟨1, by decide, Nat.le_refl _, fun i h => absurd h (Nat.not_lt_zero _)⟩
  | n + 1 => by
    obtain ⟨X, h0, h1, h2⟩ := x_all hb n
    obtain ⟨Y, g0, g1, g2⟩ := hb n
    refine ⟨X * Y, Nat.mul_pos h0 g0, by rw [Nat.pow_succ]; exact Nat.mul_le_mul h1 g1, fun i hi q hq => ?_⟩
    rcases Nat.lt_or_ge i n with z | z
    · exact Nat.dvd_trans (h2 i z q hq) (Nat.dvd_mul_right _ _)
    · have e : i = n := by omega
      rw [e] at hq
      exact Nat.dvd_trans (g2 q hq) (Nat.dvd_mul_left _ _)
end
end Tw

/-! A logic over the readings: what is immutable (M), what is tracked (H); entries that names hold; resources that change. -/
namespace Tw
open PySem L2

structure Wo where
  M : Hp
  H : Hp
  sub : ∀ a o, M a = some o → H a = some o
/-- from a to b: only what is at S may have changed -/
structure LeX (S : List Addr) (a b : Wo) : Prop where
  m : ∀ x o, a.M x = some o → b.M x = some o
  h : ∀ x o, x ∉ S → a.H x = some o → b.H x = some o
  d : ∀ x, a.H x ≠ none → b.H x ≠ none
  v : ∀ x, a.H x ≠ none → a.M x = none → b.M x = none
theorem LeX.refl (S : List Addr) (a : Wo) : LeX S a a := ⟨fun _ _ h => h, fun _ _ _ h => h, fun _ h => h, fun _ _ h => h⟩
theorem LeX.trans {S : List Addr} {a b c : Wo} (x : LeX S a b) (y : LeX S b c) : LeX S a c :=
  ⟨fun p o h => y.m p o (x.m p o h), fun p o n h => y.h p o n (x.h p o n h), fun p h => y.d p (x.d p h), fun p h n => y.v p (x.d p h) (x.v p h n)⟩
theorem LeX.mono {S T : List Addr} {a b : Wo} (x : LeX S a b) (h : ∀ p ∈ S, p ∈ T) : LeX T a b := ⟨x.m, fun p o n e => x.h p o (fun z => n (h p z)) e, x.d, x.v⟩
theorem LeX.nil {T : List Addr} {a b : Wo} (x : LeX [] a b) : LeX T a b := x.mono fun _ h => nomatch h
theorem ne_none {H : Hp} {a : Addr} {o : HO} (h : H a = some o) : H a ≠ none := by rw [h]; exact fun z => nomatch z
/-- a new immutable object -/
def Wo.new (ω : Wo) (p : Addr) (o : HO) : Wo := ⟨upd ω.M p o, upd ω.H p o, fun a u h => by
  by_cases e : a = p
  · subst e
    rw [upd_same] at h ⊢
    exact h
  · rw [upd_ne e] at h ⊢
    exact ω.sub a u h⟩
theorem Wo.free {ω : Wo} {p : Addr} (h : ω.H p = none) : ω.M p = none := by
  cases q : ω.M p with
  | none => rfl
  | some o => rw [ω.sub p o q] at h; cases h
theorem Wo.new_le {ω : Wo} {p : Addr} {o : HO} (h : ω.H p = none) : LeX [] ω (ω.new p o) :=
  ⟨fun x u e => by
    show upd ω.M p o x = _
    rw [upd_ne (ne_of_none e (Wo.free h))]
    exact e, fun x u _ e => by
    show upd ω.H p o x = _
    rw [upd_ne (ne_of_none e h)]
    exact e, fun x hx => by
    show upd ω.H p o x ≠ none
    by_cases e : x = p
    · rw [e]; exact absurd h (by rw [← e]; exact hx)
    · rw [upd_ne e]; exact hx, fun x hx n => by
    show upd ω.M p o x = none
    rw [upd_ne (fun e => hx (by rw [e]; exact h))]
    exact n⟩
theorem Wo.new_at {ω : Wo} {p : Addr} {o : HO} : (ω.new p o).M p = some o := upd_same
/-- a new object that may change -/
def Wo.mut (ω : Wo) (p : Addr) (o : HO) (h : ω.M p = none) : Wo := ⟨ω.M, upd ω.H p o, fun a u e => by
  rw [upd_ne (ne_of_none e h)]
  exact ω.sub a u e⟩
theorem Wo.mut_le {ω : Wo} {p : Addr} {o : HO} (h : ω.H p = none) : LeX [] ω (ω.mut p o (Wo.free h)) :=
  ⟨fun _ _ e => e, fun x u _ e => by
    show upd ω.H p o x = _
    rw [upd_ne (ne_of_none e h)]
    exact e, fun x hx => by
    show upd ω.H p o x ≠ none
    by_cases e : x = p
    · rw [e, upd_same]; exact fun z => nomatch z
    · rw [upd_ne e]; exact hx, fun _ _ n => n⟩
theorem Wo.set_le {ω : Wo} {p : Addr} {o : HO} (h : ω.M p = none) : LeX [p] ω (ω.mut p o h) :=
  ⟨fun _ _ e => e, fun x u n e => by
    show upd ω.H p o x = _
    rw [upd_ne (fun z => n (by rw [z]; exact List.mem_singleton.mpr rfl))]
    exact e, fun x hx => by
    show upd ω.H p o x ≠ none
    by_cases e : x = p
    · rw [e, upd_same]; exact fun z => nomatch z
    · rw [upd_ne e]; exact hx, fun _ _ n => n⟩

/-! ### entries: what a value is, by what is immutable -/
structure En where
  r : V → Hp → Prop
  mono : ∀ v (M M' : Hp), (∀ x o, M x = some o → M' x = some o) → r v M → r v M'
def eLit (v : V) : En := ⟨fun x _ => x = v, fun _ _ _ _ h => h⟩
abbrev eI (i : Int) : En := eLit (.int i)
abbrev eS (s : Str) : En := eLit (.str s)
abbrev eB (b : Bool) : En := eLit (.bl b)
abbrev eN : En := eLit .non
abbrev eR (a : Addr) : En := eLit (.ref a)
def Args : List En → List V → Hp → Prop
  | [], [], _ => True
  | e :: es, v :: vs, M => e.r v M ∧ Args es vs M
  | _, _, _ => False
theorem Args.mono : ∀ {es : List En} {vs : List V} {M M' : Hp}, (∀ x o, M x = some o → M' x = some o) → Args es vs M → Args es vs M'
  | [], [], _, _, _, h => h
  | e :: es, v :: vs, _, _, k, h => ⟨e.mono v _ _ k h.1, Args.mono k h.2⟩
  | [], _ :: _, _, _, _, h => h.elim
  | _ :: _, [], _, _, _, h => h.elim
theorem Args.len : ∀ {es : List En} {vs : List V} {M : Hp}, Args es vs M → vs.length = es.length
  | [], [], _, _ => rfl
  | e :: es, v :: vs, _, h => congrArg (· + 1) (Args.len h.2)
  | [], _ :: _, _, h => h.elim
  | _ :: _, [], _, h => h.elim
theorem Args.get : ∀ {es : List En} {vs : List V} {M : Hp} {i : Nat} {e : En}, Args es vs M → es[i]? = some e → ∃ v, vs[i]? = some v ∧ e.r v M
  | [], [], _, _, _, _, h => by simp at h
  | e :: es, v :: vs, _, 0, _, h, q => ⟨v, rfl, by cases q; exact h.1⟩
  | e :: es, v :: vs, _, i + 1, _, h, q => by
    obtain ⟨w, a, b⟩ := Args.get (i := i) h.2 (by simpa using q)
    exact ⟨w, by simpa using a, b⟩
  | [], _ :: _, _, _, _, h, _ => h.elim
  | _ :: _, [], _, _, _, h, _ => h.elim
theorem Args.app : ∀ {es fs : List En} {vs ws : List V} {M : Hp}, Args es vs M → Args fs ws M → Args (es ++ fs) (vs ++ ws) M
  | [], _, [], _, _, _, h => h
  | e :: es, _, v :: vs, _, _, h, k => ⟨h.1, Args.app h.2 k⟩
  | [], _, _ :: _, _, _, h, _ => h.elim
  | _ :: _, _, [], _, _, h, _ => h.elim
theorem Args.set : ∀ {es : List En} {vs : List V} {M : Hp} {i : Nat} {e : En} {v : V}, Args es vs M → e.r v M → Args (es.set i e) (vs.set i v) M
  | [], [], _, _, _, _, h, _ => h
  | e :: es, v :: vs, _, 0, _, _, h, k => ⟨k, h.2⟩
  | e :: es, v :: vs, _, i + 1, _, _, h, k => ⟨h.1, Args.set h.2 k⟩
  | [], _ :: _, _, _, _, _, h, _ => h.elim
  | _ :: _, [], _, _, _, _, h, _ => h.elim
theorem Args.of : ∀ {es : List En} {vs : List V} {M : Hp}, vs.length = es.length → (∀ (i : Nat) (e : En) (v : V), es[i]? = some e → vs[i]? = some v → e.r v M) → Args es vs M
  | [], [], _, _, _ => trivial
  | e :: es, v :: vs, _, hl, h => ⟨h 0 e v rfl rfl, Args.of (by simpa using hl) fun i e' v' a b => h (i + 1) e' v' a b⟩
  | [], _ :: _, _, hl, _ => by simp at hl
  | _ :: _, [], _, hl, _ => by simp at hl
theorem Args.lits : ∀ {vs ws : List V} {M : Hp}, Args (vs.map eLit) ws M → ws = vs
  | [], [], _, _ => rfl
  | v :: vs, w :: ws, _, h => by rw [show w = v from h.1, Args.lits h.2]
  | [], _ :: _, _, h => h.elim
  | _ :: _, [], _, h => h.elim
theorem Args.lit : ∀ (vs : List V) (M : Hp), Args (vs.map eLit) vs M
  | [], _ => trivial
  | _ :: vs, M => ⟨rfl, Args.lit vs M⟩
def eTup (es : List En) : En := ⟨fun v M => ∃ a vs, v = .ref a ∧ M a = some (.tup vs) ∧ Args es vs M, fun _ _ _ k ⟨a, vs, h1, h2, h3⟩ => ⟨a, vs, h1, k _ _ h2, h3.mono k⟩⟩
def eLst (es : List En) : En := ⟨fun v M => ∃ a vs, v = .ref a ∧ M a = some (.lst vs) ∧ Args es vs M, fun _ _ _ k ⟨a, vs, h1, h2, h3⟩ => ⟨a, vs, h1, k _ _ h2, h3.mono k⟩⟩
/-- an instance of the class at C with these attributes, in this order -/
def eObj (C : Addr) (fs : List Str) (es : List En) : En := ⟨fun v M => ∃ a dx vs, v = .ref a ∧ M a = some (.ins C dx (fs.zip vs)) ∧ M dx = some (.own a) ∧ vs.length = fs.length ∧ Args es vs M,
  fun _ _ _ k ⟨a, dx, vs, h1, h2, h3, h4, h5⟩ => ⟨a, dx, vs, h1, k _ _ h2, k _ _ h3, h4, h5.mono k⟩⟩
/-- a dict with these keys, in this order -/
def eDct (ks : List Key) (es : List En) : En := ⟨fun v M => ∃ a vs, v = .ref a ∧ M a = some (.dK (ks.zip vs)) ∧ vs.length = ks.length ∧ Args es vs M,
  fun _ _ _ k ⟨a, vs, h1, h2, h3, h4⟩ => ⟨a, vs, h1, k _ _ h2, h3, h4.mono k⟩⟩
/-- a value of which only this is known -/
def eAny (α : Type) (p : α → Prop) (e : α → En) : En := ⟨fun v M => ∃ x, p x ∧ (e x).r v M, fun v M M' k ⟨x, h1, h2⟩ => ⟨x, h1, (e x).mono v M M' k h2⟩⟩
def eQ (q : Rat) : En := eTup [eI q.num, eI (q.den : Int)]
abbrev eQs (r : List Rat) : En := eLst (r.map eQ)
abbrev eIs (r : List Int) : En := eLst (r.map fun i => eI i)

/-! ### resources: what changes -/
structure Rs where
  ad : List Addr
  r : Wo → Prop
  st : ∀ ω ω' : Wo, r ω → (∀ x o, ω.M x = some o → ω'.M x = some o) → (∀ a ∈ ad, ω'.H a = ω.H a) → r ω'
abbrev adr (Δ : List Rs) : List Addr := Δ.flatMap Rs.ad
structure SatD (Δ : List Rs) (ω : Wo) : Prop where
  r : ∀ ρ ∈ Δ, ρ.r ω
  a : ∀ x ∈ adr Δ, ω.H x ≠ none ∧ ω.M x = none
  nd : (adr Δ).Nodup
theorem SatD.nil (ω : Wo) : SatD [] ω := ⟨fun _ h => (nomatch h), fun _ h => (nomatch h), List.nodup_nil⟩
theorem same_of {ω ω' : Wo} {S : List Addr} (l : LeX S ω ω') {a : Addr} (h : ω.H a ≠ none) (n : a ∉ S) : ω'.H a = ω.H a := by
  cases q : ω.H a with
  | none => exact absurd q h
  | some o => exact l.h a o n q
theorem SatD.le {Δ : List Rs} {ω ω' : Wo} (s : SatD Δ ω) (l : LeX [] ω ω') : SatD Δ ω' :=
  ⟨fun ρ h => ρ.st ω ω' (s.r ρ h) l.m fun a ha => same_of l (s.a a (List.mem_flatMap.mpr ⟨ρ, h, ha⟩)).1 (fun z => (nomatch z)), fun x h => ⟨l.d x (s.a x h).1, l.v x (s.a x h).1 (s.a x h).2⟩, s.nd⟩
def Sat (Γ : List (Option En)) (σ : L2.St) (M : Hp) : Prop := Γ.length = σ.length ∧ ∀ (i : Nat) (e : En), Γ[i]? = some (some e) → ∃ v, σ[i]? = some (some v) ∧ e.r v M
theorem Sat.mono {Γ : List (Option En)} {σ : L2.St} {M M' : Hp} (s : Sat Γ σ M) (k : ∀ x o, M x = some o → M' x = some o) : Sat Γ σ M' :=
  ⟨s.1, fun i e h => let ⟨v, a, b⟩ := s.2 i e h; ⟨v, a, e.mono v _ _ k b⟩⟩
theorem Sat.set {Γ : List (Option En)} {σ : L2.St} {M : Hp} (s : Sat Γ σ M) {i : Nat} {e : En} {v : V} (h : e.r v M) : Sat (Γ.set i (some e)) (σ.set i (some v)) M := by
  refine ⟨by rw [List.length_set, List.length_set]; exact s.1, fun j f hj => ?_⟩
  by_cases q : j = i
  · subst q
    have hl : j < Γ.length := by
      have := (List.getElem?_eq_some_iff.mp hj).1
      rw [List.length_set] at this
      exact this
    rw [List.getElem?_set_self hl] at hj
    cases hj
    exact ⟨v, List.getElem?_set_self (by rw [← s.1]; exact hl), h⟩
  · rw [List.getElem?_set_ne (Ne.symm q)] at hj ⊢
    exact s.2 j f hj
theorem Sat.wipe {Γ : List (Option En)} {σ : L2.St} {M : Hp} (s : Sat Γ σ M) (i : Nat) : Sat (Γ.set i none) (σ.set i none) M := by
  refine ⟨by rw [List.length_set, List.length_set]; exact s.1, fun j f hj => ?_⟩
  by_cases q : j = i
  · subst q
    have hl : j < Γ.length := by
      have := (List.getElem?_eq_some_iff.mp hj).1
      rw [List.length_set] at this
      exact this
    rw [List.getElem?_set_self hl] at hj
    cases hj
  · rw [List.getElem?_set_ne (Ne.symm q)] at hj ⊢
    exact s.2 j f hj
/-- Γ tells at least what Γ' tells -/
def Wk : List (Option En) → List (Option En) → Prop
  | [], [] => True
  | _ :: Γ, none :: Γ' => Wk Γ Γ'
  | x :: Γ, some e :: Γ' => x = some e ∧ Wk Γ Γ'
  | _, _ => False
theorem Wk.len : ∀ {Γ Γ' : List (Option En)}, Wk Γ Γ' → Γ'.length = Γ.length
  | [], [], _ => rfl
  | _ :: Γ, none :: Γ', h => congrArg (· + 1) (Wk.len (Γ := Γ) (Γ' := Γ') h)
  | _ :: Γ, some e :: Γ', h => congrArg (· + 1) (Wk.len (Γ := Γ) (Γ' := Γ') h.2)
  | [], none :: _, h => h.elim
  | [], some _ :: _, h => h.elim
  | _ :: _, [], h => h.elim
theorem Wk.get : ∀ {Γ Γ' : List (Option En)} {i : Nat} {e : En}, Wk Γ Γ' → Γ'[i]? = some (some e) → Γ[i]? = some (some e)
  | [], [], _, _, _, h => by simp at h
  | _ :: Γ, none :: Γ', 0, _, _, h => by simp at h
  | _ :: Γ, none :: Γ', i + 1, e, w, h => by
    have := Wk.get (Γ := Γ) (Γ' := Γ') (i := i) (e := e) w (by simpa using h)
    simpa using this
  | x :: Γ, some f :: Γ', 0, e, w, h => by
    rw [w.1]
    exact h
  | x :: Γ, some f :: Γ', i + 1, e, w, h => by
    have := Wk.get (Γ := Γ) (Γ' := Γ') (i := i) (e := e) w.2 (by simpa using h)
    simpa using this
  | [], none :: _, _, _, h, _ => h.elim
  | [], some _ :: _, _, _, h, _ => h.elim
  | _ :: _, [], _, _, h, _ => h.elim
theorem Sat.wk {Γ Γ' : List (Option En)} {σ : L2.St} {M : Hp} (s : Sat Γ σ M) (w : Wk Γ Γ') : Sat Γ' σ M := ⟨w.len.trans s.1, fun i e h => s.2 i e (w.get h)⟩

/-! ### what evaluates to what; at C may be changed -/
structure Ev (C : List Addr) (te : TE) (Γ : List (Option En)) (Δ : List Rs) (e : En) (Δ' : List Rs) : Prop where
  run : ∀ (σ : L2.St) (ω : Wo) (Q : VK), Sat Γ σ ω.M → SatD Δ ω → (∀ v ω', LeX C ω ω' → SatD Δ' ω' → e.r v ω'.M → Q v ω'.H) → te σ ω.H Q
structure EvT (C : List Addr) (tt : TT) (Γ : List (Option En)) (Δ : List Rs) (b : Bool) (Δ' : List Rs) : Prop where
  run : ∀ (σ : L2.St) (ω : Wo) (Q : Bool → Hp → Prop), Sat Γ σ ω.M → SatD Δ ω → (∀ ω', LeX C ω ω' → SatD Δ' ω' → Q b ω'.H) → tt σ ω.H Q
structure EvA (C : List Addr) (ta : TA) (Γ : List (Option En)) (Δ : List Rs) (es : List En) (Δ' : List Rs) : Prop where
  run : ∀ (σ : L2.St) (ω : Wo) (Q : List V → Hp → Prop), Sat Γ σ ω.M → SatD Δ ω → (∀ vs ω', LeX C ω ω' → SatD Δ' ω' → Args es vs ω'.M → Q vs ω'.H) → ta σ ω.H Q
structure EvO (C : List Addr) (to : TO) (Γ : List (Option En)) (Δ : List Rs) (o : Option Int) (Δ' : List Rs) : Prop where
  run : ∀ (σ : L2.St) (ω : Wo) (Q : Option Int → Hp → Prop), Sat Γ σ ω.M → SatD Δ ω → (∀ ω', LeX C ω ω' → SatD Δ' ω' → Q o ω'.H) → to σ ω.H Q
/-- operations on values -/
def Op2 (r : R2) (a b e : En) : Prop := ∀ x y (ω : Wo) (Q : VK), a.r x ω.M → b.r y ω.M → (∀ v ω', LeX [] ω ω' → e.r v ω'.M → Q v ω'.H) → r x y ω.H Q
def Op1 (r : V → Hp → VK → Prop) (a e : En) : Prop := ∀ x (ω : Wo) (Q : VK), a.r x ω.M → (∀ v ω', LeX [] ω ω' → e.r v ω'.M → Q v ω'.H) → r x ω.H Q
def OpC (r : List V → Hp → VK → Prop) (es : List En) (e : En) : Prop := ∀ vs (ω : Wo) (Q : VK), Args es vs ω.M → (∀ v ω', LeX [] ω ω' → e.r v ω'.M → Q v ω'.H) → r vs ω.H Q
/-- the promise of a def, where it is handed es and hands back e, nothing that stood changed -/
def SpOk (sp : Sp) (es : List En) (e : En) : Prop := ∀ vs (ω : Wo) (Q : VK) (E : XK), Args es vs ω.M → (∀ v ω', LeX [] ω ω' → e.r v ω'.M → Q v ω'.H) → sp vs ω.H Q E

section
variable {C : List Addr} {Γ : List (Option En)} {Δ Δ1 Δ2 Δ3 : List Rs} {a b e e' : En} {ta tb tc te : TE} {t u : TT} {K : PySem.W.Frag} {es fs : List En}
theorem Ev.le {v : V} {ω ω' : Wo} (l : LeX [] ω ω') (h : e.r v ω.M) : e.r v ω'.M := e.mono v _ _ l.m h
theorem ev_var {i : Nat} (h : Γ[i]? = some (some e)) : Ev C (tVar i) Γ Δ e Δ := ⟨fun σ ω Q s d k => by
  obtain ⟨v, h1, h2⟩ := s.2 i e h
  exact ⟨v, h1, k v ω (LeX.refl _ _) d h2⟩⟩
theorem ev_c {v : V} : Ev C (tC v) Γ Δ (eLit v) Δ := ⟨fun σ ω Q s d k => k v ω (LeX.refl _ _) d rfl⟩
theorem ev_is (h : Ev C te Γ Δ e Δ1) (q : e = e') : Ev C te Γ Δ e' Δ1 := q ▸ h
theorem ev_op {r : R2} (ha : Ev C ta Γ Δ a Δ1) (hb : Ev C tb Γ Δ1 b Δ2) (hr : Op2 r a b e) : Ev C (tOp r ta tb) Γ Δ e Δ2 := ⟨fun σ ω Q s d k =>
  ha.run σ ω _ s d fun x ω1 l1 d1 hx => hb.run σ ω1 _ (s.mono l1.m) d1 fun y ω2 l2 d2 hy => hr x y ω2 Q (a.mono _ _ _ l2.m hx) hy fun v ω3 l3 hv => by
    exact k v ω3 ((l1.trans l2).trans l3.nil) (d2.le l3) hv⟩
theorem ev_un {r : V → Hp → VK → Prop} (ha : Ev C ta Γ Δ a Δ1) (hr : Op1 r a e) : Ev C (tUn r ta) Γ Δ e Δ1 := ⟨fun σ ω Q s d k =>
  ha.run σ ω _ s d fun x ω1 l1 d1 hx => hr x ω1 Q hx fun v ω2 l2 hv => k v ω2 (l1.trans l2.nil) (d1.le l2) hv⟩
theorem ea_nil : EvA C tNil Γ Δ [] Δ := ⟨fun σ ω Q s d k => k [] ω (LeX.refl _ _) d trivial⟩
theorem ea_cons {tr : TA} (ha : Ev C ta Γ Δ a Δ1) (hr : EvA C tr Γ Δ1 es Δ2) : EvA C (tCons ta tr) Γ Δ (a :: es) Δ2 := ⟨fun σ ω Q s d k =>
  ha.run σ ω _ s d fun x ω1 l1 d1 hx => hr.run σ ω1 _ (s.mono l1.m) d1 fun xs ω2 l2 d2 hxs => by
    exact k (x :: xs) ω2 (l1.trans l2) d2 ⟨a.mono _ _ _ l2.m hx, hxs⟩⟩
theorem eo_none : EvO C tNoPart Γ Δ none Δ := ⟨fun σ ω Q s d k => k ω (LeX.refl _ _) d⟩
theorem eo_some {i : Int} (h : Ev C te Γ Δ (eI i) Δ1) : EvO C (tPart te) Γ Δ (some i) Δ1 := ⟨fun σ ω Q s d k => h.run σ ω _ s d fun x ω1 l1 d1 hx => ⟨i, hx, k ω1 l1 d1⟩⟩
theorem ev_cb {r : List V → Hp → VK → Prop} {ta : TA} (h : EvA C ta Γ Δ es Δ1) (hr : OpC r es e) : Ev C (tCB r ta) Γ Δ e Δ1 := ⟨fun σ ω Q s d k =>
  h.run σ ω _ s d fun vs ω1 l1 d1 hvs => hr vs ω1 Q hvs fun v ω2 l2 hv => k v ω2 (l1.trans l2.nil) (d1.le l2) hv⟩
theorem ev_call {sp : Sp} {E : XK} {ta : TA} (h : EvA C ta Γ Δ es Δ1) (hs : SpOk sp es e) : Ev C (tCall sp [] E ta) Γ Δ e Δ1 := ⟨fun σ ω Q s d k =>
  h.run σ ω _ s d fun vs ω1 l1 d1 hvs => by
    show sp (vs ++ []) ω1.H Q E
    rw [List.append_nil]
    exact hs vs ω1 Q E hvs fun v ω2 l2 hv => k v ω2 (l1.trans l2.nil) (d1.le l2) hv⟩
theorem new_in {o : HO} {ω : Wo} {p : Addr} (hp : ω.H p = none) : LeX [] ω (ω.new p o) := Wo.new_le hp
theorem sz (n : Nat) (h : n ≤ 100000) : n ≤ sizeLine := Nat.le_trans h (by decide)
theorem ev_tup {ta : TA} (h : EvA C ta Γ Δ es Δ1) (hl : es.length ≤ 100000 := by exact Nat.le_of_ble_eq_true rfl) : Ev C (tTup ta) Γ Δ (eTup es) Δ1 := ⟨fun σ ω Q s d k =>
  h.run σ ω _ s d fun vs ω1 l1 d1 hvs => ⟨sz _ (by rw [hvs.len]; exact hl), fun p hp =>
    k (.ref p) (ω1.new p (.tup vs)) (l1.trans (Wo.new_le hp).nil) (d1.le (Wo.new_le hp)) ⟨p, vs, rfl, Wo.new_at, hvs.mono (Wo.new_le hp).m⟩⟩⟩
theorem ev_lst {ta : TA} (h : EvA C ta Γ Δ es Δ1) (hl : es.length ≤ 100000 := by exact Nat.le_of_ble_eq_true rfl) : Ev C (tLst ta) Γ Δ (eLst es) Δ1 := ⟨fun σ ω Q s d k =>
  h.run σ ω _ s d fun vs ω1 l1 d1 hvs => ⟨sz _ (by rw [hvs.len]; exact hl), fun p hp =>
    k (.ref p) (ω1.new p (.lst vs)) (l1.trans (Wo.new_le hp).nil) (d1.le (Wo.new_le hp)) ⟨p, vs, rfl, Wo.new_at, hvs.mono (Wo.new_le hp).m⟩⟩⟩

/-! ### operators -/
theorem op_I0 {g : Int → Int → V} {i j : Int} : Op2 (rI0 g) (eI i) (eI j) (eLit (g i j)) := fun x y ω Q hx hy k => ⟨i, j, hx, hy, k _ ω (LeX.refl _ _) rfl⟩
theorem op_I {C : Int → Int → Prop} {g : Int → Int → V} {i j : Int} (h : C i j) : Op2 (rI C g) (eI i) (eI j) (eLit (g i j)) := fun x y ω Q hx hy k => ⟨i, j, hx, hy, h, k _ ω (LeX.refl _ _) rfl⟩
theorem op_U {g : Int → V} {i : Int} : Op1 (rU g) (eI i) (eLit (g i)) := fun x ω Q hx k => ⟨i, hx, k _ ω (LeX.refl _ _) rfl⟩
theorem op_Eq {v w : V} (h : scal v w = true) : Op2 rEq (eLit v) (eLit w) (eB (decide (v = w))) := fun x y ω Q hx hy k => by
  cases (show x = v from hx); cases (show y = w from hy)
  exact ⟨h, k _ ω (LeX.refl _ _) rfl⟩
theorem op_Ne {v w : V} (h : scal v w = true) : Op2 rNe (eLit v) (eLit w) (eB (!decide (v = w))) := fun x y ω Q hx hy k => by
  cases (show x = v from hx); cases (show y = w from hy)
  exact ⟨h, k _ ω (LeX.refl _ _) rfl⟩
theorem op_ixL {j : Nat} (h : es[j]? = some e) : Op2 (rIxL K) (eLst es) (eI (j : Int)) e := fun x y ω Q hx hy k => by
  obtain ⟨p, vs, rfl, hp, hv⟩ := hx
  obtain ⟨v, h1, h2⟩ := hv.get h
  exact ⟨p, vs, j, v, rfl, hy, SqL.of (ω.sub _ _ hp), atI_nat h1, k v ω (LeX.refl _ _) h2⟩
theorem op_ixT {j : Nat} (h : es[j]? = some e) : Op2 (rIxT K) (eTup es) (eI (j : Int)) e := fun x y ω Q hx hy k => by
  obtain ⟨p, vs, rfl, hp, hv⟩ := hx
  obtain ⟨v, h1, h2⟩ := hv.get h
  exact ⟨p, vs, j, v, rfl, hy, SqT.of (ω.sub _ _ hp), atI_nat h1, k v ω (LeX.refl _ _) h2⟩
theorem op_cat' (h : es.length + fs.length ≤ 100000) : Op2 rCat (eLst es) (eLst fs) (eLst (es ++ fs)) := fun x y ω Q hx hy k => by
  obtain ⟨p, vs, rfl, hp, hv⟩ := hx
  obtain ⟨q, ws, rfl, hq, hw⟩ := hy
  exact ⟨p, q, vs, ws, rfl, rfl, ω.sub _ _ hp, ω.sub _ _ hq, sz _ (by rw [hv.len, hw.len]; exact h), fun c hc => k _ (ω.new c (.lst (vs ++ ws))) (Wo.new_le hc) ⟨c, _, rfl, Wo.new_at, (hv.app hw).mono (Wo.new_le hc).m⟩⟩
theorem op_len {r : List V → Hp → VK → Prop} (hr : ∀ p ys H Q, H p = some (.lst ys) → Q (.int ys.length) H → r [.ref p] H Q) : OpC r [eLst es] (eI (es.length : Int)) := fun vs ω Q h k => by
  match vs, h with
  | [v], ⟨⟨p, ws, e1, hp, hw⟩, _⟩ =>
    subst e1
    refine hr p ws ω.H Q (ω.sub _ _ hp) ?_
    rw [hw.len]
    exact k _ ω (LeX.refl _ _) rfl

/-! ### tests -/
theorem et_test {c : Bool} (h : Ev C te Γ Δ (eB c) Δ1) : EvT C (tTest te) Γ Δ c Δ1 := ⟨fun σ ω Q s d k => h.run σ ω _ s d fun x ω1 l1 d1 hx => ⟨c, hx, k ω1 l1 d1⟩⟩
theorem et_B {c : Bool} (h : Ev C te Γ Δ (eB c) Δ1) : EvT C (tB te) Γ Δ c Δ1 := ⟨fun σ ω Q s d k => h.run σ ω _ s d fun x ω1 l1 d1 hx => ⟨c, hx, k ω1 l1 d1⟩⟩
theorem et_not {c : Bool} (h : EvT C t Γ Δ c Δ1) : EvT C (tNot t) Γ Δ (!c) Δ1 := ⟨fun σ ω Q s d k => h.run σ ω _ s d fun ω1 l1 d1 => k ω1 l1 d1⟩
theorem et_is {c c' : Bool} (h : EvT C t Γ Δ c Δ1) (q : c = c') : EvT C t Γ Δ c' Δ1 := q ▸ h
theorem et_and {c c' : Bool} (h : EvT C t Γ Δ c Δ) (h' : c = true → EvT C u Γ Δ c' Δ) : EvT C (tAnd t u) Γ Δ (c && c') Δ := ⟨fun σ ω Q s d k => h.run σ ω _ s d fun ω1 l1 d1 => by
  cases c with
  | true => exact (h' rfl).run σ ω1 Q (s.mono l1.m) d1 fun ω2 l2 d2 => k ω2 (l1.trans l2) d2
  | false => exact k ω1 l1 d1⟩
theorem et_or {c c' : Bool} (h : EvT C t Γ Δ c Δ) (h' : c = false → EvT C u Γ Δ c' Δ) : EvT C (tOr t u) Γ Δ (c || c') Δ := ⟨fun σ ω Q s d k => h.run σ ω _ s d fun ω1 l1 d1 => by
  cases c with
  | true => exact k ω1 l1 d1
  | false => exact (h' rfl).run σ ω1 Q (s.mono l1.m) d1 fun ω2 l2 d2 => k ω2 (l1.trans l2) d2⟩
theorem ev_andV {c c' : Bool} (h : Ev C ta Γ Δ (eB c) Δ) (h' : c = true → Ev C tb Γ Δ (eB c') Δ) : Ev C (tAndV ta tb) Γ Δ (eB (c && c')) Δ := ⟨fun σ ω Q s d k => h.run σ ω _ s d fun x ω1 l1 d1 hx => ⟨c, hx, by
  cases c with
  | true => exact (h' rfl).run σ ω1 Q (s.mono l1.m) d1 fun v ω2 l2 d2 hv => k v ω2 (l1.trans l2) d2 hv
  | false => exact k _ ω1 l1 d1 rfl⟩⟩
theorem ev_orV {c c' : Bool} (h : Ev C ta Γ Δ (eB c) Δ) (h' : c = false → Ev C tb Γ Δ (eB c') Δ) : Ev C (tOrV ta tb) Γ Δ (eB (c || c')) Δ := ⟨fun σ ω Q s d k => h.run σ ω _ s d fun x ω1 l1 d1 hx => ⟨c, hx, by
  cases c with
  | true => exact k _ ω1 l1 d1 rfl
  | false => exact (h' rfl).run σ ω1 Q (s.mono l1.m) d1 fun v ω2 l2 d2 hv => k v ω2 (l1.trans l2) d2 hv⟩⟩
theorem ev_notV {c : Bool} (h : Ev C ta Γ Δ (eB c) Δ1) : Ev C (tNotV ta) Γ Δ (eB (!c)) Δ1 := ⟨fun σ ω Q s d k => h.run σ ω _ s d fun x ω1 l1 d1 hx => ⟨c, hx, k _ ω1 l1 d1 rfl⟩⟩
end
end Tw

/-! The logic, further: statements, loops, comprehensions, defs. -/
namespace Tw
open PySem L2

/-! ### assertions and statements -/
abbrev Asr := L2.St → Hp → Prop
/-- what a body starts from: the world, the addresses that it may change, what is immutable since -/
structure Bs where
  o : Wo
  S : List Addr
  m : Hp
abbrev Bs.at (B : Bs) (m : Hp) : Bs := ⟨B.o, B.S, m⟩
abbrev Bs.le (B : Bs) (ω : Wo) : Prop := LeX B.S B.o ω
def As (B : Bs) (Γ : List (Option En)) (Δ : List Rs) : Asr := fun σ H => ∃ ω : Wo, ω.H = H ∧ B.le ω ∧ (∀ x o, B.m x = some o → ω.M x = some o) ∧ Sat Γ σ ω.M ∧ SatD Δ ω
def Tr (t : TS) (A : Asr) (D : Ends) : Prop := ∀ σ H, A σ H → t D σ H
theorem LeX.ch {S C : List Addr} {a b c : Wo} (x : LeX S a b) (y : LeX C b c) (h : ∀ p ∈ C, p ∈ S ∨ a.H p = none) : LeX S a c :=
  ⟨fun p o q => y.m p o (x.m p o q), fun p o n q => y.h p o (fun z => (h p z).elim n (fun w => by rw [q] at w; cases w)) (x.h p o n q), fun p q => y.d p (x.d p q), fun p q n => y.v p (x.d p q) (x.v p q n)⟩
abbrev Own (B : Bs) (C : List Addr) : Prop := ∀ p ∈ C, p ∈ B.S ∨ B.o.H p = none
theorem Own.nil (B : Bs) : Own B [] := fun _ h => nomatch h
section
variable {W : Bs} {C : List Addr} {Γ Γ' : List (Option En)} {Δ Δ1 Δ2 : List Rs} {D : Ends} {te ta tb : TE} {tt : TT} {t u z : TS} {e e' : En} {K : PySem.W.Frag} {A B : Asr}
theorem As.wk (w : Wk Γ Γ') : ∀ σ H, As W Γ Δ σ H → As W Γ' Δ σ H := fun σ H ⟨ω, h1, h2, hm, h3, h4⟩ => ⟨ω, h1, h2, hm, h3.wk w, h4⟩
theorem Tr.pre (h : ∀ σ H, A σ H → B σ H) (k : Tr t B D) : Tr t A D := fun σ H a => k σ H (h σ H a)
theorem tr_wk (w : Wk Γ Γ') (k : Tr t (As W Γ' Δ) D) : Tr t (As W Γ Δ) D := k.pre (As.wk w)
theorem s_asg {i : Nat} (h : Ev C te Γ Δ e Δ1) (hk : ∀ σ H, As W (Γ.set i (some e)) Δ1 σ H → D.nx σ H) (o : Own W C := by exact Own.nil _) : Tr (tAsg te (gName i)) (As W Γ Δ) D := fun σ H ⟨ω, h1, h2, hm, h3, h4⟩ => by
  subst h1
  exact h.run σ ω _ h3 h4 fun v ω' l d hv => hk _ _ ⟨ω', rfl, h2.ch l o, fun x q z => l.m x q (hm x q z), (h3.mono l.m).set hv, d⟩
theorem q_asg {i : Nat} (h : Ev C te Γ Δ e Δ1) (hk : Tr z (As W (Γ.set i (some e)) Δ1) D) (o : Own W C := by exact Own.nil _) : Tr (tSeq (tAsg te (gName i)) z) (As W Γ Δ) D := s_asg (D := { D with nx := z D }) h hk o
theorem s_drop (h : Ev C te Γ Δ e Δ1) (hk : ∀ σ H, As W Γ Δ1 σ H → D.nx σ H) (o : Own W C := by exact Own.nil _) : Tr (tDrop te) (As W Γ Δ) D := fun σ H ⟨ω, h1, h2, hm, h3, h4⟩ => by
  subst h1
  exact h.run σ ω _ h3 h4 fun v ω' l d hv => hk _ _ ⟨ω', rfl, h2.ch l o, fun x q z => l.m x q (hm x q z), h3.mono l.m, d⟩
theorem q_drop (h : Ev C te Γ Δ e Δ1) (hk : Tr z (As W Γ Δ1) D) (o : Own W C := by exact Own.nil _) : Tr (tSeq (tDrop te) z) (As W Γ Δ) D := s_drop (D := { D with nx := z D }) h hk o
/-- return e, nothing that changes kept -/
theorem s_ret (h : Ev C te Γ Δ e Δ1) (hk : ∀ v ω, W.le ω → SatD Δ1 ω → e.r v ω.M → D.rt v ω.H) (o : Own W C := by exact Own.nil _) : Tr (tRet te) (As W Γ Δ) D := fun σ H ⟨ω, h1, h2, hm, h3, h4⟩ => by
  subst h1
  exact h.run σ ω _ h3 h4 fun v ω' l d hv => hk v ω' (h2.ch l o) d hv
theorem s_if {c : Bool} (h : EvT C tt Γ Δ c Δ1) (h1 : c = true → Tr t (As W Γ Δ1) D) (h2 : c = false → Tr u (As W Γ Δ1) D) (o : Own W C := by exact Own.nil _) : Tr (tIfS tt t u) (As W Γ Δ) D := fun σ H ⟨ω, q1, q2, qm, q3, q4⟩ => by
  subst q1
  refine h.run σ ω _ q3 q4 fun ω' l d => ?_
  cases c with
  | true => exact h1 rfl _ _ ⟨ω', rfl, q2.ch l o, fun x q z => l.m x q (qm x q z), q3.mono l.m, d⟩
  | false => exact h2 rfl _ _ ⟨ω', rfl, q2.ch l o, fun x q z => l.m x q (qm x q z), q3.mono l.m, d⟩
theorem q_if {c : Bool} (h : EvT C tt Γ Δ c Δ1) (h1 : c = true → Tr t (As W Γ Δ1) { D with nx := z D }) (h2 : c = false → Tr u (As W Γ Δ1) { D with nx := z D }) (o : Own W C := by exact Own.nil _) : Tr (tSeq (tIfS tt t u) z) (As W Γ Δ) D := s_if (D := { D with nx := z D }) h h1 h2 o
theorem s_next (h : ∀ σ H, A σ H → D.nx σ H) : Tr tNext A D := h
theorem tr_cut (M : Asr) (h : Tr t A { D with nx := M }) (k : Tr u M D) : Tr (Evl.tCut t u) A D := fun σ H a => ⟨M, h σ H a, k⟩
theorem tr_seq (h : Tr t A { D with nx := u D }) : Tr (tSeq t u) A D := h

/-! ### targets -/
def TgOk (g : TG) (Γ : List (Option En)) (e : En) (Γ' : List (Option En)) : Prop := ∀ x σ (ω : Wo) (Q : L2.St → Hp → Prop), Sat Γ σ ω.M → e.r x ω.M → (∀ σ', Sat Γ' σ' ω.M → Q σ' ω.H) → g x σ ω.H Q
theorem tg_name {i : Nat} : TgOk (gName i) Γ e (Γ.set i (some e)) := fun x σ ω Q s h k => k _ (s.set h)
/-- targets one by one -/
def TgsOk (g : TGs) (Γ : List (Option En)) (es : List En) (Γ' : List (Option En)) : Prop := ∀ xs σ (ω : Wo) (Q : L2.St → Hp → Prop), Sat Γ σ ω.M → Args es xs ω.M → (∀ σ', Sat Γ' σ' ω.M → Q σ' ω.H) → g xs σ ω.H Q
theorem tgs_nil : TgsOk gNil Γ [] Γ := fun xs σ ω Q s h k => by
  match xs, h with
  | [], _ => exact ⟨rfl, k σ s⟩
theorem tgs_cons {g : TG} {gs : TGs} {es : List En} {Γ1 Γ2 : List (Option En)} (h1 : TgOk g Γ e Γ1) (h2 : TgsOk gs Γ1 es Γ2) : TgsOk (gCons g gs) Γ (e :: es) Γ2 := fun xs σ ω Q s h k => by
  match xs, h with
  | x :: r, ⟨a, b⟩ => exact ⟨x, r, rfl, h1 x σ ω _ s a fun σ' s' => h2 r σ' ω Q s' b k⟩
theorem tg_tup {gs : TGs} {es : List En} {n : Nat} (hn : es.length = n) (h : TgsOk gs Γ es Γ') : TgOk (gTup K n gs) Γ (eTup es) Γ' := fun x σ ω Q s h' k => by
  obtain ⟨a, vs, rfl, ha, hv⟩ := h'
  exact ⟨a, vs, rfl, SqT.of (ω.sub _ _ ha), by rw [hv.len, hn], h vs σ ω Q s hv k⟩
theorem s_asgT {g : TG} (h : Ev C te Γ Δ e Δ1) (hg : TgOk g Γ e Γ') (hk : ∀ σ H, As W Γ' Δ1 σ H → D.nx σ H) (o : Own W C := by exact Own.nil _) : Tr (tAsg te g) (As W Γ Δ) D := fun σ H ⟨ω, h1, h2, hm, h3, h4⟩ => by
  subst h1
  exact h.run σ ω _ h3 h4 fun v ω' l d hv => hg v σ ω' _ (h3.mono l.m) hv fun σ' s' => hk _ _ ⟨ω', rfl, h2.ch l o, fun x q z => l.m x q (hm x q z), s', d⟩
theorem q_asgT {g : TG} (h : Ev C te Γ Δ e Δ1) (hg : TgOk g Γ e Γ') (hk : Tr z (As W Γ' Δ1) D) (o : Own W C := by exact Own.nil _) : Tr (tSeq (tAsg te g) z) (As W Γ Δ) D := s_asgT (D := { D with nx := z D }) h hg hk o
/-- a, b = x, y by ps_par -/
theorem s_par {i j : Nat} {tA : TA} {e1 e2 : En} (h : EvA C tA Γ Δ [e1, e2] Δ1) (hk : ∀ σ H, As W ((Γ.set i (some e1)).set j (some e2)) Δ1 σ H → D.nx σ H) (o : Own W C := by exact Own.nil _) : Tr (tPar i j tA) (As W Γ Δ) D := fun σ H ⟨ω, h1, h2, hm, h3, h4⟩ => by
  subst h1
  refine h.run σ ω _ h3 h4 fun vs ω' l d hv => ?_
  match vs, hv with
  | [x, y], ⟨a, b, _⟩ => exact ⟨x, y, rfl, hk _ _ ⟨ω', rfl, h2.ch l o, fun x q z => l.m x q (hm x q z), ((h3.mono l.m).set a).set b, d⟩⟩
theorem q_par {i j : Nat} {tA : TA} {e1 e2 : En} (h : EvA C tA Γ Δ [e1, e2] Δ1) (hk : Tr z (As W ((Γ.set i (some e1)).set j (some e2)) Δ1) D) (o : Own W C := by exact Own.nil _) : Tr (tSeq (tPar i j tA) z) (As W Γ Δ) D := s_par (D := { D with nx := z D }) h hk o

/-! ### what is walked -/
/-- wi gives n items, whatever happens behind, as long as what is outside S stays -/
def ItOk (W : Bs) (C : List Addr) (wi : TI) (Γ : List (Option En)) (Δ : List Rs) (n : Nat) (it : Nat → En) (Δ' : List Rs) : Prop :=
  ∀ σ (ω : Wo) (R : It → Hp → Prop), W.le ω → Sat Γ σ ω.M → SatD Δ ω →
    (∀ J (ω1 : Wo), LeX C ω ω1 → SatD Δ' ω1 →
      (∀ (ω2 : Wo), W.le ω2 → (∀ x o, ω1.M x = some o → ω2.M x = some o) → (∀ i, i < n → J.go i ω2.H ∧ ∀ x H', J.yld i ω2.H x H' → ∃ ω3 : Wo, ω3.H = H' ∧ LeX [] ω2 ω3 ∧ (it i).r x ω3.M) ∧ J.stop n ω2.H) → R J ω1.H) → wi σ ω.H R
def itm (es : List En) (i : Nat) : En := es.getD i eN
theorem itm_at {es : List En} {i : Nat} {e : En} (h : es[i]? = some e) : itm es i = e := by
  unfold itm
  rw [List.getD_eq_getElem?_getD, h]
  rfl
theorem args_at {es : List En} {vs : List V} {M : Hp} {i : Nat} {x : V} (h : Args es vs M) (hx : vs[i]? = some x) : (itm es i).r x M := by
  have hl : i < es.length := by
    rw [← h.len]
    exact (List.getElem?_eq_some_iff.mp hx).1
  obtain ⟨v, h1, h2⟩ := h.get (List.getElem?_eq_getElem hl)
  rw [h1] at hx
  cases hx
  rw [itm_at (List.getElem?_eq_getElem hl)]
  exact h2
theorem it_list {tl : TE} {es : List En} (h : Ev C tl Γ Δ (eLst es) Δ1) : ItOk W C (iList K tl) Γ Δ es.length (itm es) Δ1 := fun σ ω R l0 s d k => by
  refine h.run σ ω _ s d fun v ω1 l d1 hv => ?_
  obtain ⟨a, vs, rfl, ha, hvs⟩ := hv
  refine ⟨a, rfl, ⟨vs, SqL.of (ω1.sub _ _ ha)⟩, k _ ω1 l d1 fun ω2 _ m => ?_⟩
  have h2 : SqL K ω2.H a vs := SqL.of (ω2.sub _ _ (m _ _ ha))
  refine ⟨fun i hi => ?_, ⟨vs, h2, by rw [hvs.len]; exact Nat.le_refl _⟩⟩
  have hi' : i < vs.length := by rw [hvs.len]; exact hi
  refine ⟨⟨vs, vs[i], h2, List.getElem?_eq_getElem hi'⟩, fun x H' y => ?_⟩
  obtain ⟨e1, y⟩ := y
  exact ⟨ω2, e1.symm, LeX.refl _ _, args_at (hvs.mono m) (y vs h2)⟩
theorem it_range {tA : TA} {n : Nat} (h : EvA C tA Γ Δ [eI (n : Int)] Δ1) (hn : n ≤ 100000) : ItOk W C (iRng1 tA) Γ Δ n (fun i => eI (i : Int)) Δ1 := fun σ ω R l0 s d k => by
  refine h.run σ ω _ s d fun vs ω1 l d1 hv => ?_
  match vs, hv with
  | [x], ⟨q, _⟩ =>
    cases (show x = V.int n from q)
    refine ⟨n, rfl, by omega, by omega, ?_⟩
    rw [Int.toNat_natCast]
    refine k _ ω1 l d1 fun ω2 _ _ => ⟨fun i hi => ⟨hi, fun x H' y => ⟨ω2, y.1.symm, LeX.refl _ _, ?_⟩⟩, Nat.le_refl n⟩
    show x = V.int (i : Int)
    rw [y.2, Int.zero_add]
theorem it_str {tl : TE} {w : Str} (h : Ev C tl Γ Δ (eS w) Δ1) : ItOk W C (iStr tl) Γ Δ w.cps.size (fun i => eS ⟨#[w.cps.getD i 0]⟩) Δ1 := fun σ ω R l0 s d k => by
  refine h.run σ ω _ s d fun v ω1 l d1 hv => ⟨w, hv, k _ ω1 l d1 fun ω2 _ _ => ⟨fun i hi => ⟨hi, fun x H' y => ?_⟩, Nat.le_refl _⟩⟩
  obtain ⟨e1, c, hc, e2⟩ := y
  refine ⟨ω2, e1.symm, LeX.refl _ _, ?_⟩
  show x = V.str ⟨#[w.cps.getD i 0]⟩
  rw [e2]
  have : w.cps.getD i 0 = c := by
    rw [Array.getD_eq_getD_getElem?, hc]
    rfl
  rw [this]
theorem it_enum {tA : TA} {es : List En} (h : EvA C tA Γ Δ [eLst es] Δ1) : ItOk W C (iEnum K tA) Γ Δ es.length (fun i => eTup [eI (i : Int), itm es i]) Δ1 := fun σ ω R l0 s d k => by
  refine h.run σ ω _ s d fun vs ω1 l d1 hv => ?_
  match vs, hv with
  | [x], ⟨⟨a, ws, ex, ha, hw⟩, _⟩ =>
    subst ex
    refine ⟨a, ws, rfl, SqL.of (ω1.sub _ _ ha), k _ ω1 l d1 fun ω2 _ m => ?_⟩
    have h2 : SqL K ω2.H a ws := SqL.of (ω2.sub _ _ (m _ _ ha))
    refine ⟨fun i hi => ?_, ⟨ws, h2, by rw [hw.len]; exact Nat.le_refl _⟩⟩
    have hi' : i < ws.length := by rw [hw.len]; exact hi
    refine ⟨⟨ws, ws[i], h2, List.getElem?_eq_getElem hi'⟩, fun v H' y => ?_⟩
    obtain ⟨T, x, e1, nT, e2, y⟩ := y
    exact ⟨ω2.new T (.tup [.int (i : Nat), x]), e2.symm, Wo.new_le nT, T, [.int (i : Nat), x], e1, Wo.new_at, rfl, (itm es i).mono _ _ _ (fun p o q => (Wo.new_le nT).m p o (m p o q)) (args_at hw (y ws h2)), trivial⟩
theorem it_zip {tA : TA} {es fs : List En} (h : EvA C tA Γ Δ [eLst es, eLst fs] Δ1) {n : Nat} (hn : n = min es.length fs.length) : ItOk W C (iZip K tA) Γ Δ n (fun i => eTup [itm es i, itm fs i]) Δ1 := fun σ ω R l0 s d k => by
  refine h.run σ ω _ s d fun vs ω1 l d1 hv => ?_
  match vs, hv with
  | [x, y], ⟨⟨a, ws, ex, ha, hw⟩, ⟨b, us, ey, hb, hu⟩, _⟩ =>
    subst ex ey
    refine ⟨a, b, ws, us, rfl, SqL.of (ω1.sub _ _ ha), SqL.of (ω1.sub _ _ hb), k _ ω1 l d1 fun ω2 _ m => ?_⟩
    have h2 : SqL K ω2.H a ws := SqL.of (ω2.sub _ _ (m _ _ ha))
    have h3 : SqL K ω2.H b us := SqL.of (ω2.sub _ _ (m _ _ hb))
    have l1 := hw.len
    have l2 := hu.len
    refine ⟨fun i hi => ?_, ⟨ws, us, h2, h3, by omega⟩⟩
    have hi1 : i < ws.length := by omega
    have hi2 : i < us.length := by omega
    refine ⟨⟨ws, us, ws[i], us[i], h2, h3, List.getElem?_eq_getElem hi1, List.getElem?_eq_getElem hi2⟩, fun v H' q => ?_⟩
    obtain ⟨T, x, y, e1, nT, e2, q1, q2⟩ := q
    have mm := fun p o q => (Wo.new_le (o := .tup [x, y]) nT).m p o (m p o q)
    exact ⟨ω2.new T (.tup [x, y]), e2.symm, Wo.new_le nT, T, [x, y], e1, Wo.new_at, (itm es i).mono _ _ _ mm (args_at hw (q1 ws h2)), (itm fs i).mono _ _ _ mm (args_at hu (q2 us h3)), trivial⟩

/-! ### for, while -/
/-- the word of a loop: some b with P, the names by Γf, the resources by Δf -/
def Lp (W : Bs) {β : Type} (P : β → Prop) (Γf : β → List (Option En)) (Δf : β → List Rs) : Asr := fun σ H => ∃ b, P b ∧ As W (Γf b) (Δf b) σ H
theorem s_for {wi : TI} {g : TG} {tb : TS} {n : Nat} {it : Nat → En} {β : Type} (P : Nat → β → Prop) (Γf Γt : Nat → β → List (Option En)) (Δf : Nat → β → List Rs) (hi : ItOk W C wi Γ Δ n it Δ1)
    (h0 : ∃ b, P 0 b ∧ Wk Γ (Γf 0 b) ∧ Δf 0 b = Δ1)
    (ht : ∀ i b, i < n → P i b → TgOk g (Γf i b) (it i) (Γt i b))
    (hs : ∀ m i b, i < n → P i b → Tr tb (As (W.at m) (Γt i b) (Δf i b)) { D with nx := Lp (W.at m) (P (i + 1)) (Γf (i + 1)) (Δf (i + 1)), ct := Lp (W.at m) (P (i + 1)) (Γf (i + 1)) (Δf (i + 1)), bk := D.nx })
    (hd : ∀ b, P n b → ∀ σ H, As W (Γf n b) (Δf n b) σ H → D.nx σ H) (o : Own W C := by exact Own.nil _) : Tr (tFor wi g tb) (As W Γ Δ) D := fun σ H ⟨ω, q1, q2, qm, q3, q4⟩ => by
  subst q1
  refine hi σ ω _ q2 q3 q4 fun J ω1 l1 d1 hJ => ?_
  have m1 : ∀ x o, W.m x = some o → ω1.M x = some o := fun x o z => l1.m x o (qm x o z)
  refine ⟨fun i m σ' H' => m = n - i ∧ i ≤ n ∧ Lp (W.at ω1.M) (P i) (Γf i) (Δf i) σ' H', ⟨n, by omega, Nat.zero_le _, ?_⟩, ?_⟩
  · obtain ⟨b, p, w, e⟩ := h0
    exact ⟨b, p, ω1, rfl, q2.ch l1 o, fun _ _ h => h, (q3.mono l1.m).wk w, by rw [e]; exact d1⟩
  · rintro i m σ' H' ⟨rfl, hin, b, p, ω2, rfl, k1, k2, k3, k4⟩
    obtain ⟨j1, j2⟩ := hJ ω2 k1 k2
    by_cases hlt : i < n
    · refine .inr ⟨(j1 i hlt).1, _, fun σ'' H'' hN => ⟨n - (i + 1), by omega, rfl, hlt, hN⟩, fun x H'' hy => ?_⟩
      obtain ⟨ω3, rfl, l3, hx⟩ := (j1 i hlt).2 x H'' hy
      refine ht i b hlt p x σ' ω3 _ (k3.mono l3.m) hx fun σ3 s3 => ?_
      exact hs ω1.M i b hlt p σ3 ω3.H ⟨ω3, rfl, k1.trans l3.nil, fun x o z => l3.m x o (k2 x o z), s3, k4.le l3⟩
    · have e : i = n := by omega
      subst e
      exact .inl ⟨j2, hd b p σ' _ ⟨ω2, rfl, k1, fun x o z => k2 x o (m1 x o z), k3, k4⟩⟩
theorem q_for {wi : TI} {g : TG} {tb : TS} {n : Nat} {it : Nat → En} {β : Type} (P : Nat → β → Prop) (Γf Γt : Nat → β → List (Option En)) (Δf : Nat → β → List Rs) (hi : ItOk W C wi Γ Δ n it Δ1)
    (h0 : ∃ b, P 0 b ∧ Wk Γ (Γf 0 b) ∧ Δf 0 b = Δ1)
    (ht : ∀ i b, i < n → P i b → TgOk g (Γf i b) (it i) (Γt i b))
    (hs : ∀ m i b, i < n → P i b → Tr tb (As (W.at m) (Γt i b) (Δf i b)) { D with nx := Lp (W.at m) (P (i + 1)) (Γf (i + 1)) (Δf (i + 1)), ct := Lp (W.at m) (P (i + 1)) (Γf (i + 1)) (Δf (i + 1)), bk := z D })
    (hd : ∀ b, P n b → Tr z (As W (Γf n b) (Δf n b)) D) (o : Own W C := by exact Own.nil _) : Tr (tSeq (tFor wi g tb) z) (As W Γ Δ) D := s_for (D := { D with nx := z D }) P Γf Γt Δf hi h0 ht hs hd o
/-- while: μ falls -/
theorem s_while {tb : TS} {β : Type} (P : β → Prop) (μ : β → Nat) (Γf : β → List (Option En)) (Δf : β → List Rs) (h0 : ∃ b, P b ∧ Wk Γ (Γf b) ∧ Δf b = Δ)
    (hs : ∀ b, P b → ∃ (C : List Addr) (c : Bool) (Δ' : List Rs), Own W C ∧ EvT C tt (Γf b) (Δf b) c Δ' ∧ (c = true → Tr tb (As W (Γf b) Δ') { D with nx := Lp W (fun b' => P b' ∧ μ b' < μ b) Γf Δf, ct := Lp W (fun b' => P b' ∧ μ b' < μ b) Γf Δf, bk := D.nx }) ∧ (c = false → ∀ σ H, As W (Γf b) Δ' σ H → D.nx σ H)) :
    Tr (tWhile tt tb) (As W Γ Δ) D := fun σ H hA => by
  obtain ⟨b0, p0, w0, e0⟩ := h0
  refine ⟨fun m σ' H' => Lp W (fun b => P b ∧ μ b = m) Γf Δf σ' H', ⟨μ b0, b0, ⟨p0, rfl⟩, As.wk w0 σ H (by rw [e0]; exact hA)⟩, ?_⟩
  rintro m σ' H' ⟨b, ⟨p, rfl⟩, ω, rfl, k1, k2, k3, k4⟩
  obtain ⟨C, c, Δ', o, ht, h1, h2⟩ := hs b p
  refine ht.run σ' ω _ k3 k4 fun ω' l d => ?_
  have hA' : As W (Γf b) Δ' σ' ω'.H := ⟨ω', rfl, k1.ch l o, fun x q z => l.m x q (k2 x q z), k3.mono l.m, d⟩
  cases c with
  | true => exact ⟨_, fun σ2 H2 ⟨b2, ⟨p2, hm⟩, ha⟩ => ⟨μ b2, hm, b2, ⟨p2, rfl⟩, ha⟩, h1 rfl σ' _ hA'⟩
  | false => exact h2 rfl σ' _ hA'
theorem q_while {tb : TS} {β : Type} (P : β → Prop) (μ : β → Nat) (Γf : β → List (Option En)) (Δf : β → List Rs) (h0 : ∃ b, P b ∧ Wk Γ (Γf b) ∧ Δf b = Δ)
    (hs : ∀ b, P b → ∃ (C : List Addr) (c : Bool) (Δ' : List Rs), Own W C ∧ EvT C tt (Γf b) (Δf b) c Δ' ∧ (c = true → Tr tb (As W (Γf b) Δ') { D with nx := Lp W (fun b' => P b' ∧ μ b' < μ b) Γf Δf, ct := Lp W (fun b' => P b' ∧ μ b' < μ b) Γf Δf, bk := z D }) ∧ (c = false → Tr z (As W (Γf b) Δ') D)) :
    Tr (tSeq (tWhile tt tb) z) (As W Γ Δ) D := s_while (D := { D with nx := z D }) P μ Γf Δf h0 hs

/-! ### comprehensions -/
theorem LeX.newset {S : List Addr} {a b : Wo} (x : LeX S a b) {L : Addr} {o : HO} (h : a.H L = none) (hm : b.M L = none) : LeX S a (b.mut L o hm) :=
  ⟨x.m, fun p u n e => by
    show upd b.H L o p = _
    rw [upd_ne (ne_of_none e h)]
    exact x.h p u n e, fun p e => by
    show upd b.H L o p ≠ none
    by_cases q : p = L
    · rw [q, upd_same]; exact fun z => nomatch z
    · rw [upd_ne q]; exact x.d p e, x.v⟩
/-- from now on immutable -/
def Wo.frz (ω : Wo) (L : Addr) (o : HO) (h : ω.H L = some o) : Wo := ⟨upd ω.M L o, ω.H, fun a u e => by
  by_cases q : a = L
  · subst q
    rw [upd_same] at e
    rw [← e]
    exact h
  · rw [upd_ne q] at e
    exact ω.sub a u e⟩
theorem LeX.frz {S : List Addr} {a b : Wo} (x : LeX S a b) {L : Addr} {o : HO} (h : a.H L = none) (hb : b.H L = some o) : LeX S a (b.frz L o hb) :=
  ⟨fun p u e => by
    show upd b.M L o p = _
    rw [upd_ne (ne_of_none (a.sub p u e) h)]
    exact x.m p u e, x.h, x.d, fun p e n => by
    show upd b.M L o p = none
    rw [upd_ne (fun z => e (by rw [z]; exact h))]
    exact x.v p e n⟩
theorem Wo.frz_m {ω : Wo} {L : Addr} {o : HO} {h : ω.H L = some o} (hm : ω.M L = none) : ∀ x u, ω.M x = some u → (ω.frz L o h).M x = some u := fun x u e => by
  show upd ω.M L o x = _
  rw [upd_ne (ne_of_none e hm)]
  exact e
theorem SatD.newset {Δ : List Rs} {ω : Wo} (d : SatD Δ ω) {L : Addr} {o : HO} (hm : ω.M L = none) (n : L ∉ adr Δ) : SatD Δ (ω.mut L o hm) :=
  ⟨fun ρ h => ρ.st ω _ (d.r ρ h) (fun _ _ q => q) fun a ha => upd_ne (fun z => n (by rw [← z]; exact List.mem_flatMap.mpr ⟨ρ, h, ha⟩)), fun x h => ⟨by
    show upd ω.H L o x ≠ none
    rw [upd_ne (fun z => n (by rw [← z]; exact h))]
    exact (d.a x h).1, (d.a x h).2⟩, d.nd⟩
theorem SatD.frz {Δ : List Rs} {ω : Wo} (d : SatD Δ ω) {L : Addr} {o : HO} {hL : ω.H L = some o} (hm : ω.M L = none) (n : L ∉ adr Δ) : SatD Δ (ω.frz L o hL) :=
  ⟨fun ρ h => ρ.st ω _ (d.r ρ h) (Wo.frz_m hm) fun a ha => rfl, fun x h => ⟨(d.a x h).1, by
    show upd ω.M L o x = none
    rw [upd_ne (fun z => n (by rw [← z]; exact h))]
    exact (d.a x h).2⟩, d.nd⟩
/-- a list comprehension without tests -/
theorem ev_lc {wi : TI} {g : TG} {n : Nat} {it : Nat → En} {vs : List Nat} {Γw : List (Option En)} {Γt : Nat → List (Option En)} {f : Nat → En} {Δf : Nat → List Rs} (hn : n ≤ 100000)
    (hi : ∀ W, ItOk W [] wi Γ Δ n it (Δf 0)) (hw : ∀ σ M, Sat Γ σ M → Sat Γw (wipe σ vs) M)
    (ht : ∀ i, i < n → ∀ x σ (ω : Wo) (Q : L2.St → Hp → Prop), Sat Γw (wipe σ vs) ω.M → (it i).r x ω.M → (∀ σ', Sat (Γt i) σ' ω.M → wipe σ' vs = wipe σ vs → Q σ' ω.H) → g x (wipe σ vs) ω.H Q)
    (he : ∀ i, i < n → Ev C te (Γt i) (Δf i) (f i) (Δf (i + 1))) (hC : ∀ p ∈ C, p ∈ adr Δ) (hA : ∀ i a, a ∈ adr (Δf i) → a ∈ adr Δ) : Ev C (tLc wi g tYes te vs) Γ Δ (eLst ((List.range n).map f)) (Δf n) := ⟨fun σ ω Q s d k => by
  refine hi ⟨ω, C, ω.M⟩ σ ω _ (LeX.refl _ _) s d fun J ω1 l1 d1 hJ => ?_
  intro L hL
  have hLM := Wo.free hL
  have nA : L ∉ adr Δ := fun z => absurd hL (l1.d L (d.a L z).1)
  -- the word: the list at L holds what was made so far
  refine ⟨fun i m H' => m = n - i ∧ i ≤ n ∧ ∃ (ω2 : Wo) (acc : List V), ω2.H = H' ∧ LeX C ω1 ω2 ∧ ω2.M L = none ∧ ω2.H L = some (.lst acc) ∧ Args ((List.range i).map f) acc ω2.M ∧ SatD (Δf i) ω2, ⟨n, by omega, Nat.zero_le _, ω1.mut L (.lst []) hLM, [], rfl, (Wo.mut_le hL).nil, hLM, upd_same, trivial, d1.le (Wo.mut_le hL)⟩, ?_⟩
  rintro i m H' ⟨rfl, hin, ω2, acc, rfl, k1, k2, k3, k4, k5⟩
  obtain ⟨j1, j2⟩ := hJ ω2 (l1.nil.trans k1) k1.m
  by_cases hlt : i < n
  · refine .inr ⟨(j1 i hlt).1, _, fun H'' hN => ⟨n - (i + 1), by omega, rfl, hlt, hN⟩, fun x H'' hy => ?_⟩
    obtain ⟨ω3, rfl, l3, hx⟩ := (j1 i hlt).2 x H'' hy
    have s3 : Sat Γw (wipe σ vs) ω3.M := hw σ ω3.M (((s.mono l1.m).mono k1.m).mono l3.m)
    refine ht i hlt x σ ω3 _ s3 hx fun σ' s' e' => ⟨e', ?_⟩
    show te σ' ω3.H _
    have L3 : ω3.H L = some (.lst acc) := l3.h L _ (fun z => nomatch z) k3
    have M3 : ω3.M L = none := l3.v L (ne_none k3) k2
    refine (he i hlt).run σ' ω3 _ s' (k5.le l3) fun v ω4 l4 d4 hv => ?_
    have L4 : ω4.H L = some (.lst acc) := l4.h L _ (fun z => nA (hC L z)) L3
    have M4 : ω4.M L = none := l4.v L (ne_none L3) M3
    have al : acc.length = i := by rw [k4.len, List.length_map, List.length_range]
    refine ⟨acc, L4, Nat.lt_of_le_of_lt (by omega : acc.length ≤ 100000) (by decide), ω4.mut L (.lst (acc ++ [v])) M4, acc ++ [v], rfl, ?_, M4, upd_same, ?_, d4.newset M4 fun z => nA (hA (i + 1) L z)⟩
    · exact ((k1.trans l3.nil).trans l4).newset hL M4
    · rw [List.range_succ, List.map_append]
      exact ((k4.mono l3.m).mono l4.m).app ⟨hv, trivial⟩
  · have e : i = n := by omega
    subst e
    refine .inl ⟨j2, ?_⟩
    exact k (.ref L) (ω2.frz L _ k3) (l1.nil.trans (k1.frz hL k3)) (k5.frz k2 fun z => nA (hA i L z)) ⟨L, acc, rfl, upd_same, k4.mono (Wo.frz_m k2)⟩⟩
/-- [te for name in list], nothing changes; the list is xs by φ, the new one xs by ψ -/
theorem wipe1 {j : Nat} (σ : L2.St) : wipe σ [j] = σ.set j none := rfl
theorem tgw_name {j : Nat} {x : V} {σ : L2.St} {ω : Wo} {Q : L2.St → Hp → Prop} {e : En} (s : Sat (Γ.set j none) (wipe σ [j]) ω.M) (h : e.r x ω.M) (k : ∀ σ', Sat (Γ.set j (some e)) σ' ω.M → wipe σ' [j] = wipe σ [j] → Q σ' ω.H) : gName j x (wipe σ [j]) ω.H Q := by
  refine k _ ?_ ?_
  · have := s.set (i := j) h
    rw [List.set_set] at this
    exact this
  · show ((σ.set j none).set j (some x)).set j none = σ.set j none
    rw [List.set_set, List.set_set]
theorem ev_lcL {tl : TE} {j : Nat} {α : Type} {xs : List α} {φ ψ : α → En} (h : Ev [] tl Γ Δ (eLst (xs.map φ)) Δ) (hl : xs.length ≤ 100000) (he : ∀ x ∈ xs, Ev [] te (Γ.set j (some (φ x))) Δ (ψ x) Δ) :
    Ev C (tLc (iList K tl) (gName j) tYes te [j]) Γ Δ (eLst (xs.map ψ)) Δ := by
  have key : Ev [] (tLc (iList K tl) (gName j) tYes te [j]) Γ Δ (eLst ((List.range xs.length).map fun i => itm (xs.map ψ) i)) Δ :=
    ev_lc (Δf := fun _ => Δ) (Γw := Γ.set j none) (Γt := fun i => Γ.set j (some (itm (xs.map φ) i))) (it := itm (xs.map φ)) hl (fun W => by
      have := it_list (W := W) (K := K) h
      rw [List.length_map] at this
      exact this) (fun σ M s => s.wipe j) (fun i hi x σ ω Q s hx k => tgw_name s hx k) (fun i hi => by
      have e1 : itm (xs.map φ) i = φ xs[i] := itm_at (by rw [List.getElem?_map, List.getElem?_eq_getElem hi]; rfl)
      have e2 : itm (xs.map ψ) i = ψ xs[i] := itm_at (by rw [List.getElem?_map, List.getElem?_eq_getElem hi]; rfl)
      rw [e1, e2]
      exact he _ (List.getElem_mem hi)) (fun p hp => nomatch hp) fun _ _ h => h
  have e3 : (List.range xs.length).map (fun i => itm (xs.map ψ) i) = xs.map ψ := by
    apply List.ext_getElem
    · simp
    · intro i h1 h2
      rw [List.getElem_map, List.getElem_range]
      exact itm_at (List.getElem?_eq_getElem h2)
  rw [e3] at key
  exact ⟨fun σ ω Q s d k => key.run σ ω Q s d fun v ω' l d' hv => k v ω' l.nil d' hv⟩
/-- [te for name in range(n)] -/
theorem ev_lcR {tA : TA} {j n : Nat} {f : Nat → En} (h : EvA [] tA Γ Δ [eI (n : Int)] Δ) (hl : n ≤ 100000) (he : ∀ i, i < n → Ev [] te (Γ.set j (some (eI (i : Int)))) Δ (f i) Δ) :
    Ev C (tLc (iRng1 tA) (gName j) tYes te [j]) Γ Δ (eLst ((List.range n).map f)) Δ := by
  have key : Ev [] (tLc (iRng1 tA) (gName j) tYes te [j]) Γ Δ (eLst ((List.range n).map f)) Δ :=
    ev_lc (Δf := fun _ => Δ) (Γw := Γ.set j none) (Γt := fun i => Γ.set j (some (eI (i : Int)))) (it := fun i => eI (i : Int)) hl (fun W => it_range h hl) (fun σ M s => s.wipe j) (fun i hi x σ ω Q s hx k => tgw_name s hx k) he (fun p hp => nomatch hp) fun _ _ h => h
  exact ⟨fun σ ω Q s d k => key.run σ ω Q s d fun v ω' l d' hv => k v ω' l.nil d' hv⟩
/-- [te for name in text] -/
theorem ev_lcS {tl : TE} {j : Nat} {w : Str} {ψ : Nat → En} (h : Ev [] tl Γ Δ (eS w) Δ) (hl : w.cps.size ≤ 100000) (he : ∀ c ∈ w.cps.toList, Ev [] te (Γ.set j (some (eS ⟨#[c]⟩))) Δ (ψ c) Δ) :
    Ev C (tLc (iStr tl) (gName j) tYes te [j]) Γ Δ (eLst (w.cps.toList.map ψ)) Δ := by
  have key : Ev [] (tLc (iStr tl) (gName j) tYes te [j]) Γ Δ (eLst ((List.range w.cps.size).map fun i => ψ (w.cps.getD i 0))) Δ :=
    ev_lc (Δf := fun _ => Δ) (Γw := Γ.set j none) (Γt := fun i => Γ.set j (some (eS ⟨#[w.cps.getD i 0]⟩))) (it := fun i => eS ⟨#[w.cps.getD i 0]⟩) hl (fun W => it_str h) (fun σ M s => s.wipe j) (fun i hi x σ ω Q s hx k => tgw_name s hx k) (fun i hi => he _ (by
      have : w.cps.getD i 0 = w.cps[i] := by rw [Array.getD_eq_getD_getElem?, Array.getElem?_eq_getElem hi]; rfl
      rw [this]
      exact Array.getElem_mem_toList hi)) (fun p hp => nomatch hp) fun _ _ h => h
  have e3 : (List.range w.cps.size).map (fun i => ψ (w.cps.getD i 0)) = w.cps.toList.map ψ := by
    apply List.ext_getElem
    · simp
    · intro i h1 h2
      rw [List.getElem_map, List.getElem_range, List.getElem_map]
      have hi : i < w.cps.size := by simpa using h1
      rw [Array.getElem_toList, Array.getD_eq_getD_getElem?, Array.getElem?_eq_getElem hi]
      rfl
  rw [e3] at key
  exact ⟨fun σ ω Q s d k => key.run σ ω Q s d fun v ω' l d' hv => k v ω' l.nil d' hv⟩
/-- [te for a, b in zip(..)] -/
theorem ev_lcZ {tA : TA} {i j : Nat} {α β : Type} {xs : List α} {ys : List β} {φ : α → En} {χ : β → En} {ψ : α → β → En} (hij : i ≠ j) (h : EvA [] tA Γ Δ [eLst (xs.map φ), eLst (ys.map χ)] Δ) (hxy : xs.length = ys.length) (hl : xs.length ≤ 100000)
    (he : ∀ k (h1 : k < xs.length) (h2 : k < ys.length), Ev [] te ((Γ.set i (some (φ xs[k]))).set j (some (χ ys[k]))) Δ (ψ xs[k] ys[k]) Δ) :
    Ev C (tLc (iZip K tA) (gTup K 2 (gCons (gName i) (gCons (gName j) gNil))) tYes te [i, j]) Γ Δ (eLst (List.zipWith ψ xs ys)) Δ := by
  have key : Ev [] (tLc (iZip K tA) (gTup K 2 (gCons (gName i) (gCons (gName j) gNil))) tYes te [i, j]) Γ Δ (eLst ((List.range xs.length).map fun k => itm (List.zipWith ψ xs ys) k)) Δ :=
    ev_lc (Δf := fun _ => Δ) (Γw := (Γ.set j none).set i none) (Γt := fun k => (Γ.set i (some (itm (xs.map φ) k))).set j (some (itm (ys.map χ) k))) (it := fun k => eTup [itm (xs.map φ) k, itm (ys.map χ) k]) hl (fun W => it_zip h (by rw [List.length_map, List.length_map, hxy, Nat.min_self]))
      (fun σ M s => (s.wipe j).wipe i) (fun k hk x σ ω Q s hx kk => by
      obtain ⟨a, vs, rfl, ha, hv⟩ := hx
      match vs, hv with
      | [u, v], ⟨hu, hv, _⟩ =>
        refine ⟨a, [u, v], rfl, SqT.of (ω.sub _ _ ha), rfl, u, [v], rfl, v, [], rfl, rfl, ?_⟩
        refine kk _ ?_ ?_
        · have := (s.set (i := i) hu).set (i := j) hv
          rw [List.set_set, List.set_comm _ _ (Ne.symm hij), List.set_set] at this
          exact this
        · show (((((σ.set j none).set i none).set i (some u)).set j (some v)).set j none).set i none = (σ.set j none).set i none
          rw [List.set_set, List.set_set, List.set_comm _ _ hij, List.set_set, List.set_set]) (fun k hk => by
      have hk2 : k < ys.length := by omega
      have e1 : itm (xs.map φ) k = φ xs[k] := itm_at (by rw [List.getElem?_map, List.getElem?_eq_getElem hk]; rfl)
      have e2 : itm (ys.map χ) k = χ ys[k] := itm_at (by rw [List.getElem?_map, List.getElem?_eq_getElem hk2]; rfl)
      have e3 : itm (List.zipWith ψ xs ys) k = ψ xs[k] ys[k] := itm_at (by rw [List.getElem?_eq_getElem (by rw [List.length_zipWith]; omega), List.getElem_zipWith])
      rw [e1, e2, e3]
      exact he k hk hk2) (fun p hp => nomatch hp) fun _ _ h => h
  have e3 : (List.range xs.length).map (fun k => itm (List.zipWith ψ xs ys) k) = List.zipWith ψ xs ys := by
    apply List.ext_getElem
    · simp [hxy]
    · intro k h1 h2
      rw [List.getElem_map, List.getElem_range]
      exact itm_at (List.getElem?_eq_getElem h2)
  rw [e3] at key
  exact ⟨fun σ ω Q s d k => key.run σ ω Q s d fun v ω' l d' hv => k v ω' l.nil d' hv⟩
end
end Tw

/-! Defs and calls, operators of this program. -/
namespace Tw
open PySem L2 PyProof.Rows

def topS (i : Nat) : Stmt := PySem.Challenge.pw_textworths_k08_whole_heads_are_first_fre.main.body.getD i (.Pass ⟨0, 0, 0, 0⟩)

/-! ### a def and its promise -/
section
variable (P : Program) (w : World) (K : PySem.W.Frag) (mg : Str → Option Value) (base : Heap)
structure Cal (x : Str) (ps : List Str) (k : Nat) (sp : Sp) : Prop where
  ex : ∃ f fd, FnOk P w K mg base CX0 k f fd ps sp ∧ mg x = some (.ref f) ∧ PySem.W.keepIn K (.ref f) = true ∧ Binds K fd ps []
structure DefAt (x : Str) (st : Stmt) : Prop where
  ex : ∃ f fd, Fun K x x st f fd ∧ mg x = some (.ref f)
/-- a method of the class at C -/
structure CalM (C : Addr) (x : Str) (ps : List Str) (k : Nat) (sp : Sp) : Prop where
  ex : ∃ f fd, FnOk P w K mg base CX0 k f fd ps sp ∧ Meth K C x f ∧ Binds K fd ps []
structure DefM (C : Addr) (x qual : Str) (st : Stmt) : Prop where
  ex : ∃ f fd, Fun K x qual st f fd ∧ Meth K C x f
/-- a property's getter -/
structure CalP (C : Addr) (x : Str) (k : Nat) (sp : Sp) : Prop where
  ex : ∃ p f fd, FnOk P w K mg base CX0 k f fd ["self"] sp ∧ PropOf K C x p f ∧ Binds K fd ["self"] []
structure DefP (C : Addr) (x qual : Str) (st : Stmt) : Prop where
  ex : ∃ p f fd, Fun K x qual st f fd ∧ PropOf K C x p f
end
def Γ0 (N : List Str) (es : List En) : List (Option En) := es.map some ++ List.replicate (N.length - es.length) none
theorem sat_start {N : List Str} {es : List En} {vs : List V} {M : Hp} (h : Args es vs M) : Sat (Γ0 N es) (L2.start N vs) M := by
  have hl := h.len
  refine ⟨by unfold Γ0 L2.start; rw [List.length_append, List.length_append, List.length_map, List.length_map, List.length_replicate, List.length_replicate, hl], fun i e hi => ?_⟩
  unfold Γ0 at hi
  by_cases q : i < es.length
  · rw [List.getElem?_append_left (by rw [List.length_map]; exact q), List.getElem?_map] at hi
    cases r : es[i]? with
    | none => rw [r] at hi; cases hi
    | some e' =>
      rw [r] at hi
      cases hi
      obtain ⟨v, h1, h2⟩ := h.get r
      refine ⟨v, ?_, h2⟩
      unfold L2.start
      rw [List.getElem?_append_left (by rw [List.length_map]; omega), List.getElem?_map, h1]
      rfl
  · rw [List.getElem?_append_right (by rw [List.length_map]; omega), List.getElem?_replicate] at hi
    split at hi <;> cases hi
/-- a pure def: for any b with pre b, handed args b it hands back res b, and nothing that stood is changed -/
def spFn {β : Type} (args : β → List En) (pre : β → Prop) (res : β → En) : Sp := fun vs H Q _ => ∃ (b : β) (ω : Wo), ω.H = H ∧ pre b ∧ Args (args b) vs ω.M ∧ ∀ v ω', LeX [] ω ω' → (res b).r v ω'.M → Q v ω'.H
theorem spFn_ok {β : Type} {args : β → List En} {pre : β → Prop} {res : β → En} (b : β) (h : pre b) : SpOk (spFn args pre res) (args b) (res b) := fun vs ω Q E ha hk => ⟨b, ω, rfl, h, ha, hk⟩
abbrev endsOf (Q : VK) : Ends := { nx := fun _ H' => Q .non H', rt := Q }
abbrev bs0 (ω : Wo) : Bs := ⟨ω, [], ω.M⟩
theorem body_fn {β : Type} {args : β → List En} {pre : β → Prop} {res : β → En} {N : List Str} {t : TS}
    (h : ∀ b, pre b → ∀ (ω : Wo) (Q : VK), (∀ v ω', LeX [] ω ω' → (res b).r v ω'.M → Q v ω'.H) → Tr t (As (bs0 ω) (Γ0 N (args b)) []) (endsOf Q)) :
    ∀ vs H Q E, spFn args pre res vs H Q E → t (endsOf Q) (L2.start N vs) H := fun vs H Q E ⟨b, ω, e, p, a, k⟩ => by
  subst e
  exact h b p ω Q k _ _ ⟨ω, rfl, LeX.refl _ _, fun _ _ z => z, sat_start a, SatD.nil _⟩
theorem len_fn {β : Type} {args : β → List En} {pre : β → Prop} {res : β → En} {n : Nat} (h : ∀ b, (args b).length = n) : ∀ vs H Q E, spFn args pre res vs H Q E → vs.length = n := fun vs H Q E ⟨b, ω, _, _, a, _⟩ => by rw [a.len, h b]
section
variable {P : Program} {w : World} {K : PySem.W.Frag} {mg : Str → Option Value} {base : Heap} {x qual : Str} {st : Stmt} {N ps : List Str} {k : Nat} {sp : Sp} {C : Addr}
abbrev bdy (P : Program) (w : World) (K : PySem.W.Frag) (mg : Str → Option Value) (base : Heap) (N : List Str) (qual : Str) (st : Stmt) (k : Nat) (sp : Sp) : Prop :=
  ∀ (f : Addr) (cdv : Value) (A : Around) (outer : List Env) (s : Shared) (H : Hp) (E : XK), Room k (A.deeper (envOfC qual (defScope st) s.heap.objs.size f cdv)) →
      ∃ t, PSs (cxOf CX0 P w K mg base N qual (defScope st) f cdv A outer s H E).nox (defBody st) t ∧ ∀ vs H' Q E', sp vs H' Q E' → t (endsOf Q) (L2.start N vs) H'
theorem ok_of {f : Addr} {fd : FuncData} (F : Fun K x qual st f fd) (S : FnScope N ps (defScope st)) (hl : ∀ vs H Q E, sp vs H Q E → vs.length = ps.length) (body : bdy P w K mg base N qual st k sp) : FnOk P w K mg base CX0 (k + 1) f fd ps sp :=
  F.ok S hl fun cdv A outer s H vs Q E hr h => by
    obtain ⟨t, h1, h2⟩ := body f cdv A outer s H E hr
    exact ⟨t, h1, h2 vs H Q E h⟩
abbrev bnd (x qual : Str) (st : Stmt) (ps : List Str) : Prop := ∀ (kV doc pm : Value) (an : Option Addr) (cdv ct : Value) (us : List Value), us.length = ps.length → bindArgs (PySem.W.fnOf x qual (defArgs st) (defBody st) (defScope st) .none kV doc pm an cdv ct) ⟨us, []⟩ = pure (ps.zip us)
theorem cal_of (D : DefAt K mg x st) (S : FnScope N ps (defScope st)) (hb : bnd x x st ps) (hl : ∀ vs H Q E, sp vs H Q E → vs.length = ps.length) (body : bdy P w K mg base N x st k sp) : Cal P w K mg base x ps (k + 1) sp := by
  obtain ⟨f, fd, F, m⟩ := D.ex
  exact ⟨f, fd, ok_of F S hl body, m, F.kp, F.binds hb⟩
theorem calM_of (D : DefM K C x qual st) (S : FnScope N ps (defScope st)) (hb : bnd x qual st ps) (hl : ∀ vs H Q E, sp vs H Q E → vs.length = ps.length) (body : bdy P w K mg base N qual st k sp) : CalM P w K mg base C x ps (k + 1) sp := by
  obtain ⟨f, fd, F, m⟩ := D.ex
  exact ⟨f, fd, ok_of F S hl body, m, F.binds hb⟩
theorem calP_of (D : DefP K C x qual st) (S : FnScope N ["self"] (defScope st)) (hb : bnd x qual st ["self"]) (hl : ∀ vs H Q E, sp vs H Q E → vs.length = ["self"].length) (body : bdy P w K mg base N qual st k sp) : CalP P w K mg base C x (k + 1) sp := by
  obtain ⟨p, f, fd, F, m⟩ := D.ex
  exact ⟨p, f, fd, ok_of F S hl body, m, F.binds hb⟩
end
section
variable {X : Cx} {x m : Str} {ps : List Str} {k j : Nat} {sp : Sp} {e o : Expr} {es : List Expr} {t : TA} {to : TE} {p pos apos : Pos} {C : Addr}
theorem rm (hr : Room k X.A) (h : j ≤ k := by decide) : Room j X.A := hr.mono h
theorem pe_cal (c : Cal X.prog X.w X.K X.mg X.base x ps j sp) (hr : Room k X.A) (hg : Gl X x) (ha : PA X (e :: es) t) (hj : j ≤ k := by decide) (hdb : (x == ("__debug__" : Str)) = false := by decide) (he : starEach (e :: es) X.env = (false, eval e X.env) :: starEach es X.env := by rfl) (hpl : (backTo pos (starEach es X.env)).any (·.1) = false := by rfl) :
    PE X (.Call (.Name x p) (e :: es) [] pos) (tCall sp [] E0 t) := by
  obtain ⟨f, fd, F, hm, hk, hb⟩ := c.ex
  exact pe_call F (hr.mono hj) hg hm hk hb .nil pass0 ha hdb he hpl
end

/-! ### great integers -/
/-- // by anything but 0, where C does it by itself -/
def DivX (i j : Int) : Prop := j ≠ 0 ∧ Builtin.divisionGoesByPylong i j = false
section
variable {X : Cx}
theorem op_fdivX : OpR X (binaryOp .FloorDiv) (rI DivX fun i j => .int (i.fdiv j)) := opI fun i j _ _ _ _ _ hc q => floordiv_int hc.1 q (.inl hc.2)
end
theorem divx_small {i j : Int} (h0 : j ≠ 0) (h : j.natAbs < 2 ^ 9000) : DivX i j := ⟨h0, PyProof.noPylong_of_log2 ((Nat.log2_lt (by omega)).mpr h)⟩
/-- the quotient is small -/
theorem divx_quot {i j q : Int} (h0 : j ≠ 0) (hq : i = q * j) (h : q.natAbs < 2 ^ 4000) : DivX i j := by
  refine ⟨h0, ?_⟩
  show (decide ((if j == 0 then 0 else j.natAbs.log2 / 30 + 1) > 300) && decide ((if i == 0 then 0 else i.natAbs.log2 / 30 + 1) > (if j == 0 then 0 else j.natAbs.log2 / 30 + 1) + 150)) = false
  rw [if_neg (show ¬ (j == 0) = true by simpa using h0)]
  have k : ¬ ((if i == 0 then 0 else i.natAbs.log2 / 30 + 1) > j.natAbs.log2 / 30 + 1 + 150) := by
    split
    · omega
    · rename_i z
      have hi : i ≠ 0 := by simpa using z
      have hj2 : j.natAbs < 2 ^ (j.natAbs.log2 + 1) := (Nat.log2_lt (by omega)).mp (Nat.lt_succ_self _)
      have h2 : i.natAbs < 2 ^ (4000 + (j.natAbs.log2 + 1)) := by
        rw [hq, Int.natAbs_mul, Nat.pow_add]
        exact Nat.mul_lt_mul'' h hj2
      have h3 := (Nat.log2_lt (show i.natAbs ≠ 0 by omega)).mpr h2
      omega
  rw [decide_eq_false k, Bool.and_false]
theorem mulx {i j : Int} {a b : Nat} (ha : i.natAbs < 2 ^ a) (hb : j.natAbs < 2 ^ b) (h : a + b ≤ 134217728) : CMulX i j := mulx_ok ha hb h

/-! ### gcd, lcm -/
section
variable {X : Cx}
def rLcm : List V → Hp → VK → Prop := fun vs H Q => ∃ a b : Int, vs = [.int a, .int b] ∧ a.natAbs < 2 ^ 13400 ∧ b.natAbs < 2 ^ 13400 ∧ Q (.int ((Nat.lcm a.natAbs b.natAbs : Nat) : Int)) H
theorem log_le {n k : Nat} (h : n < 2 ^ (k + 1)) : n.log2 ≤ k := PySem.W.mg_log h
theorem cr_lcm : CallR X (.builtin "math.lcm") rLcm := by
  intro pins s σ H vs us Q I r h
  obtain ⟨a, b, rfl, ha, hb, q⟩ := h
  obtain ⟨t, u, rfl⟩ := Vals.int2 r
  have h1 : (max 1 a.natAbs).log2 ≤ 13399 := log_le (Nat.max_lt.mpr ⟨Nat.one_lt_two_pow (by decide), ha⟩)
  have h2 : (max a.natAbs b.natAbs).log2 ≤ 13399 := log_le (Nat.max_lt.mpr ⟨ha, hb⟩)
  have e : (Nat.lcm 1 a.natAbs).lcm b.natAbs = Nat.lcm a.natAbs b.natAbs := by rw [Nat.lcm_one_left]
  have h3 : ((((Nat.lcm 1 a.natAbs).lcm b.natAbs : Nat) : Int)).natAbs.log2 < bitsLine := by
    rw [e, Int.natAbs_natCast]
    have hl : Nat.lcm a.natAbs b.natAbs < 2 ^ (26799 + 1) := by
      by_cases hb0 : b.natAbs = 0
      · rw [hb0, Nat.lcm_zero_right]
        exact Nat.pow_pos (by decide)
      · by_cases ha0 : a.natAbs = 0
        · rw [ha0, Nat.lcm_zero_left]
          exact Nat.pow_pos (by decide)
        · have := Nat.le_of_dvd (Nat.mul_pos (Nat.pos_of_ne_zero ha0) (Nat.pos_of_ne_zero hb0)) (Nat.lcm_dvd_mul a.natAbs b.natAbs)
          refine Nat.lt_of_le_of_lt this ?_
          rw [show 26799 + 1 = 13400 + 13400 from rfl, Nat.pow_add]
          exact Nat.mul_lt_mul'' ha hb
    exact Nat.lt_of_le_of_lt (log_le hl) (by decide)
  rw [← e] at q
  exact call_function_meets PySem.W.MGF.kind_lcm PySem.W.MGF.plain_lcm PySem.W.MGF.entry_lcm (PySem.W.MGF.args_lcm _ _) (PySem.W.mg_run_lcm a t b u (by omega) (by omega) h3).meets ⟨.int _, H, I.tok _, ⟨_, rfl⟩, q⟩
end
theorem op_gcd {a b : Int} : OpC rGcd [eI a, eI b] (eI ((Nat.gcd a.natAbs b.natAbs : Nat) : Int)) := fun vs ω Q h k => by
  match vs, h with
  | [x, y], ⟨hx, hy, _⟩ => exact ⟨a, b, by rw [show x = V.int a from hx, show y = V.int b from hy], k _ ω (LeX.refl _ _) rfl⟩
theorem op_lcm {a b : Int} (ha : a.natAbs < 2 ^ 13400) (hb : b.natAbs < 2 ^ 13400) : OpC rLcm [eI a, eI b] (eI ((Nat.lcm a.natAbs b.natAbs : Nat) : Int)) := fun vs ω Q h k => by
  match vs, h with
  | [x, y], ⟨hx, hy, _⟩ => exact ⟨a, b, by rw [show x = V.int a from hx, show y = V.int b from hy], ha, hb, k _ ω (LeX.refl _ _) rfl⟩

/-- what the walk asks of the module -/
structure Txt (K : PySem.W.Frag) (mg : Str → Option Value) : Prop where
  mg_gcd : mg "gcd" = some (.builtin "math.gcd")
  mg_lcm : mg "lcm" = some (.builtin "math.lcm")
  len : mg "len" = none
  abs : mg "abs" = none
  int : mg "int" = none
  list : mg "list" = none
  tuple : mg "tuple" = none
  str : mg "str" = none
  bool : mg "bool" = none
  sum : mg "sum" = none
  any : mg "any" = none
  all : mg "all" = none
  sorted : mg "sorted" = none
  min : mg "min" = none
  isinstance : mg "isinstance" = none
  range : mg "range" = none
  zip : mg "zip" = none
  enumerate : mg "enumerate" = none
  mgLETTERS : ∃ t, mg "LETTERS" = some (.str "abcdefghijklmnopqrstuvwxyz" t)
end Tw

/-! Operations on entries. -/
namespace Tw
open PySem L2 PyProof.Rows
/-- a text by its code points -/
abbrev tx (u : List Nat) : Str := ⟨u.toArray⟩
abbrev eM (u : List Nat) : En := eS (tx u)
abbrev eMs (us : List (List Nat)) : En := eLst (us.map eM)
section
variable {K : PySem.W.Frag} {es fs : List En} {a b e : En} {C : List Addr} {Γ Γ' : List (Option En)} {Δ Δ1 : List Rs} {W : Bs}
theorem op_abs {i : Int} : OpC (fun xs H Q => ∃ i, xs = [.int i] ∧ Q (.int (if i < 0 then -i else i)) H) [eI i] (eI (i.natAbs : Int)) := fun vs ω Q h k => by
  match vs, h with
  | [x], ⟨hx, _⟩ =>
    refine ⟨i, by rw [show x = V.int i from hx], k _ ω (LeX.refl _ _) ?_⟩
    show V.int _ = V.int _
    congr 1
    split <;> omega
theorem op_int1 {i : Int} : OpC (fun xs H Q => (∃ i, xs = [.int i] ∧ Q (.int i) H) ∨ ∃ k, xs = [.bl k] ∧ Q (.int (if k then 1 else 0)) H) [eI i] (eI i) := fun vs ω Q h k => by
  match vs, h with
  | [x], ⟨hx, _⟩ => exact .inl ⟨i, by rw [show x = V.int i from hx], k _ ω (LeX.refl _ _) rfl⟩
theorem op_intB {c : Bool} : OpC (fun xs H Q => (∃ i, xs = [.int i] ∧ Q (.int i) H) ∨ ∃ k, xs = [.bl k] ∧ Q (.int (if k then 1 else 0)) H) [eB c] (eI (if c then 1 else 0)) := fun vs ω Q h k => by
  match vs, h with
  | [x], ⟨hx, _⟩ => exact .inr ⟨c, by rw [show x = V.bl c from hx], k _ ω (LeX.refl _ _) rfl⟩
theorem op_lenL : OpC (fun xs H Q => ∃ p ys, xs = [.ref p] ∧ (SqL K H p ys ∨ SqT K H p ys) ∧ Q (.int ys.length) H) [eLst es] (eI (es.length : Int)) :=
  op_len fun p ys H Q h q => ⟨p, ys, rfl, .inl (SqL.of h), q⟩
theorem op_lenS {u : List Nat} (h : u.length ≤ 100000) : OpC (fun xs H Q => ∃ z, xs = [.str z] ∧ z.length ≤ sizeLine ∧ Q (.int z.length) H) [eM u] (eI (u.length : Int)) := fun vs ω Q h' k => by
  match vs, h' with
  | [x], ⟨hx, _⟩ => exact ⟨tx u, by rw [show x = V.str (tx u) from hx], sz _ h, k _ ω (LeX.refl _ _) rfl⟩
theorem op_listOf : OpC (fun xs H Q => ∃ p ys, xs = [.ref p] ∧ (SqL K H p ys ∨ SqT K H p ys) ∧ ∀ l, H l = none → Q (.ref l) (upd H l (.lst ys))) [eLst es] (eLst es) := fun vs ω Q h k => by
  match vs, h with
  | [v], ⟨⟨p, ws, e1, hp, hw⟩, _⟩ =>
    subst e1
    exact ⟨p, ws, rfl, .inl (SqL.of (ω.sub _ _ hp)), fun l hl => k _ (ω.new l (.lst ws)) (Wo.new_le hl) ⟨l, ws, rfl, Wo.new_at, hw.mono (Wo.new_le hl).m⟩⟩
theorem args_rep : ∀ {n : Nat} {vs : List V} {M : Hp}, Args es vs M → Args (List.replicate n es).flatten (List.replicate n vs).flatten M
  | 0, _, _, _ => trivial
  | n + 1, vs, M, h => h.app (args_rep h)
theorem rep_eq {α : Type} (x : α) (n : Nat) : (List.replicate n [x]).flatten = List.replicate n x := by
  induction n with
  | zero => rfl
  | succ n ih => rw [List.replicate_succ, List.flatten_cons, ih]; rfl
/-- [x] * n -/
theorem op_rep1 {n : Nat} (h : n ≤ 100000) : Op2 rRep (eLst [e]) (eI (n : Int)) (eLst (List.replicate n e)) := fun x y ω Q hx hy k => by
  obtain ⟨p, vs, rfl, hp, hv⟩ := hx
  have hl := hv.len
  refine ⟨p, n, vs, rfl, hy, ω.sub _ _ hp, by omega, by omega, by rw [hl]; show 1 * (n : Int).toNat ≤ sizeLine; rw [Int.toNat_natCast, Nat.one_mul]; exact sz _ h, fun c hc => ?_⟩
  refine k _ (ω.new c _) (Wo.new_le hc) ⟨c, _, rfl, Wo.new_at, ?_⟩
  match vs, hv with
  | [v], hv =>
    have := (args_rep (n := n) hv).mono (Wo.new_le (o := .lst (List.replicate (n : Int).toNat [v]).flatten) hc).m
    rw [rep_eq] at this
    rw [Int.toNat_natCast]
    exact this
theorem op_catM {u v : List Nat} (h : u.length + v.length ≤ 100000) : Op2 (fun x y H Q => ∃ i j, x = .str i ∧ y = .str j ∧ i.length + j.length ≤ sizeLine ∧ Q (.str (i ++ j)) H) (eM u) (eM v) (eM (u ++ v)) := fun x y ω Q hx hy k => by
  refine ⟨tx u, tx v, hx, hy, sz _ h, k _ ω (LeX.refl _ _) ?_⟩
  show V.str (tx u ++ tx v) = V.str (tx (u ++ v))
  congr 1
  show Str.mk (u.toArray ++ v.toArray) = Str.mk (u ++ v).toArray
  rw [List.append_toArray]
theorem op_inM {c : Nat} {u : List Nat} : Op2 (fun x y H Q => ∃ (c : Nat) (z : Str), x = .str ⟨#[c]⟩ ∧ y = .str z ∧ Q (.bl (decide (c ∈ z.cps.toList))) H) (eM [c]) (eM u) (eB (decide (c ∈ u))) := fun x y ω Q hx hy k => ⟨c, tx u, hx, hy, k _ ω (LeX.refl _ _) rfl⟩
theorem op_notInM {c : Nat} {u : List Nat} : Op2 (fun x y H Q => ∃ (c : Nat) (z : Str), x = .str ⟨#[c]⟩ ∧ y = .str z ∧ Q (.bl (!decide (c ∈ z.cps.toList))) H) (eM [c]) (eM u) (eB (!decide (c ∈ u))) := fun x y ω Q hx hy k => ⟨c, tx u, hx, hy, k _ ω (LeX.refl _ _) rfl⟩
theorem tx_inj {u v : List Nat} : tx u = tx v ↔ u = v := ⟨fun h => by
  have : u.toArray = v.toArray := congrArg Str.cps h
  have := congrArg Array.toList this
  simpa using this, fun h => by rw [h]⟩
theorem eqM {u v : List Nat} : decide (V.str (tx u) = V.str (tx v)) = decide (u = v) := by
  have : (V.str (tx u) = V.str (tx v)) ↔ u = v := ⟨fun h => tx_inj.mp (V.str.inj h), fun h => by rw [h]⟩
  by_cases h : u = v
  · rw [decide_eq_true h, decide_eq_true (this.mpr h)]
  · rw [decide_eq_false h, decide_eq_false (fun z => h (this.mp z))]
theorem op_eqM {u v : List Nat} : Op2 rEq (eM u) (eM v) (eB (decide (u = v))) := by
  rw [← eqM]
  exact op_Eq rfl
theorem op_neM {u v : List Nat} : Op2 rNe (eM u) (eM v) (eB (!decide (u = v))) := by
  rw [← eqM]
  exact op_Ne rfl
theorem eqI {i j : Int} : decide (V.int i = V.int j) = decide (i = j) := by
  have : (V.int i = V.int j) ↔ i = j := ⟨V.int.inj, fun h => by rw [h]⟩
  by_cases h : i = j
  · rw [decide_eq_true h, decide_eq_true (this.mpr h)]
  · rw [decide_eq_false h, decide_eq_false (fun z => h (this.mp z))]
theorem op_eqI {i j : Int} : Op2 rEq (eI i) (eI j) (eB (decide (i = j))) := by
  rw [← eqI]
  exact op_Eq rfl
theorem op_neI {i j : Int} : Op2 rNe (eI i) (eI j) (eB (!decide (i = j))) := by
  rw [← eqI]
  exact op_Ne rfl
theorem flat_lits : ∀ {vs ws : List V} {M : Hp}, Args (vs.map eLit) ws M → ws = vs := Args.lits
theorem args_lit {vs ws : List V} {M : Hp} (h : Args (vs.map eLit) ws M) : ws = vs := Args.lits h
/-- x in a list of texts -/
theorem op_inMs {neg : Bool} {u : List Nat} {us : List (List Nat)} : Op2 (rIn K neg) (eM u) (eMs us) (eB (if neg then !decide (u ∈ us) else decide (u ∈ us))) := fun x y ω Q hx hy k => by
  obtain ⟨p, vs, rfl, hp, hv⟩ := hy
  have ev : vs = us.map fun u => V.str (tx u) := by
    have h : Args ((us.map fun u => V.str (tx u)).map eLit) vs ω.M := by
      rw [List.map_map]
      exact hv
    exact h.lits
  cases (show x = V.str (tx u) from hx)
  subst ev
  refine ⟨p, _, rfl, .inl (SqL.of (ω.sub _ _ hp)), rfl, by simp [flatV], ?_⟩
  have e : inV (V.str (tx u)) (us.map fun u => V.str (tx u)) = decide (u ∈ us) := by
    unfold inV
    rw [List.any_map]
    by_cases h : u ∈ us
    · rw [decide_eq_true h]
      exact List.any_eq_true.mpr ⟨u, h, by simp [eqV]⟩
    · rw [decide_eq_false h]
      refine List.any_eq_false.mpr fun v hv z => h ?_
      have : tx v = tx u := by simpa [eqV] using z
      rw [← tx_inj.mp this]
      exact hv
  rw [e]
  exact k _ ω (LeX.refl _ _) rfl
theorem bools_of {bs : List Bool} {vs : List V} {M : Hp} (hv : Args (bs.map eB) vs M) : vs = bs.map V.bl := by
  have h : Args ((bs.map V.bl).map eLit) vs M := by
    rw [List.map_map]
    exact hv
  exact h.lits
theorem ints_of {ns : List Int} {vs : List V} {M : Hp} (hv : Args (ns.map fun i => eI i) vs M) : vs = ns.map V.int := by
  have h : Args ((ns.map V.int).map eLit) vs M := by
    rw [List.map_map]
    exact hv
  exact h.lits
theorem op_any {bs : List Bool} : OpC (rAny K) [eLst (bs.map eB)] (eB (bs.any id)) := fun vs ω Q h k => by
  match vs, h with
  | [v], ⟨⟨p, ws, e1, hp, hw⟩, _⟩ =>
    subst e1
    have := bools_of hw
    subst this
    exact ⟨p, bs, rfl, SqL.of (ω.sub _ _ hp), k _ ω (LeX.refl _ _) rfl⟩
theorem op_all {bs : List Bool} : OpC (rAll K) [eLst (bs.map eB)] (eB (bs.all id)) := fun vs ω Q h k => by
  match vs, h with
  | [v], ⟨⟨p, ws, e1, hp, hw⟩, _⟩ =>
    subst e1
    have := bools_of hw
    subst this
    exact ⟨p, bs, rfl, SqL.of (ω.sub _ _ hp), k _ ω (LeX.refl _ _) rfl⟩
theorem op_sum {ns : List Int} : OpC (rSum K) [eIs ns] (eI ns.sum) := fun vs ω Q h k => by
  match vs, h with
  | [v], ⟨⟨p, ws, e1, hp, hw⟩, _⟩ =>
    subst e1
    have := ints_of hw
    subst this
    exact ⟨p, ns, rfl, SqL.of (ω.sub _ _ hp), k _ ω (LeX.refl _ _) rfl⟩
theorem op_isN' {v : V} : Op2 (fun x y H Q => y = .non ∧ Q (.bl (decide (x = .non))) H) (eLit v) eN (eB (decide (v = .non))) := fun x y ω Q hx hy k => by
  cases (show x = v from hx)
  exact ⟨hy, k _ ω (LeX.refl _ _) rfl⟩
theorem op_isNL : Op2 (fun x y H Q => y = .non ∧ Q (.bl (decide (x = .non))) H) (eLst es) eN (eB false) := fun x y ω Q hx hy k => by
  obtain ⟨p, vs, rfl, hp, hv⟩ := hx
  refine ⟨hy, k _ ω (LeX.refl _ _) ?_⟩
  show V.bl (decide (V.ref p = V.non)) = V.bl false
  rw [decide_eq_false (fun z => nomatch z)]
theorem op_t0 {e0 : En} {r : List En} : Op2 (rIxT K) (eTup (e0 :: r)) (eI 0) e0 := op_ixT (j := 0) rfl
theorem op_l0 {e0 : En} {r : List En} : Op2 (rIxL K) (eLst (e0 :: r)) (eI 0) e0 := op_ixL (j := 0) rfl
theorem op_t1 {e0 e1 : En} {r : List En} : Op2 (rIxT K) (eTup (e0 :: e1 :: r)) (eI 1) e1 := op_ixT (j := 1) rfl
theorem op_l1 {e0 e1 : En} {r : List En} : Op2 (rIxL K) (eLst (e0 :: e1 :: r)) (eI 1) e1 := op_ixL (j := 1) rfl
theorem op_t2 {e0 e1 e2 : En} {r : List En} : Op2 (rIxT K) (eTup (e0 :: e1 :: e2 :: r)) (eI 2) e2 := op_ixT (j := 2) rfl
theorem op_l2 {e0 e1 e2 : En} {r : List En} : Op2 (rIxL K) (eLst (e0 :: e1 :: e2 :: r)) (eI 2) e2 := op_ixL (j := 2) rfl
theorem op_t3 {e0 e1 e2 e3 : En} {r : List En} : Op2 (rIxT K) (eTup (e0 :: e1 :: e2 :: e3 :: r)) (eI 3) e3 := op_ixT (j := 3) rfl
theorem op_l3 {e0 e1 e2 e3 : En} {r : List En} : Op2 (rIxL K) (eLst (e0 :: e1 :: e2 :: e3 :: r)) (eI 3) e3 := op_ixL (j := 3) rfl
/-! slices -/
theorem ev_slL {te : TE} {tl th : TO} {lo hi : Option Int} {Δ2 Δ3 : List Rs} {fs : List En} (h : Ev C te Γ Δ (eLst es) Δ1) (h1 : EvO C tl Γ Δ1 lo Δ2) (h2 : EvO C th Γ Δ2 hi Δ3)
    (hf : (es.drop (HT.sIx es.length 0 lo)).take (HT.sIx es.length es.length hi - HT.sIx es.length 0 lo) = fs) : Ev C (tSl (rSlL K) te tl th) Γ Δ (eLst fs) Δ3 := ⟨fun σ ω Q s d k =>
  h.run σ ω _ s d fun x ω1 l1 d1 hx => h1.run σ ω1 _ (s.mono l1.m) d1 fun ω2 l2 d2 => h2.run σ ω2 _ ((s.mono l1.m).mono l2.m) d2 fun ω3 l3 d3 => by
    obtain ⟨p, vs, rfl, hp, hv⟩ := hx
    refine ⟨p, vs, rfl, SqL.of (ω3.sub _ _ (l3.m _ _ (l2.m _ _ hp))), fun q hq => k _ (ω3.new q _) (((l1.trans l2).trans l3).trans (Wo.new_le hq).nil) (d3.le (Wo.new_le hq)) ⟨q, _, rfl, Wo.new_at, ?_⟩⟩
    have hl := hv.len
    subst hf
    refine Args.mono (Wo.new_le hq).m (Args.mono l3.m (Args.mono l2.m ?_))
    unfold cutV
    rw [hl]
    refine Args.of (by rw [List.length_take, List.length_take, List.length_drop, List.length_drop, hl]) fun i e v h1 h2 => ?_
    rw [List.getElem?_take] at h1 h2
    split at h1
    · rename_i hlt
      rw [if_pos hlt, List.getElem?_drop] at h2
      rw [List.getElem?_drop] at h1
      obtain ⟨v', a, b⟩ := hv.get h1
      rw [a] at h2
      cases h2
      exact b
    · cases h1⟩
theorem ev_slS {te : TE} {tl th : TO} {lo hi : Option Int} {Δ2 Δ3 : List Rs} {u v : List Nat} (h : Ev C te Γ Δ (eM u) Δ1) (h1 : EvO C tl Γ Δ1 lo Δ2) (h2 : EvO C th Γ Δ2 hi Δ3) (hl : u.length ≤ 100000)
    (hf : (u.drop (HT.sIx u.length 0 lo)).take (HT.sIx u.length u.length hi - HT.sIx u.length 0 lo) = v) : Ev C (tSl rSlS te tl th) Γ Δ (eM v) Δ3 := ⟨fun σ ω Q s d k =>
  h.run σ ω _ s d fun x ω1 l1 d1 hx => h1.run σ ω1 _ (s.mono l1.m) d1 fun ω2 l2 d2 => h2.run σ ω2 _ ((s.mono l1.m).mono l2.m) d2 fun ω3 l3 d3 => by
    cases (show x = V.str (tx u) from hx)
    refine ⟨tx u, rfl, sz _ hl, k _ ω3 ((l1.trans l2).trans l3) d3 ?_⟩
    subst hf
    rfl⟩
/-! texts walked -/
theorem it_msg {tl : TE} {u : List Nat} (h : Ev C tl Γ Δ (eM u) Δ1) : ItOk W C (iStr tl) Γ Δ u.length (fun i => eM [u.getD i 0]) Δ1 := by
  have e : ∀ i, (tx u).cps.getD i 0 = u.getD i 0 := fun i => by simp
  have := it_str (W := W) h
  have e2 : (fun i => eS ⟨#[(tx u).cps.getD i 0]⟩) = fun i => eM [u.getD i 0] := by
    funext i
    rw [e i]
  rw [e2] at this
  exact this
theorem ev_lcM {te tl : TE} {j : Nat} {u : List Nat} {ψ : Nat → En} (h : Ev [] tl Γ Δ (eM u) Δ) (hl : u.length ≤ 100000) (he : ∀ c ∈ u, Ev [] te (Γ.set j (some (eM [c]))) Δ (ψ c) Δ) :
    Ev C (tLc (iStr tl) (gName j) tYes te [j]) Γ Δ (eLst (u.map ψ)) Δ := ev_lcS h hl he
end
end Tw

/-! What changes: lists, fresh objects; values of which only some is known; defs that change. -/
namespace Tw
open PySem L2 PyProof.Rows

/-! ### rules at a stated frame -/
section
variable {X : Cx} (K : PySem.W.Frag) (h : X.K = K)
include h
theorem ixT : IxR X (rIxT K) := by subst h; exact ix_tup
theorem ixL : IxR X (rIxL K) := by subst h; exact ix_list
theorem slL : SlR X (rSlL K) := by subst h; exact sl_list
theorem inSq : OpR X (compareOp .In) (rIn K false) := by subst h; exact op_in_seq
theorem notInSq : OpR X (compareOp .NotIn) (rIn K true) := by subst h; exact op_notIn_seq
theorem lenSq : CallR X (.builtin "len") (fun xs H Q => ∃ p ys, xs = [.ref p] ∧ (SqL K H p ys ∨ SqT K H p ys) ∧ Q (.int ys.length) H) := by subst h; exact call_len_seq
theorem listSq : CallR X (.type "list") (fun xs H Q => ∃ p ys, xs = [.ref p] ∧ (SqL K H p ys ∨ SqT K H p ys) ∧ ∀ l, H l = none → Q (.ref l) (upd H l (.lst ys))) := by subst h; exact call_list_of
theorem anySq (hc : X.calm = true) : CallR X (.builtin "any") (rAny K) := by subst h; exact cr_any hc
theorem allSq (hc : X.calm = true) : CallR X (.builtin "all") (rAll K) := by subst h; exact cr_all hc
theorem sumSq (hc : X.calm = true) : CallR X (.builtin "sum") (rSum K) := by subst h; exact cr_sum hc
theorem catTK : OpR X (binaryOp .Add) (rCatT K) := by subst h; exact op_catT
theorem pi_listK {tg l : Expr} {tl : TE} (hl : PE X l tl) : PI X tg l (iList K tl) := by subst h; exact pi_list hl
theorem pg_tupK {es : List Expr} {k : Nat} {pos : Pos} {t : TGs} {n : Nat} (hc : X.calm = true) (hp : PGs X es t)
    (hn : (assignEach es X.env).length = n := by rfl) (hst : (assignEach es X.env).findIdx? (·.1) = none := by rfl) : PG X (.Tuple es k pos) (gTup K n t) := by subst h; exact pg_tup hc hp hn hst
theorem pi_zipK {e e2 : Expr} {ta : TA} {p pos tpos : Pos} {elts : List Expr} {kk : Nat} (hg : Gl X "zip") (hm : X.mg "zip" = none) (ha : PA X [e, e2] ta)
    (hs : starEach [e, e2] X.env = (false, eval e X.env) :: starEach [e2] X.env := by rfl) (hpl : (backTo pos (starEach [e2] X.env)).any (·.1) = false := by rfl) :
    PI X (.Tuple elts kk tpos) (.Call (.Name "zip" p) [e, e2] [] pos) (iZip K ta) := by subst h; exact pi_zip hg hm ha hs hpl
end

/-! ### a list that changes -/
def rL (p : Addr) (es : List En) : Rs := ⟨[p], fun ω => ∃ vs, ω.H p = some (.lst vs) ∧ Args es vs ω.M, fun ω ω' ⟨vs, h1, h2⟩ m e => ⟨vs, by rw [e p (List.mem_singleton.mpr rfl)]; exact h1, h2.mono m⟩⟩
theorem SatD.cons {Δ : List Rs} {ω : Wo} {ρ : Rs} (d : SatD Δ ω) (h : ρ.r ω) (a : ∀ x ∈ ρ.ad, ω.H x ≠ none ∧ ω.M x = none ∧ x ∉ adr Δ) (n : ρ.ad.Nodup) : SatD (ρ :: Δ) ω :=
  ⟨fun σ hσ => (List.mem_cons.mp hσ).elim (fun e => by rw [e]; exact h) (d.r σ), fun x hx => by
    rw [adr, List.flatMap_cons] at hx
    rcases List.mem_append.mp hx with q | q
    · exact ⟨(a x q).1, (a x q).2.1⟩
    · exact d.a x q, by
    rw [adr, List.flatMap_cons]
    exact List.nodup_append.mpr ⟨n, d.nd, fun x hx y hy e => (a x hx).2.2 (by rw [e]; exact hy)⟩⟩
theorem SatD.tail {Δ : List Rs} {ω : Wo} {ρ : Rs} (d : SatD (ρ :: Δ) ω) : SatD Δ ω := ⟨fun σ h => d.r σ (List.mem_cons_of_mem _ h), fun x h => d.a x (by rw [adr, List.flatMap_cons]; exact List.mem_append_right _ h), by
  have := d.nd
  rw [adr, List.flatMap_cons] at this
  exact (List.nodup_append.mp this).2.1⟩
theorem SatD.head {Δ : List Rs} {ω : Wo} {ρ : Rs} (d : SatD (ρ :: Δ) ω) : (∀ x ∈ ρ.ad, ω.H x ≠ none ∧ ω.M x = none ∧ x ∉ adr Δ) ∧ ρ.ad.Nodup := by
  have := d.nd
  rw [adr, List.flatMap_cons] at this
  obtain ⟨n1, _, n2⟩ := List.nodup_append.mp this
  refine ⟨fun x hx => ?_, n1⟩
  obtain ⟨a1, a2⟩ := d.a x (by rw [adr, List.flatMap_cons]; exact List.mem_append_left _ hx)
  exact ⟨a1, a2, fun z => n2 x hx x z rfl⟩
theorem SatD.perm {Δ Δ' : List Rs} {ω : Wo} (d : SatD Δ ω) (h : Δ.Perm Δ') : SatD Δ' ω := by
  have hp : (adr Δ).Perm (adr Δ') := h.flatMap_right _
  exact ⟨fun ρ hρ => d.r ρ (h.mem_iff.mpr hρ), fun x hx => d.a x (hp.mem_iff.mpr hx), hp.nodup_iff.mp d.nd⟩
/-- a new list that may change -/
theorem SatD.newL {Δ : List Rs} {ω : Wo} {p : Addr} {vs : List V} {es : List En} (d : SatD Δ ω) (hp : ω.H p = none) (h : Args es vs ω.M) : SatD (rL p es :: Δ) (ω.mut p (.lst vs) (Wo.free hp)) := by
  have np : p ∉ adr Δ := fun z => (d.a p z).1 hp
  refine (d.le (Wo.mut_le hp)).cons ⟨vs, upd_same, h⟩ (fun x hx => ?_) (List.nodup_cons.mpr ⟨fun z => (nomatch z), List.nodup_nil⟩)
  rw [List.mem_singleton.mp hx]
  exact ⟨by show upd ω.H p _ p ≠ none; rw [upd_same]; exact fun z => (nomatch z), show ω.M p = none from Wo.free hp, np⟩
theorem adr_set {Δ : List Rs} {k : Nat} {ρ ρ' : Rs} (hk : Δ[k]? = some ρ) (e : ρ'.ad = ρ.ad) : adr (Δ.set k ρ') = adr Δ := by
  show List.flatMap Rs.ad (Δ.set k ρ') = List.flatMap Rs.ad Δ
  rw [List.flatMap_def, List.flatMap_def]
  congr 1
  rw [List.map_set, e]
  have hl : k < (Δ.map Rs.ad).length := by rw [List.length_map]; exact (List.getElem?_eq_some_iff.mp hk).1
  have : (Δ.map Rs.ad)[k] = ρ.ad := by
    rw [List.getElem_map]
    congr 1
    exact (List.getElem?_eq_some_iff.mp hk).2
  rw [← this]
  exact List.set_getElem_self hl
theorem ad_disj : ∀ {Δ : List Rs} {i j : Nat} {ρ τ : Rs} {x : Addr}, (adr Δ).Nodup → Δ[i]? = some ρ → Δ[j]? = some τ → i ≠ j → x ∈ ρ.ad → x ∉ τ.ad
  | [], _, _, _, _, _, _, h, _, _, _ => by simp at h
  | a :: Δ, 0, 0, _, _, _, _, _, _, hn, _ => absurd rfl hn
  | a :: Δ, 0, j + 1, ρ, τ, x, nd, h, k, _, hx => fun hy => by
    rw [adr, List.flatMap_cons] at nd
    cases h
    exact (List.nodup_append.mp nd).2.2 x hx x (List.mem_flatMap.mpr ⟨τ, List.mem_of_getElem? (by simpa using k), hy⟩) rfl
  | a :: Δ, i + 1, 0, ρ, τ, x, nd, h, k, _, hx => fun hy => by
    rw [adr, List.flatMap_cons] at nd
    cases k
    exact (List.nodup_append.mp nd).2.2 x hy x (List.mem_flatMap.mpr ⟨ρ, List.mem_of_getElem? (by simpa using h), hx⟩) rfl
  | a :: Δ, i + 1, j + 1, ρ, τ, x, nd, h, k, hn, hx => by
    rw [adr, List.flatMap_cons] at nd
    exact ad_disj (Δ := Δ) (List.nodup_append.mp nd).2.1 (by simpa using h) (by simpa using k) (fun z => hn (by rw [z])) hx
theorem ad_nodup : ∀ {Δ : List Rs} {ρ : Rs}, (adr Δ).Nodup → ρ ∈ Δ → ρ.ad.Nodup
  | [], _, _, h => nomatch h
  | a :: Δ, ρ, nd, h => by
    rw [adr, List.flatMap_cons] at nd
    obtain ⟨n1, n2, _⟩ := List.nodup_append.mp nd
    rcases List.mem_cons.mp h with q | q
    · rw [q]; exact n1
    · exact ad_nodup n2 q
/-- one resource is changed -/
theorem SatD.upd {Δ : List Rs} {ω ω' : Wo} {k : Nat} {ρ ρ' : Rs} {S : List Addr} (d : SatD Δ ω) (hk : Δ[k]? = some ρ) (l : LeX S ω ω') (hS : ∀ a ∈ S, a ∈ ρ.ad) (e : ρ'.ad = ρ.ad) (h : ρ'.r ω') : SatD (Δ.set k ρ') ω' := by
  refine ⟨fun τ hτ => ?_, fun x hx => ?_, by rw [adr_set hk e]; exact d.nd⟩
  · obtain ⟨j, hj⟩ := List.mem_iff_getElem?.mp hτ
    by_cases q : j = k
    · subst q
      rw [List.getElem?_set_self (List.getElem?_eq_some_iff.mp hk).1] at hj
      cases hj
      exact h
    · rw [List.getElem?_set_ne (Ne.symm q)] at hj
      have hm := List.mem_of_getElem? hj
      refine τ.st ω ω' (d.r τ hm) l.m fun a ha => ?_
      refine same_of l (d.a a (List.mem_flatMap.mpr ⟨τ, hm, ha⟩)).1 fun z => ?_
      exact ad_disj d.nd hk hj (Ne.symm q) (hS a z) ha
  · rw [adr_set hk e] at hx
    exact ⟨l.d x (d.a x hx).1, l.v x (d.a x hx).1 (d.a x hx).2⟩

/-! ### more general: what is found is told by a ghost -/
structure EvX {γ : Type} (C : List Addr) (te : TE) (Γ : List (Option En)) (Δ : List Rs) (fr : γ → List Addr) (e : γ → En) (Δ' : γ → List Rs) : Prop where
  run : ∀ (σ : L2.St) (ω : Wo) (Q : VK), Sat Γ σ ω.M → SatD Δ ω → (∀ g v ω', LeX C ω ω' → (∀ a ∈ fr g, ω.H a = none) → SatD (Δ' g) ω' → (e g).r v ω'.M → Q v ω'.H) → te σ ω.H Q
structure EvXA {γ : Type} (C : List Addr) (ta : TA) (Γ : List (Option En)) (Δ : List Rs) (fr : γ → List Addr) (es : γ → List En) (Δ' : γ → List Rs) : Prop where
  run : ∀ (σ : L2.St) (ω : Wo) (Q : List V → Hp → Prop), Sat Γ σ ω.M → SatD Δ ω → (∀ g vs ω', LeX C ω ω' → (∀ a ∈ fr g, ω.H a = none) → SatD (Δ' g) ω' → Args (es g) vs ω'.M → Q vs ω'.H) → ta σ ω.H Q
/-- a test of which only some is known -/
structure EtX (C : List Addr) (tt : TT) (Γ : List (Option En)) (Δ Δ' : List Rs) : Prop where
  run : ∀ (σ : L2.St) (ω : Wo) (Q : Bool → Hp → Prop), Sat Γ σ ω.M → SatD Δ ω → (∀ b ω', LeX C ω ω' → SatD Δ' ω' → Q b ω'.H) → tt σ ω.H Q
section
variable {W : Bs} {C C' : List Addr} {Γ Γ' : List (Option En)} {Δ Δ1 Δ2 Δ3 : List Rs} {D : Ends} {te ta tb : TE} {tt : TT} {t u z : TS} {e e' : En} {es fs : List En} {K : PySem.W.Frag} {p : Addr} {k : Nat}
theorem fresh_le {ω ω' : Wo} {S : List Addr} (l : LeX S ω ω') {a : Addr} (h : ω'.H a = none) : ω.H a = none := by
  cases q : ω.H a with
  | none => rfl
  | some o => exact absurd h (l.d a (ne_none q))
theorem ex_ev (h : Ev C te Γ Δ e Δ1) : EvX (γ := Unit) C te Γ Δ (fun _ => []) (fun _ => e) (fun _ => Δ1) := ⟨fun σ ω Q s d k => h.run σ ω Q s d fun v ω' l d' hv => k () v ω' l (fun _ z => nomatch z) d' hv⟩
theorem ex_lst {ta : TA} (h : EvA C ta Γ Δ es Δ1) (hl : es.length ≤ 100000) : EvX (γ := Addr) C (tLst ta) Γ Δ (fun p => [p]) eR (fun p => rL p es :: Δ1) := ⟨fun σ ω Q s d k =>
  h.run σ ω _ s d fun vs ω1 l1 d1 hvs => ⟨sz _ (by rw [hvs.len]; exact hl), fun p hp =>
    k p (.ref p) (ω1.mut p (.lst vs) (Wo.free hp)) (l1.trans (Wo.mut_le hp).nil) (fun a ha => by rw [List.mem_singleton.mp ha]; exact fresh_le l1 hp) (d1.newL hp hvs) rfl⟩⟩
theorem ex_rep {n : Nat} (ha : Ev C ta Γ Δ (eLst [e]) Δ1) (hb : Ev C tb Γ Δ1 (eI (n : Int)) Δ2) (h : n ≤ 100000) : EvX (γ := Addr) C (tOp rRep ta tb) Γ Δ (fun p => [p]) eR (fun p => rL p (List.replicate n e) :: Δ2) := ⟨fun σ ω Q s d k =>
  ha.run σ ω _ s d fun x ω1 l1 d1 hx => hb.run σ ω1 _ (s.mono l1.m) d1 fun y ω2 l2 d2 hy => by
    obtain ⟨q, vs, rfl, hq, hv⟩ := (eLst [e]).mono _ _ _ l2.m hx
    have hl := hv.len
    refine ⟨q, n, vs, rfl, hy, ω2.sub _ _ hq, by omega, by omega, by rw [hl]; show 1 * (n : Int).toNat ≤ sizeLine; rw [Int.toNat_natCast, Nat.one_mul]; exact sz _ h, fun c hc => ?_⟩
    match vs, hv with
    | [v], hv =>
      rw [Int.toNat_natCast, rep_eq]
      refine k c (.ref c) (ω2.mut c (.lst (List.replicate n v)) (Wo.free hc)) ((l1.trans l2).trans (Wo.mut_le hc).nil) (fun a ha => by rw [List.mem_singleton.mp ha]; exact fresh_le (l1.trans l2) hc) (d2.newL hc ?_) rfl
      have := args_rep (n := n) hv
      rw [rep_eq, rep_eq] at this
      exact this⟩
theorem xa_nil : EvXA (γ := Unit) C tNil Γ Δ (fun _ => []) (fun _ => []) (fun _ => Δ) := ⟨fun σ ω Q s d k => k () [] ω (LeX.refl _ _) (fun _ z => nomatch z) d trivial⟩
theorem xa_cons {γ δ : Type} {fr : γ → List Addr} {e : γ → En} {Δ1 : γ → List Rs} {ts : TA} {fr2 : γ → δ → List Addr} {es : γ → δ → List En} {Δ2 : γ → δ → List Rs} (h : EvX C te Γ Δ fr e Δ1) (k : ∀ g, EvXA C ts Γ (Δ1 g) (fr2 g) (es g) (Δ2 g)) :
    EvXA (γ := γ × δ) C (tCons te ts) Γ Δ (fun g => fr g.1 ++ fr2 g.1 g.2) (fun g => e g.1 :: es g.1 g.2) (fun g => Δ2 g.1 g.2) := ⟨fun σ ω Q s d q => h.run σ ω _ s d fun g v ω1 l1 f1 d1 hv => (k g).run σ ω1 _ (s.mono l1.m) d1 fun g2 vs ω2 l2 f2 d2 hvs =>
    q (g, g2) (v :: vs) ω2 (l1.trans l2) (fun a ha => (List.mem_append.mp ha).elim (f1 a) fun z => fresh_le l1 (f2 a z)) d2 ⟨(e g).mono _ _ _ l2.m hv, hvs⟩⟩
theorem free_o {ω : Wo} (l : W.le ω) {a : Addr} (h : ω.H a = none) : W.o.H a = none := fresh_le l h
theorem q_asgX {γ : Type} {fr : γ → List Addr} {ef : γ → En} {Δf : γ → List Rs} {i : Nat} (h : EvX C te Γ Δ fr ef Δf) (hk : ∀ g, (∀ a ∈ fr g, W.o.H a = none) → Tr z (As W (Γ.set i (some (ef g))) (Δf g)) D) (o : Own W C := by exact Own.nil _) :
    Tr (tSeq (tAsg te (gName i)) z) (As W Γ Δ) D := fun σ H ⟨ω, h1, h2, hm, h3, h4⟩ => by
  subst h1
  exact h.run σ ω _ h3 h4 fun g v ω' l f d hv => hk g (fun a ha => free_o h2 (f a ha)) _ _ ⟨ω', rfl, h2.ch l o, fun x q z => l.m x q (hm x q z), (h3.mono l.m).set hv, d⟩
theorem q_parX {γ : Type} {fr : γ → List Addr} {ef : γ → List En} {Δf : γ → List Rs} {i j : Nat} {tA : TA} {e1 e2 : γ → En} (h : EvXA C tA Γ Δ fr (fun g => [e1 g, e2 g]) Δf) (hk : ∀ g, (∀ a ∈ fr g, W.o.H a = none) → Tr z (As W ((Γ.set i (some (e1 g))).set j (some (e2 g))) (Δf g)) D) (o : Own W C := by exact Own.nil _) :
    Tr (tSeq (tPar i j tA) z) (As W Γ Δ) D := fun σ H ⟨ω, h1, h2, hm, h3, h4⟩ => by
  subst h1
  refine h.run σ ω _ h3 h4 fun g vs ω' l f d hv => ?_
  match vs, hv with
  | [x, y], ⟨a, b, _⟩ => exact ⟨x, y, rfl, hk g (fun a ha => free_o h2 (f a ha)) _ _ ⟨ω', rfl, h2.ch l o, fun x q z => l.m x q (hm x q z), ((h3.mono l.m).set a).set b, d⟩⟩
theorem q_par3X {γ : Type} {fr : γ → List Addr} {Δf : γ → List Rs} {i j l : Nat} {tA : TA} {e1 e2 e3 : γ → En} (h : EvXA C tA Γ Δ fr (fun g => [e1 g, e2 g, e3 g]) Δf) (hk : ∀ g, (∀ a ∈ fr g, W.o.H a = none) → Tr z (As W (((Γ.set i (some (e1 g))).set j (some (e2 g))).set l (some (e3 g))) (Δf g)) D) (o : Own W C := by exact Own.nil _) :
    Tr (tSeq (tPar3 i j l tA) z) (As W Γ Δ) D := fun σ H ⟨ω, h1, h2, hm, h3, h4⟩ => by
  subst h1
  refine h.run σ ω _ h3 h4 fun g vs ω' l f d hv => ?_
  match vs, hv with
  | [x, y, w], ⟨a, b, c, _⟩ => exact ⟨x, y, w, rfl, hk g (fun a ha => free_o h2 (f a ha)) _ _ ⟨ω', rfl, h2.ch l o, fun x q z => l.m x q (hm x q z), (((h3.mono l.m).set a).set b).set c, d⟩⟩
theorem etx_of {c : Bool} (h : EvT C tt Γ Δ c Δ1) : EtX C tt Γ Δ Δ1 := ⟨fun σ ω Q s d k => h.run σ ω _ s d fun ω' l d' => k c ω' l d'⟩
theorem etx_test (h : Ev C te Γ Δ (eAny Bool (fun _ => True) eB) Δ1) : EtX C (tTest te) Γ Δ Δ1 := ⟨fun σ ω Q s d k => h.run σ ω _ s d fun v ω' l d' ⟨b, _, hv⟩ => ⟨b, hv, k b ω' l d'⟩⟩
theorem etx_and {tt' : TT} (h : EtX C tt Γ Δ Δ) (h' : EtX C tt' Γ Δ Δ) : EtX C (tAnd tt tt') Γ Δ Δ := ⟨fun σ ω Q s d k => h.run σ ω _ s d fun b ω1 l1 d1 => by
  cases b with
  | true => exact h'.run σ ω1 Q (s.mono l1.m) d1 fun b ω2 l2 d2 => k b ω2 (l1.trans l2) d2
  | false => exact k false ω1 l1 d1⟩
theorem etx_or {tt' : TT} (h : EtX C tt Γ Δ Δ) (h' : EtX C tt' Γ Δ Δ) : EtX C (tOr tt tt') Γ Δ Δ := ⟨fun σ ω Q s d k => h.run σ ω _ s d fun b ω1 l1 d1 => by
  cases b with
  | true => exact k true ω1 l1 d1
  | false => exact h'.run σ ω1 Q (s.mono l1.m) d1 fun b ω2 l2 d2 => k b ω2 (l1.trans l2) d2⟩
theorem s_ifX (h : EtX C tt Γ Δ Δ1) (h1 : Tr t (As W Γ Δ1) D) (h2 : Tr u (As W Γ Δ1) D) (o : Own W C := by exact Own.nil _) : Tr (tIfS tt t u) (As W Γ Δ) D := fun σ H ⟨ω, q1, q2, qm, q3, q4⟩ => by
  subst q1
  refine h.run σ ω _ q3 q4 fun b ω' l d => ?_
  cases b with
  | true => exact h1 _ _ ⟨ω', rfl, q2.ch l o, fun x q z => l.m x q (qm x q z), q3.mono l.m, d⟩
  | false => exact h2 _ _ ⟨ω', rfl, q2.ch l o, fun x q z => l.m x q (qm x q z), q3.mono l.m, d⟩

/-! ### what is not wholly known -/
theorem t_any {i : Nat} {α : Type} {P : α → Prop} {f : α → En} (hi : Γ[i]? = some (some (eAny α P f))) (hk : ∀ x, P x → Tr t (As W (Γ.set i (some (f x))) Δ) D) : Tr t (As W Γ Δ) D := fun σ H ⟨ω, h1, h2, hm, h3, h4⟩ => by
  obtain ⟨v, q1, x, px, q2⟩ := h3.2 i _ hi
  refine hk x px σ H ⟨ω, h1, h2, hm, ?_, h4⟩
  have := h3.set (i := i) (e := f x) (v := v) q2
  have e : σ.set i (some v) = σ := by
    have hl := (List.getElem?_eq_some_iff.mp q1).1
    have := (List.getElem?_eq_some_iff.mp q1).2
    rw [← this]
    exact List.set_getElem_self hl
  rw [e] at this
  exact this
theorem op_anyL {r : R2} {α : Type} {P : α → Prop} {f : α → En} {b : En} (h : ∀ x, P x → Op2 r (f x) b e) : Op2 r (eAny α P f) b e := fun v y ω Q ⟨x, px, hx⟩ hy k => h x px v y ω Q hx hy k
theorem op_anyR {r : R2} {α : Type} {P : α → Prop} {f : α → En} {a : En} (h : ∀ x, P x → Op2 r a (f x) e) : Op2 r a (eAny α P f) e := fun v y ω Q hv ⟨x, px, hx⟩ k => h x px v y ω Q hv hx k
theorem op_any1 {r : V → Hp → VK → Prop} {α : Type} {P : α → Prop} {f : α → En} (h : ∀ x, P x → Op1 r (f x) e) : Op1 r (eAny α P f) e := fun v ω Q ⟨x, px, hx⟩ k => h x px v ω Q hx k
/-- weaker -/
def EnLe (e f : En) : Prop := ∀ v M, e.r v M → f.r v M
theorem ev_le (h : Ev C te Γ Δ e Δ1) (l : EnLe e e') : Ev C te Γ Δ e' Δ1 := ⟨fun σ ω Q s d k => h.run σ ω Q s d fun v ω' l' d' hv => k v ω' l' d' (l v _ hv)⟩
theorem le_any {α : Type} {P : α → Prop} {f : α → En} (x : α) (h : P x) : EnLe (f x) (eAny α P f) := fun v M hv => ⟨x, h, hv⟩
theorem op_weak {r : R2} {a b : En} (h : Op2 r a b e) (l : EnLe e e') : Op2 r a b e' := fun x y ω Q hx hy k => h x y ω Q hx hy fun v ω' l' hv => k v ω' l' (l v _ hv)
theorem Ev.more (h : Ev C te Γ Δ e Δ1) (hC : ∀ a ∈ C, a ∈ C') : Ev C' te Γ Δ e Δ1 := ⟨fun σ ω Q s d k => h.run σ ω Q s d fun v ω' l d' hv => k v ω' (l.mono hC) d' hv⟩
theorem EvA.more {ta : TA} (h : EvA C ta Γ Δ es Δ1) (hC : ∀ a ∈ C, a ∈ C') : EvA C' ta Γ Δ es Δ1 := ⟨fun σ ω Q s d k => h.run σ ω Q s d fun v ω' l d' hv => k v ω' (l.mono hC) d' hv⟩

/-! ### reading and changing a list -/
theorem ev_ixM {j : Nat} (ha : Ev C ta Γ Δ (eR p) Δ1) (hb : Ev C tb Γ Δ1 (eI (j : Int)) Δ2) (hk : rL p es ∈ Δ2) (h : es[j]? = some e) : Ev C (tOp (rIxL K) ta tb) Γ Δ e Δ2 := ⟨fun σ ω Q s d q =>
  ha.run σ ω _ s d fun x ω1 l1 d1 hx => hb.run σ ω1 _ (s.mono l1.m) d1 fun y ω2 l2 d2 hy => by
    obtain ⟨vs, h1, h2⟩ := d2.r _ hk
    obtain ⟨v, h3, h4⟩ := h2.get h
    exact ⟨p, vs, j, v, hx, hy, SqL.of h1, atI_nat h3, q v ω2 (l1.trans l2) d2 h4⟩⟩
theorem ev_lenM (ha : Ev C ta Γ Δ (eR p) Δ1) (hk : rL p es ∈ Δ1) : Ev C (tCB (fun xs H Q => ∃ p ys, xs = [.ref p] ∧ (SqL K H p ys ∨ SqT K H p ys) ∧ Q (.int ys.length) H) (tCons ta tNil)) Γ Δ (eI (es.length : Int)) Δ1 := ⟨fun σ ω Q s d q =>
  ha.run σ ω _ s d fun x ω1 l1 d1 hx => by
    obtain ⟨vs, h1, h2⟩ := d1.r _ hk
    refine ⟨p, vs, by rw [show x = V.ref p from hx], .inl (SqL.of h1), ?_⟩
    rw [h2.len]
    exact q _ ω1 l1 d1 rfl⟩
theorem rL_ad {p : Addr} {es : List En} : (rL p es).ad = [p] := rfl
theorem ev_append {to : TE} (ho : Ev C to Γ Δ (eR p) Δ1) (hp1 : rL p es ∈ Δ1) (ha : Ev C te Γ Δ1 e Δ2) (hk : Δ2[k]? = some (rL p fs)) (hl : fs.length < 100000) (hC : p ∈ C) (hΔ : Δ2.set k (rL p (fs ++ [e])) = Δ3) : Ev C (tBM K "list" rAppend to (tCons te tNil)) Γ Δ eN Δ3 := ⟨fun σ ω Q s d q => by
  subst hΔ
  exact
  ho.run σ ω _ s d fun x ω1 l1 d1 hx => by
    cases (show x = V.ref p from hx)
    obtain ⟨vs, h1, h2⟩ := d1.r _ hp1
    refine ⟨.inl ⟨rfl, vs, SqL.of h1⟩, ha.run σ ω1 _ (s.mono l1.m) d1 fun y ω2 l2 d2 hy => ?_⟩
    obtain ⟨ws, h3, h4⟩ := d2.r _ (List.mem_of_getElem? hk)
    have hM : ω2.M p = none := (d2.a p (List.mem_flatMap.mpr ⟨_, List.mem_of_getElem? hk, List.mem_singleton.mpr rfl⟩)).2
    have l3 : LeX [p] ω2 (ω2.mut p (.lst (ws ++ [y])) hM) := Wo.set_le hM
    refine ⟨p, ws, y, rfl, rfl, h3, Nat.lt_of_lt_of_le (by rw [h4.len]; exact hl) (by decide), ?_⟩
    refine q .non (ω2.mut p (.lst (ws ++ [y])) hM) ?_ (d2.upd hk l3 (fun _ h => h) rfl ⟨_, upd_same, h4.app ⟨hy, trivial⟩⟩) rfl
    exact (l1.trans l2).trans (l3.mono fun a h => by rw [List.mem_singleton.mp h]; exact hC)⟩
theorem ev_extend {to : TE} {gs : List En} (ho : Ev C to Γ Δ (eR p) Δ1) (hp1 : rL p es ∈ Δ1) (ha : Ev C te Γ Δ1 (eLst gs) Δ2) (hk : Δ2[k]? = some (rL p fs)) (hl : fs.length + gs.length ≤ 100000) (hC : p ∈ C) (hΔ : Δ2.set k (rL p (fs ++ gs)) = Δ3) : Ev C (tBM K "list" rExtend to (tCons te tNil)) Γ Δ eN Δ3 := ⟨fun σ ω Q s d q => by
  subst hΔ
  exact
  ho.run σ ω _ s d fun x ω1 l1 d1 hx => by
    cases (show x = V.ref p from hx)
    obtain ⟨vs, h1, h2⟩ := d1.r _ hp1
    refine ⟨.inl ⟨rfl, vs, SqL.of h1⟩, ha.run σ ω1 _ (s.mono l1.m) d1 fun y ω2 l2 d2 hy => ?_⟩
    obtain ⟨b, us, rfl, hb, hu⟩ := hy
    obtain ⟨ws, h3, h4⟩ := d2.r _ (List.mem_of_getElem? hk)
    have hM : ω2.M p = none := (d2.a p (List.mem_flatMap.mpr ⟨_, List.mem_of_getElem? hk, List.mem_singleton.mpr rfl⟩)).2
    have l3 : LeX [p] ω2 (ω2.mut p (.lst (ws ++ us)) hM) := Wo.set_le hM
    refine ⟨p, b, ws, us, rfl, rfl, h3, ω2.sub _ _ hb, sz _ (by rw [h4.len, hu.len]; exact hl), ?_⟩
    refine q .non (ω2.mut p (.lst (ws ++ us)) hM) ?_ (d2.upd hk l3 (fun _ h => h) rfl ⟨_, upd_same, h4.app hu⟩) rfl
    exact (l1.trans l2).trans (l3.mono fun a h => by rw [List.mem_singleton.mp h]; exact hC)⟩
theorem ixN_nat {n j : Nat} (h : j < n) : ixN n (j : Int) = some j := by
  unfold ixN
  rw [if_pos (by omega), if_pos (by omega), Int.toNat_natCast]
/-- name[i] = e of a list that changes -/
theorem s_setix {tn ti : TE} {j : Nat} (hv : Ev C te Γ Δ e Δ1) (ho : Ev C tn Γ Δ1 (eR p) Δ2) (hi : Ev C ti Γ Δ2 (eI (j : Int)) Δ3) (hk : Δ3[k]? = some (rL p es)) (hj : j < es.length)
    (hn : ∀ σ H, As W Γ (Δ3.set k (rL p (es.set j e))) σ H → D.nx σ H) (hp : W.o.H p = none ∨ p ∈ W.S) (o : Own W C := by exact Own.nil _) : Tr (tAsg te (gSub tn ti rSetL)) (As W Γ Δ) D := fun σ H ⟨ω, h1, h2, hm, h3, h4⟩ => by
  subst h1
  refine hv.run σ ω _ h3 h4 fun v ω1 l1 d1 hv => ?_
  refine ho.run σ ω1 _ (h3.mono l1.m) d1 fun x ω2 l2 d2 hx => ?_
  refine hi.run σ ω2 _ ((h3.mono l1.m).mono l2.m) d2 fun y ω3 l3 d3 hy => ?_
  obtain ⟨ws, q3, q4⟩ := d3.r _ (List.mem_of_getElem? hk)
  have hM : ω3.M p = none := (d3.a p (List.mem_flatMap.mpr ⟨_, List.mem_of_getElem? hk, List.mem_singleton.mpr rfl⟩)).2
  have l4 : LeX [p] ω3 (ω3.mut p (.lst (ws.set j v)) hM) := Wo.set_le hM
  have hl := q4.len
  refine ⟨p, ws, j, j, hx, hy, q3, ixN_nat (by omega), ?_⟩
  refine hn _ _ ⟨ω3.mut p (.lst (ws.set j v)) hM, rfl, ?_, fun x q z => l4.m x q (l3.m x q (l2.m x q (l1.m x q (hm x q z)))), (((h3.mono l1.m).mono l2.m).mono l3.m).mono l4.m, d3.upd hk l4 (fun _ h => h) rfl ⟨_, upd_same, q4.set ((e.mono _ _ _ l3.m (e.mono _ _ _ l2.m hv)))⟩⟩
  exact (((h2.ch l1 o).ch l2 o).ch l3 o).ch l4 fun a ha => by
    rw [List.mem_singleton.mp ha]
    exact hp.symm
/-- from now on immutable -/
theorem t_frz {i : Nat} (hp : W.o.H p = none) (hi : Γ[i]? = some (some (eR p))) (hk : Tr t (As W (Γ.set i (some (eLst es))) Δ) D) : Tr t (As W Γ (rL p es :: Δ)) D := fun σ H ⟨ω, h1, h2, hm, h3, h4⟩ => by
  subst h1
  obtain ⟨vs, q1, q2⟩ := h4.r _ List.mem_cons_self
  obtain ⟨a1, n1⟩ := h4.head
  obtain ⟨_, hM, np⟩ := a1 p (List.mem_singleton.mpr rfl)
  obtain ⟨v, r1, r2⟩ := h3.2 i _ hi
  cases (show v = V.ref p from r2)
  refine hk σ _ ⟨ω.frz p _ q1, rfl, h2.frz hp q1, fun x o z => Wo.frz_m hM x o (hm x o z), ?_, h4.tail.frz hM np⟩
  have := (h3.mono (Wo.frz_m (h := q1) hM)).set (i := i) (e := eLst es) (v := .ref p) ⟨p, vs, rfl, upd_same, q2.mono (Wo.frz_m hM)⟩
  have e : σ.set i (some (V.ref p)) = σ := by
    have hl := (List.getElem?_eq_some_iff.mp r1).1
    have := (List.getElem?_eq_some_iff.mp r1).2
    rw [← this]
    exact List.set_getElem_self hl
  rw [e] at this
  exact this
theorem t_perm (h : Δ.Perm Δ1) (hk : Tr t (As W Γ Δ1) D) : Tr t (As W Γ Δ) D := hk.pre fun σ H ⟨ω, h1, h2, hm, h3, h4⟩ => ⟨ω, h1, h2, hm, h3, h4.perm h⟩
/-- what is no longer looked at -/
theorem t_skip {ρ : Rs} (hk : Tr t (As W Γ Δ) D) : Tr t (As W Γ (ρ :: Δ)) D := hk.pre fun σ H ⟨ω, h1, h2, hm, h3, h4⟩ => ⟨ω, h1, h2, hm, h3, h4.tail⟩
theorem own1 (h : W.o.H p = none) (o : Own W C := by exact Own.nil _) : Own W (p :: C) := fun a ha => (List.mem_cons.mp ha).elim (fun e => .inr (by rw [e]; exact h)) (o a)
theorem ownS (h : p ∈ W.S) (o : Own W C := by exact Own.nil _) : Own W (p :: C) := fun a ha => (List.mem_cons.mp ha).elim (fun e => .inl (by rw [e]; exact h)) (o a)
/-- a list that is not changed here, walked -/
theorem it_listM {tl : TE} (h : Ev C tl Γ Δ (eR p) Δ1) (hk : rL p es ∈ Δ1) (hp : W.o.H p ≠ none) (hS : p ∉ W.S) (oC : C = []) : ItOk W C (iList K tl) Γ Δ es.length (itm es) Δ1 := fun σ ω R l0 s d k => by
  subst oC
  refine h.run σ ω _ s d fun v ω1 l d1 hv => ?_
  cases (show v = V.ref p from hv)
  obtain ⟨vs, ha, hvs⟩ := d1.r _ hk
  refine ⟨p, rfl, ⟨vs, SqL.of ha⟩, k _ ω1 l d1 fun ω2 l2 m => ?_⟩
  have e1 : ω1.H p = W.o.H p := same_of (l0.trans l.nil) hp hS
  have e2 : ω2.H p = W.o.H p := same_of l2 hp hS
  have h2 : SqL K ω2.H p vs := SqL.of (by rw [e2, ← e1]; exact ha)
  refine ⟨fun i hi => ?_, ⟨vs, h2, by rw [hvs.len]; exact Nat.le_refl _⟩⟩
  have hi' : i < vs.length := by rw [hvs.len]; exact hi
  refine ⟨⟨vs, vs[i], h2, List.getElem?_eq_getElem hi'⟩, fun x H' y => ?_⟩
  obtain ⟨e1, y⟩ := y
  exact ⟨ω2, e1.symm, LeX.refl _ _, args_at (hvs.mono m) (y vs h2)⟩
end

theorem lp_mk {W : Bs} {β : Type} {P : β → Prop} {Γf : β → List (Option En)} {Δf : β → List Rs} {Γ : List (Option En)} {Δ : List Rs} (b : β) (p : P b) (d : Δf b = Δ) (w : Wk Γ (Γf b)) : ∀ σ H, As W Γ Δ σ H → Lp W P Γf Δf σ H := fun σ H h => ⟨b, p, by rw [d]; exact As.wk w σ H h⟩
theorem tr_cutP {t u : TS} {A : Asr} {D : Ends} (p : Prop) (M : Asr) (h : Tr t A { D with nx := fun σ H => p ∧ M σ H }) (k : p → Tr u M D) : Tr (Evl.tCut t u) A D := tr_cut _ h fun σ H a => k a.1 σ H a.2
/-! ### defs that read or change a resource -/
theorem lookup_none : ∀ {fn : List Str} {vs : List V} {m : Str}, m ∉ fn → (fn.zip vs).lookup m = none
  | [], _, _, _ => by simp
  | f :: fn, [], _, _ => by simp
  | f :: fn, v :: vs, m, h => by
    rw [List.zip_cons_cons, List.lookup_cons]
    have : (m == f) = false := by
      apply Bool.eq_false_iff.mpr
      intro z
      exact h (by rw [eq_of_beq z]; exact List.mem_cons_self)
    rw [this]
    exact lookup_none fun z => h (List.mem_cons_of_mem _ z)
theorem lookup_at : ∀ {fn : List Str} {vs : List V} {es : List En} {M : Hp} {i : Nat} {f : Str} {e : En}, fn.Nodup → vs.length = fn.length → Args es vs M → fn[i]? = some f → es[i]? = some e → ∃ v, (fn.zip vs).lookup f = some v ∧ e.r v M
  | [], _, _, _, _, _, _, _, _, _, h, _ => by simp at h
  | g :: fn, [], _, _, _, _, _, _, h, _, _, _ => by simp at h
  | g :: fn, v :: vs, [], _, _, _, _, _, _, h, _, _ => h.elim
  | g :: fn, v :: vs, e0 :: es, M, 0, f, e, nd, hl, ha, hf, he => by
    cases hf
    cases he
    exact ⟨v, by rw [List.zip_cons_cons, List.lookup_cons, beq_self_eq_true], ha.1⟩
  | g :: fn, v :: vs, e0 :: es, M, i + 1, f, e, nd, hl, ha, hf, he => by
    obtain ⟨n1, n2⟩ := List.nodup_cons.mp nd
    obtain ⟨u, h1, h2⟩ := lookup_at (fn := fn) (vs := vs) (es := es) (M := M) (i := i) (f := f) (e := e) n2 (by simpa using hl) ha.2 (by simpa using hf) (by simpa using he)
    refine ⟨u, ?_, h2⟩
    rw [List.zip_cons_cons, List.lookup_cons]
    have : (f == g) = false := by
      apply Bool.eq_false_iff.mpr
      intro z
      exact n1 (by rw [← eq_of_beq z]; exact List.mem_of_getElem? (by simpa using hf))
    rw [this]
    exact h1
def SpR (C : List Addr) (sp : Sp) (es : List En) (e : En) (ρ ρ' : Rs) : Prop := ∀ vs (ω : Wo) (Q : VK) (E : XK), Args es vs ω.M → ρ.r ω → (∀ a ∈ ρ.ad, ω.H a ≠ none ∧ ω.M a = none) → ρ.ad.Nodup → (∀ v ω', LeX C ω ω' → ρ'.r ω' → e.r v ω'.M → Q v ω'.H) → sp vs ω.H Q E
/-- for any b with pre b: handed args b, at ρ b, it hands back res b and ρ' b; only what is at S b is changed -/
def spR {β : Type} (args : β → List En) (pre : β → Prop) (res : β → En) (S : β → List Addr) (ρ ρ' : β → Rs) : Sp := fun vs H Q _ => ∃ (b : β) (ω : Wo), ω.H = H ∧ pre b ∧ Args (args b) vs ω.M ∧ SatD [ρ b] ω ∧ ∀ v ω', LeX (S b) ω ω' → SatD [ρ' b] ω' → (res b).r v ω'.M → Q v ω'.H
theorem satD1 {ρ : Rs} {ω : Wo} : SatD [ρ] ω ↔ ρ.r ω ∧ (∀ a ∈ ρ.ad, ω.H a ≠ none ∧ ω.M a = none) ∧ ρ.ad.Nodup := by
  have e : adr [ρ] = ρ.ad := by rw [adr, List.flatMap_cons, List.flatMap_nil, List.append_nil]
  exact ⟨fun d => ⟨d.r ρ (List.mem_singleton.mpr rfl), fun a h => d.a a (by rw [e]; exact h), by have := d.nd; rwa [e] at this⟩, fun ⟨h1, h2, h3⟩ => ⟨fun σ h => by rw [List.mem_singleton.mp h]; exact h1, fun a h => h2 a (by rw [e] at h; exact h), by rw [e]; exact h3⟩⟩
theorem spR_ok {β : Type} {args : β → List En} {pre : β → Prop} {res : β → En} {S : β → List Addr} {ρ ρ' : β → Rs} (b : β) (h : pre b) : SpR (S b) (spR args pre res S ρ ρ') (args b) (res b) (ρ b) (ρ' b) := fun vs ω Q E ha hr h1 h2 hk => ⟨b, ω, rfl, h, ha, satD1.mpr ⟨hr, h1, h2⟩, fun v ω' l d hv => hk v ω' l (satD1.mp d).1 hv⟩
abbrev bsS (ω : Wo) (S : List Addr) : Bs := ⟨ω, S, ω.M⟩
theorem body_r {β : Type} {args : β → List En} {pre : β → Prop} {res : β → En} {S : β → List Addr} {ρ ρ' : β → Rs} {N : List Str} {t : TS}
    (h : ∀ b, pre b → ∀ (ω : Wo) (Q : VK), SatD [ρ b] ω → (∀ v ω', LeX (S b) ω ω' → SatD [ρ' b] ω' → (res b).r v ω'.M → Q v ω'.H) → Tr t (As (bsS ω (S b)) (Γ0 N (args b)) [ρ b]) (endsOf Q)) :
    ∀ vs H Q E, spR args pre res S ρ ρ' vs H Q E → t (endsOf Q) (L2.start N vs) H := fun vs H Q E ⟨b, ω, e, p, a, d, k⟩ => by
  subst e
  exact h b p ω Q d k _ _ ⟨ω, rfl, LeX.refl _ _, fun _ _ z => z, sat_start a, d⟩
theorem len_r {β : Type} {args : β → List En} {pre : β → Prop} {res : β → En} {S : β → List Addr} {ρ ρ' : β → Rs} {n : Nat} (h : ∀ b, (args b).length = n) : ∀ vs H Q E, spR args pre res S ρ ρ' vs H Q E → vs.length = n := fun vs H Q E ⟨b, ω, _, _, a, _⟩ => by rw [a.len, h b]
section
variable {W : Bs} {C C' : List Addr} {Γ Γ' : List (Option En)} {Δ Δ1 Δ2 : List Rs} {te to : TE} {e o : En} {es : List En} {K : PySem.W.Frag} {k : Nat} {ρ ρ' : Rs} {sp : Sp} {E : XK} {ta : TA}
theorem run_r {vs : List V} {ω : Wo} {Q : VK} (hs : SpR C' sp es e ρ ρ') (hk : Δ1[k]? = some ρ) (hC : ∀ a ∈ C', a ∈ ρ.ad) (he : ρ'.ad = ρ.ad) (d : SatD Δ1 ω) (a : Args es vs ω.M) (q : ∀ v ω', LeX C' ω ω' → SatD (Δ1.set k ρ') ω' → e.r v ω'.M → Q v ω'.H) : sp vs ω.H Q E := by
  have hm := List.mem_of_getElem? hk
  refine hs vs ω Q E a (d.r _ hm) (fun a ha => d.a a (List.mem_flatMap.mpr ⟨_, hm, ha⟩)) ?_ fun v ω' l hr hv => q v ω' l (d.upd hk l hC he hr) hv
  exact ad_nodup d.nd hm
theorem ev_callR (h : EvA C ta Γ Δ es Δ1) (hs : SpR C' sp es e ρ ρ') (hk : Δ1[k]? = some ρ) (hC : ∀ a ∈ C', a ∈ ρ.ad) (he : ρ'.ad = ρ.ad) (hCC : ∀ a ∈ C', a ∈ C) (hΔ : Δ1.set k ρ' = Δ2) : Ev C (tCall sp [] E ta) Γ Δ e Δ2 := ⟨fun σ ω Q s d q => by
  subst hΔ
  exact h.run σ ω _ s d fun vs ω1 l1 d1 hvs => by
    show sp (vs ++ []) ω1.H Q E
    rw [List.append_nil]
    exact run_r hs hk hC he d1 hvs fun v ω2 l2 d2 hv => q v ω2 (l1.trans (l2.mono hCC)) d2 hv⟩
/-- o.m(..), o an object of which the entry is told -/
theorem ev_methR {Cl : Addr} {m : Str} {fn : List Str} {ls : List En} (ho : Ev C to Γ Δ (eObj Cl fn ls) Δ) (hm : m ∉ fn) (h : EvA C ta Γ Δ es Δ1) (hs : SpR C' sp (eObj Cl fn ls :: es) e ρ ρ') (hk : Δ1[k]? = some ρ) (hC : ∀ a ∈ C', a ∈ ρ.ad) (he : ρ'.ad = ρ.ad) (hCC : ∀ a ∈ C', a ∈ C) (hΔ : Δ1.set k ρ' = Δ2) :
    Ev C (tMeth Cl m sp [] E to ta) Γ Δ e Δ2 := ⟨fun σ ω Q s d q => by
  subst hΔ
  refine ho.run σ ω _ s d fun x ω1 l1 d1 hx => ?_
  have hx0 := hx
  obtain ⟨a, dx, vs, rfl, h1, h2, h3, h4⟩ := hx
  refine ⟨a, dx, fn.zip vs, rfl, ω1.sub _ _ h1, lookup_none hm, h.run σ ω1 _ (s.mono l1.m) d1 fun us ω2 l2 d2 hus => ?_⟩
  rw [List.append_nil]
  exact run_r hs hk hC he d2 ⟨(eObj Cl fn ls).mono _ _ _ l2.m hx0, hus⟩ fun v ω3 l3 d3 hv => q v ω3 ((l1.trans l2).trans (l3.mono hCC)) d3 hv⟩
end
end Tw

/-! Objects, methods, dicts. -/
namespace Tw
open PySem L2 PyProof.Rows

/-! ### reading an object -/
section
variable {W : Bs} {C C' : List Addr} {Γ Γ' : List (Option En)} {Δ Δ1 Δ2 Δ3 : List Rs} {te to ta tv : TE} {t u z : TS} {e : En} {es ls fes : List En} {K : PySem.W.Frag} {k : Nat} {ρ ρ' : Rs} {sp : Sp} {E : XK} {tA : TA} {Cl : Addr} {f m : Str} {fn : List Str} {D : Ends}
theorem ev_fld {i : Nat} (ho : Ev C to Γ Δ (eObj Cl fn ls) Δ1) (c : Cls K Cl) (n : NoAttr K Cl f) (nd : fn.Nodup) (hi : fn[i]? = some f) (he : ls[i]? = some e) : Ev C (tFld K to f) Γ Δ e Δ1 := ⟨fun σ ω Q s d q =>
  ho.run σ ω _ s d fun x ω1 l1 d1 hx => by
    obtain ⟨a, dx, vs, rfl, h1, h2, h3, h4⟩ := hx
    obtain ⟨v, h5, h6⟩ := lookup_at nd h3 h4 hi he
    exact ⟨a, Cl, dx, _, v, rfl, ω1.sub _ _ h1, c, n, h5, q v ω1 l1 d1 h6⟩⟩
/-- a pure method -/
theorem ev_meth (ho : Ev C to Γ Δ (eObj Cl fn ls) Δ1) (hm : m ∉ fn) (h : EvA C tA Γ Δ1 es Δ2) (hs : SpOk sp (eObj Cl fn ls :: es) e) : Ev C (tMeth Cl m sp [] E to tA) Γ Δ e Δ2 := ⟨fun σ ω Q s d q => ho.run σ ω _ s d fun x ω1 l1 d1 hx => by
  have hx0 := hx
  obtain ⟨a, dx, vs, rfl, h1, h2, h3, h4⟩ := hx
  refine ⟨a, dx, fn.zip vs, rfl, ω1.sub _ _ h1, lookup_none hm, h.run σ ω1 _ (s.mono l1.m) d1 fun us ω2 l2 d2 hus => ?_⟩
  rw [List.append_nil]
  exact hs _ ω2 Q E ⟨(eObj Cl fn ls).mono _ _ _ l2.m hx0, hus⟩ fun v ω3 l3 hv => q v ω3 ((l1.trans l2).trans l3.nil) (d2.le l3) hv⟩
theorem ev_prop (ho : Ev C to Γ Δ (eObj Cl fn ls) Δ1) (hs : SpOk sp [eObj Cl fn ls] e) : Ev C (tProp Cl sp [] E to) Γ Δ e Δ1 := ⟨fun σ ω Q s d q => ho.run σ ω _ s d fun x ω1 l1 d1 hx => by
  have hx0 := hx
  obtain ⟨a, dx, vs, rfl, h1, h2, h3, h4⟩ := hx
  exact ⟨a, dx, fn.zip vs, rfl, ω1.sub _ _ h1, hs _ ω1 Q E ⟨hx0, trivial⟩ fun v ω3 l3 hv => q v ω3 (l1.trans l3.nil) (d1.le l3) hv⟩⟩

/-! ### making an object -/
def rO (x C dx : Addr) (fn : List Str) (es : List En) : Rs := ⟨[x], fun ω => ∃ vs, ω.H x = some (.ins C dx (fn.zip vs)) ∧ vs.length = fn.length ∧ Args es vs ω.M, fun ω ω' ⟨vs, h1, h2, h3⟩ m e => ⟨vs, by rw [e x (List.mem_singleton.mpr rfl)]; exact h1, h2, h3.mono m⟩⟩
/-- the promise of an __init__ -/
def SpI (Cl : Addr) (sp : Sp) (es : List En) (fn : List Str) (fes : List En) : Prop := ∀ vs (ω : Wo) x dx (Q : VK) (E : XK), Args es vs ω.M → ω.H x = some (.ins Cl dx []) → ω.M x = none → (∀ ω', LeX [x] ω ω' → SatD [rO x Cl dx fn fes] ω' → Q .non ω'.H) → sp (.ref x :: vs) ω.H Q E
def spI {β : Type} (Cl : Addr) (args : β → List En) (pre : β → Prop) (fn : List Str) (fes : β → List En) : Sp := fun vs H Q _ => ∃ (b : β) (ω : Wo) (x dx : Addr) (us : List V), vs = .ref x :: us ∧ ω.H = H ∧ pre b ∧ Args (args b) us ω.M ∧ SatD [rO x Cl dx [] []] ω ∧ ∀ ω', LeX [x] ω ω' → SatD [rO x Cl dx fn (fes b)] ω' → Q .non ω'.H
theorem rO_start {x C dx : Addr} {ω : Wo} (h : ω.H x = some (.ins C dx [])) (hM : ω.M x = none) : SatD [rO x C dx [] []] ω := satD1.mpr ⟨⟨[], h, rfl, trivial⟩, fun a ha => by rw [List.mem_singleton.mp ha]; exact ⟨ne_none h, hM⟩, List.nodup_cons.mpr ⟨fun z => (nomatch z), List.nodup_nil⟩⟩
theorem spI_ok {β : Type} {args : β → List En} {pre : β → Prop} {fes : β → List En} (b : β) (h : pre b) : SpI Cl (spI Cl args pre fn fes) (args b) fn (fes b) := fun vs ω x dx Q E ha h1 h2 hk => ⟨b, ω, x, dx, vs, rfl, rfl, h, ha, rO_start h1 h2, hk⟩
theorem body_i {β : Type} {args : β → List En} {pre : β → Prop} {fes : β → List En} {N : List Str} {t : TS}
    (h : ∀ b, pre b → ∀ (ω : Wo) (x dx : Addr) (Q : VK), (∀ ω', LeX [x] ω ω' → SatD [rO x Cl dx fn (fes b)] ω' → Q .non ω'.H) → Tr t (As (bsS ω [x]) (Γ0 N (eR x :: args b)) [rO x Cl dx [] []]) (endsOf Q)) :
    ∀ vs H Q E, spI Cl args pre fn fes vs H Q E → t (endsOf Q) (L2.start N vs) H := fun vs H Q E ⟨b, ω, x, dx, us, e1, e, p, a, d, k⟩ => by
  subst e e1
  exact h b p ω x dx Q k _ _ ⟨ω, rfl, LeX.refl _ _, fun _ _ z => z, sat_start ⟨rfl, a⟩, d⟩
theorem len_i {β : Type} {args : β → List En} {pre : β → Prop} {fes : β → List En} {n : Nat} (h : ∀ b, (args b).length + 1 = n) : ∀ vs H Q E, spI Cl args pre fn fes vs H Q E → vs.length = n := fun vs H Q E ⟨b, ω, x, dx, us, e, _, _, a, _⟩ => by
  rw [e, List.length_cons, a.len, h b]
/-- where x and dx are laid for a new object -/
theorem make_le {ω : Wo} {x dx : Addr} (hx : ω.H x = none) (hdx : ω.H dx = none) (hn : dx ≠ x) : ∃ ω2 : Wo, ω2.H = upd (upd ω.H dx (.own x)) x (.ins Cl dx []) ∧ LeX [] ω ω2 ∧ ω2.H x = some (.ins Cl dx []) ∧ ω2.M x = none ∧ ω2.M dx = some (.own x) := by
  have hx1 : (ω.new dx (.own x)).H x = none := by
    show upd ω.H dx _ x = none
    rw [upd_ne (Ne.symm hn)]
    exact hx
  exact ⟨(ω.new dx (.own x)).mut x (.ins Cl dx []) (Wo.free hx1), rfl, (Wo.new_le hdx).trans (Wo.mut_le hx1), upd_same, (show (ω.new dx (.own x)).M x = none from Wo.free hx1), upd_same⟩
theorem ev_make (h : EvA C tA Γ Δ es Δ1) (hs : SpI Cl sp es fn fes) : Ev C (tMake Cl sp [] E tA) Γ Δ (eObj Cl fn fes) Δ1 := ⟨fun σ ω Q s d q => h.run σ ω _ s d fun vs ω1 l1 d1 hvs => by
  intro x dx hx hdx hn
  rw [List.append_nil]
  obtain ⟨ω2, e2, l2, h1, h2, h3⟩ := make_le (Cl := Cl) hx hdx hn
  rw [← e2]
  refine hs vs ω2 x dx _ E (hvs.mono l2.m) h1 h2 fun ω3 l3 d3 => ⟨rfl, ?_⟩
  obtain ⟨⟨fv, r1, r2, r3⟩, ra, _⟩ := satD1.mp d3
  have l4 : LeX [] ω1 ω3 := l2.ch l3 fun p hp => .inr (by rw [List.mem_singleton.mp hp]; exact hx)
  have hM : ω3.M x = none := (ra x (List.mem_singleton.mpr rfl)).2
  have nA : x ∉ adr Δ1 := fun z => (d1.a x z).1 hx
  exact q (.ref x) (ω3.frz x _ r1) (l1.trans (l4.frz hx r1).nil) ((d1.le l4).frz hM nA) ⟨x, dx, fv, rfl, upd_same, Wo.frz_m hM _ _ (l3.m _ _ h3), r2, r3.mono (Wo.frz_m hM)⟩⟩
theorem putF_new : ∀ {fn : List Str} {vs : List V} {f : Str} {v : V}, f ∉ fn → vs.length = fn.length → putF f v (fn.zip vs) = (fn ++ [f]).zip (vs ++ [v])
  | [], [], _, _, _, _ => rfl
  | g :: fn, w :: vs, f, v, h, hl => by
    have : g ≠ f := fun z => h (by rw [z]; exact List.mem_cons_self)
    show (if g = f then _ else (g, w) :: putF f v (fn.zip vs)) = _
    rw [if_neg this, putF_new (fun z => h (List.mem_cons_of_mem _ z)) (by simpa using hl)]
    rfl
  | [], _ :: _, _, _, _, hl => by simp at hl
  | _ :: _, [], _, _, _, hl => by simp at hl
theorem s_fld {x dx : Addr} (hv : Ev C tv Γ Δ e Δ1) (ho : Ev C to Γ Δ1 (eR x) Δ2) (hk : Δ2[k]? = some (rO x Cl dx fn es)) (c : Cls K Cl) (n : NoAttr K Cl f) (hf : f ∉ fn) (hl : fn.length < 1000) (hn : ∀ σ H, As W Γ (Δ2.set k (rO x Cl dx (fn ++ [f]) (es ++ [e]))) σ H → D.nx σ H)
    (hx : x ∈ W.S) (o : Own W C := by exact Own.nil _) : Tr (sFld K to tv f) (As W Γ Δ) D := fun σ H ⟨ω, h1, h2, hm, h3, h4⟩ => by
  subst h1
  refine hv.run σ ω _ h3 h4 fun y ω1 l1 d1 hy => ho.run σ ω1 _ (h3.mono l1.m) d1 fun w ω2 l2 d2 hw => ?_
  cases (show w = V.ref x from hw)
  obtain ⟨fv, r1, r2, r3⟩ := d2.r _ (List.mem_of_getElem? hk)
  have hM : ω2.M x = none := (d2.a x (List.mem_flatMap.mpr ⟨_, List.mem_of_getElem? hk, List.mem_singleton.mpr rfl⟩)).2
  have l3 : LeX [x] ω2 (ω2.mut x (.ins Cl dx (putF f y (fn.zip fv))) hM) := Wo.set_le hM
  refine ⟨x, Cl, dx, _, rfl, r1, c, n, by rw [List.length_zip, r2]; omega, hn _ _ ⟨ω2.mut x (.ins Cl dx (putF f y (fn.zip fv))) hM, rfl, ?_, fun a q z => l3.m a q (l2.m a q (l1.m a q (hm a q z))), ((h3.mono l1.m).mono l2.m).mono l3.m, d2.upd hk l3 (fun _ h => h) rfl ?_⟩⟩
  · exact ((h2.ch l1 o).ch l2 o).ch l3 fun a ha => .inl (by rw [List.mem_singleton.mp ha]; exact hx)
  · refine ⟨fv ++ [y], ?_, by rw [List.length_append, List.length_append, r2]; rfl, r3.app ⟨e.mono _ _ _ l2.m hy, trivial⟩⟩
    show upd ω2.H x _ x = _
    rw [upd_same, putF_new hf r2]
theorem q_fld {x dx : Addr} (hv : Ev C tv Γ Δ e Δ1) (ho : Ev C to Γ Δ1 (eR x) Δ2) (hk : Δ2[k]? = some (rO x Cl dx fn es)) (c : Cls K Cl) (n : NoAttr K Cl f) (hf : f ∉ fn) (hl : fn.length < 1000) (hx : x ∈ W.S) (hn : Tr z (As W Γ (Δ2.set k (rO x Cl dx (fn ++ [f]) (es ++ [e])))) D)
    (o : Own W C := by exact Own.nil _) : Tr (tSeq (sFld K to tv f) z) (As W Γ Δ) D := s_fld (D := { D with nx := z D }) hv ho hk c n hf hl hn hx o
/-- an __init__ that makes a list and keeps it -/
def spBI (Cl : Addr) (f : Str) : Sp := fun vs H Q _ => ∃ (ω : Wo) (x dx : Addr), vs = [.ref x] ∧ ω.H = H ∧ SatD [rO x Cl dx [] []] ω ∧ ∀ l ω', LeX [x] ω ω' → ω.H l = none → SatD [rL l [], rO x Cl dx [f] [eR l]] ω' → Q .non ω'.H
theorem ex_makeB : EvX (γ := Addr) C (tMake Cl (spBI Cl f) [] E tNil) Γ Δ (fun l => [l]) (fun l => eObj Cl [f] [eR l]) (fun l => rL l [] :: Δ) := ⟨fun σ ω Q s d q => by
  intro x dx hx hdx hn
  obtain ⟨ω2, e2, l2, h1, h2, h3⟩ := make_le (Cl := Cl) hx hdx hn
  rw [← e2]
  refine ⟨ω2, x, dx, rfl, rfl, rO_start h1 h2, fun l ω3 l3 hl d3 => ⟨rfl, ?_⟩⟩
  have d4 := d3.tail
  obtain ⟨⟨fv, r1, r2, r3⟩, ra, _⟩ := satD1.mp d4
  have l4 : LeX [] ω ω3 := l2.ch l3 fun p hp => .inr (by rw [List.mem_singleton.mp hp]; exact hx)
  have hM : ω3.M x = none := (ra x (List.mem_singleton.mpr rfl)).2
  have hl0 : ω.H l = none := fresh_le l2 hl
  have nl : x ≠ l := fun z => by rw [← z, h1] at hl; cases hl
  obtain ⟨b1, b2⟩ := d3.head
  have nA : x ∉ adr (rL l [] :: Δ) := fun z => by
    rw [adr, List.flatMap_cons] at z
    rcases List.mem_append.mp z with z | z
    · exact nl (List.mem_singleton.mp z)
    · exact (d.a x z).1 hx
  have d5 : SatD (rL l [] :: Δ) ω3 := (d.le l4).cons (d3.r _ List.mem_cons_self) (fun y hy => by
    obtain ⟨c1, c2, _⟩ := b1 y hy
    exact ⟨c1, c2, fun z => (d.a y z).1 (by rw [List.mem_singleton.mp hy]; exact hl0)⟩) b2
  exact q l (.ref x) (ω3.frz x _ r1) (l4.frz hx r1).nil (fun a ha => by rw [List.mem_singleton.mp ha]; exact hl0) (d5.frz hM nA) ⟨x, dx, fv, rfl, upd_same, Wo.frz_m hM _ _ (l3.m _ _ h3), r2, r3.mono (Wo.frz_m hM)⟩⟩
theorem t_conv {ρ ρ' : Rs} (h : ∀ ω, ρ.r ω → ρ'.r ω) (he : ρ'.ad = ρ.ad) (hk : Tr t (As W Γ (ρ' :: Δ)) D) : Tr t (As W Γ (ρ :: Δ)) D := hk.pre fun σ H ⟨ω, h1, h2, hm, h3, h4⟩ => ⟨ω, h1, h2, hm, h3, by
  obtain ⟨a, n⟩ := h4.head
  exact h4.tail.cons (h ω (h4.r _ List.mem_cons_self)) (fun x hx => a x (by rw [← he]; exact hx)) (by rw [he]; exact n)⟩
theorem t_ex {γ : Type} {ρ : Rs} {ρf : γ → Rs} {P : γ → Prop} (h : ∀ ω, ρ.r ω → ∃ g, P g ∧ (ρf g).r ω) (he : ∀ g, (ρf g).ad = ρ.ad) (hk : ∀ g, P g → Tr t (As W Γ (ρf g :: Δ)) D) : Tr t (As W Γ (ρ :: Δ)) D := fun σ H ⟨ω, h1, h2, hm, h3, h4⟩ => by
  obtain ⟨g, p, hg⟩ := h ω (h4.r _ List.mem_cons_self)
  obtain ⟨a, n⟩ := h4.head
  exact hk g p σ H ⟨ω, h1, h2, hm, h3, h4.tail.cons hg (fun x hx => a x (by rw [← he g]; exact hx)) (by rw [he g]; exact n)⟩

/-! ### dicts by texts -/
abbrev Dom := List Nat → Option En
def domR (dom : Dom) (kvs : List (Key × V)) (M : Hp) : Prop := ∀ u e, dom u = some e → ∃ v, valV kvs (.inr (tx u)) = some v ∧ e.r v M
def eD (dom : Dom) : En := ⟨fun v M => ∃ a kvs, v = .ref a ∧ M a = some (.dK kvs) ∧ domR dom kvs M, fun v M M' k ⟨a, kvs, h1, h2, h3⟩ => ⟨a, kvs, h1, k _ _ h2, fun u e h => let ⟨v, q1, q2⟩ := h3 u e h; ⟨v, q1, e.mono v _ _ k q2⟩⟩⟩
def rD (p : Addr) (n : Nat) (dom : Dom) : Rs := ⟨[p], fun ω => ∃ kvs, ω.H p = some (.dK kvs) ∧ kvs.length ≤ n ∧ domR dom kvs ω.M, fun ω ω' ⟨kvs, h1, h2, h3⟩ m e => ⟨kvs, by rw [e p (List.mem_singleton.mpr rfl)]; exact h1, h2, fun u e h => let ⟨v, q1, q2⟩ := h3 u e h; ⟨v, q1, e.mono v _ _ m q2⟩⟩⟩
def dput (dom : Dom) (u : List Nat) (e : En) : Dom := fun w => if w = u then some e else dom w
theorem domR.put {dom : Dom} {kvs : List (Key × V)} {M : Hp} {u : List Nat} {e : En} {v : V} (h : domR dom kvs M) (hv : e.r v M) : domR (dput dom u e) (putK kvs (.inr (tx u)) v) M := fun w f hw => by
  rw [valV_put]
  unfold dput at hw
  by_cases q : w = u
  · rw [if_pos q] at hw
    cases hw
    exact ⟨v, by rw [if_pos (by rw [q])], hv⟩
  · rw [if_neg q] at hw
    rw [if_neg (fun z => q (tx_inj.mp (Sum.inr.inj z)))]
    exact h w f hw
theorem domR.mono {dom : Dom} {kvs : List (Key × V)} {M M' : Hp} (h : domR dom kvs M) (k : ∀ x o, M x = some o → M' x = some o) : domR dom kvs M' := fun u e q => let ⟨v, a, b⟩ := h u e q; ⟨v, a, e.mono v _ _ k b⟩
theorem ev_dget {td ty : TE} {dom : Dom} {w : List Nat} (hd : Ev C td Γ Δ (eD dom) Δ1) (hy : Ev C ty Γ Δ1 (eM w) Δ2) (h : dom w = some e) : Ev C (tDGet td ty) Γ Δ e Δ2 := ⟨fun σ ω Q s d q => hd.run σ ω _ s d fun x ω1 l1 d1 hx => hy.run σ ω1 _ (s.mono l1.m) d1 fun y ω2 l2 d2 hy => by
  obtain ⟨a, kvs, rfl, h1, h2⟩ := hx
  obtain ⟨v, r1, r2⟩ := h2 w e h
  cases (show y = V.str (tx w) from hy)
  refine ⟨a, v, rfl, ?_, q v ω2 (l1.trans l2) d2 (e.mono _ _ _ l2.m r2)⟩
  have := DGet.k (k := .inr (tx w)) (ω2.sub _ _ (l2.m _ _ h1))
  rw [r1] at this
  exact this⟩
theorem ev_dgetM {td ty : TE} {dom : Dom} {w : List Nat} {p : Addr} {n : Nat} (hd : Ev C td Γ Δ (eR p) Δ1) (hy : Ev C ty Γ Δ1 (eM w) Δ2) (hk : rD p n dom ∈ Δ2) (h : dom w = some e) : Ev C (tDGet td ty) Γ Δ e Δ2 := ⟨fun σ ω Q s d q => hd.run σ ω _ s d fun x ω1 l1 d1 hx => hy.run σ ω1 _ (s.mono l1.m) d1 fun y ω2 l2 d2 hy => by
  cases (show x = V.ref p from hx)
  cases (show y = V.str (tx w) from hy)
  obtain ⟨kvs, h1, h2, h3⟩ := d2.r _ hk
  obtain ⟨v, r1, r2⟩ := h3 w e h
  refine ⟨p, v, rfl, ?_, q v ω2 (l1.trans l2) d2 r2⟩
  have := DGet.k (k := .inr (tx w)) h1
  rw [r1] at this
  exact this⟩
theorem s_dput {td ty tv : TE} {dom : Dom} {w : List Nat} {p : Addr} {n : Nat} (hv : Ev C tv Γ Δ e Δ1) (hd : Ev C td Γ Δ1 (eR p) Δ2) (hy : Ev C ty Γ Δ2 (eM w) Δ3) (hk : Δ3[k]? = some (rD p n dom)) (hn : n < 100000) (hnx : ∀ σ H, As W Γ (Δ3.set k (rD p (n + 1) (dput dom w e))) σ H → D.nx σ H)
    (hp : W.o.H p = none ∨ p ∈ W.S) (o : Own W C := by exact Own.nil _) : Tr (sDPut td ty tv) (As W Γ Δ) D := fun σ H ⟨ω, h1, h2, hm, h3, h4⟩ => by
  subst h1
  refine hv.run σ ω _ h3 h4 fun v ω1 l1 d1 hv => hd.run σ ω1 _ (h3.mono l1.m) d1 fun x ω2 l2 d2 hx => hy.run σ ω2 _ ((h3.mono l1.m).mono l2.m) d2 fun y ω3 l3 d3 hy => ?_
  cases (show x = V.ref p from hx)
  cases (show y = V.str (tx w) from hy)
  obtain ⟨kvs, q1, q2, q3⟩ := d3.r _ (List.mem_of_getElem? hk)
  have hM : ω3.M p = none := (d3.a p (List.mem_flatMap.mpr ⟨_, List.mem_of_getElem? hk, List.mem_singleton.mpr rfl⟩)).2
  have l4 : LeX [p] ω3 (ω3.mut p (.dK (putK kvs (.inr (tx w)) v)) hM) := Wo.set_le hM
  have hl2 := length_putK kvs (.inr (tx w)) v
  refine ⟨p, _, rfl, DPut.k (k := .inr (tx w)) q1 (Nat.lt_of_le_of_lt q2 (Nat.lt_of_lt_of_le hn (by decide))), hnx _ _ ⟨ω3.mut p (.dK (putK kvs (.inr (tx w)) v)) hM, rfl, ?_, fun a q z => l4.m a q (l3.m a q (l2.m a q (l1.m a q (hm a q z)))), (((h3.mono l1.m).mono l2.m).mono l3.m).mono l4.m, d3.upd hk l4 (fun _ h => h) rfl ⟨_, upd_same, by omega, q3.put (e.mono _ _ _ l3.m (e.mono _ _ _ l2.m hv))⟩⟩⟩
  exact (((h2.ch l1 o).ch l2 o).ch l3 o).ch l4 fun a ha => by
    rw [List.mem_singleton.mp ha]
    exact hp.symm
/-- {'..': e} -/
theorem ex_disp {tk tv : TE} {w : List Nat} (hk : ∀ Δ', Ev C tk Γ Δ' (eM w) Δ') (hv : ∀ Δ', Ev C tv Γ Δ' e Δ') (hC : C = []) : EvX (γ := Addr) C (tDisp [(tk, tv)]) Γ Δ (fun p => [p]) eR (fun p => rD p 1 (dput (fun _ => none) w e) :: Δ) := ⟨fun σ ω Q s d q => by
  subst hC
  intro p hp
  have hM := Wo.free hp
  have l0 : LeX [] ω (ω.mut p (.dK []) hM) := Wo.mut_le hp
  have np : p ∉ adr Δ := fun z => (d.a p z).1 hp
  refine (hk Δ).run σ (ω.mut p (.dK []) hM) _ (s.mono l0.m) (d.le l0) fun x ω1 l1 d1 hx => (hv Δ).run σ ω1 _ ((s.mono l0.m).mono l1.m) d1 fun y ω2 l2 d2 hy => ?_
  have l12 := l1.trans l2
  have hP : ω2.H p = some (.dK []) := l12.h p _ (fun z => nomatch z) upd_same
  have hM2 : ω2.M p = none := l12.v p (by rw [show (ω.mut p (.dK []) hM).H p = some (.dK []) from upd_same]; exact fun z => nomatch z) hM
  cases (show x = V.str (tx w) from hx)
  refine ⟨hP, [(.inr (tx w), y)], rfl, Nat.le_of_ble_eq_true rfl, ?_⟩
  have l3 : LeX [p] ω2 (ω2.mut p (.dK (mergeK [] [(.inr (tx w), y)])) hM2) := Wo.set_le hM2
  refine q p (.ref p) (ω2.mut p (.dK (mergeK [] [(.inr (tx w), y)])) hM2) ?_ (fun a ha => by rw [List.mem_singleton.mp ha]; exact hp) ?_ rfl
  · exact (l0.trans l12).ch l3 fun a ha => .inr (by rw [List.mem_singleton.mp ha]; exact hp)
  · refine (d2.newset (L := p) hM2 np).cons ⟨_, upd_same, Nat.le_refl 1, ?_⟩ (fun a ha => ?_) (List.nodup_cons.mpr ⟨fun z => (nomatch z), List.nodup_nil⟩)
    · exact domR.put (kvs := []) (fun _ _ h => nomatch h) hy
    · rw [List.mem_singleton.mp ha]
      exact ⟨by show upd ω2.H p _ p ≠ none; rw [upd_same]; exact fun z => (nomatch z), hM2, np⟩⟩
theorem t_frzD {i : Nat} {p : Addr} {n : Nat} {dom : Dom} (hp : W.o.H p = none) (hi : Γ[i]? = some (some (eR p))) (hk : Tr t (As W (Γ.set i (some (eD dom))) Δ) D) : Tr t (As W Γ (rD p n dom :: Δ)) D := fun σ H ⟨ω, h1, h2, hm, h3, h4⟩ => by
  subst h1
  obtain ⟨kvs, q1, _, q2⟩ := h4.r _ List.mem_cons_self
  obtain ⟨a1, n1⟩ := h4.head
  obtain ⟨_, hM, np⟩ := a1 p (List.mem_singleton.mpr rfl)
  obtain ⟨v, r1, r2⟩ := h3.2 i _ hi
  cases (show v = V.ref p from r2)
  refine hk σ _ ⟨ω.frz p _ q1, rfl, h2.frz hp q1, fun x o z => Wo.frz_m hM x o (hm x o z), ?_, h4.tail.frz hM np⟩
  have := (h3.mono (Wo.frz_m (h := q1) hM)).set (i := i) (e := eD dom) (v := .ref p) ⟨p, kvs, rfl, upd_same, q2.mono (Wo.frz_m hM)⟩
  have e : σ.set i (some (V.ref p)) = σ := by
    have := (List.getElem?_eq_some_iff.mp r1).2
    rw [← this]
    exact List.set_getElem_self (List.getElem?_eq_some_iff.mp r1).1
  rw [e] at this
  exact this
/-- {c: te for c in text} -/
theorem ev_dc {tl tk tv : TE} {j : Nat} {w : List Nat} {ψ : Nat → En} (h : Ev [] tl Γ Δ (eM w) Δ) (hl : w.length < 100000) (hk : ∀ c ∈ w, Ev [] tk (Γ.set j (some (eM [c]))) Δ (eM [c]) Δ) (he : ∀ c ∈ w, Ev [] tv (Γ.set j (some (eM [c]))) Δ (ψ c) Δ) :
    Ev C (tDc (iStr tl) (gName j) tYes tk tv [j]) Γ Δ (eD fun u => match u with | [c] => if c ∈ w then some (ψ c) else none | _ => none) Δ := ⟨fun σ ω Q s d k => by
  refine it_msg (W := ⟨ω, [], ω.M⟩) (C := []) h σ ω _ (LeX.refl _ _) s d fun J ω1 l1 d1 hJ => ?_
  intro L hL
  have hLM := Wo.free hL
  have nA : L ∉ adr Δ := fun z => absurd hL (l1.d L (d.a L z).1)
  refine ⟨fun i m H' => m = w.length - i ∧ i ≤ w.length ∧ ∃ (ω2 : Wo) (kvs : List (Key × V)), ω2.H = H' ∧ LeX [] ω1 ω2 ∧ ω2.M L = none ∧ ω2.H L = some (.dK kvs) ∧ kvs.length ≤ i ∧ domR (fun u => match u with | [c] => if c ∈ w.take i then some (ψ c) else none | _ => none) kvs ω2.M ∧ SatD Δ ω2, ⟨w.length, by omega, Nat.zero_le _, ω1.mut L (.dK []) hLM, [], rfl, (Wo.mut_le hL), hLM, upd_same, Nat.le_refl _, fun u e q => ?_, d1.le (Wo.mut_le hL)⟩, ?_⟩
  · simp only [List.take_zero, List.not_mem_nil, if_false] at q
    split at q <;> cases q
  rintro i m H' ⟨rfl, hin, ω2, kvs, rfl, k1, k2, k3, k4, k5, k6⟩
  obtain ⟨j1, j2⟩ := hJ ω2 (l1.trans k1) k1.m
  by_cases hlt : i < w.length
  · refine .inr ⟨(j1 i hlt).1, _, fun H'' hN => ⟨w.length - (i + 1), by omega, rfl, hlt, hN⟩, fun x H'' hy => ?_⟩
    obtain ⟨ω3, rfl, l3, hx⟩ := (j1 i hlt).2 x H'' hy
    have s3 : Sat (Γ.set j none) (wipe σ [j]) ω3.M := Sat.wipe (((s.mono l1.m).mono k1.m).mono l3.m) j
    refine tgw_name s3 hx fun σ' s' e' => ⟨e', ?_⟩
    show tk σ' ω3.H _
    have L3 : ω3.H L = some (.dK kvs) := l3.h L _ (fun z => nomatch z) k3
    have M3 : ω3.M L = none := l3.v L (ne_none k3) k2
    have hm : w.getD i 0 ∈ w := by
      rw [List.getD_eq_getElem?_getD, List.getElem?_eq_getElem hlt]
      exact List.getElem_mem hlt
    refine (hk _ hm).run σ' ω3 _ s' (k6.le l3) fun y ω4 l4 d4 hy4 => (he _ hm).run σ' ω4 _ (s'.mono l4.m) d4 fun v ω5 l5 d5 hv => ?_
    have l45 := l4.trans l5
    have L5 : ω5.H L = some (.dK kvs) := l45.h L _ (fun z => nomatch z) L3
    have M5 : ω5.M L = none := l45.v L (ne_none L3) M3
    cases (show y = V.str (tx [w.getD i 0]) from hy4)
    have hl2 := length_putK kvs (.inr (tx [w.getD i 0])) v
    refine ⟨kvs, .inr (tx [w.getD i 0]), rfl, L5, Nat.lt_of_lt_of_le (show kvs.length < 100000 by omega) (by decide), ω5.mut L (.dK (putK kvs (.inr (tx [w.getD i 0])) v)) M5, _, rfl, ?_, M5, upd_same, by omega, ?_, d5.newset M5 nA⟩
    · exact ((k1.trans l3).trans l45).newset hL M5
    · have := domR.put (u := [w.getD i 0]) (((k5.mono l3.m).mono l4.m).mono l5.m) hv
      refine fun u e q => this u e ?_
      unfold dput
      match u, q with
      | [c], q =>
        by_cases hc : c = w.getD i 0
        · subst hc
          rw [if_pos rfl]
          have : w.getD i 0 ∈ w.take (i + 1) := by
            rw [List.getD_eq_getElem?_getD, List.getElem?_eq_getElem hlt, List.take_succ_eq_append_getElem hlt]
            exact List.mem_append_right _ (List.mem_singleton.mpr rfl)
          simp only [this, if_true] at q
          exact q
        · rw [if_neg (fun z => hc (List.cons.inj z).1)]
          have : (c ∈ w.take (i + 1)) ↔ (c ∈ w.take i) := by
            rw [List.take_succ_eq_append_getElem hlt, List.mem_append, List.mem_singleton]
            refine ⟨fun z => z.elim id fun z => absurd ?_ hc, .inl⟩
            rw [z, List.getD_eq_getElem?_getD, List.getElem?_eq_getElem hlt]
            rfl
          simp only [this] at q
          exact q
      | [], q => cases q
      | _ :: _ :: _, q => cases q
  · have e : i = w.length := by omega
    subst e
    rw [List.take_of_length_le (Nat.le_refl _)] at k5
    refine .inl ⟨j2, ?_⟩
    exact k (.ref L) (ω2.frz L _ k3) (l1.trans (k1.frz hL k3)).nil (k6.frz k2 nA) ⟨L, kvs, rfl, upd_same, k5.mono (Wo.frz_m k2)⟩⟩
end

theorem hu_of {k : Nat} {A : Around} (hr : Room k A) : A.units + 1 < cLine := by have := hr.units; omega
/-! ### calls of methods, properties, classes -/
section
variable (P : Program) (w : World) (K : PySem.W.Frag) (mg : Str → Option Value) (base : Heap)
structure CalC (x : Str) (C : Addr) (ps : List Str) (k : Nat) (sp : Sp) : Prop where
  ex : ∃ f fd, FnOk P w K mg base CX0 k f fd ps sp ∧ Mk K C f ∧ mg x = some (.ref C) ∧ Binds K fd ps []
structure DefC (x qual : Str) (C : Addr) (st : Stmt) : Prop where
  ex : ∃ f fd, Fun K "__init__" qual st f fd ∧ Mk K C f ∧ mg x = some (.ref C)
end
section
variable {P : Program} {w : World} {K : PySem.W.Frag} {mg : Str → Option Value} {base : Heap} {x qual : Str} {st : Stmt} {N ps : List Str} {k : Nat} {sp : Sp} {C : Addr}
theorem calC_of (D : DefC K mg x qual C st) (S : FnScope N ps (defScope st)) (hb : bnd "__init__" qual st ps) (hl : ∀ vs H Q E, sp vs H Q E → vs.length = ps.length) (body : bdy P w K mg base N qual st k sp) : CalC P w K mg base x C ps (k + 1) sp := by
  obtain ⟨f, fd, F, m, g⟩ := D.ex
  exact ⟨f, fd, ok_of F S hl body, m, g, F.binds hb⟩
end
section
variable {X : Cx} {x m : Str} {ps : List Str} {k j : Nat} {sp : Sp} {e o : Expr} {es : List Expr} {t : TA} {to : TE} {p pos apos : Pos} {C : Addr}
theorem pe_calM {pl : Sem Bool} (c : CalM X.prog X.w X.K X.mg X.base C m ps j sp) (cl : Cls X.K C) (hr : Room k X.A) (he : PE X o to) (ha : PA X (e :: es) t) (hj : j ≤ k := by decide) (hst : starEach (e :: es) X.env = (false, eval e X.env) :: starEach es X.env := by rfl) (hpl : (backTo pos (starEach es X.env)).any (·.1) = false := by rfl)
    (ht : eval (.Call (.Attribute o m apos) (e :: es) [] pos) X.env = (do
      let ov ← eval o X.env
      standAt apos.atName
      let (f, first) ← holding [ov] (getMethod ov m pl)
      callWith pos f first (backTo pos (starEach (e :: es) X.env)) (backToKw pos (keywordEach [] X.env))) := by rfl) : PE X (.Call (.Attribute o m apos) (e :: es) [] pos) (tMeth C m sp [] E0 to t) := by
  obtain ⟨f, fd, F, hm, hb⟩ := c.ex
  exact pe_meth he cl hm F (hr.mono hj) hb .nil pass0 ha hst hpl ht
theorem pe_calP (c : CalP X.prog X.w X.K X.mg X.base C m j sp) (cl : Cls X.K C) (hr : Room k X.A) (he : PE X o to) (hj : j + 1 ≤ k := by decide) (hab : attributeBase o m X.env (eval o X.env) = eval o X.env := by rfl) : PE X (.Attribute o m pos) (tProp C sp [] E0 to) := by
  obtain ⟨p, f, fd, F, hm, hb⟩ := c.ex
  exact pe_prop he cl hm F (hr.mono hj) hb .nil pass0 hab
theorem pe_calC (c : CalC X.prog X.w X.K X.mg X.base x C ps j sp) (hr : Room k X.A) (hg : Gl X x) (ha : PA X (e :: es) t) (hj : j + 1 ≤ k := by decide) (hdb : (x == ("__debug__" : Str)) = false := by decide) (he : starEach (e :: es) X.env = (false, eval e X.env) :: starEach es X.env := by rfl)
    (hpl : (backTo pos (starEach es X.env)).any (·.1) = false := by rfl) : PE X (.Call (.Name x p) (e :: es) [] pos) (tMake C sp [] E0 t) := by
  obtain ⟨f, fd, F, hm, hg', hb⟩ := c.ex
  exact pe_make hm F (hr.mono hj) hg hg' hb .nil pass0 ha hdb he hpl
theorem pe_calC0 (c : CalC X.prog X.w X.K X.mg X.base x C ps j sp) (hr : Room k X.A) (hg : Gl X x) (hj : j + 1 ≤ k := by decide) (hdb : (x == ("__debug__" : Str)) = false := by decide) : PE X (.Call (.Name x p) [] [] pos) (tMake C sp [] E0 tNil) := by
  obtain ⟨f, fd, F, hm, hg', hb⟩ := c.ex
  exact pe_make0 hm F (hr.mono hj) hg hg' hb .nil pass0 hdb
end
end Tw

/-! Comprehensions with several names, with a test. -/
namespace Tw
open PySem L2 PyProof.Rows
theorem wipe_comm : ∀ {vs : List Nat} {σ : L2.St} {v : Nat} {x : Option V}, v ∉ vs → wipe (σ.set v x) vs = (wipe σ vs).set v x
  | [], _, _, _, _ => rfl
  | u :: vs, σ, v, x, h => by
    show (wipe (σ.set v x) vs).set u none = ((wipe σ vs).set u none).set v x
    rw [wipe_comm fun z => h (List.mem_cons_of_mem _ z), List.set_comm _ _ (fun z => h (by rw [z]; exact List.mem_cons_self))]
theorem wipe_set : ∀ {vs : List Nat} {σ : L2.St} {v : Nat} {x : Option V}, v ∈ vs → wipe (σ.set v x) vs = wipe σ vs
  | [], _, _, _, h => nomatch h
  | u :: vs, σ, v, x, h => by
    show (wipe (σ.set v x) vs).set u none = (wipe σ vs).set u none
    by_cases q : v ∈ vs
    · rw [wipe_set q]
    · have e : v = u := (List.mem_cons.mp h).resolve_right q
      subst e
      rw [wipe_comm q, List.set_set]
theorem wipe_wipe : ∀ {vs us : List Nat} {σ : L2.St}, (∀ v ∈ vs, v ∈ us) → wipe (wipe σ vs) us = wipe σ us
  | [], _, _, _ => rfl
  | v :: vs, us, σ, h => by
    show wipe ((wipe σ vs).set v none) us = _
    rw [wipe_set (h v List.mem_cons_self)]
    exact wipe_wipe fun u hu => h u (List.mem_cons_of_mem _ hu)
def wipeΓ (Γ : List (Option En)) : List Nat → List (Option En)
  | [] => Γ
  | v :: vs => (wipeΓ Γ vs).set v none
theorem Sat.wipes {Γ : List (Option En)} {σ : L2.St} {M : Hp} (s : Sat Γ σ M) : ∀ vs : List Nat, Sat (wipeΓ Γ vs) (L2.wipe σ vs) M
  | [] => s
  | v :: vs => (s.wipes vs).wipe v
/-- a target that changes only what is at vs -/
def TgV (g : TG) (vs : List Nat) (Γ : List (Option En)) (e : En) (Γ' : List (Option En)) : Prop := ∀ x σ (ω : Wo) (Q : L2.St → Hp → Prop), Sat Γ σ ω.M → e.r x ω.M → (∀ σ', Sat Γ' σ' ω.M → wipe σ' vs = wipe σ vs → Q σ' ω.H) → g x σ ω.H Q
def TgVs (g : TGs) (vs : List Nat) (Γ : List (Option En)) (es : List En) (Γ' : List (Option En)) : Prop := ∀ xs σ (ω : Wo) (Q : L2.St → Hp → Prop), Sat Γ σ ω.M → Args es xs ω.M → (∀ σ', Sat Γ' σ' ω.M → wipe σ' vs = wipe σ vs → Q σ' ω.H) → g xs σ ω.H Q
section
variable {C : List Addr} {Γ Γ' Γ1 Γ2 : List (Option En)} {Δ : List Rs} {e : En} {es : List En} {vs : List Nat} {K : PySem.W.Frag} {te tl : TE} {tt : TT} {g : TG}
theorem tv_name {i : Nat} (h : i ∈ vs) : TgV (gName i) vs Γ e (Γ.set i (some e)) := fun x σ ω Q s hx k => k _ (s.set hx) (wipe_set h)
theorem tvs_nil : TgVs gNil vs Γ [] Γ := fun xs σ ω Q s h k => by
  match xs, h with
  | [], _ => exact ⟨rfl, k σ s rfl⟩
theorem tvs_cons {gs : TGs} (h1 : TgV g vs Γ e Γ1) (h2 : TgVs gs vs Γ1 es Γ2) : TgVs (gCons g gs) vs Γ (e :: es) Γ2 := fun xs σ ω Q s h k => by
  match xs, h with
  | x :: r, ⟨a, b⟩ => exact ⟨x, r, rfl, h1 x σ ω _ s a fun σ1 s1 e1 => h2 r σ1 ω Q s1 b fun σ2 s2 e2 => k σ2 s2 (e2.trans e1)⟩
theorem tv_tup {gs : TGs} {n : Nat} (hn : es.length = n) (h : TgVs gs vs Γ es Γ') : TgV (gTup K n gs) vs Γ (eTup es) Γ' := fun x σ ω Q s h' k => by
  obtain ⟨a, ws, rfl, ha, hv⟩ := h'
  exact ⟨a, ws, rfl, SqT.of (ω.sub _ _ ha), by rw [hv.len, hn], h ws σ ω Q s hv k⟩
theorem map_itm {α : Type} {xs : List α} {ψ : α → En} : (List.range xs.length).map (fun i => itm (xs.map ψ) i) = xs.map ψ := by
  apply List.ext_getElem
  · simp
  · intro i h1 h2
    rw [List.getElem_map, List.getElem_range]
    exact itm_at (List.getElem?_eq_getElem h2)
theorem ev_lcT {α : Type} {xs : List α} {φ ψ : α → En} {Γt : α → List (Option En)} (h : Ev [] tl Γ Δ (eLst (xs.map φ)) Δ) (hl : xs.length ≤ 100000) (ht : ∀ x ∈ xs, TgV g vs (wipeΓ Γ vs) (φ x) (Γt x)) (he : ∀ x ∈ xs, Ev [] te (Γt x) Δ (ψ x) Δ) :
    Ev C (tLc (iList K tl) g tYes te vs) Γ Δ (eLst (xs.map ψ)) Δ := by
  have at_ : ∀ (χ : α → En) i (hi : i < xs.length), itm (xs.map χ) i = χ xs[i] := fun χ i hi => itm_at (by rw [List.getElem?_map, List.getElem?_eq_getElem hi]; rfl)
  by_cases h0 : xs = []
  · subst h0
    have key : Ev [] (tLc (iList K tl) g tYes te vs) Γ Δ (eLst ((List.range 0).map fun i => itm ([].map ψ) i)) Δ :=
      ev_lc (Δf := fun _ => Δ) (Γw := wipeΓ Γ vs) (Γt := fun i => []) (it := itm ([].map φ)) (Nat.zero_le _) (fun W => it_list (W := W) (K := K) h) (fun σ M s => s.wipes vs) (fun i hi => absurd hi (Nat.not_lt_zero _)) (fun i hi => absurd hi (Nat.not_lt_zero _)) (fun p hp => nomatch hp) fun _ _ h => h
    exact ⟨fun σ ω Q s d k => key.run σ ω Q s d fun v ω' l d' hv => k v ω' l.nil d' hv⟩
  · have hne : 0 < xs.length := List.length_pos_iff.mpr h0
    have key : Ev [] (tLc (iList K tl) g tYes te vs) Γ Δ (eLst ((List.range xs.length).map fun i => itm (xs.map ψ) i)) Δ :=
      ev_lc (Δf := fun _ => Δ) (Γw := wipeΓ Γ vs) (Γt := fun i => Γt (xs.getD i xs[0])) (it := itm (xs.map φ)) hl (fun W => by
        have := it_list (W := W) (K := K) h
        rw [List.length_map] at this
        exact this) (fun σ M s => s.wipes vs) (fun i hi x σ ω Q s hx k => by
        have eg : xs.getD i xs[0] = xs[i] := by rw [List.getD_eq_getElem?_getD, List.getElem?_eq_getElem hi]; rfl
        rw [at_ φ i hi] at hx
        rw [eg] at k
        exact ht _ (List.getElem_mem hi) x (wipe σ vs) ω Q s hx fun σ' s' e' => k σ' s' (by rw [e', wipe_wipe fun _ h => h])) (fun i hi => by
        have eg : xs.getD i xs[0] = xs[i] := by rw [List.getD_eq_getElem?_getD, List.getElem?_eq_getElem hi]; rfl
        rw [at_ ψ i hi, eg]
        exact he _ (List.getElem_mem hi)) (fun p hp => nomatch hp) fun _ _ h => h
    rw [map_itm] at key
    exact ⟨fun σ ω Q s d k => key.run σ ω Q s d fun v ω' l d' hv => k v ω' l.nil d' hv⟩
/-- a, b = [], e -/
theorem q_parNE {W : Bs} {i j : Nat} {D : Ends} {z : TS} {Δ2 : List Rs} {e : En} (h2 : ∀ p, Ev C te Γ (rL p [] :: Δ) e (rL p [] :: Δ)) (hk : ∀ p, W.o.H p = none → Tr z (As W ((Γ.set i (some (eR p))).set j (some e)) (rL p [] :: Δ)) D) (o : Own W C := by exact Own.nil _) :
    Tr (tSeq (tPar i j (tCons (tLst tNil) (tCons te tNil))) z) (As W Γ Δ) D :=
  q_parX (γ := Addr × Unit × Unit) (ef := fun _ => []) (fr := fun g => [g.1]) (Δf := fun g => rL g.1 [] :: Δ) (e1 := fun g => eR g.1) (e2 := fun _ => e) ⟨fun σ ω Q s d q =>
    (ex_lst (C := C) (Γ := Γ) (Δ := Δ) (Δ1 := Δ) ea_nil (Nat.zero_le _)).run σ ω _ s d fun p v ω1 l1 f1 d1 hv => (h2 p).run σ ω1 _ (s.mono l1.m) d1 fun v2 ω2 l2 d2 hv2 => q (p, (), ()) [v, v2] ω2 (l1.trans l2) f1 d2 ⟨(eR p).mono _ _ _ l2.m hv, hv2, trivial⟩⟩ (fun g hg => hk g.1 (hg g.1 List.mem_cons_self)) o
/-- a, b = e, [] -/
theorem q_parEN {W : Bs} {i j : Nat} {D : Ends} {z : TS} {Δ2 : List Rs} {e : En} (h1 : Ev C te Γ Δ e Δ) (hk : ∀ p, W.o.H p = none → Tr z (As W ((Γ.set i (some e)).set j (some (eR p))) (rL p [] :: Δ)) D) (o : Own W C := by exact Own.nil _) :
    Tr (tSeq (tPar i j (tCons te (tCons (tLst tNil) tNil))) z) (As W Γ Δ) D :=
  q_parX (γ := Addr × Unit × Unit) (ef := fun _ => []) (fr := fun g => [g.1]) (Δf := fun g => rL g.1 [] :: Δ) (e1 := fun _ => e) (e2 := fun g => eR g.1) ⟨fun σ ω Q s d q => h1.run σ ω _ s d fun v1 ω0 l0 d0 hv1 =>
    (ex_lst (C := C) (Γ := Γ) (Δ := Δ) (Δ1 := Δ) ea_nil (Nat.zero_le _)).run σ ω0 _ (s.mono l0.m) d0 fun p v ω1 l1 f1 d1 hv => q (p, (), ()) [v1, v] ω1 (l0.trans l1) (fun a ha => fresh_le l0 (f1 a ha)) d1 ⟨e.mono _ _ _ l1.m hv1, hv, trivial⟩⟩ (fun g hg => hk g.1 (hg g.1 List.mem_cons_self)) o
/-- a, b = [], [] -/
theorem q_parNN {W : Bs} {i j : Nat} {D : Ends} {z : TS} (hk : ∀ p q, W.o.H p = none → W.o.H q = none → Tr z (As W ((Γ.set i (some (eR p))).set j (some (eR q))) (rL q [] :: rL p [] :: Δ)) D) (o : Own W C := by exact Own.nil _) :
    Tr (tSeq (tPar i j (tCons (tLst tNil) (tCons (tLst tNil) tNil))) z) (As W Γ Δ) D :=
  q_parX (C := C) (γ := Addr × Addr) (ef := fun _ => []) (fr := fun g => [g.1, g.2]) (Δf := fun g => rL g.2 [] :: rL g.1 [] :: Δ) (e1 := fun g => eR g.1) (e2 := fun g => eR g.2) ⟨fun σ ω Q s d q =>
    (ex_lst (C := C) (Γ := Γ) (Δ := Δ) (Δ1 := Δ) ea_nil (Nat.zero_le _)).run σ ω _ s d fun p v ω1 l1 f1 d1 hv => (ex_lst (C := C) (Γ := Γ) (Δ := rL p [] :: Δ) (Δ1 := rL p [] :: Δ) ea_nil (Nat.zero_le _)).run σ ω1 _ (s.mono l1.m) d1 fun p2 v2 ω2 l2 f2 d2 hv2 =>
      q (p, p2) [v, v2] ω2 (l1.trans l2) (fun a ha => by
        rcases List.mem_cons.mp ha with h | h
        · exact f1 a (by rw [h]; exact List.mem_cons_self)
        · exact fresh_le l1 (f2 a h)) d2 ⟨(eR p).mono _ _ _ l2.m hv, hv2, trivial⟩⟩ (fun g hg => hk g.1 g.2 (hg g.1 List.mem_cons_self) (hg g.2 (List.mem_cons_of_mem _ List.mem_cons_self))) o
/-- a, b, c = [], [], [] -/
theorem q_par3N {W : Bs} {i j l : Nat} {D : Ends} {z : TS} (hk : ∀ p q r, W.o.H p = none → W.o.H q = none → W.o.H r = none → Tr z (As W (((Γ.set i (some (eR p))).set j (some (eR q))).set l (some (eR r))) (rL r [] :: rL q [] :: rL p [] :: Δ)) D) (o : Own W C := by exact Own.nil _) :
    Tr (tSeq (tPar3 i j l (tCons (tLst tNil) (tCons (tLst tNil) (tCons (tLst tNil) tNil)))) z) (As W Γ Δ) D :=
  q_par3X (C := C) (γ := Addr × Addr × Addr) (fr := fun g => [g.1, g.2.1, g.2.2]) (Δf := fun g => rL g.2.2 [] :: rL g.2.1 [] :: rL g.1 [] :: Δ) (e1 := fun g => eR g.1) (e2 := fun g => eR g.2.1) (e3 := fun g => eR g.2.2) ⟨fun σ ω Q s d q =>
    (ex_lst (C := C) (Γ := Γ) (Δ := Δ) (Δ1 := Δ) ea_nil (Nat.zero_le _)).run σ ω _ s d fun p v ω1 l1 f1 d1 hv => (ex_lst (C := C) (Γ := Γ) (Δ := rL p [] :: Δ) (Δ1 := rL p [] :: Δ) ea_nil (Nat.zero_le _)).run σ ω1 _ (s.mono l1.m) d1 fun p2 v2 ω2 l2 f2 d2 hv2 =>
      (ex_lst (C := C) (Γ := Γ) (Δ := rL p2 [] :: rL p [] :: Δ) (Δ1 := rL p2 [] :: rL p [] :: Δ) ea_nil (Nat.zero_le _)).run σ ω2 _ ((s.mono l1.m).mono l2.m) d2 fun p3 v3 ω3 l3 f3 d3 hv3 =>
      q (p, p2, p3) [v, v2, v3] ω3 ((l1.trans l2).trans l3) (fun a ha => by
        rcases List.mem_cons.mp ha with h | h
        · exact f1 a (by rw [h]; exact List.mem_cons_self)
        · rcases List.mem_cons.mp h with h | h
          · exact fresh_le l1 (f2 a (by rw [h]; exact List.mem_cons_self))
          · exact fresh_le (l1.trans l2) (f3 a h)) d3 ⟨(eR p).mono _ _ _ l3.m ((eR p).mono _ _ _ l2.m hv), (eR p2).mono _ _ _ l3.m hv2, hv3, trivial⟩⟩
    (fun g hg => hk g.1 g.2.1 g.2.2 (hg g.1 List.mem_cons_self) (hg g.2.1 (List.mem_cons_of_mem _ List.mem_cons_self)) (hg g.2.2 (List.mem_cons_of_mem _ (List.mem_cons_of_mem _ List.mem_cons_self)))) o
/-- with a test: xs by φ are walked, those with c are kept, by ψ -/
theorem ev_lcF {α : Type} {wi : TI} {xs : List α} {it : Nat → En} {ψ : α → En} {c : α → Bool} {Γt : Nat → List (Option En)} {d0 : α} (hn : xs.length ≤ 100000)
    (hi : ∀ W, ItOk W [] wi Γ Δ xs.length it Δ) (ht : ∀ i, i < xs.length → TgV g vs (wipeΓ Γ vs) (it i) (Γt i))
    (hc : ∀ i, i < xs.length → EvT [] tt (Γt i) Δ (c (xs.getD i d0)) Δ) (he : ∀ i, i < xs.length → c (xs.getD i d0) = true → Ev [] te (Γt i) Δ (ψ (xs.getD i d0)) Δ) : Ev C (tLc wi g tt te vs) Γ Δ (eLst ((xs.filter c).map ψ)) Δ := ⟨fun σ ω Q s d k => by
  refine hi ⟨ω, C, ω.M⟩ σ ω _ (LeX.refl _ _) s d fun J ω1 l1 d1 hJ => ?_
  intro L hL
  have hLM := Wo.free hL
  have nA : L ∉ adr Δ := fun z => absurd hL (l1.d L (d.a L z).1)
  refine ⟨fun i m H' => m = xs.length - i ∧ i ≤ xs.length ∧ ∃ (ω2 : Wo) (acc : List V), ω2.H = H' ∧ LeX [] ω1 ω2 ∧ ω2.M L = none ∧ ω2.H L = some (.lst acc) ∧ Args (((xs.take i).filter c).map ψ) acc ω2.M ∧ SatD Δ ω2, ⟨xs.length, by omega, Nat.zero_le _, ω1.mut L (.lst []) hLM, [], rfl, Wo.mut_le hL, hLM, upd_same, trivial, d1.le (Wo.mut_le hL)⟩, ?_⟩
  rintro i m H' ⟨rfl, hin, ω2, acc, rfl, k1, k2, k3, k4, k5⟩
  obtain ⟨j1, j2⟩ := hJ ω2 (l1.nil.trans k1.nil) k1.m
  by_cases hlt : i < xs.length
  · refine .inr ⟨(j1 i hlt).1, _, fun H'' hN => ⟨xs.length - (i + 1), by omega, rfl, hlt, hN⟩, fun x H'' hy => ?_⟩
    obtain ⟨ω3, rfl, l3, hx⟩ := (j1 i hlt).2 x H'' hy
    have s3 : Sat (wipeΓ Γ vs) (wipe σ vs) ω3.M := (((s.mono l1.m).mono k1.m).mono l3.m).wipes vs
    refine ht i hlt x (wipe σ vs) ω3 _ s3 hx fun σ' s' e' => ⟨by rw [e', wipe_wipe fun _ h => h], ?_⟩
    have et : xs.take (i + 1) = xs.take i ++ [xs.getD i d0] := by
      rw [List.take_succ_eq_append_getElem hlt, List.getD_eq_getElem?_getD, List.getElem?_eq_getElem hlt]
      rfl
    have L3 : ω3.H L = some (.lst acc) := l3.h L _ (fun z => nomatch z) k3
    have M3 : ω3.M L = none := l3.v L (ne_none k3) k2
    refine (hc i hlt).run σ' ω3 _ s' (k5.le l3) fun ω4 l4 d4 => ?_
    have L4 : ω4.H L = some (.lst acc) := l4.h L _ (fun z => nomatch z) L3
    have M4 : ω4.M L = none := l4.v L (ne_none L3) M3
    cases q : c (xs.getD i d0) with
    | false =>
      rw [if_neg (fun z => nomatch z)]
      refine ⟨ω4, acc, rfl, (k1.trans l3).trans l4, M4, L4, ?_, d4⟩
      rw [et, List.filter_append, List.filter_cons, if_neg (by rw [q]; exact fun z => nomatch z), List.filter_nil, List.append_nil]
      exact (k4.mono l3.m).mono l4.m
    | true =>
      rw [if_pos rfl]
      refine (he i hlt q).run σ' ω4 _ (s'.mono l4.m) d4 fun v ω5 l5 d5 hv => ?_
      have L5 : ω5.H L = some (.lst acc) := l5.h L _ (fun z => nomatch z) L4
      have M5 : ω5.M L = none := l5.v L (ne_none L4) M4
      have al : acc.length ≤ i := by
        rw [k4.len, List.length_map]
        refine Nat.le_trans (List.length_filter_le _ _) ?_
        rw [List.length_take]
        omega
      refine ⟨acc, L5, Nat.lt_of_le_of_lt (by omega : acc.length ≤ 100000) (by decide), ω5.mut L (.lst (acc ++ [v])) M5, acc ++ [v], rfl, ?_, M5, upd_same, ?_, d5.newset M5 nA⟩
      · exact (((k1.trans l3).trans l4).trans l5).newset hL M5
      · rw [et, List.filter_append, List.filter_cons, if_pos q, List.filter_nil, List.map_append]
        exact (((k4.mono l3.m).mono l4.m).mono l5.m).app ⟨hv, trivial⟩
  · have e : i = xs.length := by omega
    subst e
    rw [List.take_of_length_le (Nat.le_refl _)] at k4
    refine .inl ⟨j2, ?_⟩
    exact k (.ref L) (ω2.frz L _ k3) (l1.nil.trans (k1.frz hL k3).nil) (k5.frz k2 nA) ⟨L, acc, rfl, upd_same, k4.mono (Wo.frz_m k2)⟩⟩
end
end Tw

/-! zip of a plain text and a list; (number, text) < (number, text). -/
namespace Tw
open PySem L2 PyProof.Rows

/-! ### zip(text, list) -/
abbrev zsA (h : Heap) (x : Str) (t : Tok) : Heap := h.push { cls := .type "str_ascii_iterator", data := .fields #[.str x t, .int 0 0] }
abbrev zsB (h : Heap) (x : Str) (t : Tok) (b : Addr) : Heap := (zsA h x t).push { cls := .type "list_iterator", data := .fields #[.ref b, .int 0 0] }
abbrev zsC (h : Heap) (x : Str) (t : Tok) (b : Addr) : Heap := (zsB h x t b).push { cls := .type "tuple", data := .seq #[.ref h.objs.size, .ref (zsA h x t).objs.size] }
abbrev zsD (h : Heap) (x : Str) (t : Tok) (b : Addr) : Heap := (zsC h x t b).push { cls := .type "tuple", data := .seq #[.none, .none] }
abbrev zsE (h : Heap) (x : Str) (t : Tok) (b : Addr) : Heap := (zsD h x t b).push { cls := .type "zip", data := .fields #[.none, .bool false, .bool false, .ref (zsB h x t b).objs.size, .ref (zsC h x t b).objs.size] }
theorem zs_new (x : Str) (t : Tok) (b : Addr) (ys : Array Value) (ha : x.cps.all (· < 128) = true) :
    Meets (Builtin.«zip.__new__» ⟨[.type "zip", .str x t, .ref b], []⟩) (fun _ R s => s.heap.IsList b ys ∧ R (.ok (.ret (.ref (zsD s.heap x t b).objs.size))) { s with heap := zsE s.heap x t b }) :=
  .of_wp fun prog w A R s q => by
    obtain ⟨hp, g, d, tk, os⟩ := s
    obtain ⟨hb, q⟩ := q
    have hsub := sub_zip
    have hB : Heap.IsList (Shared.heap ⟨zsA hp x t, g, d, tk, os⟩) b ys := Heap.IsList.push hb _
    have hA := fun {Q : Value → Shared → Prop} {E : Value → Shared → Prop} {A : Around} => wpAny_pyIter_ascii (prog := prog) (w := w) (A := A) (E := E) (s := ⟨hp, g, d, tk, os⟩) (t := t) (Q := Q) ha
    wp_walk using hA, wpAny_pyIter_list hB
    exact ⟨_, rfl, q⟩
theorem zs_call {prog : Program} {w : World} {A : Around} {E : Value → Shared → Prop} {s : Shared} {x : Str} {t : Tok} {b : Addr} {ys : Array Value} {Q : Value → Shared → Prop} (ha : x.cps.all (· < 128) = true) (hb : s.heap.IsList b ys)
    (q : ∀ h', IsZip h' (s.heap.objs.size + 4) (s.heap.objs.size + 2) (s.heap.objs.size + 3) .none → IsTupOf2 h' (s.heap.objs.size + 2) (.ref s.heap.objs.size) (.ref (s.heap.objs.size + 1)) → IsTupOf2 h' (s.heap.objs.size + 3) .none .none →
      h'.IsStrIter s.heap.objs.size "str_ascii_iterator" x t 0 → h'.IsListIter (s.heap.objs.size + 1) b 0 → (∀ c o, s.heap.get? c = some o → h'.get? c = some o) → Q (.ref (s.heap.objs.size + 4)) { s with heap := h' }) :
    wpAny (model prog w) A (call (.type "zip") [.str x t, .ref b]) Q E s := by
  refine callType_new F.called_zip (by decide) (F.typeCall_zip_2 _ _) (F.newCall_zip_2 _ _) (fun obj => F.args_object_init_3 obj _ _) F.entry_zip_new (zs_new x t b ys ha) ⟨hb, ?_⟩
  have n1 : (zsA s.heap x t).objs.size = s.heap.objs.size + 1 := Heap.size_push ..
  have n2 : (zsB s.heap x t b).objs.size = s.heap.objs.size + 2 := by rw [Heap.size_push, n1]
  have n3 : (zsC s.heap x t b).objs.size = s.heap.objs.size + 3 := by rw [Heap.size_push, n2]
  have n4 : (zsD s.heap x t b).objs.size = s.heap.objs.size + 4 := by rw [Heap.size_push, n3]
  have v5 : (zsE s.heap x t b).get? (zsD s.heap x t b).objs.size = some _ := Heap.get?_push_size _ rfl
  have v4 : (zsE s.heap x t b).get? (zsC s.heap x t b).objs.size = some _ := Heap.get?_push_of_some _ (Heap.get?_push_size _ rfl)
  have v3 : (zsE s.heap x t b).get? (zsB s.heap x t b).objs.size = some _ := Heap.get?_push_of_some _ (Heap.get?_push_of_some _ (Heap.get?_push_size _ rfl))
  have v2 : (zsE s.heap x t b).get? (zsA s.heap x t).objs.size = some _ := Heap.get?_push_of_some _ (Heap.get?_push_of_some _ (Heap.get?_push_of_some _ (Heap.get?_push_size _ rfl)))
  have v1 : (zsE s.heap x t b).get? s.heap.objs.size = some _ := Heap.get?_push_of_some _ (Heap.get?_push_of_some _ (Heap.get?_push_of_some _ (Heap.get?_push_of_some _ (Heap.get?_push_size _ rfl))))
  show _ ∧ _
  rw [n2, n3, n4] at v5
  rw [n1, n2] at v3
  rw [n3] at v4
  rw [n1] at v2
  rw [n4]
  exact ⟨⟨_, v5, rfl⟩, q _ v5 v3 v4 ⟨_, v1, rfl, rfl⟩ ⟨_, v2, rfl, rfl⟩ fun c o y => Heap.get?_push_of_some _ (Heap.get?_push_of_some _ (Heap.get?_push_of_some _ (Heap.get?_push_of_some _ (Heap.get?_push_of_some _ y))))⟩
structure ZsAp (z TI TO i1 i2 b : Addr) : Prop where
  fa : TI ≠ z ∧ TO ≠ z ∧ TI ≠ TO ∧ TI ≠ i1 ∧ TI ≠ i2
  fb : z ≠ i1 ∧ z ≠ i2 ∧ TO ≠ i1 ∧ TO ≠ i2 ∧ i1 ≠ i2
  fc : z ≠ b ∧ TO ≠ b ∧ i1 ≠ b ∧ i2 ≠ b
theorem zs_ap {n b : Nat} (h : b < n) : ZsAp (n + 4) (n + 2) (n + 3) n (n + 1) b := by
  refine ⟨⟨?_, ?_, ?_, ?_, ?_⟩, ⟨?_, ?_, ?_, ?_, ?_⟩, ?_, ?_, ?_, ?_⟩ <;> (intro e; have e : @Eq Nat _ _ := e; omega)
theorem zs_le {n c : Nat} (h : c ∈ [n + 4, n + 2, n + 3, n, n + 1]) : n ≤ c := by
  simp only [List.mem_cons, List.not_mem_nil, or_false] at h
  omega
/-- the signs of x and the list at b as it stands at each turn, in new pairs -/
def Jzs (K : PySem.W.Frag) (x : Str) (b : Addr) : It :=
  ⟨fun i H => i < x.cps.size ∧ ∃ (ys : List V) (y : V), SqL K H b ys ∧ ys[i]? = some y,
    fun i H v H' => ∃ T c y, v = .ref T ∧ H T = none ∧ H' = upd H T (.tup [.str ⟨#[c]⟩, y]) ∧ x.cps[i]? = some c ∧ ∀ ys, SqL K H b ys → ys[i]? = some y,
    fun i H => ∃ ys : List V, SqL K H b ys ∧ (i = x.cps.size ∨ i = ys.length) ∧ i ≤ x.cps.size ∧ i ≤ ys.length⟩
theorem ZsAp.sep {z TI TO i1 i2 b : Addr} (D : ZsAp z TI TO i1 i2 b) : ZipSep2 z TI TO i1 i2 [i1] [i2, b] := by
  obtain ⟨⟨a1, a2, a3, a4, a5⟩, ⟨b1, b2, b3, b4, b5⟩, c1, c2, c3, c4⟩ := D
  have two : ∀ {y : Addr}, y ≠ i2 → y ≠ b → y ∉ [i2, b] := fun h k z => by
    rcases List.mem_cons.mp z with e | e
    · exact h e
    · exact k (List.mem_singleton.mp e)
  exact ⟨a1, a2, a3, a4, List.mem_cons_self, fun e => b1 (List.mem_singleton.mp e), fun e => b3 (List.mem_singleton.mp e), a5, List.mem_cons_self, two b2 c1, two b4 c2, two b5 c3, fun e => b5 (List.mem_singleton.mp e).symm⟩
theorem zs_turn {P : Program} {w : World} {K : PySem.W.Frag} {elts : List Expr} {kk : Nat} {tpos : Pos} {x : Str} {t : Tok} {b z TI TO i1 i2 : Addr} (D : ZsAp z TI TO i1 i2 b) :
    Turn P w K (.Tuple elts kk tpos) (Jzs K x b) [z, TI, TO, i1, i2] z (fun i h => IsZip h z TI TO .none ∧ IsTupOf2 h TI (.ref i1) (.ref i2) ∧ (∃ u v, IsTupOf2 h TO u v) ∧ h.IsStrIter i1 "str_ascii_iterator" x t i ∧ h.IsListIter i2 b i) := by
  have five : ∀ {c}, c ∈ [z, TI, TO, i1, i2] → c = z ∨ c = TI ∨ c = TO ∨ c = i1 ∨ c = i2 := fun h => by simpa using h
  refine ⟨List.mem_cons_self, fun i h st c hc => ?_, fun i h h' st k => ?_, ?_, ?_, fun A i s Q E st h => wpAny_pyIter_zip st.1 h⟩
  · obtain ⟨hz, hI, ⟨u, v, hO⟩, ⟨o1, f1, _, d1⟩, o2, f2, _, d2⟩ := st
    rcases five hc with e | e | e | e | e
    · exact ⟨{ cls := .type "zip", data := .fields #[.none, .bool false, .bool false, .ref TI, .ref TO] }, by rw [e]; exact hz, fun v q => nomatch q⟩
    · exact ⟨{ cls := .type "tuple", data := .seq #[.ref i1, .ref i2] }, by rw [e]; exact hI, fun v q => nomatch q⟩
    · exact ⟨{ cls := .type "tuple", data := .seq #[u, v] }, by rw [e]; exact hO, fun v q => nomatch q⟩
    · exact ⟨o1, by rw [e]; exact f1, fun v q => by rw [d1] at q; cases q⟩
    · exact ⟨o2, by rw [e]; exact f2, fun v q => by rw [d2] at q; cases q⟩
  · obtain ⟨hz, hI, ⟨u, v, hO⟩, ⟨o1, f1, r1⟩, h2⟩ := st
    exact ⟨k z (by simp) _ hz, k TI (by simp) _ hI, ⟨u, v, k TO (by simp) _ hO⟩, ⟨o1, k i1 (by simp) _ f1, r1⟩, h2.at fun o q => k i2 (by simp) o q⟩
  · intro X hP hw hK hc i pins s σ H E I hf st hg
    subst hP hw hK
    obtain ⟨hz, hI, ⟨u0, v0, hO⟩, h1, h2⟩ := st
    obtain ⟨hi, ys, y, hqy, hy⟩ := hg
    obtain ⟨its, rv, p, _⟩ := I.list hqy
    obtain ⟨u, hu, ru⟩ := rv.get hy
    have hlt : i < its.toArray.size := by
      rw [List.size_toArray]
      exact (List.getElem?_eq_some_iff.mp hu).1
    have hzl : z < s.heap.objs.size := Heap.lt_size hz
    have D1 := Draws.strAscii (prog := X.prog) (w := X.w) (A := X.A.in1) (I.ok.hd hc) i1 x t
    have D2 := Draws.list (prog := X.prog) (w := X.w) (A := X.A.in1) (I.ok.hd hc) i2 b (Ne.symm D.fc.2.2.2) its.toArray
    refine wpAny_pyNext_zipD2_item D.sep D1 D2 hz hI hO h1 ⟨h2, p.isList⟩ hi hlt fun x1 x2 h' tk e1 e2 z' O' g1 g2 hT hsz hk => ?_
    obtain ⟨c, tc, ec, rfl⟩ := e1
    have eu : x2 = u := by
      have : its.toArray[i]? = some u := by simpa using hu
      rw [this] at e2
      exact (Option.some.inj e2).symm
    subst eu
    refine ⟨_, rfl, wpAny_letOwnedTupleGo_zip (s := { s with heap := h', toks := tk }) z' fun h'' z'' sb => ?_⟩
    have hT2 : h''.get? s.heap.objs.size = some { cls := .type "tuple", data := .seq #[.str ⟨#[c]⟩ tc, x2] } := (sb.2 _ (Nat.ne_of_gt hzl)).trans hT
    have nw : ObjOk X.prog X.w (upd H s.heap.objs.size (.tup [.str ⟨#[c]⟩, y])) h'' s.heap.objs.size (.tup [.str ⟨#[c]⟩, y]) := ⟨by show 2 ≤ sizeLine; decide, [.str ⟨#[c]⟩ tc, x2], .cons ⟨tc, rfl⟩ (.cons ru .nil), ⟨_, hT2, rfl, _, rfl⟩⟩
    have I1 : Inv X pins σ (upd H s.heap.objs.size (.tup [.str ⟨#[c]⟩, y])) { s with heap := h'', toks := tk } := I.turnedNew (t' := tk) (ch := [z, TI, TO, i1, i2]) (fun d o hd q =>
      (sb.2 d (fun e => hd (by simp [e]))).trans (hk d o (fun e => hd (by simp [e])) (fun e => hd (by simp [e])) (fun e => hd (by simp [e])) (fun e => hd (by simp [e])) q)) hf (Nat.le_refl _) nw
    refine ⟨.ref s.heap.objs.size, _, I1, rfl, ⟨_, c, y, rfl, I.hok.fresh (Nat.le_refl _), rfl, ec, fun l hl => by rw [I.list_inj hl hqy]; exact hy⟩, ⟨z'', ?_, ⟨_, _, (sb.2 _ D.fa.2.1).trans O'⟩, ?_, ?_⟩, fun d hd => ?_⟩
    · exact (sb.2 _ D.fa.1).trans (hk _ _ D.fa.1 D.fa.2.2.1 D.fa.2.2.2.1 D.fa.2.2.2.2 hI)
    · obtain ⟨o1, f1, r1⟩ := g1
      exact ⟨o1, (sb.2 _ (Ne.symm D.fb.1)).trans f1, r1⟩
    · exact g2.1.at fun o q => (sb.2 _ (Ne.symm D.fb.2.1)).trans q
    · have hl : d < s.heap.objs.size := by
        rcases five hd with e | e | e | e | e
        · rw [e]; exact hzl
        · rw [e]; exact Heap.lt_size hI
        · rw [e]; exact Heap.lt_size hO
        · rw [e]; obtain ⟨_, f, _⟩ := h1; exact Heap.lt_size f
        · rw [e]; obtain ⟨_, f, _⟩ := h2; exact Heap.lt_size f
      rw [upd_ne (Nat.ne_of_lt hl)]
      exact (hf d hd).1
  · intro X hP hw hK hc i pins s σ H E I hf st hg
    subst hP hw hK
    obtain ⟨hz, hI, ⟨u0, v0, hO⟩, h1, h2⟩ := st
    obtain ⟨ys, hqy, hend, hl1, hl2⟩ := hg
    obtain ⟨its, rv, p, _⟩ := I.list hqy
    have el := rv.length
    have D1 := Draws.strAscii (prog := X.prog) (w := X.w) (A := X.A.in1) (I.ok.hd hc) i1 x t
    have D2 := Draws.list (prog := X.prog) (w := X.w) (A := X.A.in1) (I.ok.hd hc) i2 b (Ne.symm D.fc.2.2.2) its.toArray
    have es : its.toArray.size = ys.length := by rw [List.size_toArray]; exact el.symm
    refine wpAny_pyNext_zipD2_end D.sep D1 D2 hz hI hO h1 ⟨h2, p.isList⟩ hl1 (by rw [es]; exact hl2) (by rw [es]; exact hend) fun h' tk hk => ⟨rfl, I.turnedL (t' := tk) (ch := [z, TI, TO, i1, i2]) (fun d o hd q =>
      hk d o (fun e => hd (by simp [e])) (fun e => hd (by simp [e])) (fun e => hd (by simp [e])) (fun e => hd (by simp [e])) q) hf⟩
def iZs (K : PySem.W.Frag) (ta : TA) : TI := fun σ H R => ta σ H fun vs H1 => ∃ x b ys, vs = [.str x, .ref b] ∧ x.cps.all (· < 128) = true ∧ SqL K H1 b ys ∧ R (Jzs K x b) H1
theorem pi_zipS {X : Cx} {e e2 : Expr} {ta : TA} {p pos tpos : Pos} {elts : List Expr} {kk : Nat} (hg : Gl X "zip") (hm : X.mg "zip" = none) (ha : PA X [e, e2] ta)
    (hs : starEach [e, e2] X.env = (false, eval e X.env) :: starEach [e2] X.env := by rfl) (hpl : (backTo pos (starEach [e2] X.env)).any (·.1) = false := by rfl) : PI X (.Tuple elts kk tpos) (.Call (.Name "zip" p) [e, e2] [] pos) (iZs X.K ta) := ⟨fun pins s σ H R I q0 => by
  refine Call_ (ld_blt I hg hm PyProof.Rows.boot_zip (PyProof.Rows.callWith_type1 (thn (ha.run pos pins s σ H _ I q0) fun us s1 ⟨vs, H1, I1, r1, q1⟩ => ?_) hs hpl))
  obtain ⟨x, b, ys, ex, hx, hqy, q⟩ := q1
  subst ex
  cases r1 with
  | cons r rr =>
    cases rr with
    | cons r' rr =>
      cases rr
      obtain ⟨t, rfl⟩ := r
      cases r'
      obtain ⟨its, rv, p1, _⟩ := I1.list hqy
      have lb : b < s1.heap.objs.size := p1.lt
      refine zs_call hx p1.isList fun h' hz hI hO h1 h2 hk => wpAny_pyIter_zip hz ?_
      have I2 : Inv X pins σ H1 { s1 with heap := h' } := I1.kept (t' := s1.toks) hk
      have ap : ZsAp (s1.heap.objs.size + 4) (s1.heap.objs.size + 2) (s1.heap.objs.size + 3) s1.heap.objs.size (s1.heap.objs.size + 1) b := zs_ap lb
      refine ⟨s1.heap.objs.size + 4, [s1.heap.objs.size + 4, s1.heap.objs.size + 2, s1.heap.objs.size + 3, s1.heap.objs.size, s1.heap.objs.size + 1], _, _, H1, rfl, I2, zs_turn (t := t) ap, ⟨hz, hI, ⟨_, _, hO⟩, h1, h2⟩, fun c hc => ?_, q⟩
      have hle : s1.heap.objs.size ≤ c := zs_le hc
      exact I1.fpOk hle (I1.hok.fresh hle)⟩
/-! ### (number, text) < (number, text) -/
def kLt (i j : Int) (x y : Str) : Bool := if i = j then decide (x.cps.toList < y.cps.toList) else decide (i < j)
def rKey (K : PySem.W.Frag) : R2 := fun p q H Q => ∃ (a b : Addr) (i j : Int) (x y : Str), p = .ref a ∧ q = .ref b ∧ SqT K H a [.int i, .str x] ∧ SqT K H b [.int j, .str y] ∧ Q (.bl (kLt i j x y)) H
theorem str_lt_irrefl (x : Str) : ¬ x.cps.toList < x.cps.toList := List.lt_irrefl _
theorem op_lt_key {X : Cx} (K : PySem.W.Frag) (hK : X.K = K) (hu : X.A.units < cLine) : OpR X (compareOp .Lt) (rKey K) := by
  intro pins s σ H p q v u Q I rx ry h
  subst hK
  obtain ⟨a, b, i, j, x, y, rfl, rfl, ha, hb, h⟩ := h
  cases (show v = Value.ref a from rx)
  cases (show u = Value.ref b from ry)
  obtain ⟨xs, rv, pa, _⟩ := I.tuple ha
  obtain ⟨ys, rv2, pb, _⟩ := I.tuple hb
  cases rv with
  | cons r1 rv =>
    cases rv with
    | cons r2 rv =>
      cases rv
      cases rv2 with
      | cons r3 rv2 =>
        cases rv2 with
        | cons r4 rv2 =>
          cases rv2
          obtain ⟨t1, rfl⟩ := r1
          obtain ⟨t2, rfl⟩ := r2
          obtain ⟨t3, rfl⟩ := r3
          obtain ⟨t4, rfl⟩ := r4
          have key := Ob.RcOp.tuples_lt (A := X.A) (s := s) (e := fun k => if k = 0 then i == j else x == y) (r := fun k => if k = 0 then decide (i < j) else decide (x.cps.toList < y.cps.toList)) pa pb hu ?_ ?_
          · refine key X.prog X.w _ _ ?_
            have e : Ob.lexAt (fun k => if k = 0 then i == j else x == y) (fun k => if k = 0 then decide (i < j) else decide (x.cps.toList < y.cps.toList)) (decide ([Value.int i t1, Value.str x t2].toArray.size < [Value.int j t3, Value.str y t4].toArray.size)) 0 (min [Value.int i t1, Value.str x t2].toArray.size [Value.int j t3, Value.str y t4].toArray.size) = kLt i j x y := by
              show Ob.lexAt _ _ false 0 2 = _
              rw [Ob.lexAt_succ, Ob.lexAt_succ, Ob.lexAt_zero]
              unfold kLt
              simp only [Nat.zero_add, if_true, beq_iff_eq, Nat.one_ne_zero, if_false]
              by_cases hij : i = j
              · rw [if_pos hij, if_pos hij]
                by_cases hxy : x = y
                · rw [if_pos hxy, hxy, decide_eq_false (str_lt_irrefl y)]
                · rw [if_neg hxy]
              · rw [if_neg hij, if_neg hij]
            rw [e]
            exact ⟨.bl (kLt i j x y), H, I, rfl, h⟩
          · intro k h1 h2
            match k, h1 with
            | 0, _ => exact SeqAt.EqAt.int_int i t1 j t3
            | 1, _ => exact SeqAt.EqAt.str_str x t2 y t4
          · intro k h1 h2 _
            match k, h1 with
            | 0, _ => exact Ob.RcOp.lt_int i j t1 t3
            | 1, _ => exact fun _ _ _ _ q => PyProof.Rows.lt_str q
/-! ### entries -/
section
variable {W : Bs} {C : List Addr} {Γ : List (Option En)} {Δ Δ1 : List Rs} {K : PySem.W.Frag}
theorem op_key {K : PySem.W.Frag} {u v : List Nat} {i j : Int} : Op2 (rKey K) (eTup [eI i, eM u]) (eTup [eI j, eM v]) (eB (kLt i j (tx u) (tx v))) := fun x y ω Q hx hy k => by
  obtain ⟨a, vs, rfl, ha, hv⟩ := hx
  obtain ⟨b, ws, rfl, hb, hw⟩ := hy
  match vs, hv, ws, hw with
  | [v1, v2], ⟨q1, q2, _⟩, [w1, w2], ⟨q3, q4, _⟩ =>
    cases (show v1 = V.int i from q1)
    cases (show v2 = V.str (tx u) from q2)
    cases (show w1 = V.int j from q3)
    cases (show w2 = V.str (tx v) from q4)
    exact ⟨a, b, i, j, tx u, tx v, rfl, rfl, SqT.of (ω.sub _ _ ha), SqT.of (ω.sub _ _ hb), k _ ω (LeX.refl _ _) rfl⟩
theorem it_zipS {tA : TA} {u : List Nat} {fs : List En} (h : EvA C tA Γ Δ [eM u, eLst fs] Δ1) (ha : ∀ c ∈ u, c < 128) (hn : u.length = fs.length) : ItOk W C (iZs K tA) Γ Δ u.length (fun i => eTup [eM [u.getD i 0], itm fs i]) Δ1 := fun σ ω R l0 s d k => by
  refine h.run σ ω _ s d fun vs ω1 l d1 hv => ?_
  match vs, hv with
  | [x, y], ⟨ex, ⟨b, us, ey, hb, hu⟩, _⟩ =>
    cases (show x = V.str (tx u) from ex)
    subst ey
    have lu := hu.len
    refine ⟨tx u, b, us, rfl, ?_, SqL.of (ω1.sub _ _ hb), k _ ω1 l d1 fun ω2 _ m => ?_⟩
    · show u.toArray.all (· < 128) = true
      rw [List.all_toArray, List.all_eq_true]
      exact fun c hc => decide_eq_true (ha c hc)
    have h2 : SqL K ω2.H b us := SqL.of (ω2.sub _ _ (m _ _ hb))
    have hsz : (tx u).cps.size = u.length := by simp
    refine ⟨fun i hi => ?_, us, h2, .inl hsz.symm, Nat.le_of_eq hsz.symm, by omega⟩
    have hi2 : i < us.length := by omega
    refine ⟨⟨by rw [hsz]; exact hi, us, us[i], h2, List.getElem?_eq_getElem hi2⟩, fun v H' q => ?_⟩
    obtain ⟨T, c, y, e1, nT, e2, q1, q2⟩ := q
    have ec : u.getD i 0 = c := by
      have : u[i]? = some c := by simpa using q1
      rw [List.getD_eq_getElem?_getD, this]
      rfl
    have mm := fun p o q => (Wo.new_le (o := .tup [.str ⟨#[c]⟩, y]) nT).m p o (m p o q)
    refine ⟨ω2.new T (.tup [.str ⟨#[c]⟩, y]), e2.symm, Wo.new_le nT, T, [.str ⟨#[c]⟩, y], e1, Wo.new_at, ?_, (itm fs i).mono _ _ _ mm (args_at hu (q2 us h2)), trivial⟩
    show V.str ⟨#[c]⟩ = V.str (tx [u.getD i 0])
    rw [ec]
end
end Tw

/-! What is not wholly known, further: loops of unknown length, lists of unknown items. -/
namespace Tw
open PySem L2 PyProof.Rows
/-- an iterable of n items, N n -/
def ItX (W : Bs) (C : List Addr) (wi : TI) (Γ : List (Option En)) (Δ : List Rs) (N : Nat → Prop) (it : Nat → En) (Δ' : List Rs) : Prop :=
  ∀ σ (ω : Wo) (R : It → Hp → Prop), W.le ω → Sat Γ σ ω.M → SatD Δ ω →
    (∀ n J (ω1 : Wo), N n → LeX C ω ω1 → SatD Δ' ω1 →
      (∀ (ω2 : Wo), W.le ω2 → (∀ x o, ω1.M x = some o → ω2.M x = some o) → (∀ i, i < n → J.go i ω2.H ∧ ∀ x H', J.yld i ω2.H x H' → ∃ ω3 : Wo, ω3.H = H' ∧ LeX [] ω2 ω3 ∧ (it i).r x ω3.M) ∧ J.stop n ω2.H) → R J ω1.H) → wi σ ω.H R
section
variable {W : Bs} {C : List Addr} {Γ Γ' : List (Option En)} {Δ Δ1 Δ2 : List Rs} {D : Ends} {te ta tb : TE} {t u z : TS} {e : En} {K : PySem.W.Frag} {tA : TA}
theorem it_rangeX {N : Nat → Prop} (h : EvA C tA Γ Δ [eAny Nat N fun k => eI (k : Int)] Δ1) (hn : ∀ n, N n → n ≤ 100000) : ItX W C (iRng1 tA) Γ Δ N (fun i => eI (i : Int)) Δ1 := fun σ ω R l0 s d k => by
  refine h.run σ ω _ s d fun vs ω1 l d1 hv => ?_
  match vs, hv with
  | [x], ⟨⟨n, hN, q⟩, _⟩ =>
    cases (show x = V.int n from q)
    have hn := hn n hN
    refine ⟨n, rfl, by omega, by omega, ?_⟩
    rw [Int.toNat_natCast]
    refine k n _ ω1 hN l d1 fun ω2 _ _ => ⟨fun i hi => ⟨hi, fun x H' y => ⟨ω2, y.1.symm, LeX.refl _ _, ?_⟩⟩, Nat.le_refl n⟩
    show x = V.int (i : Int)
    rw [y.2, Int.zero_add]
theorem itx_of {wi : TI} {n : Nat} {it : Nat → En} (h : ItOk W C wi Γ Δ n it Δ1) : ItX W C wi Γ Δ (· = n) it Δ1 := fun σ ω R l0 s d k => h σ ω R l0 s d fun J ω1 l d1 hJ => k n J ω1 rfl l d1 hJ
theorem s_forX {wi : TI} {g : TG} {tb : TS} {N : Nat → Prop} {it : Nat → En} {β : Type} (P : Nat → β → Prop) (Γf Γt : Nat → β → List (Option En)) (Δf : Nat → β → List Rs) (hi : ItX W C wi Γ Δ N it Δ1)
    (h0 : ∃ b, P 0 b ∧ Wk Γ (Γf 0 b) ∧ Δf 0 b = Δ1)
    (ht : ∀ n i b, N n → i < n → P i b → TgOk g (Γf i b) (it i) (Γt i b))
    (hs : ∀ m n i b, N n → i < n → P i b → Tr tb (As (W.at m) (Γt i b) (Δf i b)) { D with nx := Lp (W.at m) (P (i + 1)) (Γf (i + 1)) (Δf (i + 1)), ct := Lp (W.at m) (P (i + 1)) (Γf (i + 1)) (Δf (i + 1)), bk := D.nx })
    (hd : ∀ n b, N n → P n b → ∀ σ H, As W (Γf n b) (Δf n b) σ H → D.nx σ H) (o : Own W C := by exact Own.nil _) : Tr (tFor wi g tb) (As W Γ Δ) D := fun σ H ⟨ω, q1, q2, qm, q3, q4⟩ => by
  subst q1
  refine hi σ ω _ q2 q3 q4 fun n J ω1 hN l1 d1 hJ => ?_
  have hk : ItOk W [] (fun σ' H' R' => H' = ω1.H → (∀ (ω' : Wo), ω'.H = H' → True) → R' J H') Γ Δ1 n it Δ1 ∨ True := .inr trivial
  have m1 : ∀ x o, W.m x = some o → ω1.M x = some o := fun x o z => l1.m x o (qm x o z)
  refine ⟨fun i m σ' H' => m = n - i ∧ i ≤ n ∧ Lp (W.at ω1.M) (P i) (Γf i) (Δf i) σ' H', ⟨n, by omega, Nat.zero_le _, ?_⟩, ?_⟩
  · obtain ⟨b, p, w, e⟩ := h0
    exact ⟨b, p, ω1, rfl, q2.ch l1 o, fun _ _ h => h, (q3.mono l1.m).wk w, by rw [e]; exact d1⟩
  · rintro i m σ' H' ⟨rfl, hin, b, p, ω2, rfl, k1, k2, k3, k4⟩
    obtain ⟨j1, j2⟩ := hJ ω2 k1 k2
    by_cases hlt : i < n
    · refine .inr ⟨(j1 i hlt).1, _, fun σ'' H'' hN => ⟨n - (i + 1), by omega, rfl, hlt, hN⟩, fun x H'' hy => ?_⟩
      obtain ⟨ω3, rfl, l3, hx⟩ := (j1 i hlt).2 x H'' hy
      refine ht n i b hN hlt p x σ' ω3 _ (k3.mono l3.m) hx fun σ3 s3 => ?_
      exact hs ω1.M n i b hN hlt p σ3 ω3.H ⟨ω3, rfl, k1.trans l3.nil, fun x o z => l3.m x o (k2 x o z), s3, k4.le l3⟩
    · have e : i = n := by omega
      subst e
      exact .inl ⟨j2, hd _ b hN p σ' _ ⟨ω2, rfl, k1, fun x o z => k2 x o (m1 x o z), k3, k4⟩⟩
theorem q_forX {wi : TI} {g : TG} {tb : TS} {N : Nat → Prop} {it : Nat → En} {β : Type} (P : Nat → β → Prop) (Γf Γt : Nat → β → List (Option En)) (Δf : Nat → β → List Rs) (hi : ItX W C wi Γ Δ N it Δ1)
    (h0 : ∃ b, P 0 b ∧ Wk Γ (Γf 0 b) ∧ Δf 0 b = Δ1)
    (ht : ∀ n i b, N n → i < n → P i b → TgOk g (Γf i b) (it i) (Γt i b))
    (hs : ∀ m n i b, N n → i < n → P i b → Tr tb (As (W.at m) (Γt i b) (Δf i b)) { D with nx := Lp (W.at m) (P (i + 1)) (Γf (i + 1)) (Δf (i + 1)), ct := Lp (W.at m) (P (i + 1)) (Γf (i + 1)) (Δf (i + 1)), bk := z D })
    (hd : ∀ n b, N n → P n b → Tr z (As W (Γf n b) (Δf n b)) D) (o : Own W C := by exact Own.nil _) : Tr (tSeq (tFor wi g tb) z) (As W Γ Δ) D := s_forX (D := { D with nx := z D }) P Γf Γt Δf hi h0 ht hs hd o
/-- what is found, and all that is known of it: a ghost with p -/
structure EvP {γ : Type} (C : List Addr) (te : TE) (Γ : List (Option En)) (Δ : List Rs) (p : γ → Prop) (e : γ → En) (Δ' : γ → List Rs) : Prop where
  run : ∀ (σ : L2.St) (ω : Wo) (Q : VK), Sat Γ σ ω.M → SatD Δ ω → (∀ g v ω', p g → LeX C ω ω' → SatD (Δ' g) ω' → (e g).r v ω'.M → Q v ω'.H) → te σ ω.H Q
theorem ep_of (h : Ev C te Γ Δ e Δ1) : EvP (γ := Unit) C te Γ Δ (fun _ => True) (fun _ => e) (fun _ => Δ1) := ⟨fun σ ω Q s d k => h.run σ ω Q s d fun v ω' l d' hv => k () v ω' trivial l d' hv⟩
theorem q_asgP {γ : Type} {p : γ → Prop} {ef : γ → En} {Δf : γ → List Rs} {i : Nat} (h : EvP C te Γ Δ p ef Δf) (hk : ∀ g, p g → Tr z (As W (Γ.set i (some (ef g))) (Δf g)) D) (o : Own W C := by exact Own.nil _) :
    Tr (tSeq (tAsg te (gName i)) z) (As W Γ Δ) D := fun σ H ⟨ω, h1, h2, hm, h3, h4⟩ => by
  subst h1
  exact h.run σ ω _ h3 h4 fun g v ω' pg l d hv => hk g pg _ _ ⟨ω', rfl, h2.ch l o, fun x q z => l.m x q (hm x q z), (h3.mono l.m).set hv, d⟩
/-- a comprehension over range, by a ghost -/
theorem ep_lcR {j : Nat} {N : Nat → Prop} {β : Type} (P : Nat → β → Prop) (acc : β → List En) (Δf : Nat → β → List Rs) (hA : EvA C tA Γ Δ [eAny Nat N fun k => eI (k : Int)] Δ1) (hn : ∀ n, N n → n ≤ 100000) (h0 : ∃ b, P 0 b ∧ acc b = [] ∧ Δf 0 b = Δ1)
    (hs : ∀ n i b, N n → i < n → P i b → EvP (γ := β × En) C te (Γ.set j (some (eI (i : Int)))) (Δf i b) (fun x => P (i + 1) x.1 ∧ acc x.1 = acc b ++ [x.2]) (fun x => x.2) (fun x => Δf (i + 1) x.1))
    (hl : ∀ i b, P i b → (acc b).length ≤ i) (hC : ∀ p ∈ C, p ∈ adr Δ) (hD : ∀ i b, P i b → ∀ a, a ∈ adr (Δf i b) → a ∈ adr Δ) :
    EvP (γ := Nat × β) C (tLc (iRng1 tA) (gName j) tYes te [j]) Γ Δ (fun x => N x.1 ∧ P x.1 x.2) (fun x => eLst (acc x.2)) (fun x => Δf x.1 x.2) := ⟨fun σ ω Q s d k => by
  refine it_rangeX (W := ⟨ω, C, ω.M⟩) hA hn σ ω _ (LeX.refl _ _) s d fun n J ω1 hN l1 d1 hJ => ?_
  intro L hL
  have hLM := Wo.free hL
  have hL0 : ω.H L = none := by
    cases q : ω.H L with
    | none => rfl
    | some o => exact absurd hL (l1.d L (ne_none q))
  have nA : L ∉ adr Δ := fun z => (d.a L z).1 hL0
  obtain ⟨b0, p0, a0, e0⟩ := h0
  refine ⟨fun i m H' => m = n - i ∧ i ≤ n ∧ ∃ (b : β) (ω2 : Wo) (ac : List V), ω2.H = H' ∧ P i b ∧ LeX C ω1 ω2 ∧ ω2.M L = none ∧ ω2.H L = some (.lst ac) ∧ Args (acc b) ac ω2.M ∧ SatD (Δf i b) ω2, ⟨n, by omega, Nat.zero_le _, b0, ω1.mut L (.lst []) hLM, [], rfl, p0, (Wo.mut_le hL).nil, hLM, upd_same, by rw [a0]; exact trivial, by rw [e0]; exact d1.le (Wo.mut_le hL)⟩, ?_⟩
  rintro i m H' ⟨rfl, hin, b, ω2, ac, rfl, pb, k1, k2, k3, k4, k5⟩
  obtain ⟨j1, j2⟩ := hJ ω2 (l1.trans k1) k1.m
  by_cases hlt : i < n
  · refine .inr ⟨(j1 i hlt).1, _, fun H'' hN => ⟨n - (i + 1), by omega, rfl, hlt, hN⟩, fun x H'' hy => ?_⟩
    obtain ⟨ω3, rfl, l3, hx⟩ := (j1 i hlt).2 x H'' hy
    have s3 : Sat (Γ.set j none) (wipe σ [j]) ω3.M := Sat.wipe (((s.mono l1.m).mono k1.m).mono l3.m) j
    refine tgw_name s3 hx fun σ' s' e' => ⟨e', ?_⟩
    show te σ' ω3.H _
    have L3 : ω3.H L = some (.lst ac) := l3.h L _ (fun z => nomatch z) k3
    have M3 : ω3.M L = none := l3.v L (ne_none k3) k2
    refine (hs n i b hN hlt pb).run σ' ω3 _ s' (k5.le l3) fun x v ω4 px l4 d4 hv => ?_
    obtain ⟨b', e⟩ := x
    obtain ⟨pb', ea⟩ := px
    have L4 : ω4.H L = some (.lst ac) := l4.h L _ (fun z => nA (hC L z)) L3
    have M4 : ω4.M L = none := l4.v L (ne_none L3) M3
    have hll := hl i b pb
    have hn' := hn n hN
    refine ⟨ac, L4, Nat.lt_of_le_of_lt (by rw [k4.len]; omega : ac.length ≤ 100000) (by decide), b', ω4.mut L (.lst (ac ++ [v])) M4, ac ++ [v], rfl, pb', ?_, M4, upd_same, ?_, d4.newset M4 fun z => nA (hD (i + 1) b' pb' L z)⟩
    · exact ((k1.trans l3.nil).trans l4).newset hL M4
    · rw [show acc b' = acc b ++ [e] from ea]
      exact ((k4.mono l3.m).mono l4.m).app ⟨hv, trivial⟩
  · have e : i = n := by omega
    subst e
    refine .inl ⟨j2, ?_⟩
    exact k (i, b) (.ref L) (ω2.frz L _ k3) ⟨hN, pb⟩ ((l1.trans k1).frz hL0 k3) (k5.frz k2 fun z => nA (hD i b pb L z)) ⟨L, ac, rfl, upd_same, k4.mono (Wo.frz_m k2)⟩⟩
/-- [c for c in text], to be changed -/
theorem ex_lcM {tl : TE} {j : Nat} {u : List Nat} (h : Ev [] tl Γ Δ (eM u) Δ) (hl : u.length ≤ 100000) (he : ∀ c ∈ u, Ev [] te (Γ.set j (some (eM [c]))) Δ (eM [c]) Δ) :
    EvX (γ := Addr) C (tLc (iStr tl) (gName j) tYes te [j]) Γ Δ (fun p => [p]) eR (fun p => rL p (u.map fun c => eM [c]) :: Δ) := ⟨fun σ ω Q s d k => by
  refine it_msg (W := ⟨ω, [], ω.M⟩) (C := []) h σ ω _ (LeX.refl _ _) s d fun J ω1 l1 d1 hJ => ?_
  intro L hL
  have hLM := Wo.free hL
  have hL0 : ω.H L = none := fresh_le l1 hL
  have nA : L ∉ adr Δ := fun z => (d.a L z).1 hL0
  refine ⟨fun i m H' => m = u.length - i ∧ i ≤ u.length ∧ ∃ (ω2 : Wo) (ac : List V), ω2.H = H' ∧ LeX [] ω1 ω2 ∧ ω2.M L = none ∧ ω2.H L = some (.lst ac) ∧ Args ((u.take i).map fun c => eM [c]) ac ω2.M ∧ SatD Δ ω2, ⟨u.length, by omega, Nat.zero_le _, ω1.mut L (.lst []) hLM, [], rfl, Wo.mut_le hL, hLM, upd_same, trivial, d1.le (Wo.mut_le hL)⟩, ?_⟩
  rintro i m H' ⟨rfl, hin, ω2, ac, rfl, k1, k2, k3, k4, k5⟩
  obtain ⟨j1, j2⟩ := hJ ω2 (l1.trans k1) k1.m
  by_cases hlt : i < u.length
  · refine .inr ⟨(j1 i hlt).1, _, fun H'' hN => ⟨u.length - (i + 1), by omega, rfl, hlt, hN⟩, fun x H'' hy => ?_⟩
    obtain ⟨ω3, rfl, l3, hx⟩ := (j1 i hlt).2 x H'' hy
    have s3 : Sat (Γ.set j none) (wipe σ [j]) ω3.M := Sat.wipe (((s.mono l1.m).mono k1.m).mono l3.m) j
    refine tgw_name s3 hx fun σ' s' e' => ⟨e', ?_⟩
    show te σ' ω3.H _
    have L3 : ω3.H L = some (.lst ac) := l3.h L _ (fun z => nomatch z) k3
    have M3 : ω3.M L = none := l3.v L (ne_none k3) k2
    have hm : u.getD i 0 ∈ u := by
      rw [List.getD_eq_getElem?_getD, List.getElem?_eq_getElem hlt]
      exact List.getElem_mem hlt
    have et : u.take (i + 1) = u.take i ++ [u.getD i 0] := by
      rw [List.take_succ_eq_append_getElem hlt, List.getD_eq_getElem?_getD, List.getElem?_eq_getElem hlt]
      rfl
    refine (he _ hm).run σ' ω3 _ s' (k5.le l3) fun v ω4 l4 d4 hv => ?_
    have L4 : ω4.H L = some (.lst ac) := l4.h L _ (fun z => nomatch z) L3
    have M4 : ω4.M L = none := l4.v L (ne_none L3) M3
    have al : ac.length ≤ i := by rw [k4.len, List.length_map, List.length_take]; omega
    refine ⟨ac, L4, Nat.lt_of_le_of_lt (by omega : ac.length ≤ 100000) (by decide), ω4.mut L (.lst (ac ++ [v])) M4, ac ++ [v], rfl, ((k1.trans l3).trans l4).newset hL M4, M4, upd_same, ?_, d4.newset M4 nA⟩
    rw [et, List.map_append]
    exact ((k4.mono l3.m).mono l4.m).app ⟨hv, trivial⟩
  · have e : i = u.length := by omega
    subst e
    rw [List.take_of_length_le (Nat.le_refl _)] at k4
    refine .inl ⟨j2, ?_⟩
    refine k L (.ref L) ω2 (l1.trans k1).nil (fun a ha => by rw [List.mem_singleton.mp ha]; exact hL0) (k5.cons ⟨ac, k3, k4⟩ (fun a ha => ?_) (List.nodup_cons.mpr ⟨fun z => (nomatch z), List.nodup_nil⟩)) rfl
    rw [List.mem_singleton.mp ha]
    exact ⟨ne_none k3, k2, nA⟩⟩
/-- name = e where the entry is told by a ghost at a call -/
theorem opc_any {r : List V → Hp → VK → Prop} {α : Type} {P : α → Prop} {f : α → En} {es : List En} {e : En} (h : ∀ x, P x → OpC r (f x :: es) e) : OpC r (eAny α P f :: es) e := fun vs ω Q hv k => by
  match vs, hv with
  | v :: vs, ⟨⟨x, px, hx⟩, hvs⟩ => exact h x px (v :: vs) ω Q ⟨hx, hvs⟩ k
end
end Tw

/-! Readings for the law's machine: tuples put together, the least of three, a list of roads against the empty one. -/
namespace Tw
open PySem L2 PyProof.Rows
theorem op_catT4 {K : PySem.W.Frag} {es fs : List En} (he : es ≠ []) (hf : fs ≠ []) (hl : es.length + fs.length ≤ 100000) : Op2 (rCatT K) (eTup es) (eTup fs) (eTup (es ++ fs)) := fun x y ω Q hx hy k => by
  obtain ⟨p, vs, rfl, hp, hv⟩ := hx
  obtain ⟨q, ws, rfl, hq, hw⟩ := hy
  have lv := hv.len
  have lw := hw.len
  refine ⟨p, q, vs, ws, rfl, rfl, SqT.of (ω.sub _ _ hp), SqT.of (ω.sub _ _ hq), fun z => ?_, sz _ (by omega), fun z => ?_, fun _ r hr => k (.ref r) (ω.new r (.tup (vs ++ ws))) (Wo.new_le hr) ⟨r, _, rfl, Wo.new_at, (hv.app hw).mono (Wo.new_le hr).m⟩⟩
  · rw [z] at lv; exact he (List.length_eq_zero_iff.mp lv.symm)
  · rw [z] at lw; exact absurd (List.length_eq_zero_iff.mp lw.symm) hf
theorem nuMin2_int (a b : Int) : nuMin2 (.int a) (.int b) = some (.int (min a b)) := by
  show some (if decide (b < a) = true then V.int b else V.int a) = _
  rcases Int.lt_or_le b a with h | h
  · rw [if_pos (decide_eq_true h), Int.min_eq_right (Int.le_of_lt h)]
  · rw [if_neg (by simpa using h), Int.min_eq_left h]
theorem opc_min3 {a b c : Int} : OpC (rNuC3 nuMin3) [eI a, eI b, eI c] (eI (min (min a b) c)) := fun vs ω Q hv k => by
  match vs, hv with
  | [x, y, z], ⟨h1, h2, h3, _⟩ =>
    cases (show x = V.int a from h1)
    cases (show y = V.int b from h2)
    cases (show z = V.int c from h3)
    refine ⟨_, _, _, .int (min (min a b) c), rfl, ?_, k _ ω (LeX.refl _ _) rfl⟩
    show (nuMin2 (.int a) (.int b)).bind (fun m => nuMin2 m (.int c)) = _
    rw [nuMin2_int]
    exact nuMin2_int _ _
end Tw

/-! numbers.py and the functions of rows.py -/
namespace Tw
open PySem L2 PyProof.Rows
local macro_rules | `(tactic| walk_at "op") => `(tactic| first | exact op_I0 | exact op_U | exact op_eqI | exact op_neI | exact op_eqM | exact op_neM | exact op_t0 | exact op_t1 | exact op_t2 | exact op_t3 | exact op_l0 | exact op_l1 | exact op_l2 | exact op_l3 | exact op_gcd | exact op_abs | exact op_int1 | exact op_intB | exact op_lenL | exact op_listOf | exact op_inM | exact op_notInM | exact op_inMs | exact op_any | exact op_all | exact op_sum | exact op_isNL | exact op_isN' | apply op_lcm | apply op_catM | apply op_cat' | apply op_rep1 | apply op_lenS | apply op_I | apply op_ixL | exact Nat.le_of_ble_eq_true rfl | skip)
local macro_rules | `(tactic| walk_at "em") => `(tactic| first | exact ev_var rfl | exact ev_c | exact ea_nil | exact eo_none | ((with_reducible apply ea_cons) <;> walk_at "em") | ((with_reducible apply ev_tup) <;> walk_at "em") | ((with_reducible apply ev_lst) <;> walk_at "em") | ((with_reducible apply ev_op) <;> walk_at "em") | ((with_reducible apply ev_un) <;> walk_at "em") | ((with_reducible apply ev_cb) <;> walk_at "em") | ((with_reducible apply ev_call) <;> walk_at "em") | ((with_reducible apply eo_some) <;> walk_at "em") | ((with_reducible apply et_test) <;> walk_at "em") | (with_reducible apply et_B <;> walk_at "em") | ((with_reducible apply et_not) <;> walk_at "em") | (with_reducible apply ev_notV <;> walk_at "em") | walk_at "op")

/-- both integers of a number are small -/
def Q4 (q : Rat) : Prop := q.num.natAbs < 2 ^ 4000 ∧ q.den < 2 ^ 4000
theorem low_eq {a b : Int} (hb : b ≠ 0) : ∃ c : Int, c ≠ 0 ∧ c = (if b < 0 then -((Nat.gcd a.natAbs b.natAbs : Nat) : Int) else ((Nat.gcd a.natAbs b.natAbs : Nat) : Int)) ∧ a = (Rat.divInt a b).num * c ∧ b = ((Rat.divInt a b).den : Int) * c := by
  have g0 : 0 < Nat.gcd a.natAbs b.natAbs := Nat.gcd_pos_of_pos_right _ (by omega)
  refine ⟨_, ?_, rfl, ?_, ?_⟩
  · split <;> omega
  · rw [Rat.num_divInt]
    have eg : b.gcd a = Nat.gcd a.natAbs b.natAbs := Nat.gcd_comm _ _
    rw [eg]
    have hd : ((Nat.gcd a.natAbs b.natAbs : Nat) : Int) ∣ b.sign * a := Int.dvd_trans (Int.natAbs_dvd_natAbs.mp (by rw [Int.natAbs_natCast]; exact Nat.gcd_dvd_left _ _)) (Int.dvd_mul_left _ _)
    have e := Int.ediv_mul_cancel hd
    by_cases h : b < 0
    · rw [if_pos h, Int.mul_neg, e, Int.sign_eq_neg_one_of_neg h]
      omega
    · rw [if_neg h, e, Int.sign_eq_one_of_pos (by omega)]
      omega
  · rw [Rat.den_divInt, if_neg hb]
    have eg : b.gcd a = Nat.gcd a.natAbs b.natAbs := Nat.gcd_comm _ _
    rw [eg]
    have e : b.natAbs / Nat.gcd a.natAbs b.natAbs * Nat.gcd a.natAbs b.natAbs = b.natAbs := Nat.div_mul_cancel (Nat.gcd_dvd_right _ _)
    by_cases h : b < 0
    · rw [if_pos h, Int.mul_neg, ← Int.natCast_mul, e]
      omega
    · rw [if_neg h, ← Int.natCast_mul, e]
      omega
theorem div_int (a b : Int) : Rat.divInt a b = (a : Rat) / (b : Rat) := Rat.divInt_eq_div a b
theorem int_ne {b : Int} (h : b ≠ 0) : (b : Rat) ≠ 0 := fun z => h (Rat.intCast_eq_zero_iff.mp z)
theorem add_low (a b : Rat) : Rat.divInt (a.num * (b.den : Int) + b.num * (a.den : Int)) ((a.den : Int) * (b.den : Int)) = a + b := by
  rw [div_int, Rat.intCast_add, Rat.intCast_mul, Rat.intCast_mul, Rat.intCast_mul, Rat.intCast_natCast, Rat.intCast_natCast, ← mul_den a, ← mul_den b]
  have h1 := den_ne a
  have h2 := den_ne b
  grind
theorem add_low1 (a b : Rat) (h : a.den = b.den) : Rat.divInt (a.num + b.num) (a.den : Int) = a + b := by
  rw [div_int, Rat.intCast_add, Rat.intCast_natCast, ← mul_den a, ← mul_den b, ← h]
  have h1 := den_ne a
  grind
theorem mul_low (a b : Rat) : Rat.divInt (a.num * b.num) ((a.den : Int) * (b.den : Int)) = a * b := by
  rw [div_int, Rat.intCast_mul, Rat.intCast_mul, Rat.intCast_natCast, Rat.intCast_natCast, ← mul_den a, ← mul_den b]
  have h1 := den_ne a
  have h2 := den_ne b
  grind
theorem den_pos (q : Rat) : 0 < q.den := Nat.pos_of_ne_zero q.den_nz
theorem den_int (q : Rat) : (q.den : Int) ≠ 0 := by
  have := den_pos q
  omega
section
variable {P : Program} {w : World} {K : PySem.W.Frag} {mg : Str → Option Value} {base : Heap}

/-! ### lowest -/
abbrev s_lowest : Stmt := topS 9
abbrev n_lowest : List Str := ["above", "below", "common"]
abbrev p_lowest : List Str := ["above", "below"]
theorem sc_lowest : FnScope n_lowest p_lowest (defScope s_lowest) := ⟨rfl, rfl, rfl, by decide +kernel, rfl, by decide +kernel, by decide +kernel⟩
def spLowest : Sp := spFn (β := Int × Int) (fun b => [eI b.1, eI b.2]) (fun b => b.2 ≠ 0 ∧ Q4 (Rat.divInt b.1 b.2)) (fun b => eQ (Rat.divInt b.1 b.2))
theorem ok_lowest {a b : Int} {q : Rat} (e : Rat.divInt a b = q) (h : b ≠ 0) (h4 : Q4 q) : SpOk spLowest [eI a, eI b] (eQ q) := by
  subst e
  exact spFn_ok (β := Int × Int) (a, b) ⟨h, h4⟩
abbrev Lowest (P : Program) (w : World) (K : PySem.W.Frag) (mg : Str → Option Value) (base : Heap) : Prop := Cal P w K mg base "lowest" ["above", "below"] 1 spLowest
theorem cal_lowest (T : Txt K mg) (D : DefAt K mg "lowest" s_lowest) : Lowest P w K mg base := by
  refine cal_of D sc_lowest (fun _ _ _ _ _ _ us hl => match us, hl with | [_, _], _ => rfl) (len_fn fun _ => rfl) fun f cdv A outer s H E hr => ⟨_, (pss_cons (ps_set (i := 2) sc_lowest.nd rfl (Or.inl rfl) (pe_callBfun cr_gcd rfl T.mg_gcd (pa_cons (pv 0) (pa_cons (pv 1) pa_nil))))
 (Evl.pss_cut (ps_if (pt_cmpR op_lt (pv 1) pe_int (nomark _)) (pss_one (ps_set (i := 2) sc_lowest.nd rfl (Or.inl rfl) (pe_un un_neg (pv 2)))) pss_nil)
 (pss_one (ps_ret (pe_tup (pa_cons (pe_op op_fdivX (pv 0) (pv 2)) (pa_cons (pe_op op_fdivX (pv 1) (pv 2)) pa_nil))))))), body_fn fun ⟨a, b⟩ ⟨hb, hq⟩ ω Q hQ => ?_⟩
  have hb : b ≠ 0 := hb
  have hq : Q4 (Rat.divInt a b) := hq
  obtain ⟨c, c0, ec, ea, eb⟩ := low_eq (a := a) hb
  refine q_asg (C := []) (by walk_at "em") ?_
  refine tr_cut (As (bs0 ω) [some (eI a), some (eI b), some (eI c)] []) ?_ ?_
  · refine s_if (C := []) (by walk_at "em") (fun h => ?_) (fun h => ?_)
    · refine s_asg (C := []) (by walk_at "em") ?_
      rw [ec, if_pos (of_decide_eq_true h)]
      exact fun _ _ h => h
    · refine s_next ?_
      rw [ec, if_neg (of_decide_eq_false h)]
      exact fun _ _ h => h
  · have d1 : DivX a c := divx_quot c0 ea hq.1
    have d2 : DivX b c := divx_quot c0 eb (by rw [Int.natAbs_natCast]; exact hq.2)
    refine s_ret (C := []) (by walk_at "em" <;> assumption) fun v ω' l _ hv => hQ v ω' l ?_
    have e1 : a.fdiv c = (Rat.divInt a b).num := by
      conv => lhs; rw [ea]
      exact Int.mul_fdiv_cancel _ c0
    have e2 : b.fdiv c = ((Rat.divInt a b).den : Int) := by
      conv => lhs; rw [eb]
      exact Int.mul_fdiv_cancel _ c0
    rw [e1, e2] at hv
    exact hv

/-! ### is_number, checked -/
abbrev s_is_number : Stmt := topS 10
abbrev n_is_number : List Str := ["value", "above", "below"]
abbrev p_is_number : List Str := ["value"]
theorem sc_is_number : FnScope n_is_number p_is_number (defScope s_is_number) := ⟨rfl, rfl, rfl, by decide +kernel, rfl, by decide +kernel, by decide +kernel⟩
def spIsNumber : Sp := spFn (β := Rat) (fun q => [eQ q]) (fun _ => True) (fun _ => eB true)
theorem ok_is_number {q : Rat} : SpOk spIsNumber [eQ q] (eB true) := spFn_ok (β := Rat) q trivial
theorem cal_is_number (T : Txt K mg) (D : DefAt K mg "is_number" s_is_number) : Cal P w K mg base "is_number" ["value"] 1 spIsNumber := by
  refine cal_of D sc_is_number (fun _ _ _ _ _ _ us hl => match us, hl with | [_], _ => rfl) (len_fn fun _ => rfl) fun f cdv A outer s H E hr => ⟨_, (pss_cons (ps_asg (pv 0) (pg_tup rfl (pgs_cons (pg_name (i := 1) sc_is_number.nd rfl (Or.inl rfl)) (pgs_cons (pg_name (i := 2) sc_is_number.nd rfl (Or.inl rfl)) pgs_nil))))
 (pss_one (ps_ret (pe_and (pe_cmpR op_ge (pv 2) pe_int (nomark _)) (pe_one (pe_cmpR op_eq (pe_callBfun cr_gcd rfl T.mg_gcd (pa_cons (pv 1) (pa_cons (pv 2) pa_nil))) pe_int (nomark _))))))), body_fn fun q _ ω Q hQ => ?_⟩
  refine q_asgT (C := []) (ev_var (e := eQ q) rfl) (tg_tup rfl (tgs_cons tg_name (tgs_cons tg_name tgs_nil))) ?_
  refine s_ret (C := []) (ev_andV (by walk_at "em") (fun _ => by walk_at "em")) fun v ω' l _ hv => hQ v ω' l ?_
  have e1 : decide ((1 : Int) ≤ (q.den : Int)) = true := decide_eq_true (by have := den_pos q; omega)
  have e2 : Nat.gcd q.num.natAbs ((q.den : Int)).natAbs = 1 := q.reduced
  rw [e1, e2] at hv
  exact hv
abbrev s_checked : Stmt := topS 11
abbrev n_checked : List Str := ["value"]
abbrev p_checked : List Str := ["value"]
theorem sc_checked : FnScope n_checked p_checked (defScope s_checked) := ⟨rfl, rfl, rfl, by decide +kernel, rfl, by decide +kernel, by decide +kernel⟩
def spChecked : Sp := spFn (β := Rat) (fun q => [eQ q]) (fun _ => True) (fun q => eQ q)
theorem ok_checked {q : Rat} : SpOk spChecked [eQ q] (eQ q) := spFn_ok (β := Rat) q trivial
abbrev Checked (P : Program) (w : World) (K : PySem.W.Frag) (mg : Str → Option Value) (base : Heap) : Prop := Cal P w K mg base "checked" ["value"] 2 spChecked
theorem cal_checked (T : Txt K mg) (D : DefAt K mg "checked" s_checked) (c_is_number : Cal P w K mg base "is_number" ["value"] 1 spIsNumber) : Checked P w K mg base := by
  refine cal_of D sc_checked (fun _ _ _ _ _ _ us hl => match us, hl with | [_], _ => rfl) (len_fn fun _ => rfl) fun f cdv A outer s H E hr => ⟨_, (Evl.pss_cut (ps_if (pt_not (pt_val (pe_cal c_is_number hr rfl (pa_cons (pv 0) pa_nil)))) (pss_one ps_never) pss_nil)
 (pss_one (ps_ret (pv 0)))), body_fn fun q _ ω Q hQ => ?_⟩
  refine tr_cut (As (bs0 ω) [some (eQ q)] []) ?_ ?_
  · refine s_if (C := []) (et_not (et_B (ev_call (by walk_at "em") ok_is_number))) (fun h => (nomatch h)) (fun _ => s_next fun _ _ h => h)
  · exact s_ret (C := []) (ev_var rfl) fun v ω' l _ hv => hQ v ω' l hv

/-! ### sum_of, product_of -/
abbrev s_sum_of : Stmt := topS 12
abbrev n_sum_of : List Str := ["one", "other"]
abbrev p_sum_of : List Str := ["one", "other"]
theorem sc_sum_of : FnScope n_sum_of p_sum_of (defScope s_sum_of) := ⟨rfl, rfl, rfl, by decide +kernel, rfl, by decide +kernel, by decide +kernel⟩
def spSumOf : Sp := spFn (β := Rat × Rat) (fun b => [eQ b.1, eQ b.2]) (fun b => Q4 b.1 ∧ Q4 b.2 ∧ Q4 (b.1 + b.2)) (fun b => eQ (b.1 + b.2))
theorem ok_sum_of {a b : Rat} (h1 : Q4 a) (h2 : Q4 b) (h3 : Q4 (a + b)) : SpOk spSumOf [eQ a, eQ b] (eQ (a + b)) := spFn_ok (β := Rat × Rat) (a, b) ⟨h1, h2, h3⟩
abbrev SumOf (P : Program) (w : World) (K : PySem.W.Frag) (mg : Str → Option Value) (base : Heap) : Prop := Cal P w K mg base "sum_of" ["one", "other"] 2 spSumOf
theorem natm {n : Nat} {k : Nat} (h : n < 2 ^ k) : ((n : Int)).natAbs < 2 ^ k := by rw [Int.natAbs_natCast]; exact h
theorem cal_sum_of (T : Txt K mg) (D : DefAt K mg "sum_of" s_sum_of) (c_lowest : Lowest P w K mg base) : SumOf P w K mg base := by
  refine cal_of D sc_sum_of (fun _ _ _ _ _ _ us hl => match us, hl with | [_, _], _ => rfl) (len_fn fun _ => rfl) fun f cdv A outer s H E hr => ⟨_, (Evl.pss_cut (ps_if (pt_cmpR op_eq (pe_ix ix_tup (pv 0) pe_int (fun _ _ => rfl)) (pe_ix ix_tup (pv 1) pe_int (fun _ _ => rfl)) (nomark _)) (pss_one (ps_ret (pe_cal c_lowest hr rfl (pa_cons (pe_op op_add (pe_ix ix_tup (pv 0) pe_int (fun _ _ => rfl)) (pe_ix ix_tup (pv 1) pe_int (fun _ _ => rfl))) (pa_cons (pe_ix ix_tup (pv 0) pe_int (fun _ _ => rfl)) pa_nil))))) pss_nil)
 (pss_one (ps_ret (pe_cal c_lowest hr rfl (pa_cons (pe_op op_add (pe_op op_mulX (pe_ix ix_tup (pv 0) pe_int (fun _ _ => rfl)) (pe_ix ix_tup (pv 1) pe_int (fun _ _ => rfl))) (pe_op op_mulX (pe_ix ix_tup (pv 1) pe_int (fun _ _ => rfl)) (pe_ix ix_tup (pv 0) pe_int (fun _ _ => rfl)))) (pa_cons (pe_op op_mulX (pe_ix ix_tup (pv 0) pe_int (fun _ _ => rfl)) (pe_ix ix_tup (pv 1) pe_int (fun _ _ => rfl))) pa_nil)))))), body_fn fun ⟨a, b⟩ ⟨ha, hb, hab⟩ ω Q hQ => ?_⟩
  have ha : Q4 a := ha
  have hb : Q4 b := hb
  have hab : Q4 (a + b) := hab
  refine tr_cut (As (bs0 ω) [some (eQ a), some (eQ b)] []) ?_ ?_
  · refine s_if (C := []) (by walk_at "em") (fun h => ?_) (fun _ => s_next fun _ _ h => h)
    have h : (a.den : Int) = (b.den : Int) := of_decide_eq_true h
    exact s_ret (C := []) (ev_call (by walk_at "em") (ok_lowest (add_low1 a b (by omega)) (den_int a) hab)) fun v ω' l _ hv => hQ v ω' l hv
  · exact s_ret (C := []) (ev_call (by walk_at "em" <;> first | exact mulx ha.1 (natm hb.2) (by decide) | exact mulx hb.1 (natm ha.2) (by decide) | exact mulx (natm ha.2) (natm hb.2) (by decide)) (ok_lowest (add_low a b) (Int.mul_ne_zero (den_int a) (den_int b)) hab)) fun v ω' l _ hv => hQ v ω' l hv
end
end Tw

/-! the functions of rows.py -/
namespace Tw
open PySem L2 PyProof.Rows
local macro_rules | `(tactic| walk_at "op") => `(tactic| first | exact op_I0 | exact op_U | exact op_eqI | exact op_neI | exact op_eqM | exact op_neM | exact op_t0 | exact op_t1 | exact op_t2 | exact op_t3 | exact op_l0 | exact op_l1 | exact op_l2 | exact op_l3 | exact op_gcd | exact op_abs | exact op_int1 | exact op_intB | exact op_lenL | exact op_listOf | exact op_inM | exact op_notInM | exact op_inMs | exact op_any | exact op_all | exact op_sum | exact op_isNL | exact op_isN' | apply op_lcm | apply op_catM | apply op_cat' | apply op_rep1 | apply op_lenS | apply op_I | apply op_ixL | exact Nat.le_of_ble_eq_true rfl | skip)
local macro_rules | `(tactic| walk_at "em") => `(tactic| first | exact ev_var rfl | exact ev_c | exact ea_nil | exact eo_none | ((with_reducible apply ea_cons) <;> walk_at "em") | ((with_reducible apply ev_tup) <;> walk_at "em") | ((with_reducible apply ev_lst) <;> walk_at "em") | ((with_reducible apply ev_op) <;> walk_at "em") | ((with_reducible apply ev_un) <;> walk_at "em") | ((with_reducible apply ev_cb) <;> walk_at "em") | ((with_reducible apply ev_call) <;> walk_at "em") | ((with_reducible apply eo_some) <;> walk_at "em") | ((with_reducible apply et_test) <;> walk_at "em") | (with_reducible apply et_B <;> walk_at "em") | ((with_reducible apply et_not) <;> walk_at "em") | (with_reducible apply ev_notV <;> walk_at "em") | walk_at "op")

theorem itm_map {α : Type} {xs : List α} {φ : α → En} {i : Nat} (d : α) (h : i < xs.length) : itm (xs.map φ) i = φ (xs.getD i d) := itm_at (by rw [List.getElem?_map, List.getElem?_eq_getElem h, getD_of_lt d h]; rfl)
theorem take_getD {α : Type} {xs : List α} {i : Nat} (d : α) (h : i < xs.length) : xs.take (i + 1) = xs.take i ++ [xs.getD i d] := by
  rw [List.take_succ_eq_append_getElem h, getD_of_lt d h]
theorem getD_mem {α : Type} {xs : List α} {i : Nat} (d : α) (h : i < xs.length) : xs.getD i d ∈ xs := by
  rw [getD_of_lt d h]
  exact List.getElem_mem h
/-- the least common multiple of what is below -/
def lcmR (row : List Rat) : Nat := row.foldl (fun l q => Nat.lcm l q.den) 1
def intsR (row : List Rat) : List Int := row.map fun q => q.num * ((lcmR row : Nat) : Int).fdiv (q.den : Int)
theorem lcmR_snoc (row : List Rat) (q : Rat) : lcmR (row ++ [q]) = Nat.lcm (lcmR row) q.den := by
  unfold lcmR
  rw [List.foldl_append]
  rfl
theorem lcm_fold_dvd {X : Nat} : ∀ {row : List Rat} {l : Nat}, l ∣ X → (∀ q ∈ row, q.den ∣ X) → row.foldl (fun l q => Nat.lcm l q.den) l ∣ X
  | [], _, h, _ => h
  | q :: row, l, h, k => lcm_fold_dvd (row := row) (Nat.lcm_dvd h (k q List.mem_cons_self)) fun r hr => k r (List.mem_cons_of_mem _ hr)
theorem lcmR_dvd {X : Nat} {row : List Rat} (k : ∀ q ∈ row, q.den ∣ X) : lcmR row ∣ X := lcm_fold_dvd (Nat.one_dvd _) k
theorem fold_of {row : List Rat} : ∀ {l : Nat}, l ∣ row.foldl (fun l q => Nat.lcm l q.den) l ∧ ∀ q ∈ row, q.den ∣ row.foldl (fun l q => Nat.lcm l q.den) l := by
  induction row with
  | nil => exact fun {l} => ⟨Nat.dvd_refl _, fun _ h => nomatch h⟩
  | cons r row ih =>
    intro l
    obtain ⟨h1, h2⟩ := ih (l := Nat.lcm l r.den)
    refine ⟨Nat.dvd_trans (Nat.dvd_lcm_left _ _) h1, fun q hq => ?_⟩
    rcases List.mem_cons.mp hq with e | e
    · rw [e]
      exact Nat.dvd_trans (Nat.dvd_lcm_right _ _) h1
    · exact h2 q e
theorem den_lcmR {row : List Rat} {q : Rat} (h : q ∈ row) : q.den ∣ lcmR row := fold_of.2 q h
theorem lcmR_pos (row : List Rat) : 0 < lcmR row := by
  have key : ∀ (row : List Rat) (l : Nat), 0 < l → 0 < row.foldl (fun l q => Nat.lcm l q.den) l := by
    intro row
    induction row with
    | nil => exact fun l h => h
    | cons q row ih => exact fun l h => ih _ (Nat.lcm_pos h (den_pos q))
  exact key row 1 (by decide)
structure RowOk (row : List Rat) : Prop where
  len : row.length ≤ 100000
  q4 : ∀ q ∈ row, Q4 q
  x : ∃ X, 0 < X ∧ X < 2 ^ 9000 ∧ ∀ q ∈ row, q.den ∣ X
theorem RowOk.lt {row : List Rat} (R : RowOk row) (i : Nat) : lcmR (row.take i) < 2 ^ 9000 := by
  obtain ⟨X, h0, h1, h2⟩ := R.x
  exact Nat.lt_of_le_of_lt (Nat.le_of_dvd h0 (lcmR_dvd fun q hq => h2 q (List.mem_of_mem_take hq))) h1
theorem RowOk.lt' {row : List Rat} (R : RowOk row) : lcmR row < 2 ^ 9000 := by
  have := R.lt row.length
  rwa [List.take_of_length_le (Nat.le_refl _)] at this
theorem pw_mono {a k l : Nat} (h : a < 2 ^ k) (hk : k ≤ l) : a < 2 ^ l := Nat.lt_of_lt_of_le h (Nat.pow_le_pow_right (by decide) hk)
theorem fd_num {a : Nat} {q : Rat} (h : q.den ∣ a) : (((a : Int).fdiv (q.den : Int) : Int) : Rat) * (q.den : Rat) = (a : Rat) := by
  obtain ⟨c, rfl⟩ := h
  rw [Int.natCast_mul, Int.mul_comm, Int.mul_fdiv_cancel _ (den_int q), Rat.natCast_mul, Rat.intCast_natCast]
  grind
/-- an integer of the row -/
theorem intsR_at {row : List Rat} {j : Nat} : (((intsR row).getD j 0 : Int) : Rat) = ((lcmR row : Nat) : Rat) * row.getD j 0 := by
  by_cases h : j < row.length
  · unfold intsR
    rw [getD_of_lt 0 (by rw [List.length_map]; exact h), List.getElem_map, getD_of_lt 0 h, Rat.intCast_mul, ← mul_den, ← fd_num (den_lcmR (List.getElem_mem h))]
    grind
  · rw [getD_of_le 0 (by unfold intsR; rw [List.length_map]; omega), getD_of_le 0 (by omega)]
    show ((0 : Int) : Rat) = _
    grind
theorem intsR_len (row : List Rat) : (intsR row).length = row.length := List.length_map ..
section
variable {P : Program} {w : World} {K : PySem.W.Frag} {mg : Str → Option Value} {base : Heap}

abbrev s_product_of : Stmt := topS 13
abbrev n_product_of : List Str := ["one", "other"]
abbrev p_product_of : List Str := ["one", "other"]
theorem sc_product_of : FnScope n_product_of p_product_of (defScope s_product_of) := ⟨rfl, rfl, rfl, by decide +kernel, rfl, by decide +kernel, by decide +kernel⟩
def spProductOf : Sp := spFn (β := Rat × Rat) (fun b => [eQ b.1, eQ b.2]) (fun b => Q4 b.1 ∧ Q4 b.2 ∧ Q4 (b.1 * b.2)) (fun b => eQ (b.1 * b.2))
theorem ok_product_of {a b : Rat} (h1 : Q4 a) (h2 : Q4 b) (h3 : Q4 (a * b)) : SpOk spProductOf [eQ a, eQ b] (eQ (a * b)) := spFn_ok (β := Rat × Rat) (a, b) ⟨h1, h2, h3⟩
abbrev ProductOf (P : Program) (w : World) (K : PySem.W.Frag) (mg : Str → Option Value) (base : Heap) : Prop := Cal P w K mg base "product_of" p_product_of 2 spProductOf
theorem cal_product_of (T : Txt K mg) (D : DefAt K mg "product_of" s_product_of) (c_lowest : Lowest P w K mg base) : ProductOf P w K mg base := by
  refine cal_of D sc_product_of (fun _ _ _ _ _ _ us hl => match us, hl with | [_, _], _ => rfl) (len_fn fun _ => rfl) fun f cdv A outer s H E hr => ⟨_, (pss_one (ps_ret (pe_cal c_lowest hr rfl (pa_cons (pe_op op_mulX (pe_ix ix_tup (pv 0) pe_int (fun _ _ => rfl)) (pe_ix ix_tup (pv 1) pe_int (fun _ _ => rfl))) (pa_cons (pe_op op_mulX (pe_ix ix_tup (pv 0) pe_int (fun _ _ => rfl)) (pe_ix ix_tup (pv 1) pe_int (fun _ _ => rfl))) pa_nil))))), body_fn fun ⟨a, b⟩ ⟨ha, hb, hab⟩ ω Q hQ => ?_⟩
  have ha : Q4 a := ha
  have hb : Q4 b := hb
  have hab : Q4 (a * b) := hab
  exact s_ret (C := []) (ev_call (by walk_at "em" <;> first | exact mulx ha.1 hb.1 (by decide) | exact mulx (natm ha.2) (natm hb.2) (by decide)) (ok_lowest (mul_low a b) (Int.mul_ne_zero (den_int a) (den_int b)) hab)) fun v ω' l _ hv => hQ v ω' l hv

abbrev s_integers_of : Stmt := topS 15
abbrev n_integers_of : List Str := ["row", "below", "number"]
abbrev p_integers_of : List Str := ["row"]
theorem sc_integers_of : FnScope n_integers_of p_integers_of (defScope s_integers_of) := ⟨rfl, rfl, rfl, by decide +kernel, rfl, by decide +kernel, by decide +kernel⟩
def spIntegersOf : Sp := spFn (β := List Rat) (fun row => [eQs row]) (fun row => RowOk row) (fun row => eTup [eIs (intsR row), eI (lcmR row : Int)])
theorem ok_integers_of {row : List Rat} (h : RowOk row) : SpOk spIntegersOf [eQs row] (eTup [eIs (intsR row), eI (lcmR row : Int)]) := spFn_ok (β := List Rat) row h
abbrev IntegersOf (P : Program) (w : World) (K : PySem.W.Frag) (mg : Str → Option Value) (base : Heap) : Prop := Cal P w K mg base "integers_of" p_integers_of 1 spIntegersOf
theorem cal_integers_of (T : Txt K mg) (D : DefAt K mg "integers_of" s_integers_of) : IntegersOf P w K mg base := by
  refine cal_of D sc_integers_of (fun _ _ _ _ _ _ us hl => match us, hl with | [_], _ => rfl) (len_fn fun _ => rfl) fun f cdv A outer s H E hr => ⟨_, (pss_cons (ps_set (i := 1) sc_integers_of.nd rfl (Or.inr rfl) pe_int)
 (pss_cons (ps_for PassesOwn.never rfl (pi_list (pv 0)) (pg_name (i := 2) sc_integers_of.nd rfl (Or.inl rfl))
 (pss_one (ps_set (i := 1) sc_integers_of.nd rfl (Or.inr rfl) (pe_callBfun cr_lcm rfl T.mg_lcm (pa_cons (pv 1) (pa_cons (pe_ix ix_tup (pv 2) pe_int (fun _ _ => rfl)) pa_nil))))))
 (pss_one (ps_ret (pe_tup (pa_cons (pe_lc (own := [("number", 2)]) rfl sc_integers_of.nd (pi_list (pv 0)) (blkOk_by (N := n_integers_of) (sc := defScope s_integers_of) (by decide +kernel)) (fun _ _ _ _ _ => (pg_name (i := 2) sc_integers_of.nd rfl (Or.inl rfl))) (fun _ _ _ _ _ => pts_nil) (fun _ _ _ _ _ => (pe_op op_mulX (pe_ix (ixT K rfl) (pv 2) pe_int (fun _ _ => rfl)) (pe_op op_fdivX (pv 1) (pe_ix (ixT K rfl) (pv 2) pe_int (fun _ _ => rfl)))))) (pa_cons (pv 1) pa_nil))))))), body_fn fun row R ω Q hQ => ?_⟩
  have R : RowOk row := R
  refine q_asg (C := []) ev_c ?_
  refine q_for (C := []) (β := Unit) (fun _ _ => True) (fun i _ => [some (eQs row), some (eI (lcmR (row.take i) : Int)), none]) (fun i _ => [some (eQs row), some (eI (lcmR (row.take i) : Int)), some (itm (row.map eQ) i)]) (fun _ _ => []) (it_list (ev_var rfl)) ?_ (fun _ _ _ _ => tg_name) (fun m i _ hi _ => ?_) (fun _ _ => ?_)
  · exact ⟨(), trivial, ⟨rfl, rfl, trivial⟩, rfl⟩
  · rw [List.length_map] at hi
    rw [itm_map 0 hi]
    have hq := R.q4 _ (getD_mem 0 hi)
    refine s_asg (C := []) (e := eI (lcmR (row.take (i + 1)) : Int)) ?_ (lp_mk () trivial rfl ?_)
    · rw [take_getD 0 hi, lcmR_snoc]
      walk_at "em"
      · exact natm (pw_mono (R.lt i) (by decide))
      · exact natm (pw_mono hq.2 (by decide))
    · exact ⟨rfl, rfl, trivial⟩
  · rw [List.length_map, List.take_of_length_le (Nat.le_refl _)]
    refine s_ret (C := []) (ev_tup (ea_cons (ev_is (ev_lcL (xs := row) (φ := eQ) (ψ := fun q => eI (q.num * ((lcmR row : Nat) : Int).fdiv (q.den : Int))) (ev_var rfl) R.len fun q hq => by
      walk_at "em"
      · exact divx_small (den_int q) (natm (pw_mono (R.q4 q hq).2 (by decide)))
      · refine mulx (a := 4000) (b := 9000) (R.q4 q hq).1 ?_ (by decide)
        have h1 := R.lt'
        have h2 := den_lcmR hq
        rw [Int.fdiv_eq_ediv_of_nonneg _ (by omega), ← Int.natCast_ediv, Int.natAbs_natCast]
        exact Nat.lt_of_le_of_lt (Nat.div_le_self _ _) h1) (by unfold eIs intsR; rw [List.map_map]; rfl)) (ea_cons (ev_var rfl) ea_nil)) (Nat.le_of_ble_eq_true rfl)) fun v ω' l _ hv => hQ v ω' l hv

abbrev s_numbers_of : Stmt := topS 16
abbrev n_numbers_of : List Str := ["integers", "below", "integer"]
abbrev p_numbers_of : List Str := ["integers", "below"]
theorem sc_numbers_of : FnScope n_numbers_of p_numbers_of (defScope s_numbers_of) := ⟨rfl, rfl, rfl, by decide +kernel, rfl, by decide +kernel, by decide +kernel⟩
def spNumbersOf : Sp := spFn (β := List Int × Int) (fun b => [eIs b.1, eI b.2]) (fun b => b.1.length ≤ 100000 ∧ b.2 ≠ 0 ∧ ∀ i ∈ b.1, Q4 (Rat.divInt i b.2)) (fun b => eQs (b.1.map fun i => Rat.divInt i b.2))
theorem ok_numbers_of {is : List Int} {b : Int} {r : List Rat} (e : is.map (fun i => Rat.divInt i b) = r) (h1 : is.length ≤ 100000) (h2 : b ≠ 0) (h3 : ∀ q ∈ r, Q4 q) : SpOk spNumbersOf [eIs is, eI b] (eQs r) := by
  subst e
  exact spFn_ok (β := List Int × Int) (is, b) ⟨h1, h2, fun i hi => h3 _ (List.mem_map_of_mem hi)⟩
abbrev NumbersOf (P : Program) (w : World) (K : PySem.W.Frag) (mg : Str → Option Value) (base : Heap) : Prop := Cal P w K mg base "numbers_of" p_numbers_of 2 spNumbersOf
theorem cal_numbers_of (T : Txt K mg) (D : DefAt K mg "numbers_of" s_numbers_of) (c_lowest : Lowest P w K mg base) : NumbersOf P w K mg base := by
  refine cal_of D sc_numbers_of (fun _ _ _ _ _ _ us hl => match us, hl with | [_, _], _ => rfl) (len_fn fun _ => rfl) fun f cdv A outer s H E hr => ⟨_, (pss_one (ps_ret (pe_lc (own := [("integer", 2)]) rfl sc_numbers_of.nd (pi_list (pv 0)) (blkOk_by (N := n_numbers_of) (sc := defScope s_numbers_of) (by decide +kernel)) (fun _ _ _ _ _ => (pg_name (i := 2) sc_numbers_of.nd rfl (Or.inl rfl))) (fun _ _ _ _ _ => pts_nil) (fun _ _ _ _ _ => (pe_cal c_lowest hr rfl (pa_cons (pv 2) (pa_cons (pv 1) pa_nil))))))), body_fn fun ⟨is, b⟩ ⟨hl, hb, hq⟩ ω Q hQ => ?_⟩
  refine s_ret (C := []) (ev_is (ev_lcL (xs := is) (φ := fun i => eI i) (ψ := fun i => eQ (Rat.divInt i b)) (ev_var rfl) hl fun i hi => ev_call (by walk_at "em") (ok_lowest rfl hb (hq i hi))) (by unfold eQs; rw [List.map_map]; rfl)) fun v ω' l _ hv => hQ v ω' l hv

abbrev s_dot : Stmt := topS 17
abbrev n_dot : List Str := ["one", "other", "found", "left", "right"]
abbrev p_dot : List Str := ["one", "other"]
theorem sc_dot : FnScope n_dot p_dot (defScope s_dot) := ⟨rfl, rfl, rfl, by decide +kernel, rfl, by decide +kernel, by decide +kernel⟩
def dotR (xs ys : List Rat) (n : Nat) : Rat := sm (fun i => xs.getD i 0 * ys.getD i 0) n
structure DotOk (xs ys : List Rat) : Prop where
  len : xs.length ≤ 100000
  eq : xs.length = ys.length
  x : ∀ i, Q4 (xs.getD i 0)
  y : ∀ i, Q4 (ys.getD i 0)
  p : ∀ i, Q4 (xs.getD i 0 * ys.getD i 0)
  s : ∀ i, i ≤ xs.length → Q4 (dotR xs ys i)
def spDot : Sp := spFn (β := List Rat × List Rat) (fun b => [eQs b.1, eQs b.2]) (fun b => DotOk b.1 b.2) (fun b => eQ (dotR b.1 b.2 b.1.length))
theorem ok_dot {xs ys : List Rat} {q : Rat} (h : DotOk xs ys) (e : dotR xs ys xs.length = q) : SpOk spDot [eQs xs, eQs ys] (eQ q) := by
  subst e
  exact spFn_ok (β := List Rat × List Rat) (xs, ys) h
abbrev Dot (P : Program) (w : World) (K : PySem.W.Frag) (mg : Str → Option Value) (base : Heap) : Prop := Cal P w K mg base "dot" p_dot 3 spDot
theorem num0 {q : Rat} : q.num = 0 → q = 0 := fun h => Rat.num_eq_zero.mp h
theorem cal_dot (T : Txt K mg) (D : DefAt K mg "dot" s_dot) (c_sum_of : SumOf P w K mg base) (c_product_of : ProductOf P w K mg base) : Dot P w K mg base := by
  refine cal_of D sc_dot (fun _ _ _ _ _ _ us hl => match us, hl with | [_, _], _ => rfl) (len_fn fun _ => rfl) fun f cdv A outer s H E hr => ⟨_, (pss_cons (ps_set (i := 2) sc_dot.nd rfl (Or.inl rfl) (pe_tup (pa_cons pe_int (pa_cons pe_int pa_nil))))
 (pss_cons (ps_for PassesOwn.never rfl (pi_zip (by rfl) T.zip (pa_cons (pv 0) (pa_cons (pv 1) pa_nil))) (pg_tup rfl (pgs_cons (pg_name (i := 3) sc_dot.nd rfl (Or.inl rfl)) (pgs_cons (pg_name (i := 4) sc_dot.nd rfl (Or.inl rfl)) pgs_nil)))
 (pss_one (ps_if (PW.pt (pw_and (pt_cmpR op_ne (pe_ix ix_tup (pv 3) pe_int (fun _ _ => rfl)) pe_int (nomark _)) (pw_and1 (pt_cmpR op_ne (pe_ix ix_tup (pv 4) pe_int (fun _ _ => rfl)) pe_int (nomark _))))) (pss_one (ps_set (i := 2) sc_dot.nd rfl (Or.inl rfl) (pe_cal c_sum_of hr rfl (pa_cons (pv 2) (pa_cons (pe_cal c_product_of hr rfl (pa_cons (pv 3) (pa_cons (pv 4) pa_nil))) pa_nil))))) pss_nil)))
 (pss_one (ps_ret (pv 2))))), body_fn fun ⟨xs, ys⟩ hd ω Q hQ => ?_⟩
  have hd : DotOk xs ys := hd
  refine q_asg (C := []) (e := eQ 0) (by show Ev _ _ _ _ (eTup [eI 0, eI 1]) _; walk_at "em") ?_
  refine q_for (C := []) (β := Unit) (fun _ _ => True) (fun i _ => [some (eQs xs), some (eQs ys), some (eQ (dotR xs ys i)), none, none]) (fun i _ => [some (eQs xs), some (eQs ys), some (eQ (dotR xs ys i)), some (itm (xs.map eQ) i), some (itm (ys.map eQ) i)]) (fun _ _ => []) (it_zip (by walk_at "em") (n := xs.length) (by rw [List.length_map, List.length_map, ← hd.eq, Nat.min_self]))
    ?_ (fun _ _ _ _ => tg_tup rfl (tgs_cons tg_name (tgs_cons tg_name tgs_nil))) (fun m i _ hi _ => ?_) (fun _ _ => ?_)
  · exact ⟨(), trivial, ⟨rfl, rfl, rfl, trivial⟩, rfl⟩
  · rw [itm_map 0 hi, itm_map 0 (by rw [← hd.eq]; exact hi)]
    refine s_if (C := []) (et_and (by walk_at "em") fun _ => by walk_at "em") (fun _ => ?_) (fun h => s_next (lp_mk () trivial rfl ?_))
    · refine s_asg (C := []) (ev_call (ea_cons (ev_var rfl) (ea_cons (ev_call (by walk_at "em") (ok_product_of (hd.x i) (hd.y i) (hd.p i))) ea_nil)) (ok_sum_of (hd.s i (Nat.le_of_lt hi)) (hd.p i) (hd.s (i + 1) hi))) (lp_mk () trivial rfl ?_)
      exact ⟨rfl, rfl, rfl, trivial⟩
    · have z : xs.getD i 0 * ys.getD i 0 = 0 := by
        rcases Bool.and_eq_false_iff.mp h with h | h
        · have : (xs.getD i 0).num = 0 := by simpa using h
          rw [num0 this, Rat.zero_mul]
        · have : (ys.getD i 0).num = 0 := by simpa using h
          rw [num0 this, Rat.mul_zero]
      have e : dotR xs ys (i + 1) = dotR xs ys i := by
        show dotR xs ys i + xs.getD i 0 * ys.getD i 0 = _
        rw [z, Rat.add_zero]
      exact ⟨rfl, rfl, congrArg (fun q => some (eQ q)) e.symm, trivial⟩
  · exact s_ret (C := []) (ev_var rfl) fun v ω' l _ hv => hQ v ω' l hv
end
end Tw

/-! divided; the basis -/
namespace Tw
open PySem L2 PyProof.Rows
local macro_rules | `(tactic| walk_at "op") => `(tactic| first | exact op_I0 | exact op_U | exact op_eqI | exact op_neI | exact op_eqM | exact op_neM | exact op_t0 | exact op_t1 | exact op_t2 | exact op_t3 | exact op_l0 | exact op_l1 | exact op_l2 | exact op_l3 | exact op_gcd | exact op_abs | exact op_int1 | exact op_intB | exact op_lenL | exact op_listOf | exact op_inM | exact op_notInM | exact op_inMs | exact op_any | exact op_all | exact op_sum | exact op_isNL | exact op_isN' | apply op_lcm | apply op_catM | apply op_cat' | apply op_rep1 | apply op_lenS | apply op_I | apply op_ixL | exact Nat.le_of_ble_eq_true rfl | skip)
local macro_rules | `(tactic| walk_at "em") => `(tactic| first | exact ev_var rfl | exact ev_c | exact ea_nil | exact eo_none | ((with_reducible apply ea_cons) <;> walk_at "em") | ((with_reducible apply ev_tup) <;> walk_at "em") | ((with_reducible apply ev_lst) <;> walk_at "em") | ((with_reducible apply ev_op) <;> walk_at "em") | ((with_reducible apply ev_un) <;> walk_at "em") | ((with_reducible apply ev_cb) <;> walk_at "em") | ((with_reducible apply ev_call) <;> walk_at "em") | ((with_reducible apply eo_some) <;> walk_at "em") | ((with_reducible apply et_test) <;> walk_at "em") | (with_reducible apply et_B <;> walk_at "em") | ((with_reducible apply et_not) <;> walk_at "em") | (with_reducible apply ev_notV <;> walk_at "em") | walk_at "op")

def gF (own : Int) (l : List Int) : Nat := l.foldl (fun c x => Nat.gcd c x.natAbs) own.natAbs
theorem gF_snoc (own : Int) (l : List Int) (x : Int) : gF own (l ++ [x]) = Nat.gcd (gF own l) x.natAbs := by
  unfold gF
  rw [List.foldl_append]
  rfl
theorem gfold_dvd : ∀ (l : List Int) (c : Nat), l.foldl (fun c x => Nat.gcd c x.natAbs) c ∣ c ∧ ∀ x ∈ l, ((l.foldl (fun c x => Nat.gcd c x.natAbs) c : Nat) : Int) ∣ x
  | [], c => ⟨Nat.dvd_refl _, fun _ h => nomatch h⟩
  | y :: l, c => by
    obtain ⟨h1, h2⟩ := gfold_dvd l (Nat.gcd c y.natAbs)
    refine ⟨Nat.dvd_trans h1 (Nat.gcd_dvd_left _ _), fun x hx => ?_⟩
    rcases List.mem_cons.mp hx with e | e
    · rw [e]
      exact Int.ofNat_dvd_left.mpr (Nat.dvd_trans h1 (Nat.gcd_dvd_right _ _))
    · exact h2 x e
theorem gF_own (own : Int) (l : List Int) : ((gF own l : Nat) : Int) ∣ own := Int.ofNat_dvd_left.mpr (gfold_dvd l _).1
theorem gF_mem {own : Int} {l : List Int} {x : Int} (h : x ∈ l) : ((gF own l : Nat) : Int) ∣ x := (gfold_dvd l _).2 x h
theorem gF_great : ∀ {l : List Int} {c : Nat} {d : Int}, d ∣ (c : Int) → (∀ x ∈ l, d ∣ x) → d ∣ ((l.foldl (fun c x => Nat.gcd c x.natAbs) c : Nat) : Int)
  | [], _, _, h, _ => h
  | y :: l, c, d, h, k => gF_great (l := l) (c := Nat.gcd c y.natAbs) (by
      have h2 := k y List.mem_cons_self
      have := Int.dvd_coe_gcd h h2
      have e : Int.gcd (c : Int) y = Nat.gcd c y.natAbs := by simp [Int.gcd]
      rwa [e] at this) fun x hx => k x (List.mem_cons_of_mem _ hx)
theorem gF_max {own : Int} {l : List Int} {d : Int} (h : d ∣ own) (k : ∀ x ∈ l, d ∣ x) : d ∣ ((gF own l : Nat) : Int) := gF_great (by
  rw [Int.dvd_natAbs]
  exact h) k
theorem gF_pos {own : Int} (h : own ≠ 0) (l : List Int) : 0 < gF own l := by
  have := gF_own own l
  rcases Nat.eq_zero_or_pos (gF own l) with z | z
  · rw [z] at this
    exact absurd (Int.zero_dvd.mp this) h
  · exact z
theorem gF_le {own : Int} (h : own ≠ 0) (l : List Int) : gF own l ≤ own.natAbs := Nat.le_of_dvd (by omega) (Int.ofNat_dvd_left.mp (gF_own own l))
theorem gF_one {own : Int} {l k : List Int} (h : gF own l = 1) : gF own (l ++ k) = 1 := by
  have h1 : ((gF own (l ++ k) : Nat) : Int) ∣ ((gF own l : Nat) : Int) := gF_max (gF_own _ _) fun x hx => gF_mem (List.mem_append_left _ hx)
  rw [h] at h1
  exact Nat.dvd_one.mp (Int.natCast_dvd_natCast.mp h1)
theorem cut_one (xs : List Int) : cut 1 xs = xs := by
  unfold cut
  rw [show (fun x : Int => x / 1) = id from funext fun x => Int.ediv_one x, List.map_id]
theorem fd_pos (x : Int) {g : Nat} : x.fdiv (g : Int) = x / (g : Int) := Int.fdiv_eq_ediv_of_nonneg _ (by omega)
structure SmI (xs : List Int) : Prop where
  len : xs.length ≤ 100
  b : ∀ x ∈ xs, x.natAbs < 2 ^ 8000
section
variable {P : Program} {w : World} {K : PySem.W.Frag} {mg : Str → Option Value} {base : Heap}
abbrev s_divided : Stmt := topS 18
abbrev n_divided : List Str := ["integers", "own", "shares", "common", "integer", "share"]
abbrev p_divided : List Str := ["integers", "own", "shares"]
theorem sc_divided : FnScope n_divided p_divided (defScope s_divided) := ⟨rfl, rfl, rfl, by decide +kernel, rfl, by decide +kernel, by decide +kernel⟩
def spDivided : Sp := spFn (β := List Int × Int × List Int) (fun b => [eIs b.1, eI b.2.1, eIs b.2.2]) (fun b => SmI b.1 ∧ b.2.1 ≠ 0 ∧ b.2.1.natAbs < 2 ^ 8000 ∧ SmI b.2.2)
  (fun b => eTup [eIs (cut (gF b.2.1 (b.1 ++ b.2.2) : Nat) b.1), eI (b.2.1 / (gF b.2.1 (b.1 ++ b.2.2) : Nat)), eIs (cut (gF b.2.1 (b.1 ++ b.2.2) : Nat) b.2.2)])
theorem ok_divided {is sh : List Int} {own : Int} (h1 : SmI is) (h2 : own ≠ 0) (h3 : own.natAbs < 2 ^ 8000) (h4 : SmI sh) : SpOk spDivided [eIs is, eI own, eIs sh] (eTup [eIs (cut (gF own (is ++ sh) : Nat) is), eI (own / (gF own (is ++ sh) : Nat)), eIs (cut (gF own (is ++ sh) : Nat) sh)]) :=
  spFn_ok (β := List Int × Int × List Int) (is, own, sh) ⟨h1, h2, h3, h4⟩
abbrev Divided (P : Program) (w : World) (K : PySem.W.Frag) (mg : Str → Option Value) (base : Heap) : Prop := Cal P w K mg base "divided" p_divided 1 spDivided
theorem cal_divided (T : Txt K mg) (D : DefAt K mg "divided" s_divided) : Divided P w K mg base := by
  refine cal_of D sc_divided (fun _ _ _ _ _ _ us hl => match us, hl with | [_, _, _], _ => rfl) (len_fn fun _ => rfl) fun f cdv A outer s H E hr => ⟨_, (pss_cons (ps_set (i := 3) sc_divided.nd rfl (Or.inr rfl) (pe_callB call_abs (by rfl) T.abs (by decide +kernel) (pa_cons (pv 1) pa_nil)))
 (pss_cons (ps_for PassesOwn.never rfl (pi_list (pe_op op_cat (pv 0) (pv 2))) (pg_name (i := 4) sc_divided.nd rfl (Or.inl rfl))
 (Evl.pss_cut (ps_if (pt_cmpR op_eq (pv 3) pe_int (nomark _)) (pss_one (ps_ret (pe_tup (pa_cons (pv 0) (pa_cons (pv 1) (pa_cons (pv 2) pa_nil)))))) pss_nil)
 (pss_one (ps_set (i := 3) sc_divided.nd rfl (Or.inr rfl) (pe_callBfun cr_gcd rfl T.mg_gcd (pa_cons (pv 3) (pa_cons (pv 4) pa_nil)))))))
 (pss_one (ps_ret (pe_tup (pa_cons (pe_lc (own := [("integer", 4)]) rfl sc_divided.nd (pi_list (pv 0)) (blkOk_by (N := n_divided) (sc := defScope s_divided) (by decide +kernel)) (fun _ _ _ _ _ => (pg_name (i := 4) sc_divided.nd rfl (Or.inl rfl))) (fun _ _ _ _ _ => pts_nil) (fun _ _ _ _ _ => (pe_op op_fdivX (pv 4) (pv 3)))) (pa_cons (pe_op op_fdivX (pv 1) (pv 3)) (pa_cons (pe_lc (own := [("share", 5)]) rfl sc_divided.nd (pi_list (pv 2)) (blkOk_by (N := n_divided) (sc := defScope s_divided) (by decide +kernel)) (fun _ _ _ _ _ => (pg_name (i := 5) sc_divided.nd rfl (Or.inl rfl))) (fun _ _ _ _ _ => pts_nil) (fun _ _ _ _ _ => (pe_op op_fdivX (pv 5) (pv 3)))) pa_nil)))))))), body_fn fun ⟨is, own, sh⟩ ⟨his, ho, hb, hsh⟩ ω Q hQ => ?_⟩
  have his : SmI is := his
  have hsh : SmI sh := hsh
  have ho : own ≠ 0 := ho
  have hb : own.natAbs < 2 ^ 8000 := hb
  refine q_asg (C := []) (e := eI (own.natAbs : Int)) (by walk_at "em") ?_
  refine q_for (C := []) (β := Unit) (fun _ _ => True) (fun i _ => [some (eIs is), some (eI own), some (eIs sh), some (eI (gF own ((is ++ sh).take i) : Nat)), none, none]) (fun i _ => [some (eIs is), some (eI own), some (eIs sh), some (eI (gF own ((is ++ sh).take i) : Nat)), some (itm ((is ++ sh).map fun i => eI i) i), none]) (fun _ _ => [])
    (it_list (es := (is ++ sh).map fun i => eI i) (ev_is (ev_op (ev_var rfl) (ev_var rfl) (op_cat' (by rw [List.length_map, List.length_map]; exact Nat.le_trans (Nat.add_le_add his.len hsh.len) (by decide)))) (by rw [List.map_append]))) ?_ (fun _ _ _ _ => tg_name) (fun m i _ hi _ => ?_) (fun _ _ => ?_)
  · exact ⟨(), trivial, ⟨rfl, rfl, rfl, rfl, trivial⟩, rfl⟩
  · rw [List.length_map] at hi
    rw [itm_map 0 hi]
    refine tr_cut (As ((bs0 ω).at m) [some (eIs is), some (eI own), some (eIs sh), some (eI (gF own ((is ++ sh).take i) : Nat)), some (eI ((is ++ sh).getD i 0)), none] []) ?_ ?_
    · refine s_if (C := []) (by walk_at "em") (fun h => ?_) (fun _ => s_next fun _ _ h => h)
      have h : ((gF own ((is ++ sh).take i) : Nat) : Int) = 1 := of_decide_eq_true h
      have h1 : gF own (is ++ sh) = 1 := by
        have := gF_one (k := (is ++ sh).drop i) (show gF own ((is ++ sh).take i) = 1 by omega)
        rwa [List.take_append_drop] at this
      refine s_ret (C := []) (by walk_at "em") fun v ω' l _ hv => hQ v ω' l ?_
      show (eTup [eIs (cut (gF own (is ++ sh) : Nat) is), eI (own / (gF own (is ++ sh) : Nat)), eIs (cut (gF own (is ++ sh) : Nat) sh)]).r v ω'.M
      rw [h1]
      show (eTup [eIs (cut 1 is), eI (own / 1), eIs (cut 1 sh)]).r v ω'.M
      rw [cut_one, cut_one, Int.ediv_one]
      exact hv
    · refine s_asg (C := []) (e := eI (gF own ((is ++ sh).take (i + 1)) : Nat)) ?_ (lp_mk () trivial rfl ?_)
      · rw [take_getD 0 hi, gF_snoc]
        exact ev_is (by walk_at "em") (by rw [Int.natAbs_natCast])
      · exact ⟨rfl, rfl, rfl, rfl, trivial⟩
  · rw [List.length_map, List.take_of_length_le (Nat.le_refl _)]
    have g0 : ((gF own (is ++ sh) : Nat) : Int) ≠ 0 := by have := gF_pos ho (is ++ sh); omega
    have gl : (((gF own (is ++ sh) : Nat) : Int)).natAbs < 2 ^ 9000 := natm (Nat.lt_of_le_of_lt (gF_le ho _) (pw_mono hb (by decide)))
    have dv : ∀ x : Int, DivX x (gF own (is ++ sh) : Nat) := fun x => divx_small g0 gl
    refine s_ret (C := []) (ev_tup (ea_cons (ev_lcL (xs := is) (φ := fun i => eI i) (ψ := fun i => eI (i.fdiv (gF own (is ++ sh) : Nat))) (ev_var rfl) (Nat.le_trans his.len (by decide)) fun x hx => by walk_at "em"; exact dv x)
      (ea_cons (ev_op (ev_var rfl) (ev_var rfl) (op_I (dv own))) (ea_cons (ev_lcL (xs := sh) (φ := fun i => eI i) (ψ := fun i => eI (i.fdiv (gF own (is ++ sh) : Nat))) (ev_var rfl) (Nat.le_trans hsh.len (by decide)) fun x hx => by walk_at "em"; exact dv x) ea_nil))) (Nat.le_of_ble_eq_true rfl)) fun v ω' l _ hv => hQ v ω' l ?_
    have e : ∀ xs : List Int, xs.map (fun i => eI (i.fdiv (gF own (is ++ sh) : Nat))) = (cut (gF own (is ++ sh) : Nat) xs).map fun i => eI i := fun xs => by
      unfold cut
      rw [List.map_map]
      refine List.map_congr_left fun x _ => ?_
      show eI _ = eI _
      rw [fd_pos]
    rw [e, e, fd_pos] at hv
    exact hv

/-! ### the basis -/
theorem op_repI {e : En} {i : Int} {n : Nat} (hi : i = (n : Int)) (h : n ≤ 100000) : Op2 rRep (eLst [e]) (eI i) (eLst (List.replicate n e)) := by
  rw [hi]
  exact op_rep1 h
variable {CB : Addr}
abbrev eBas (CB l : Addr) : En := eObj CB ["_kept"] [eR l]
def eEnt (e : Ent) : En := eTup [eI (e.1 : Int), eIs e.2.1, eIs e.2.2]
abbrev rKp (l : Addr) (kp : List Ent) : Rs := rL l (kp.map eEnt)
structure LG where
  l : Addr
  kp : List Ent
  F : List (List Rat)
  row : List Rat
  m : Nat
  D : Nat
  X : Nat
structure LG.Ok (b : LG) : Prop where
  lim : Lim b.m b.D b.X
  kok : KOk b.m b.D b.X b.F b.kp
  rl : b.row.length = b.m
  rb : ∀ j, RB b.D b.X (b.row.getD j 0)
theorem bd_pw {x k : Nat} (h : x ≤ Bd) (hk : 1801 ≤ k) : x < 2 ^ k := Nat.lt_of_le_of_lt h (Nat.pow_lt_pow_right (by decide) (by omega))
theorem q4_rb {m D X : Nat} {q : Rat} (L : Lim m D X) (h : RB D X q) : Q4 q := ⟨Nat.lt_of_le_of_lt (Nat.le_trans (h.num L.D0) L.x) (bd_pw (Nat.le_refl _) (by decide)), Nat.lt_of_le_of_lt (Nat.le_trans (Nat.le_of_dvd L.D0 h.den) (Nat.le_trans L.DX L.x)) (bd_pw (Nat.le_refl _) (by decide))⟩
theorem mem_getD {α : Type} {xs : List α} {x : α} (d : α) (h : x ∈ xs) : ∃ j, j < xs.length ∧ xs.getD j d = x := by
  obtain ⟨i, hi⟩ := List.mem_iff_getElem?.mp h
  have hl := (List.getElem?_eq_some_iff.mp hi).1
  exact ⟨i, hl, by rw [List.getD_eq_getElem?_getD, hi]; rfl⟩
theorem LG.Ok.row {b : LG} (h : b.Ok) : RowOk b.row := by
  have hm : ∀ q ∈ b.row, RB b.D b.X q := fun q hq => by
    obtain ⟨j, _, e⟩ := mem_getD 0 hq
    rw [← e]
    exact h.rb j
  refine ⟨by rw [h.rl]; have := h.lim.m6; omega, fun q hq => q4_rb h.lim (hm q hq), b.D, h.lim.D0, ?_, fun q hq => (hm q hq).den⟩
  exact Nat.lt_of_le_of_lt (Nat.le_trans h.lim.DX h.lim.x) (bd_pw (Nat.le_refl _) (by decide))
theorem LG.Ok.start {b : LG} (h : b.Ok) : LSt b.m b.F b.kp b.row 0 (intsR b.row) (lcmR b.row : Int) (List.replicate b.F.length 0) := by
  refine lst_start h.lim h.rl h.rb (by have := lcmR_pos b.row; omega) ?_ (by rw [intsR_len, h.rl]) fun j _ => ?_
  · rw [Int.toNat_natCast]
    exact lcmR_dvd fun q hq => by
      obtain ⟨j, _, e⟩ := mem_getD 0 hq
      rw [← e]
      exact (h.rb j).den
  · rw [intsR_at, Rat.intCast_natCast]
abbrev St3 := List Int × Int × List Int
def spLeft (CB : Addr) : Sp := spR (β := LG) (fun b => [eBas CB b.l, eQs b.row]) LG.Ok (fun b => eAny St3 (fun x => LSt b.m b.F b.kp b.row b.F.length x.1 x.2.1 x.2.2) fun x => eTup [eIs x.1, eI x.2.1, eIs x.2.2]) (fun _ => []) (fun b => rKp b.l b.kp) (fun b => rKp b.l b.kp)
abbrev s_Basis_left : Stmt := inClass (topS 19) 1
abbrev n_Basis_left : List Str := ["self", "row", "shares", "integers", "own", "pivot", "other", "parts", "common", "padded", "scale", "lead", "one", "two"]
abbrev p_Basis_left : List Str := ["self", "row"]
theorem sc_Basis_left : FnScope n_Basis_left p_Basis_left (defScope s_Basis_left) := ⟨rfl, rfl, rfl, by decide +kernel, rfl, by decide +kernel, by decide +kernel⟩
abbrev BLeft (P : Program) (w : World) (K : PySem.W.Frag) (mg : Str → Option Value) (base : Heap) (CB : Addr) : Prop := CalM P w K mg base CB "left" p_Basis_left 2 (spLeft CB)
theorem getI {xs : List Int} {p : Nat} (h : p < xs.length) : (xs.map fun i => eI i)[p]? = some (eI (xs.getD p 0)) := by
  rw [List.getElem?_map, List.getElem?_eq_getElem h, getD_of_lt 0 h]
  rfl
theorem smI_of {xs : List Int} {n : Nat} (hl : xs.length = n) (hn : n ≤ 100) (h : ∀ j, (xs.getD j 0).natAbs < 2 ^ 8000) : SmI xs := ⟨by omega, fun x hx => by
  obtain ⟨j, _, e⟩ := mem_getD 0 hx
  rw [← e]
  exact h j⟩
theorem mix_lt {sc ld x y : Int} (h1 : sc.natAbs ≤ Bd) (h2 : ld.natAbs ≤ Bd) (h3 : x.natAbs ≤ Bd) (h4 : y.natAbs ≤ Bd) : (sc * x - ld * y).natAbs < 2 ^ 8000 := by
  have a1 : (sc * x).natAbs ≤ Bd * Bd := by rw [Int.natAbs_mul]; exact Nat.mul_le_mul h1 h3
  have a2 : (ld * y).natAbs ≤ Bd * Bd := by rw [Int.natAbs_mul]; exact Nat.mul_le_mul h2 h4
  have a3 := Int.natAbs_sub_le (sc * x) (ld * y)
  have a4 : Bd * Bd + Bd * Bd < 2 ^ 8000 := by decide
  omega
theorem fdiv_le {a : Int} {c : Nat} {B : Nat} (h : a.natAbs ≤ B) : (a.fdiv (c : Int)).natAbs ≤ B := by
  rw [fd_pos]
  exact Nat.le_trans (Int.natAbs_ediv_le_natAbs a c) h
theorem cal_left (T : Txt K mg) (cB : Cls K CB) (nB : NoAttr K CB "_kept") (D : DefM K CB "left" "Basis.left" s_Basis_left) (c_integers_of : IntegersOf P w K mg base) (c_divided : Divided P w K mg base) : BLeft P w K mg base CB := by
  refine calM_of D sc_Basis_left (fun _ _ _ _ _ _ us hl => match us, hl with | [_, _], _ => rfl) (len_r fun _ => rfl) fun f cdv A outer s H E hr => ⟨_, (pss_cons (ps_asg (pe_cal c_integers_of hr rfl (pa_cons (pv 1) pa_nil)) (pg_tup rfl (pgs_cons (pg_name (i := 3) sc_Basis_left.nd rfl (Or.inl rfl)) (pgs_cons (pg_name (i := 4) sc_Basis_left.nd rfl (Or.inl rfl)) pgs_nil))))
 (pss_cons (ps_set (i := 2) sc_Basis_left.nd rfl (Or.inl rfl) (pe_op op_rep (pe_lst (pa_cons pe_int pa_nil)) (pe_callB call_len_seq (by rfl) T.len (by decide +kernel) (pa_cons (pe_fld (pv 0) rfl) pa_nil))))
 (pss_cons (ps_for PassesOwn.never rfl (pi_list (pe_fld (pv 0) rfl)) (pg_tup rfl (pgs_cons (pg_name (i := 5) sc_Basis_left.nd rfl (Or.inl rfl)) (pgs_cons (pg_name (i := 6) sc_Basis_left.nd rfl (Or.inl rfl)) (pgs_cons (pg_name (i := 7) sc_Basis_left.nd rfl (Or.inl rfl)) pgs_nil))))
 (pss_one (ps_if (pt_cmpR op_ne (pe_ix ix_list (pv 3) (pv 5) (fun _ _ => rfl)) pe_int (nomark _)) (pss_cons (ps_set (i := 8) sc_Basis_left.nd rfl (Or.inl rfl) (pe_callBfun cr_gcd rfl T.mg_gcd (pa_cons (pe_ix ix_list (pv 3) (pv 5) (fun _ _ => rfl)) (pa_cons (pe_ix ix_list (pv 6) (pv 5) (fun _ _ => rfl)) pa_nil))))
 (pss_cons (ps_asg (pe_tup (pa_cons (pe_op op_fdivX (pe_ix ix_list (pv 6) (pv 5) (fun _ _ => rfl)) (pv 8)) (pa_cons (pe_op op_fdivX (pe_ix ix_list (pv 3) (pv 5) (fun _ _ => rfl)) (pv 8)) pa_nil))) (pg_tup rfl (pgs_cons (pg_name (i := 10) sc_Basis_left.nd rfl (Or.inr rfl)) (pgs_cons (pg_name (i := 11) sc_Basis_left.nd rfl (Or.inr rfl)) pgs_nil))))
 (pss_cons (ps_setLc (i := 3) (own := [("one", 12), ("two", 13)]) rfl sc_Basis_left.nd rfl rfl (sw_true rfl rfl rfl (by decide +kernel)) (pi_zip (by rfl) T.zip (pa_cons (pv 3) (pa_cons (pv 6) pa_nil))) (blkOk_by (N := n_Basis_left) (sc := defScope s_Basis_left) (by decide +kernel)) (fun _ _ _ _ _ => (pg_tupK (n := 2) K rfl rfl (pgs_cons (pg_name (i := 12) sc_Basis_left.nd rfl (Or.inl rfl)) (pgs_cons (pg_name (i := 13) sc_Basis_left.nd rfl (Or.inl rfl)) pgs_nil)))) (fun _ _ _ _ _ => pts_nil) (fun _ _ _ _ _ => (pe_op op_sub (pe_op op_mulX (pv 10) (pv 12)) (pe_op op_mulX (pv 11) (pv 13)))))
 (pss_cons (ps_set (i := 9) sc_Basis_left.nd rfl (Or.inl rfl) (pe_op op_cat (pv 7) (pe_op op_rep (pe_lst (pa_cons pe_int pa_nil)) (pe_op op_sub (pe_callB call_len_seq (by rfl) T.len (by decide +kernel) (pa_cons (pv 2) pa_nil)) (pe_callB call_len_seq (by rfl) T.len (by decide +kernel) (pa_cons (pv 7) pa_nil))))))
 (pss_cons (ps_setLc (i := 2) (own := [("one", 12), ("two", 13)]) rfl sc_Basis_left.nd rfl rfl (sw_true rfl rfl rfl (by decide +kernel)) (pi_zip (by rfl) T.zip (pa_cons (pv 2) (pa_cons (pv 9) pa_nil))) (blkOk_by (N := n_Basis_left) (sc := defScope s_Basis_left) (by decide +kernel)) (fun _ _ _ _ _ => (pg_tupK (n := 2) K rfl rfl (pgs_cons (pg_name (i := 12) sc_Basis_left.nd rfl (Or.inl rfl)) (pgs_cons (pg_name (i := 13) sc_Basis_left.nd rfl (Or.inl rfl)) pgs_nil)))) (fun _ _ _ _ _ => pts_nil) (fun _ _ _ _ _ => (pe_op op_sub (pe_op op_mulX (pv 10) (pv 12)) (pe_op op_mulX (pv 11) (pv 13)))))
 (pss_one (ps_asg (pe_cal c_divided hr rfl (pa_cons (pv 3) (pa_cons (pe_op op_mulX (pv 4) (pv 10)) (pa_cons (pv 2) pa_nil)))) (pg_tup rfl (pgs_cons (pg_name (i := 3) sc_Basis_left.nd rfl (Or.inl rfl)) (pgs_cons (pg_name (i := 4) sc_Basis_left.nd rfl (Or.inl rfl)) (pgs_cons (pg_name (i := 2) sc_Basis_left.nd rfl (Or.inl rfl)) pgs_nil))))))))))) pss_nil)))
 (pss_one (ps_ret (pe_tup (pa_cons (pv 3) (pa_cons (pv 4) (pa_cons (pv 2) pa_nil))))))))), body_r fun b ok ω Q d0 hQ => ?_⟩
  have R := ok.row
  have hl6 : b.F.length ≤ 6 := Nat.le_trans ok.kok.le ok.lim.m6
  have hm6 := ok.lim.m6
  refine q_asgT (C := []) (ev_call (ea_cons (ev_var rfl) ea_nil) (ok_integers_of R)) (tg_tup rfl (tgs_cons tg_name (tgs_cons tg_name tgs_nil))) ?_
  refine q_asg (C := []) (Δ1 := [rKp b.l b.kp]) (e := eIs (List.replicate b.F.length 0)) ?_ ?_
  · refine ev_is (ev_op (ev_lst (ea_cons ev_c ea_nil) (Nat.le_of_ble_eq_true rfl)) (ev_lenM (ev_fld (ev_var rfl) cB nB (by decide) (i := 0) rfl rfl) List.mem_cons_self) (op_rep1 (by rw [List.length_map, ok.kok.len]; omega))) ?_
    unfold eIs
    rw [List.map_replicate, List.length_map, ok.kok.len]
  have hp : ω.H b.l ≠ none := (d0.a b.l (by show b.l ∈ adr [rKp b.l b.kp]; exact List.mem_flatMap.mpr ⟨_, List.mem_singleton.mpr rfl, List.mem_singleton.mpr rfl⟩)).1
  refine q_for (C := []) (β := St3) (fun i x => LSt b.m b.F b.kp b.row i x.1 x.2.1 x.2.2)
    (fun i x => [some (eBas CB b.l), some (eQs b.row), some (eIs x.2.2), some (eIs x.1), some (eI x.2.1), none, none, none, none, none, none, none, none, none])
    (fun i x => [some (eBas CB b.l), some (eQs b.row), some (eIs x.2.2), some (eIs x.1), some (eI x.2.1), some (eI ((b.kp.getD i (0, [], [])).1 : Int)), some (eIs (b.kp.getD i (0, [], [])).2.1), some (eIs (b.kp.getD i (0, [], [])).2.2), none, none, none, none, none, none]) (fun _ _ => [rKp b.l b.kp])
    (it_listM (ev_fld (ev_var rfl) cB nB (by decide) (i := 0) rfl rfl) List.mem_cons_self hp (fun z => nomatch z) rfl) ?_ (fun i x hi _ => ?_) (fun mm i x hi S => ?_) (fun x S => ?_)
  · exact ⟨(intsR b.row, (lcmR b.row : Int), List.replicate b.F.length 0), ok.start, ⟨rfl, rfl, rfl, rfl, rfl, trivial⟩, rfl⟩
  · rw [List.length_map] at hi
    rw [itm_map (0, [], []) hi]
    exact tg_tup rfl (tgs_cons tg_name (tgs_cons tg_name (tgs_cons tg_name tgs_nil)))
  · obtain ⟨is, own, sh⟩ := x
    rw [List.length_map] at hi
    have S : LSt b.m b.F b.kp b.row i is own sh := S
    generalize hge : b.kp.getD i (0, [], []) = e
    have he : b.kp[i]? = some e := by rw [← hge, getD_of_lt _ hi]; exact List.getElem?_eq_getElem hi
    obtain ⟨pv, ot, pa⟩ := e
    have E := ok.kok.ent i _ he
    have hpm : pv < b.m := E.p
    have hpi : pv < is.length := by rw [S.il]; exact hpm
    have hpo : pv < ot.length := by rw [show ot.length = b.m from E.ol]; exact hpm
    have hiF : i < b.F.length := by rw [← ok.kok.len]; exact hi
    refine s_if (C := []) (et_test (ev_op (ev_op (ev_var rfl) (ev_var rfl) (op_ixL (getI hpi))) ev_c op_neI)) (fun h => ?_) (fun h => s_next (lp_mk (is, own, sh) (lst_skip S ?_) rfl ?_))
    · have hn : is.getD pv 0 ≠ 0 := by simpa using h
      have c0 : 0 < Nat.gcd (is.getD pv 0).natAbs (ot.getD pv 0).natAbs := Nat.gcd_pos_of_pos_left _ (by omega)
      generalize hc : Nat.gcd (is.getD pv 0).natAbs (ot.getD pv 0).natAbs = c at c0
      have cs : c < 2 ^ 9000 := by
        rw [← hc]
        exact Nat.lt_of_le_of_lt (Nat.gcd_le_left _ (by omega)) (bd_pw (S.bi pv) (by decide))
      have dv : ∀ x : Int, DivX x (c : Int) := fun x => divx_small (by omega) (natm cs)
      have e1 : ot.getD pv 0 = (ot.getD pv 0).fdiv (c : Int) * (c : Int) := by
        rw [fd_pos, Int.ediv_mul_cancel]
        rw [← hc]
        exact Int.ofNat_dvd_left.mpr (Nat.gcd_dvd_right _ _)
      have e2 : is.getD pv 0 = (is.getD pv 0).fdiv (c : Int) * (c : Int) := by
        rw [fd_pos, Int.ediv_mul_cancel]
        rw [← hc]
        exact Int.ofNat_dvd_left.mpr (Nat.gcd_dvd_left _ _)
      have b1 : ((ot.getD pv 0).fdiv (c : Int)).natAbs ≤ Bd := fdiv_le (E.bi pv)
      have b2 : ((is.getD pv 0).fdiv (c : Int)).natAbs ≤ Bd := fdiv_le (S.bi pv)
      generalize hsc : (ot.getD pv 0).fdiv (c : Int) = sc at e1 b1
      generalize hld : (is.getD pv 0).fdiv (c : Int) = ld at e2 b2
      have sc0 : sc ≠ 0 := fun z => E.nz (show ot.getD pv 0 = 0 by rw [e1, z, Int.zero_mul])
      refine q_asg (C := []) (e := eI (c : Int)) (ev_is (ev_cb (ea_cons (ev_op (ev_var rfl) (ev_var rfl) (op_ixL (getI hpi))) (ea_cons (ev_op (ev_var rfl) (ev_var rfl) (op_ixL (getI hpo))) ea_nil)) op_gcd) (by rw [hc])) ?_
      refine q_asgT (C := []) (ev_tup (ea_cons (a := eI sc) (ev_is (ev_op (ev_op (ev_var rfl) (ev_var rfl) (op_ixL (getI hpo))) (ev_var rfl) (op_I (dv _))) (congrArg (fun z => eI z) hsc)) (ea_cons (a := eI ld) (ev_is (ev_op (ev_op (ev_var rfl) (ev_var rfl) (op_ixL (getI hpi))) (ev_var rfl) (op_I (dv _))) (congrArg (fun z => eI z) hld)) ea_nil)) (Nat.le_of_ble_eq_true rfl)) (tg_tup rfl (tgs_cons tg_name (tgs_cons tg_name tgs_nil))) ?_
      have il : is.length = ot.length := by rw [S.il, show ot.length = b.m from E.ol]
      have pl : (pa ++ List.replicate (sh.length - pa.length) (0 : Int)).length = sh.length := by
        have h1 : pa.length = i + 1 := E.sl
        have h2 := S.sl
        rw [List.length_append, List.length_replicate]
        omega
      have bo : ∀ j, (ot.getD j 0).natAbs ≤ Bd := E.bi
      have bp : ∀ j, ((pa ++ List.replicate (sh.length - pa.length) (0 : Int)).getD j 0).natAbs ≤ Bd := fun j => by
        rw [getD_pad]
        exact E.bs j
      have mx : ∀ {x y : Int}, x.natAbs ≤ Bd → y.natAbs ≤ Bd → CMulX x y := fun h1 h2 => mulx (bd_pw h1 (Nat.le_refl _)) (bd_pw h2 (Nat.le_refl _)) (by decide)
      have zipm : ∀ {xs ys : List Int}, (List.zipWith (fun x y => eI (sc * x - ld * y)) xs ys) = (mix sc ld xs ys).map fun i => eI i := fun {xs ys} => by
        unfold mix
        rw [List.map_zipWith]
      refine q_asg (C := []) (e := eIs (mix sc ld is ot)) (ev_is (ev_lcZ (xs := is) (ys := ot) (φ := fun i => eI i) (χ := fun i => eI i) (ψ := fun x y => eI (sc * x - ld * y)) (by decide) (by walk_at "em") il (by rw [S.il]; omega) fun k h1 h2 => by
        walk_at "em"
        · exact mx b1 (by have := S.bi k; rwa [getD_of_lt 0 h1] at this)
        · exact mx b2 (by have := bo k; rwa [getD_of_lt 0 h2] at this)) (congrArg eLst zipm)) ?_
      refine q_asg (C := []) (e := eIs (pa ++ List.replicate (sh.length - pa.length) 0)) (ev_is (ev_op (ev_var rfl) (ev_op (ev_lst (ea_cons ev_c ea_nil) (Nat.le_of_ble_eq_true rfl)) (ev_op (ev_cb (ea_cons (ev_var rfl) ea_nil) op_lenL) (ev_cb (ea_cons (ev_var rfl) ea_nil) op_lenL) op_I0) (op_repI (n := sh.length - pa.length) ?_ ?_)) (op_cat' ?_)) ?_) ?_
      rotate_left 4
      refine q_asg (C := []) (e := eIs (mix sc ld sh (pa ++ List.replicate (sh.length - pa.length) 0))) (ev_is (ev_lcZ (xs := sh) (ys := pa ++ List.replicate (sh.length - pa.length) 0) (φ := fun i => eI i) (χ := fun i => eI i) (ψ := fun x y => eI (sc * x - ld * y)) (by decide) (by walk_at "em") pl.symm (by rw [S.sl]; omega) fun k h1 h2 => by
        walk_at "em"
        · exact mx b1 (by have := S.bs k; rwa [getD_of_lt 0 h1] at this)
        · exact mx b2 (by have := bp k; rwa [getD_of_lt 0 h2] at this)) (congrArg eLst zipm)) ?_
      have hown : own * sc ≠ 0 := Int.mul_ne_zero S.own0 sc0
      have hG := gF_pos hown (mix sc ld is ot ++ mix sc ld sh (pa ++ List.replicate (sh.length - pa.length) 0))
      refine s_asgT (C := []) (ev_call (ea_cons (ev_var rfl) (ea_cons (ev_op (ev_var rfl) (ev_var rfl) (op_I (mx S.bo b1))) (ea_cons (ev_var rfl) ea_nil))) (ok_divided ?_ hown ?_ ?_)) (tg_tup rfl (tgs_cons tg_name (tgs_cons tg_name (tgs_cons tg_name tgs_nil)))) (lp_mk (_, _, _) (lst_step ok.lim ok.kok ok.rb hiF he S hn (c := c) (sc := sc) (ld := ld) (g := (gF (own * sc) (mix sc ld is ot ++ mix sc ld sh (pa ++ List.replicate (sh.length - pa.length) 0)) : Nat)) (by omega) e1 e2 (by omega) (gF_own _ _) (fun x hx => gF_mem (List.mem_append_left _ hx)) (fun x hx => gF_mem (List.mem_append_right _ hx)) (fun d h1 h2 h3 => gF_max h1 fun x hx => (List.mem_append.mp hx).elim (h2 x) (h3 x))) rfl ?_)
      · exact smI_of (n := b.m) (by rw [mix_len il, S.il]) (by omega) fun j => by
          rw [mix_at il]
          exact mix_lt b1 b2 (S.bi j) (bo j)
      · show (own * sc).natAbs < 2 ^ 8000
        rw [Int.natAbs_mul]
        exact Nat.lt_of_le_of_lt (Nat.mul_le_mul S.bo b1) (by decide)
      · exact smI_of (n := b.F.length) (by rw [mix_len pl.symm, S.sl]) (by omega) fun j => by
          rw [mix_at pl.symm]
          exact mix_lt b1 b2 (S.bs j) (bp j)
      · exact ⟨rfl, rfl, rfl, rfl, rfl, trivial⟩
      · show (((sh.map fun i => eI i).length : Nat) : Int) - (((pa.map fun i => eI i).length : Nat) : Int) = _
        rw [List.length_map, List.length_map, S.sl, show pa.length = i + 1 from E.sl]
        omega
      · rw [S.sl]
        omega
      · show (pa.map fun i => eI i).length + _ ≤ _
        rw [List.length_map, List.length_replicate, S.sl, show pa.length = i + 1 from E.sl]
        omega
      · show eLst (pa.map (fun i => eI i) ++ _) = _
        unfold eIs
        rw [List.map_append, List.map_replicate]
    · have : is.getD pv 0 = 0 := by simpa using h
      rw [pvt_of he]
      exact this
    · exact ⟨rfl, rfl, rfl, rfl, rfl, trivial⟩
  · rw [List.length_map, ok.kok.len] at S
    refine s_ret (C := []) (by walk_at "em") fun v ω' l d hv => hQ v ω' l d ⟨x, S, hv⟩
end
end Tw

/-! the basis: put, told, made -/
namespace Tw
open PySem L2 PyProof.Rows
local macro_rules | `(tactic| walk_at "op") => `(tactic| first | exact op_I0 | exact op_U | exact op_eqI | exact op_neI | exact op_eqM | exact op_neM | exact op_t0 | exact op_t1 | exact op_t2 | exact op_t3 | exact op_l0 | exact op_l1 | exact op_l2 | exact op_l3 | exact op_gcd | exact op_abs | exact op_int1 | exact op_intB | exact op_lenL | exact op_listOf | exact op_inM | exact op_notInM | exact op_inMs | exact op_any | exact op_all | exact op_sum | exact op_isNL | exact op_isN' | apply op_lcm | apply op_catM | apply op_cat' | apply op_rep1 | apply op_lenS | apply op_I | apply op_ixL | exact Nat.le_of_ble_eq_true rfl | skip)
local macro_rules | `(tactic| walk_at "em") => `(tactic| first | exact ev_var rfl | exact ev_c | exact ea_nil | exact eo_none | ((with_reducible apply ea_cons) <;> walk_at "em") | ((with_reducible apply ev_tup) <;> walk_at "em") | ((with_reducible apply ev_lst) <;> walk_at "em") | ((with_reducible apply ev_op) <;> walk_at "em") | ((with_reducible apply ev_un) <;> walk_at "em") | ((with_reducible apply ev_cb) <;> walk_at "em") | ((with_reducible apply ev_call) <;> walk_at "em") | ((with_reducible apply eo_some) <;> walk_at "em") | ((with_reducible apply et_test) <;> walk_at "em") | (with_reducible apply et_B <;> walk_at "em") | ((with_reducible apply et_not) <;> walk_at "em") | (with_reducible apply ev_notV <;> walk_at "em") | walk_at "op")

section
variable {W : Bs} {C : List Addr} {Γ : List (Option En)} {Δ Δ1 : List Rs} {D : Ends} {te : TE} {z : TS} {g : TG}
theorem s_asgTA {α : Type} {P : α → Prop} {f : α → En} {Γf : α → List (Option En)} (h : Ev C te Γ Δ (eAny α P f) Δ1) (hg : ∀ x, P x → TgOk g Γ (f x) (Γf x)) (hk : ∀ x, P x → ∀ σ H, As W (Γf x) Δ1 σ H → D.nx σ H) (o : Own W C := by exact Own.nil _) : Tr (tAsg te g) (As W Γ Δ) D := fun σ H ⟨ω, h1, h2, hm, h3, h4⟩ => by
  subst h1
  refine h.run σ ω _ h3 h4 fun v ω' l d hv => ?_
  obtain ⟨x, px, hv⟩ := hv
  exact hg x px v σ ω' _ (h3.mono l.m) hv fun σ' s' => hk x px _ _ ⟨ω', rfl, h2.ch l o, fun x q z => l.m x q (hm x q z), s', d⟩
theorem q_asgTA {α : Type} {P : α → Prop} {f : α → En} {Γf : α → List (Option En)} (h : Ev C te Γ Δ (eAny α P f) Δ1) (hg : ∀ x, P x → TgOk g Γ (f x) (Γf x)) (hk : ∀ x, P x → Tr z (As W (Γf x) Δ1) D) (o : Own W C := by exact Own.nil _) : Tr (tSeq (tAsg te g) z) (As W Γ Δ) D := s_asgTA (D := { D with nx := z D }) h hg hk o
end
/-- the basis that keeps F -/
def rB (l : Addr) (m D X : Nat) (F : List (List Rat)) : Rs := ⟨[l], fun ω => ∃ kp, KOk m D X F kp ∧ (rKp l kp).r ω, fun ω ω' ⟨kp, h1, h2⟩ m e => ⟨kp, h1, (rKp l kp).st ω ω' h2 m e⟩⟩
noncomputable def isp (m : Nat) (F : List (List Rat)) (row : List Rat) : Bool := @decide (InSpan m F row) (Classical.propDecidable _)
theorem isp_t {m : Nat} {F : List (List Rat)} {row : List Rat} : isp m F row = true ↔ InSpan m F row := @decide_eq_true_iff _ (Classical.propDecidable _)
theorem isp_f {m : Nat} {F : List (List Rat)} {row : List Rat} : isp m F row = false ↔ ¬ InSpan m F row := @decide_eq_false_iff_not _ (Classical.propDecidable _)
noncomputable def nxF (m : Nat) (F : List (List Rat)) (row : List Rat) : List (List Rat) := if isp m F row then F else F ++ [row]
structure BG where
  l : Addr
  F : List (List Rat)
  row : List Rat
  m : Nat
  D : Nat
  X : Nat
structure BG.Ok (b : BG) : Prop where
  lim : Lim b.m b.D b.X
  rl : b.row.length = b.m
  rb : ∀ j, RB b.D b.X (b.row.getD j 0)
section
variable {P : Program} {w : World} {K : PySem.W.Frag} {mg : Str → Option Value} {base : Heap} {CB : Addr}
def spPut (CB : Addr) : Sp := spR (β := BG) (fun b => [eBas CB b.l, eQs b.row]) BG.Ok (fun b => eB (!isp b.m b.F b.row)) (fun b => [b.l]) (fun b => rB b.l b.m b.D b.X b.F) (fun b => rB b.l b.m b.D b.X (nxF b.m b.F b.row))
abbrev s_Basis_put : Stmt := inClass (topS 19) 2
abbrev n_Basis_put : List Str := ["self", "row", "integers", "own", "shares", "pivot", "integer"]
abbrev p_Basis_put : List Str := ["self", "row"]
theorem sc_Basis_put : FnScope n_Basis_put p_Basis_put (defScope s_Basis_put) := ⟨rfl, rfl, rfl, by decide +kernel, rfl, by decide +kernel, by decide +kernel⟩
abbrev BPut (P : Program) (w : World) (K : PySem.W.Frag) (mg : Str → Option Value) (base : Heap) (CB : Addr) : Prop := CalM P w K mg base CB "put" p_Basis_put 3 (spPut CB)
theorem left_call {l : Addr} {kp : List Ent} {F : List (List Rat)} {row : List Rat} {m D X : Nat} (lim : Lim m D X) (kok : KOk m D X F kp) (rl : row.length = m) (rb : ∀ j, RB D X (row.getD j 0)) :
    SpR [] (spLeft CB) [eBas CB l, eQs row] (eAny St3 (fun x => LSt m F kp row F.length x.1 x.2.1 x.2.2) fun x => eTup [eIs x.1, eI x.2.1, eIs x.2.2]) (rKp l kp) (rKp l kp) := fun vs ω Q E ha hr h1 h2 hk => ⟨LG.mk l kp F row m D X, ω, rfl, LG.Ok.mk lim kok rl rb, ha, satD1.mpr ⟨hr, h1, h2⟩, fun v ω' l d hv => hk v ω' l (satD1.mp d).1 hv⟩
theorem satB {l : Addr} {m D X : Nat} {F : List (List Rat)} {kp : List Ent} {ω : Wo} (k : KOk m D X F kp) (d : SatD [rKp l kp] ω) : SatD [rB l m D X F] ω := by
  obtain ⟨h1, h2, h3⟩ := satD1.mp d
  exact satD1.mpr ⟨⟨kp, k, h1⟩, h2, h3⟩
theorem cal_put (T : Txt K mg) (cB : Cls K CB) (nB : NoAttr K CB "_kept") (D : DefM K CB "put" "Basis.put" s_Basis_put) (c_Basis_left : BLeft P w K mg base CB) : BPut P w K mg base CB := by
  refine calM_of D sc_Basis_put (fun _ _ _ _ _ _ us hl => match us, hl with | [_, _], _ => rfl) (len_r fun _ => rfl) fun f cdv A outer s H E hr => ⟨_, (pss_cons (ps_asg (pe_calM c_Basis_left cB hr (pv 0) (pa_cons (pv 1) pa_nil)) (pg_tup rfl (pgs_cons (pg_name (i := 2) sc_Basis_put.nd rfl (Or.inl rfl)) (pgs_cons (pg_name (i := 3) sc_Basis_put.nd rfl (Or.inl rfl)) (pgs_cons (pg_name (i := 4) sc_Basis_put.nd rfl (Or.inl rfl)) pgs_nil)))))
 (pss_cons (ps_for PassesOwn.never rfl (pi_enum (by rfl) T.enumerate (pa_cons (pv 2) pa_nil)) (pg_tup rfl (pgs_cons (pg_name (i := 5) sc_Basis_put.nd rfl (Or.inl rfl)) (pgs_cons (pg_name (i := 6) sc_Basis_put.nd rfl (Or.inl rfl)) pgs_nil)))
 (pss_one (ps_if (pt_cmpR op_ne (pv 6) pe_int (nomark _)) (pss_cons (ps_expr (pe_bm PySem.F.plainAttrs_list PySem.F.slot_list_append PySem.F.type_list_append mt_append (pe_fld (pv 0) rfl) (pa_cons (pe_tup (pa_cons (pv 5) (pa_cons (pv 2) (pa_cons (pe_op op_cat (pv 4) (pe_lst (pa_cons (pv 3) pa_nil))) pa_nil)))) pa_nil)))
 (pss_one (ps_ret pe_bl))) pss_nil)))
 (pss_one (ps_ret pe_bl)))), body_r fun b ok ω Q d0 hQ => ?_⟩
  obtain ⟨l, F, row, m, D, X⟩ := b
  have lim : Lim m D X := ok.lim
  have rl : row.length = m := ok.rl
  have rb : ∀ j, RB D X (row.getD j 0) := ok.rb
  have hQ : ∀ v ω', LeX [l] ω ω' → SatD [rB l m D X (nxF m F row)] ω' → (eB (!isp m F row)).r v ω'.M → Q v ω'.H := hQ
  refine t_ex (ρ := rB l m D X F) (ρf := fun kp => rKp l kp) (P := fun kp => KOk m D X F kp) (fun ω h => h) (fun _ => rfl) fun kp kok => ?_
  have hF6 : F.length ≤ 6 := Nat.le_trans kok.le lim.m6
  refine q_asgTA (C := []) (Δ1 := [rKp l kp]) (α := St3) (Γf := fun x => [some (eBas CB l), some (eQs row), some (eIs x.1), some (eI x.2.1), some (eIs x.2.2), none, none]) (ev_methR (k := 0) (ev_var rfl) (by decide) (ea_cons (ev_var rfl) ea_nil) (left_call lim kok rl rb) rfl (fun _ h => nomatch h) rfl (fun _ h => h) rfl) (fun x _ => tg_tup rfl (tgs_cons tg_name (tgs_cons tg_name (tgs_cons tg_name tgs_nil)))) fun x S => ?_
  obtain ⟨is, own, sh⟩ := x
  have S : LSt m F kp row F.length is own sh := S
  have hm6 := lim.m6
  refine q_for (C := []) (β := Unit) (fun i _ => ∀ j, j < i → is.getD j 0 = 0) (fun i _ => [some (eBas CB l), some (eQs row), some (eIs is), some (eI own), some (eIs sh), none, none]) (fun i _ => [some (eBas CB l), some (eQs row), some (eIs is), some (eI own), some (eIs sh), some (eI (i : Int)), some (itm (is.map fun i => eI i) i)]) (fun _ _ => [rKp l kp])
    (it_enum (es := is.map fun i => eI i) (by walk_at "em")) ?_ (fun _ _ _ _ => tg_tup rfl (tgs_cons tg_name (tgs_cons tg_name tgs_nil))) (fun mm i _ hi hz => ?_) (fun _ hz => ?_)
  · exact ⟨(), fun j hj => absurd hj (Nat.not_lt_zero _), ⟨rfl, rfl, rfl, rfl, rfl, trivial⟩, rfl⟩
  · rw [List.length_map] at hi
    rw [itm_map 0 hi]
    refine s_if (C := []) (et_test (ev_op (ev_var rfl) ev_c op_neI)) (fun h => ?_) (fun h => s_next (lp_mk () (fun j hj => ?_) rfl ?_))
    · have hn : is.getD i 0 ≠ 0 := by simpa using h
      have hns : ¬ InSpan m F row := fun hs => hn (zero_of kok S hs i (by rw [← S.il]; exact hi))
      have e1 : isp m F row = false := isp_f.mpr hns
      refine q_drop (C := [l]) (Δ1 := [rKp l (kp ++ [(i, is, sh ++ [own])])]) (ev_append (k := 0) (Δ2 := [rKp l kp]) (e := eEnt (i, is, sh ++ [own])) (ev_fld (i := 0) (ev_var rfl) cB nB (by decide) rfl rfl) List.mem_cons_self ?_ rfl ?_ List.mem_cons_self ?_) ?_ (ownS List.mem_cons_self)
      · refine ev_tup (ea_cons (ev_var rfl) (ea_cons (ev_var rfl) (ea_cons (ev_is (ev_op (ev_var rfl) (ev_lst (ea_cons (ev_var rfl) ea_nil) (Nat.le_of_ble_eq_true rfl)) (op_cat' ?_)) ?_) ea_nil))) (Nat.le_of_ble_eq_true rfl)
        · rw [List.length_map, S.sl]
          show _ + 1 ≤ _
          omega
        · show _ = eIs (sh ++ [own])
          unfold eIs
          rw [List.map_append]
          rfl
      · rw [List.length_map, kok.len]
        omega
      · show [rL l _] = [rL l _]
        rw [List.map_append]
        rfl
      · refine s_ret (C := []) ev_c fun v ω' l d hv => hQ v ω' l ?_ ?_
        · show SatD [rB _ m D X (nxF m F row)] ω'
          unfold nxF
          rw [e1]
          exact satB (kok_put kok rl rb S (by rw [← S.il]; exact hi) hn) d
        · rw [e1]
          exact hv
    · rcases Nat.lt_or_eq_of_le (Nat.le_of_lt_succ hj) with q | q
      · exact hz j q
      · rw [q]
        simpa using h
    · exact ⟨rfl, rfl, rfl, rfl, rfl, trivial⟩
  · rw [List.length_map, S.il] at hz
    have hs : InSpan m F row := span_of S hz
    refine s_ret (C := []) ev_c fun v ω' l d hv => hQ v ω' l ?_ ?_
    · show SatD [rB _ m D X (nxF m F row)] ω'
      unfold nxF
      rw [isp_t.mpr hs, if_pos rfl]
      exact satB kok d
    · rw [isp_t.mpr hs]
      exact hv
end
end Tw

/-! told; a basis is made -/
namespace Tw
open PySem L2 PyProof.Rows
local macro_rules | `(tactic| walk_at "op") => `(tactic| first | exact op_I0 | exact op_U | exact op_eqI | exact op_neI | exact op_eqM | exact op_neM | exact op_t0 | exact op_t1 | exact op_t2 | exact op_t3 | exact op_l0 | exact op_l1 | exact op_l2 | exact op_l3 | exact op_gcd | exact op_abs | exact op_int1 | exact op_intB | exact op_lenL | exact op_listOf | exact op_inM | exact op_notInM | exact op_inMs | exact op_any | exact op_all | exact op_sum | exact op_isNL | exact op_isN' | apply op_lcm | apply op_catM | apply op_cat' | apply op_rep1 | apply op_lenS | apply op_I | apply op_ixL | exact Nat.le_of_ble_eq_true rfl | skip)
local macro_rules | `(tactic| walk_at "em") => `(tactic| first | exact ev_var rfl | exact ev_c | exact ea_nil | exact eo_none | ((with_reducible apply ea_cons) <;> walk_at "em") | ((with_reducible apply ev_tup) <;> walk_at "em") | ((with_reducible apply ev_lst) <;> walk_at "em") | ((with_reducible apply ev_op) <;> walk_at "em") | ((with_reducible apply ev_un) <;> walk_at "em") | ((with_reducible apply ev_cb) <;> walk_at "em") | ((with_reducible apply ev_call) <;> walk_at "em") | ((with_reducible apply eo_some) <;> walk_at "em") | ((with_reducible apply et_test) <;> walk_at "em") | (with_reducible apply et_B <;> walk_at "em") | ((with_reducible apply et_not) <;> walk_at "em") | (with_reducible apply ev_notV <;> walk_at "em") | walk_at "op")

/-- row is told by F with c, over a small integer below -/
structure CfOk (m : Nat) (F : List (List Rat)) (row c : List Rat) : Prop where
  len : c.length = F.length
  rel : ∀ j, j < m → row.getD j 0 = sm (fun i => c.getD i 0 * fq F i j) F.length
  x : ∃ X : Nat, 0 < X ∧ X ≤ Bd ∧ ∀ q ∈ c, RB X Bd q
theorem CfOk.q4 {m : Nat} {F : List (List Rat)} {row c : List Rat} (h : CfOk m F row c) : ∀ q ∈ c, Q4 q := fun q hq => by
  obtain ⟨X, h0, h1, h2⟩ := h.x
  exact ⟨bd_pw ((h2 q hq).num h0) (by decide), bd_pw (Nat.le_trans (Nat.le_of_dvd h0 (h2 q hq).den) h1) (by decide)⟩
theorem cf_of {m : Nat} {F : List (List Rat)} {kp : List Ent} {row : List Rat} {is sh : List Int} {own : Int} (S : LSt m F kp row F.length is own sh) (hz : ∀ j, j < m → is.getD j 0 = 0) : CfOk m F row (sh.map fun s => Rat.divInt (-s) own) := by
  have ho : (own : Rat) ≠ 0 := int_ne S.own0
  have e : ∀ i, (sh.map fun s => Rat.divInt (-s) own).getD i 0 = -((sh.getD i 0 : Int) : Rat) / (own : Rat) := fun i => by
    rw [getD_map' _ sh i 0 0 (by rw [div_int]; show ((0 : Int) : Rat) / _ = 0; rw [show ((0 : Int) : Rat) = 0 from rfl]; grind), div_int, Rat.intCast_neg]
  refine ⟨by rw [List.length_map, S.sl], fun j hj => ?_, own.natAbs, by have := S.own0; omega, S.bo, fun q hq => ?_⟩
  · rw [told_at S hz j hj]
    exact sm_congr fun i _ => by rw [e i]
  · obtain ⟨s, hs, rfl⟩ := List.mem_map.mp hq
    obtain ⟨j, _, e2⟩ := mem_getD 0 hs
    have hb : s.natAbs ≤ Bd := by rw [← e2]; exact S.bs j
    refine ⟨if own < 0 then s else -s, ?_, by split <;> omega⟩
    rw [div_int]
    have ea : ((own.natAbs : Nat) : Rat) = if own < 0 then -(own : Rat) else (own : Rat) := by
      rw [← Rat.intCast_natCast]
      split
      · rw [show ((own.natAbs : Nat) : Int) = -own by omega, Rat.intCast_neg]
      · rw [show ((own.natAbs : Nat) : Int) = own by omega]
    rw [ea]
    split
    · rw [Rat.intCast_neg]; grind
    · rw [Rat.intCast_neg]; grind
section
variable {P : Program} {w : World} {K : PySem.W.Frag} {mg : Str → Option Value} {base : Heap} {CB : Addr}
noncomputable def eTold (m : Nat) (F : List (List Rat)) (row : List Rat) : En := if isp m F row then eAny (List Rat) (fun c => CfOk m F row c) eQs else eN
def spTold (CB : Addr) : Sp := spR (β := BG) (fun b => [eBas CB b.l, eQs b.row]) BG.Ok (fun b => eTold b.m b.F b.row) (fun _ => []) (fun b => rB b.l b.m b.D b.X b.F) (fun b => rB b.l b.m b.D b.X b.F)
abbrev s_Basis_told : Stmt := inClass (topS 19) 3
abbrev n_Basis_told : List Str := ["self", "row", "integers", "own", "shares", "share", "integer"]
abbrev p_Basis_told : List Str := ["self", "row"]
theorem sc_Basis_told : FnScope n_Basis_told p_Basis_told (defScope s_Basis_told) := ⟨rfl, rfl, rfl, by decide +kernel, rfl, by decide +kernel, by decide +kernel⟩
abbrev BTold (P : Program) (w : World) (K : PySem.W.Frag) (mg : Str → Option Value) (base : Heap) (CB : Addr) : Prop := CalM P w K mg base CB "told" p_Basis_told 3 (spTold CB)
theorem put_call {l : Addr} {F : List (List Rat)} {row : List Rat} {m D X : Nat} (lim : Lim m D X) (rl : row.length = m) (rb : ∀ j, RB D X (row.getD j 0)) :
    SpR [l] (spPut CB) [eBas CB l, eQs row] (eB (!isp m F row)) (rB l m D X F) (rB l m D X (nxF m F row)) := fun vs ω Q E ha hr h1 h2 hk => ⟨BG.mk l F row m D X, ω, rfl, BG.Ok.mk lim rl rb, ha, satD1.mpr ⟨hr, h1, h2⟩, fun v ω' l d hv => hk v ω' l (satD1.mp d).1 hv⟩
theorem told_call {l : Addr} {F : List (List Rat)} {row : List Rat} {m D X : Nat} (lim : Lim m D X) (rl : row.length = m) (rb : ∀ j, RB D X (row.getD j 0)) :
    SpR [] (spTold CB) [eBas CB l, eQs row] (eTold m F row) (rB l m D X F) (rB l m D X F) := fun vs ω Q E ha hr h1 h2 hk => ⟨BG.mk l F row m D X, ω, rfl, BG.Ok.mk lim rl rb, ha, satD1.mpr ⟨hr, h1, h2⟩, fun v ω' l d hv => hk v ω' l (satD1.mp d).1 hv⟩
theorem cal_told (T : Txt K mg) (cB : Cls K CB) (nB : NoAttr K CB "_kept") (D : DefM K CB "told" "Basis.told" s_Basis_told) (c_Basis_left : BLeft P w K mg base CB) (c_lowest : Lowest P w K mg base) : BTold P w K mg base CB := by
  refine calM_of D sc_Basis_told (fun _ _ _ _ _ _ us hl => match us, hl with | [_, _], _ => rfl) (len_r fun _ => rfl) fun f cdv A outer s H E hr => ⟨_, (pss_cons (ps_asg (pe_calM c_Basis_left cB hr (pv 0) (pa_cons (pv 1) pa_nil)) (pg_tup rfl (pgs_cons (pg_name (i := 2) sc_Basis_told.nd rfl (Or.inl rfl)) (pgs_cons (pg_name (i := 3) sc_Basis_told.nd rfl (Or.inr rfl)) (pgs_cons (pg_name (i := 4) sc_Basis_told.nd rfl (Or.inl rfl)) pgs_nil)))))
 (Evl.pss_cut (ps_if (pt_val (pe_callB (cr_any rfl) (by rfl) T.any (by decide +kernel) (pa_cons (pe_lc (own := [("integer", 6)]) rfl sc_Basis_told.nd (pi_list (pv 2)) (blkOk_by (N := n_Basis_told) (sc := defScope s_Basis_told) (by decide +kernel)) (fun _ _ _ _ _ => (pg_name (i := 6) sc_Basis_told.nd rfl (Or.inl rfl))) (fun _ _ _ _ _ => pts_nil) (fun _ _ _ _ _ => (pe_cmpR op_ne (pv 6) pe_int (nomark _)))) pa_nil))) (pss_one (ps_ret pe_non)) pss_nil)
 (pss_one (ps_ret (pe_lc (own := [("share", 5)]) rfl sc_Basis_told.nd (pi_list (pv 4)) (blkOk_by (N := n_Basis_told) (sc := defScope s_Basis_told) (by decide +kernel)) (fun _ _ _ _ _ => (pg_name (i := 5) sc_Basis_told.nd rfl (Or.inl rfl))) (fun _ _ _ _ _ => pts_nil) (fun _ _ _ _ _ => (pe_cal c_lowest hr rfl (pa_cons (pe_un un_neg (pv 5)) (pa_cons (pv 3) pa_nil))))))))), body_r fun b ok ω Q d0 hQ => ?_⟩
  obtain ⟨l, F, row, m, D, X⟩ := b
  have lim : Lim m D X := ok.lim
  have rl : row.length = m := ok.rl
  have rb : ∀ j, RB D X (row.getD j 0) := ok.rb
  have hQ : ∀ v ω', LeX [] ω ω' → SatD [rB l m D X F] ω' → (eTold m F row).r v ω'.M → Q v ω'.H := hQ
  refine t_ex (ρ := rB l m D X F) (ρf := fun kp => rKp l kp) (P := fun kp => KOk m D X F kp) (fun ω h => h) (fun _ => rfl) fun kp kok => ?_
  have hF6 : F.length ≤ 6 := Nat.le_trans kok.le lim.m6
  have hm6 := lim.m6
  refine q_asgTA (C := []) (Δ1 := [rKp l kp]) (α := St3) (Γf := fun x => [some (eBas CB l), some (eQs row), some (eIs x.1), some (eI x.2.1), some (eIs x.2.2), none, none]) (ev_methR (k := 0) (ev_var rfl) (by decide) (ea_cons (ev_var rfl) ea_nil) (left_call lim kok rl rb) rfl (fun _ h => nomatch h) rfl (fun _ h => h) rfl) (fun x _ => tg_tup rfl (tgs_cons tg_name (tgs_cons tg_name (tgs_cons tg_name tgs_nil)))) fun x S => ?_
  obtain ⟨is, own, sh⟩ := x
  have S : LSt m F kp row F.length is own sh := S
  refine tr_cutP (∀ j, j < m → is.getD j 0 = 0) (As (bsS ω []) [some (eBas CB l), some (eQs row), some (eIs is), some (eI own), some (eIs sh), none, none] [rKp l kp]) ?_ (fun hz => ?_)
  · refine s_if (C := []) (et_B (ev_cb (ea_cons (ev_is (ev_lcL (xs := is) (φ := fun i => eI i) (ψ := fun i => eB (!decide (i = 0))) (ev_var rfl) (by rw [S.il]; omega) fun x hx => by walk_at "em") (e' := eLst ((is.map fun i => !decide (i = 0)).map eB)) (by rw [List.map_map]; rfl)) ea_nil) op_any)) (fun h => ?_) (fun h => s_next fun _ _ a => ⟨fun j hj => ?_, a⟩)
    rotate_left
    · have hjl : j < is.length := by rw [S.il]; exact hj
      have := List.any_eq_false.mp h _ (List.mem_map_of_mem (getD_mem 0 hjl))
      simpa using this
    refine s_ret (C := []) ev_c fun v ω' l d hv => hQ v ω' l (satB kok d) ?_
    have hns : ¬ InSpan m F row := fun hs => by
      obtain ⟨c, hc, h1⟩ := List.any_eq_true.mp h
      obtain ⟨x, hx, rfl⟩ := List.mem_map.mp hc
      obtain ⟨j, hj, e⟩ := mem_getD 0 hx
      have := zero_of kok S hs j (by rw [← S.il]; exact hj)
      rw [e] at this
      simp [this] at h1
    unfold eTold
    rw [isp_f.mpr hns]
    exact hv
  · have cf := cf_of S hz
    have hs : InSpan m F row := span_of S hz
    have q4 : ∀ s ∈ sh, Q4 (Rat.divInt (-s) own) := fun s hs => cf.q4 _ (List.mem_map_of_mem hs)
    refine s_ret (C := []) (ev_lcL (xs := sh) (φ := fun i => eI i) (ψ := fun s => eQ (Rat.divInt (-s) own)) (ev_var rfl) (by rw [S.sl]; omega) fun s hs => ev_call (ea_cons (ev_un (ev_var rfl) op_U) (ea_cons (ev_var rfl) ea_nil)) (ok_lowest rfl S.own0 (q4 s hs))) fun v ω' l d hv => hQ v ω' l (satB kok d) ?_
    unfold eTold
    rw [isp_t.mpr hs]
    refine ⟨_, cf, ?_⟩
    unfold eQs
    rw [List.map_map]
    exact hv

/-! ### made -/
abbrev s_Basis___init__ : Stmt := inClass (topS 19) 0
abbrev n_Basis___init__ : List Str := ["self"]
abbrev p_Basis___init__ : List Str := ["self"]
theorem sc_Basis___init__ : FnScope n_Basis___init__ p_Basis___init__ (defScope s_Basis___init__) := ⟨rfl, rfl, rfl, by decide +kernel, rfl, by decide +kernel, by decide +kernel⟩
abbrev BMake (P : Program) (w : World) (K : PySem.W.Frag) (mg : Str → Option Value) (base : Heap) (CB : Addr) : Prop := CalC P w K mg base "Basis" CB p_Basis___init__ 1 (spBI CB "_kept")
theorem cal_basis (T : Txt K mg) (cB : Cls K CB) (nB : NoAttr K CB "_kept") (D : DefC K mg "Basis" "Basis.__init__" CB s_Basis___init__) : BMake P w K mg base CB := by
  refine calC_of D sc_Basis___init__ (fun _ _ _ _ _ _ us hl => match us, hl with | [_], _ => rfl) (fun vs H Q E ⟨ω, x, dx, e, _⟩ => by rw [e]; rfl) fun f cdv A outer s H E hr => ⟨_, (pss_one (ps_fld (pv 0) (pe_lst pa_nil) rfl)), fun vs H Q E ⟨ω, x, dx, e1, e2, d, hQ⟩ => ?_⟩
  subst e1 e2
  obtain ⟨⟨fv, r1, r2, r3⟩, ra, rn⟩ := satD1.mp d
  refine ⟨Nat.zero_le _, fun l hl => ?_⟩
  have d1 := d.newL (p := l) (vs := []) (es := []) hl trivial
  have nl : x ≠ l := fun z => (ra x (List.mem_singleton.mpr rfl)).1 (by rw [z]; exact hl)
  have hM : (ω.mut l (.lst []) (Wo.free hl)).M x = none := (ra x (List.mem_singleton.mpr rfl)).2
  have e1 : (ω.mut l (.lst []) (Wo.free hl)).H x = some (.ins CB dx []) := by
    show upd ω.H l _ x = _
    rw [upd_ne nl, r1]
    match fv, r2 with
    | [], _ => rfl
  refine ⟨.ref x, rfl, x, CB, dx, [], rfl, e1, cB, nB, by decide, ?_⟩
  have l2 : LeX [x] (ω.mut l (.lst []) (Wo.free hl)) ((ω.mut l (.lst []) (Wo.free hl)).mut x (.ins CB dx (putF "_kept" (.ref l) [])) hM) := Wo.set_le hM
  exact hQ l _ ((Wo.mut_le hl).nil.trans l2) hl (d1.upd (k := 1) (ρ' := rO x CB dx ["_kept"] [eR l]) rfl l2 (fun _ h => h) rfl ⟨[.ref l], upd_same, rfl, rfl, trivial⟩)
end
end Tw

/-! signs.py, machines.py: what is checked, steps -/
namespace Tw
open PySem L2 PyProof.Rows

theorem op_leM {u v : List Nat} : Op2 (fun x y H Q => ∃ i j, x = .str i ∧ y = .str j ∧ Q (.bl (!decide (j.cps.toList < i.cps.toList))) H) (eM u) (eM v) (eB (!decide (v < u))) := fun x y ω Q hx hy k => ⟨tx u, tx v, hx, hy, k _ ω (LeX.refl _ _) rfl⟩
theorem op_ltM {u v : List Nat} : Op2 (fun x y H Q => ∃ i j, x = .str i ∧ y = .str j ∧ Q (.bl (decide (i.cps.toList < j.cps.toList))) H) (eM u) (eM v) (eB (decide (u < v))) := fun x y ω Q hx hy k => ⟨tx u, tx v, hx, hy, k _ ω (LeX.refl _ _) rfl⟩
theorem et_chain {C : List Addr} {Γ : List (Option En)} {Δ : List Rs} {r r' : R2} {ta tb tc : TE} {a b c : En} {k k' : Bool} (ha : Ev C ta Γ Δ a Δ) (hb : Ev C tb Γ Δ b Δ) (hr : Op2 r a b (eB k)) (hc : Ev C tc Γ Δ c Δ) (hr' : Op2 r' b c (eB k')) : EvT C (tTest (tChain r r' ta tb tc)) Γ Δ (k && k') Δ := et_test ⟨fun σ ω Q s d q =>
  ha.run σ ω _ s d fun x ω1 l1 d1 hx => hb.run σ ω1 _ (s.mono l1.m) d1 fun y ω2 l2 d2 hy => hr x y ω2 _ (a.mono _ _ _ l2.m hx) hy fun z ω3 l3 hz => ⟨k, hz, by
    cases k with
    | true =>
      rw [if_pos rfl]
      refine hc.run σ ω3 _ (((s.mono l1.m).mono l2.m).mono l3.m) (d2.le l3) fun v ω4 l4 d4 hv => hr' y v ω4 Q (b.mono _ _ _ l4.m (b.mono _ _ _ l3.m hy)) hv fun v' ω5 l5 hv' => q v' ω5 ((((l1.trans l2).trans l3.nil).trans l4).trans l5.nil) (d4.le l5) hv'
    | false =>
      rw [if_neg (fun z => nomatch z)]
      exact q _ ω3 ((l1.trans l2).trans l3.nil) (d2.le l3) rfl⟩⟩
theorem op_notInS (c : Nat) {z : Str} : Op2 (fun x y H Q => ∃ (c : Nat) (z : Str), x = .str ⟨#[c]⟩ ∧ y = .str z ∧ Q (.bl (!decide (c ∈ z.cps.toList))) H) (eM [c]) (eS z) (eB (!decide (c ∈ z.cps.toList))) := fun x y ω Q hx hy k => ⟨c, z, hx, hy, k _ ω (LeX.refl _ _) rfl⟩
abbrev letters : List Nat := "abcdefghijklmnopqrstuvwxyz".toList.map Char.toNat
structure SgOk (u : List Nat) : Prop where
  ne : u ≠ []
  up : u.Pairwise (· < ·)
  lt : ∀ c ∈ u, 97 ≤ c ∧ c ≤ 122
theorem SgOk.len {u : List Nat} (h : SgOk u) : u.length ≤ 26 := by
  have key : ∀ (u : List Nat) (a : Nat), u.Pairwise (· < ·) → (∀ c ∈ u, a ≤ c ∧ c ≤ 122) → u.length ≤ 123 - a := by
    intro u
    induction u with
    | nil => exact fun a _ _ => Nat.zero_le _
    | cons x u ih =>
      intro a hp hb
      obtain ⟨p1, p2⟩ := List.pairwise_cons.mp hp
      have := ih (x + 1) p2 fun c hc => ⟨p1 c hc, (hb c (List.mem_cons_of_mem _ hc)).2⟩
      have hx := hb x List.mem_cons_self
      rw [List.length_cons]
      omega
  have := key u 97 h.up h.lt
  omega
def lastM (u : List Nat) : Nat → List Nat
  | 0 => []
  | i + 1 => [u.getD i 0]
theorem lastM_lt {u : List Nat} (h : SgOk u) {i : Nat} (hi : i < u.length) : lastM u i < [u.getD i 0] := by
  cases i with
  | zero => exact List.nil_lt_cons _ _
  | succ i =>
    have : u.getD i 0 < u.getD (i + 1) 0 := by
      rw [getD_of_lt 0 hi, getD_of_lt 0 (by omega)]
      exact List.pairwise_iff_getElem.mp h.up i (i + 1) (by omega) hi (by omega)
    exact List.cons_lt_cons_iff.mpr (.inl this)
theorem in_letters {c : Nat} (h : 97 ≤ c ∧ c ≤ 122) : c ∈ (Str.ofString "abcdefghijklmnopqrstuvwxyz").cps.toList := by
  have : ∀ c : Fin 123, 97 ≤ c.val → c.val ∈ (Str.ofString "abcdefghijklmnopqrstuvwxyz").cps.toList := by decide +kernel
  exact this ⟨c, by omega⟩ h.1
section
variable {P : Program} {w : World} {K : PySem.W.Frag} {mg : Str → Option Value} {base : Heap}
abbrev s_checked_signs : Stmt := topS 22
abbrev n_checked_signs : List Str := ["signs", "last", "sign"]
abbrev p_checked_signs : List Str := ["signs"]
theorem sc_checked_signs : FnScope n_checked_signs p_checked_signs (defScope s_checked_signs) := ⟨rfl, rfl, rfl, by decide +kernel, rfl, by decide +kernel, by decide +kernel⟩
def spCheckedSigns : Sp := spFn (β := List Nat) (fun u => [eM u]) SgOk (fun _ => eN)
theorem ok_checked_signs {u : List Nat} (h : SgOk u) : SpOk spCheckedSigns [eM u] eN := spFn_ok (β := List Nat) u h
abbrev CheckedSigns (P : Program) (w : World) (K : PySem.W.Frag) (mg : Str → Option Value) (base : Heap) : Prop := Cal P w K mg base "checked_signs" p_checked_signs 1 spCheckedSigns
theorem cal_checked_signs (T : Txt K mg) (D : DefAt K mg "checked_signs" s_checked_signs) : CheckedSigns P w K mg base := by
  obtain ⟨tL, hL⟩ := T.mgLETTERS
  refine cal_of D sc_checked_signs (fun _ _ _ _ _ _ us hl => match us, hl with | [_], _ => rfl) (len_fn fun _ => rfl) fun f cdv A outer s H E hr => ⟨_, (pss_cons (ps_set (i := 1) sc_checked_signs.nd rfl (Or.inl rfl) pe_str)
 (pss_cons (ps_for PassesOwn.never rfl (pi_str (pv 0)) (pg_name (i := 2) sc_checked_signs.nd rfl (Or.inl rfl))
 (Evl.pss_cut (ps_if (PW.pt (pw_or (pt_cmpR op_notIn_sign (pv 2) (pe_glob (v := .str "abcdefghijklmnopqrstuvwxyz") rfl hL ⟨_, rfl⟩) (by rfl)) (pw_or1 (pt_cmpR op_le_str (pv 2) (pv 1) (nomark _))))) (pss_one ps_never) pss_nil)
 (pss_one (ps_set (i := 1) sc_checked_signs.nd rfl (Or.inl rfl) (pv 2)))))
 (pss_one (ps_if (pt_cmpR op_eq (pv 0) pe_str (nomark _)) (pss_one ps_never) pss_nil)))), body_fn fun u ok ω Q hQ => ?_⟩
  have ok : SgOk u := ok
  refine q_asg (C := []) (e := eM []) ev_c ?_
  refine q_for (C := []) (β := Unit) (fun _ _ => True) (fun i _ => [some (eM u), some (eM (lastM u i)), none]) (fun i _ => [some (eM u), some (eM (lastM u i)), some (eM [u.getD i 0])]) (fun _ _ => []) (it_msg (ev_var rfl)) ?_ (fun _ _ _ _ => tg_name) (fun m i _ hi _ => ?_) (fun _ _ => ?_)
  · exact ⟨(), trivial, ⟨rfl, rfl, trivial⟩, rfl⟩
  · refine tr_cut (As ((bs0 ω).at m) [some (eM u), some (eM (lastM u i)), some (eM [u.getD i 0])] []) ?_ ?_
    · refine s_if (C := []) (c := false) (et_is (et_or (c := false) (et_is (et_test (ev_op (ev_var rfl) ev_c (op_notInS (u.getD i 0)))) ?_) fun _ => et_test (ev_op (ev_var rfl) (ev_var rfl) op_leM)) ?_) (fun h => nomatch h) (fun _ => s_next fun _ _ h => h)
      · rw [decide_eq_true (in_letters (ok.lt _ (getD_mem 0 hi)))]
        rfl
      · rw [decide_eq_true (lastM_lt ok hi)]
        rfl
    · refine s_asg (C := []) (ev_var rfl) (lp_mk () trivial rfl ?_)
      exact ⟨rfl, rfl, trivial⟩
  · refine s_if (C := []) (c := false) (et_is (et_test (ev_op (ev_var rfl) (e := eB (decide (u = []))) ev_c op_eqM)) (decide_eq_false ok.ne)) (fun h => nomatch h) (fun _ => ?_)
    exact s_next fun σ H ⟨ω', e1, l, _⟩ => by
      subst e1
      exact hQ .non ω' l rfl
end
end Tw

/-! machines.py: steps -/
namespace Tw
open PySem L2 PyProof.Rows

abbrev Road := Nat × Nat × Nat × Rat
def edsR (roads : List Road) (s : Nat) : List Edge := roads.filterMap fun r => if r.2.1 = s then some (r.1, r.2.2.1, r.2.2.2) else none
theorem edsR_snoc (roads : List Road) (r : Road) (s : Nat) : edsR (roads ++ [r]) s = if r.2.1 = s then edsR roads s ++ [(r.1, r.2.2.1, r.2.2.2)] else edsR roads s := by
  unfold edsR
  rw [List.filterMap_append]
  split
  · rename_i h
    rw [List.filterMap_cons, if_pos h]
    rfl
  · rename_i h
    rw [List.filterMap_cons, if_neg h]
    exact List.append_nil _
theorem mem_edsR {roads : List Road} {s : Nat} {e : Edge} (h : e ∈ edsR roads s) : (e.1, s, e.2.1, e.2.2) ∈ roads := by
  obtain ⟨r, hr, h2⟩ := List.mem_filterMap.mp h
  split at h2
  · rename_i q
    cases h2
    rw [← q]
    exact hr
  · cases h2
def lcmS (roads : List Road) (s : Nat) : Nat := lcmR ((edsR roads s).map fun e => e.2.2)
abbrev Stp := Nat × Nat × Int
def stE (es : List Edge) (S : Nat) : List Stp := (es.filter fun e => !decide (e.2.2.num = 0)).map fun e => (e.1, e.2.1, e.2.2.num * ((S : Nat) : Int).fdiv (e.2.2.den : Int))
theorem stE_snoc (es : List Edge) (e : Edge) (S : Nat) : stE (es ++ [e]) S = if e.2.2.num = 0 then stE es S else stE es S ++ [(e.1, e.2.1, e.2.2.num * ((S : Nat) : Int).fdiv (e.2.2.den : Int))] := by
  unfold stE
  rw [List.filter_append, List.map_append]
  split
  · rename_i h
    rw [List.filter_cons, if_neg (by simp [h])]
    exact List.append_nil _
  · rename_i h
    rw [List.filter_cons, if_pos (by simp [h])]
    rfl
theorem stE_swp (es : List Edge) (S : Nat) : (stE es S).map (fun e => (e.2.1, e.1, e.2.2)) = stE (swp es) S := by
  unfold stE swp
  rw [List.filter_map, List.map_map, List.map_map]
  rfl
/-- what comes to j over whole steps -/
def stI : List Stp → (Nat → Int) → Nat → Int
  | [], _, _ => 0
  | e :: r, v, j => (if e.2.1 = j then v e.1 * e.2.2 else 0) + stI r v j
def bhA (iz : List Int) (st : List Stp) (acc : List Int) : List Int := st.foldl (fun f e => if iz.getD e.1 0 = 0 then f else f.set e.2.1 (f.getD e.2.1 0 + iz.getD e.1 0 * e.2.2)) acc
def bh (st : List Stp) (iz : List Int) : List Int := bhA iz st (List.replicate iz.length 0)
theorem bhA_snoc (iz : List Int) (st : List Stp) (e : Stp) (acc : List Int) : bhA iz (st ++ [e]) acc = if iz.getD e.1 0 = 0 then bhA iz st acc else (bhA iz st acc).set e.2.1 ((bhA iz st acc).getD e.2.1 0 + iz.getD e.1 0 * e.2.2) := by
  unfold bhA
  rw [List.foldl_append]
  rfl
theorem bhA_cons (iz : List Int) (st : List Stp) (e : Stp) (acc : List Int) : bhA iz (e :: st) acc = bhA iz st (if iz.getD e.1 0 = 0 then acc else acc.set e.2.1 (acc.getD e.2.1 0 + iz.getD e.1 0 * e.2.2)) := rfl
theorem bhA_len (iz : List Int) : ∀ (st : List Stp) (acc : List Int), (bhA iz st acc).length = acc.length
  | [], _ => rfl
  | e :: st, acc => by
    rw [bhA_cons, bhA_len iz st]
    split
    · rfl
    · rw [List.length_set]
theorem getD_set {xs : List Int} {i j : Nat} {v : Int} (h : i < xs.length) : (xs.set i v).getD j 0 = if i = j then v else xs.getD j 0 := by
  rw [List.getD_eq_getElem?_getD, List.getElem?_set]
  split
  · rename_i e
    simp [h, e]
  · rw [List.getD_eq_getElem?_getD]
theorem bhA_at (iz : List Int) : ∀ (st : List Stp) (acc : List Int) (j : Nat), (∀ e ∈ st, e.2.1 < acc.length) → (bhA iz st acc).getD j 0 = acc.getD j 0 + stI st (fun i => iz.getD i 0) j
  | [], acc, j, _ => by show _ = _ + 0; rw [Int.add_zero]; rfl
  | e :: st, acc, j, h => by
    show _ = acc.getD j 0 + ((if e.2.1 = j then iz.getD e.1 0 * e.2.2 else 0) + _)
    rw [bhA_cons]
    by_cases q : iz.getD e.1 0 = 0
    · rw [if_pos q, bhA_at iz st acc j fun x hx => h x (List.mem_cons_of_mem _ hx), q]
      split <;> omega
    · rw [if_neg q, bhA_at iz st _ j fun x hx => by rw [List.length_set]; exact h x (List.mem_cons_of_mem _ hx), getD_set (h e List.mem_cons_self)]
      split
      · rename_i e1
        rw [e1]
        omega
      · omega
theorem bh_len (st : List Stp) (iz : List Int) : (bh st iz).length = iz.length := by unfold bh; rw [bhA_len, List.length_replicate]
theorem bh_at {st : List Stp} {iz : List Int} (h : ∀ e ∈ st, e.2.1 < iz.length) (j : Nat) : (bh st iz).getD j 0 = stI st (fun i => iz.getD i 0) j := by
  unfold bh
  rw [bhA_at iz st _ j fun e he => by rw [List.length_replicate]; exact h e he, List.getD_eq_getElem?_getD, List.getElem?_replicate]
  split <;> exact Int.zero_add _
theorem stI_eq {L S : Nat} {v : Nat → Int} {r : Nat → Rat} : ∀ {es : List Edge} {j : Nat}, (∀ e ∈ es, e.2.2.den ∣ S) → (∀ i, ((v i : Int) : Rat) = (L : Rat) * r i) → ((stI (stE es S) v j : Int) : Rat) = (L : Rat) * (S : Rat) * stepF es r j
  | [], j, _, _ => by show ((0 : Int) : Rat) = _ * 0; grind
  | e :: es, j, hd, hv => by
    have ih := stI_eq (es := es) (j := j) (fun x hx => hd x (List.mem_cons_of_mem _ hx)) hv
    have e0 : stE (e :: es) S = if e.2.2.num = 0 then stE es S else (e.1, e.2.1, e.2.2.num * ((S : Nat) : Int).fdiv (e.2.2.den : Int)) :: stE es S := by
      unfold stE
      split
      · rename_i h
        rw [List.filter_cons, if_neg (by simp [h])]
      · rename_i h
        rw [List.filter_cons, if_pos (by simp [h])]
        rfl
    show _ = _ * ((if e.2.1 = j then r e.1 * e.2.2 else 0) + stepF es r j)
    rw [e0]
    split
    · rename_i h
      rw [ih, num0 h]
      split <;> grind
    · show (((if e.2.1 = j then v e.1 * (e.2.2.num * ((S : Nat) : Int).fdiv (e.2.2.den : Int)) else 0) + stI (stE es S) v j : Int) : Rat) = _
      rw [Rat.intCast_add, ih]
      split
      · have h1 := fd_num (hd e List.mem_cons_self)
        have h2 := mul_den e.2.2
        rw [Rat.intCast_mul, Rat.intCast_mul, hv, ← h2]
        grind
      · show ((0 : Int) : Rat) + _ = _
        grind
def eRd (r : Road) : En := eTup [eI (r.1 : Int), eM [r.2.1], eI (r.2.2.1 : Int), eQ r.2.2.2]
def eStp (e : Stp) : En := eTup [eI (e.1 : Int), eI (e.2.1 : Int), eI e.2.2]
section
variable {P : Program} {w : World} {K : PySem.W.Frag} {mg : Str → Option Value} {base : Heap}
abbrev s_checked_sign : Stmt := topS 23
abbrev n_checked_sign : List Str := ["sign", "signs"]
abbrev p_checked_sign : List Str := ["sign", "signs"]
theorem sc_checked_sign : FnScope n_checked_sign p_checked_sign (defScope s_checked_sign) := ⟨rfl, rfl, rfl, by decide +kernel, rfl, by decide +kernel, by decide +kernel⟩
def spCheckedSign : Sp := spFn (β := Nat × List Nat) (fun b => [eM [b.1], eM b.2]) (fun b => b.1 ∈ b.2) (fun _ => eN)
theorem ok_checked_sign {c : Nat} {u : List Nat} (h : c ∈ u) : SpOk spCheckedSign [eM [c], eM u] eN := spFn_ok (β := Nat × List Nat) (c, u) h
abbrev CheckedSign (P : Program) (w : World) (K : PySem.W.Frag) (mg : Str → Option Value) (base : Heap) : Prop := Cal P w K mg base "checked_sign" p_checked_sign 1 spCheckedSign
theorem end_none {ω : Wo} {Q : VK} {Γ : List (Option En)} {Δ : List Rs} (hQ : ∀ v ω', LeX [] ω ω' → (eN).r v ω'.M → Q v ω'.H) : ∀ σ H, As (bs0 ω) Γ Δ σ H → (endsOf Q).nx σ H := fun σ H ⟨ω', e1, l, _⟩ => by
  subst e1
  exact hQ .non ω' l rfl
theorem cal_checked_sign (T : Txt K mg) (D : DefAt K mg "checked_sign" s_checked_sign) : CheckedSign P w K mg base := by
  refine cal_of D sc_checked_sign (fun _ _ _ _ _ _ us hl => match us, hl with | [_, _], _ => rfl) (len_fn fun _ => rfl) fun f cdv A outer s H E hr => ⟨_, (pss_one (ps_if (PW.pt (pw_or (pt_cmpR op_ne (pe_callB call_len_str (by rfl) T.len (by decide +kernel) (pa_cons (pv 0) pa_nil)) pe_int (nomark _)) (pw_or1 (pt_cmpR op_notIn_sign (pv 0) (pv 1) (by rfl))))) (pss_one ps_never) pss_nil)), body_fn fun ⟨c, u⟩ h ω Q hQ => ?_⟩
  have h : c ∈ u := h
  refine s_if (C := []) (c := false) (et_is (et_or (c := false) (et_is (et_test (ev_op (ev_cb (ea_cons (ev_var rfl) ea_nil) (op_lenS (u := [c]) (Nat.le_of_ble_eq_true rfl))) ev_c op_neI)) rfl) fun _ => et_test (ev_op (ev_var rfl) (ev_var rfl) op_notInM)) ?_) (fun h => nomatch h) (fun _ => s_next (end_none hQ))
  rw [decide_eq_true h]
  rfl
structure Mach.Fit (m : Mach) : Prop where
  ok : m.Ok
  sg : SgOk m.signs
  n100 : m.n ≤ 100
  rl : m.roads.length ≤ 1000
  q4 : ∀ r ∈ m.roads, Q4 r.2.2.2
  x : ∀ s, ∃ X, 0 < X ∧ X < 2 ^ 12000 ∧ ∀ e ∈ m.eds s, e.2.2.den ∣ X
abbrev s_checked_machine : Stmt := topS 27
abbrev n_checked_machine : List Str := ["signs", "begin", "roads", "end", "number", "road"]
abbrev p_checked_machine : List Str := ["signs", "begin", "roads", "end"]
theorem sc_checked_machine : FnScope n_checked_machine p_checked_machine (defScope s_checked_machine) := ⟨rfl, rfl, rfl, by decide +kernel, rfl, by decide +kernel, by decide +kernel⟩
abbrev eMa (m : Mach) : List En := [eM m.signs, eQs m.bg, eLst (m.roads.map eRd), eQs m.en]
def spCheckedMachine : Sp := spFn (β := Mach) eMa Mach.Fit (fun _ => eN)
theorem ok_checked_machine {m : Mach} (h : m.Fit) : SpOk spCheckedMachine (eMa m) eN := spFn_ok (β := Mach) m h
abbrev CheckedMachine (P : Program) (w : World) (K : PySem.W.Frag) (mg : Str → Option Value) (base : Heap) : Prop := Cal P w K mg base "checked_machine" p_checked_machine 3 spCheckedMachine
theorem cal_checked_machine (T : Txt K mg) (D : DefAt K mg "checked_machine" s_checked_machine) (c_checked_signs : CheckedSigns P w K mg base) (c_checked : Checked P w K mg base) (c_checked_sign : CheckedSign P w K mg base) : CheckedMachine P w K mg base := by
  refine cal_of D sc_checked_machine (fun _ _ _ _ _ _ us hl => match us, hl with | [_, _, _, _], _ => rfl) (len_fn fun _ => rfl) fun f cdv A outer s H E hr => ⟨_, (pss_cons (ps_expr (pe_cal c_checked_signs hr rfl (pa_cons (pv 0) pa_nil)))
 (pss_cons (ps_for PassesOwn.never rfl (pi_list (pv 1)) (pg_name (i := 4) sc_checked_machine.nd rfl (Or.inl rfl))
 (pss_one (ps_expr (pe_cal c_checked hr rfl (pa_cons (pv 4) pa_nil)))))
 (pss_cons (ps_for PassesOwn.never rfl (pi_list (pv 2)) (pg_name (i := 5) sc_checked_machine.nd rfl (Or.inl rfl))
 (pss_one (ps_expr (pe_cal c_checked hr rfl (pa_cons (pe_ix ix_tup (pv 5) pe_int (fun _ _ => rfl)) pa_nil)))))
 (pss_cons (ps_for PassesOwn.never rfl (pi_list (pv 3)) (pg_name (i := 4) sc_checked_machine.nd rfl (Or.inl rfl))
 (pss_one (ps_expr (pe_cal c_checked hr rfl (pa_cons (pv 4) pa_nil)))))
 (pss_cons (ps_for PassesOwn.never rfl (pi_list (pv 2)) (pg_name (i := 5) sc_checked_machine.nd rfl (Or.inl rfl))
 (Evl.pss_cut (ps_if (pt_not (pt_chain op_le op_lt pe_int (pe_ix ix_tup (pv 5) pe_int (fun _ _ => rfl)) (pe_callB call_len_seq (by rfl) T.len (by decide +kernel) (pa_cons (pv 1) pa_nil)))) (pss_one ps_never) pss_nil)
 (pss_cons (ps_expr (pe_cal c_checked_sign hr rfl (pa_cons (pe_ix ix_tup (pv 5) pe_int (fun _ _ => rfl)) (pa_cons (pv 0) pa_nil))))
 (pss_one (ps_if (pt_not (pt_chain op_le op_lt pe_int (pe_ix ix_tup (pv 5) pe_int (fun _ _ => rfl)) (pe_callB call_len_seq (by rfl) T.len (by decide +kernel) (pa_cons (pv 1) pa_nil)))) (pss_one ps_never) pss_nil)))))
 (pss_one (ps_if (pt_cmpR op_ne (pe_callB call_len_seq (by rfl) T.len (by decide +kernel) (pa_cons (pv 1) pa_nil)) (pe_callB call_len_seq (by rfl) T.len (by decide +kernel) (pa_cons (pv 3) pa_nil)) (nomark _)) (pss_one ps_never) pss_nil))))))), body_fn fun m F ω Q hQ => ?_⟩
  have F : m.Fit := F
  refine q_drop (C := []) (ev_call (ea_cons (ev_var rfl) ea_nil) (ok_checked_signs F.sg)) ?_
  refine q_for (C := []) (β := Unit) (fun _ _ => True) (fun i _ => [some (eM m.signs), some (eQs m.bg), some (eLst (m.roads.map eRd)), some (eQs m.en), none, none]) (fun i _ => [some (eM m.signs), some (eQs m.bg), some (eLst (m.roads.map eRd)), some (eQs m.en), some (itm (m.bg.map eQ) i), none]) (fun _ _ => []) (it_list (ev_var rfl)) ?_ (fun _ _ _ _ => tg_name) (fun mm i _ hi _ => ?_) (fun _ _ => ?_)
  · exact ⟨(), trivial, ⟨rfl, rfl, rfl, rfl, trivial⟩, rfl⟩
  · rw [itm_map 0 (by rwa [List.length_map] at hi)]
    refine s_drop (C := []) (ev_call (ea_cons (ev_var rfl) ea_nil) ok_checked) (lp_mk () trivial rfl ?_)
    exact ⟨rfl, rfl, rfl, rfl, trivial⟩
  refine q_for (C := []) (β := Unit) (fun _ _ => True) (fun i _ => [some (eM m.signs), some (eQs m.bg), some (eLst (m.roads.map eRd)), some (eQs m.en), none, none]) (fun i _ => [some (eM m.signs), some (eQs m.bg), some (eLst (m.roads.map eRd)), some (eQs m.en), none, some (itm (m.roads.map eRd) i)]) (fun _ _ => []) (it_list (ev_var rfl)) ?_ (fun _ _ _ _ => tg_name) (fun mm i _ hi _ => ?_) (fun _ _ => ?_)
  · exact ⟨(), trivial, ⟨rfl, rfl, rfl, rfl, trivial⟩, rfl⟩
  · rw [itm_map (0, 0, 0, 0) (by rwa [List.length_map] at hi)]
    generalize m.roads.getD i (0, 0, 0, 0) = r
    refine s_drop (C := []) (ev_call (ea_cons (ev_op (ev_is (ev_var rfl) (show eRd r = _ from rfl)) ev_c op_t3) ea_nil) ok_checked) (lp_mk () trivial rfl ?_)
    exact ⟨rfl, rfl, rfl, rfl, trivial⟩
  refine q_for (C := []) (β := Unit) (fun _ _ => True) (fun i _ => [some (eM m.signs), some (eQs m.bg), some (eLst (m.roads.map eRd)), some (eQs m.en), none, none]) (fun i _ => [some (eM m.signs), some (eQs m.bg), some (eLst (m.roads.map eRd)), some (eQs m.en), some (itm (m.en.map eQ) i), none]) (fun _ _ => []) (it_list (ev_var rfl)) ?_ (fun _ _ _ _ => tg_name) (fun mm i _ hi _ => ?_) (fun _ _ => ?_)
  · exact ⟨(), trivial, ⟨rfl, rfl, rfl, rfl, trivial⟩, rfl⟩
  · rw [itm_map 0 (by rwa [List.length_map] at hi)]
    refine s_drop (C := []) (ev_call (ea_cons (ev_var rfl) ea_nil) ok_checked) (lp_mk () trivial rfl ?_)
    exact ⟨rfl, rfl, rfl, rfl, trivial⟩
  refine q_for (C := []) (β := Unit) (fun _ _ => True) (fun i _ => [some (eM m.signs), some (eQs m.bg), some (eLst (m.roads.map eRd)), some (eQs m.en), none, none]) (fun i _ => [some (eM m.signs), some (eQs m.bg), some (eLst (m.roads.map eRd)), some (eQs m.en), none, some (itm (m.roads.map eRd) i)]) (fun _ _ => []) (it_list (ev_var rfl)) ?_ (fun _ _ _ _ => tg_name) (fun mm i _ hi _ => ?_) (fun _ _ => ?_)
  · exact ⟨(), trivial, ⟨rfl, rfl, rfl, rfl, trivial⟩, rfl⟩
  · rw [List.length_map] at hi
    rw [itm_map (0, 0, 0, 0) hi]
    have hr := F.ok.rd _ (getD_mem (0, 0, 0, 0) hi)
    generalize m.roads.getD i (0, 0, 0, 0) = r at hr
    obtain ⟨h1, h2, h3⟩ := hr
    have h1 : r.1 < m.bg.length := h1
    have h3 : r.2.2.1 < m.bg.length := h3
    refine tr_cut (As ((bs0 ω).at mm) [some (eM m.signs), some (eQs m.bg), some (eLst (m.roads.map eRd)), some (eQs m.en), none, some (eRd r)] []) ?_ ?_
    · refine s_if (C := []) (c := false) (et_is (et_not (et_chain ev_c (ev_op (ev_is (ev_var rfl) (show eRd r = _ from rfl)) ev_c op_t0) op_I0 (ev_cb (ea_cons (ev_var rfl) ea_nil) op_lenL) op_I0)) ?_) (fun h => nomatch h) (fun _ => s_next fun _ _ h => h)
      rw [List.length_map, decide_eq_true (by omega), decide_eq_true (by omega)]
      rfl
    refine q_drop (C := []) (ev_call (ea_cons (ev_op (ev_is (ev_var rfl) (show eRd r = _ from rfl)) ev_c op_t1) (ea_cons (ev_var rfl) ea_nil)) (ok_checked_sign h2)) ?_
    refine s_if (C := []) (c := false) (et_is (et_not (et_chain ev_c (ev_op (ev_is (ev_var rfl) (show eRd r = _ from rfl)) ev_c op_t2) op_I0 (ev_cb (ea_cons (ev_var rfl) ea_nil) op_lenL) op_I0)) ?_) (fun h => nomatch h) (fun _ => s_next (lp_mk () trivial rfl ?_))
    · rw [List.length_map, decide_eq_true (by omega), decide_eq_true (by omega)]
      rfl
    · exact ⟨rfl, rfl, rfl, rfl, trivial⟩
  refine s_if (C := []) (c := false) (et_is (et_test (ev_op (ev_cb (ea_cons (ev_var rfl) ea_nil) op_lenL) (ev_cb (ea_cons (ev_var rfl) ea_nil) op_lenL) op_neI)) ?_) (fun h => nomatch h) (fun _ => s_next (end_none hQ))
  rw [List.length_map, List.length_map, F.ok.el, show m.n = m.bg.length from rfl, decide_eq_true rfl]
  rfl
end
end Tw

/-! machines.py: steps_of, integers_behind, the machine, stepped -/
namespace Tw
open PySem L2 PyProof.Rows

theorem take_map {α β : Type} (f : α → β) (xs : List α) (i : Nat) : (xs.map f).take i = (xs.take i).map f := List.map_take.symm
theorem edsR_take {roads : List Road} {s : Nat} {i : Nat} {e : Edge} (h : e ∈ edsR (roads.take i) s) : e ∈ edsR roads s := by
  obtain ⟨r, hr, h2⟩ := List.mem_filterMap.mp h
  exact List.mem_filterMap.mpr ⟨r, List.mem_of_mem_take hr, h2⟩
theorem lcmS_pos (roads : List Road) (s : Nat) : 0 < lcmS roads s := lcmR_pos _
theorem lcmS_lt {roads : List Road} {s X : Nat} (h0 : 0 < X) (h1 : X < 2 ^ 12000) (h : ∀ e ∈ edsR roads s, e.2.2.den ∣ X) (i : Nat) : lcmS (roads.take i) s < 2 ^ 12000 := by
  refine Nat.lt_of_le_of_lt (Nat.le_of_dvd h0 (lcmR_dvd fun q hq => ?_)) h1
  obtain ⟨e, he, rfl⟩ := List.mem_map.mp hq
  exact h e (edsR_take he)
theorem lcmS_den {roads : List Road} {s : Nat} {e : Edge} (h : e ∈ edsR roads s) : e.2.2.den ∣ lcmS roads s := den_lcmR (List.mem_map_of_mem h)
theorem lcmS_snoc (roads : List Road) (r : Road) (s : Nat) : lcmS (roads ++ [r]) s = if r.2.1 = s then Nat.lcm (lcmS roads s) r.2.2.2.den else lcmS roads s := by
  unfold lcmS
  rw [edsR_snoc]
  split
  · rw [List.map_append]
    exact lcmR_snoc _ _
  · rfl
theorem eqM1 {c d : Nat} : decide ([c] = [d]) = decide (c = d) := by
  by_cases h : c = d
  · rw [decide_eq_true h, decide_eq_true (by rw [h])]
  · rw [decide_eq_false h, decide_eq_false (fun z => h (List.cons.inj z).1)]
structure RdOk (roads : List Road) (s : Nat) : Prop where
  rl : roads.length ≤ 1000
  q4 : ∀ r ∈ roads, Q4 r.2.2.2
  x : ∃ X, 0 < X ∧ X < 2 ^ 12000 ∧ ∀ e ∈ edsR roads s, e.2.2.den ∣ X
abbrev stR (roads : List Road) (s : Nat) : List Stp := stE (edsR roads s) (lcmS roads s)
def eSts (roads : List Road) (s : Nat) : En := eTup [eLst ((stR roads s).map eStp), eI (lcmS roads s : Int)]
section
variable {P : Program} {w : World} {K : PySem.W.Frag} {mg : Str → Option Value} {base : Heap}
abbrev s_steps_of : Stmt := topS 28
abbrev n_steps_of : List Str := ["roads", "sign", "below", "road", "steps", "state", "other", "behind", "number"]
abbrev p_steps_of : List Str := ["roads", "sign"]
theorem sc_steps_of : FnScope n_steps_of p_steps_of (defScope s_steps_of) := ⟨rfl, rfl, rfl, by decide +kernel, rfl, by decide +kernel, by decide +kernel⟩
def spStepsOf : Sp := spFn (β := List Road × Nat) (fun b => [eLst (b.1.map eRd), eM [b.2]]) (fun b => RdOk b.1 b.2) (fun b => eSts b.1 b.2)
theorem ok_steps_of {roads : List Road} {s : Nat} (h : RdOk roads s) : SpOk spStepsOf [eLst (roads.map eRd), eM [s]] (eSts roads s) := spFn_ok (β := List Road × Nat) (roads, s) h
abbrev StepsOf (P : Program) (w : World) (K : PySem.W.Frag) (mg : Str → Option Value) (base : Heap) : Prop := Cal P w K mg base "steps_of" p_steps_of 1 spStepsOf
theorem cal_steps_of (T : Txt K mg) (D : DefAt K mg "steps_of" s_steps_of) : StepsOf P w K mg base := by
  refine cal_of D sc_steps_of (fun _ _ _ _ _ _ us hl => match us, hl with | [_, _], _ => rfl) (len_fn fun _ => rfl) fun f cdv A outer s H E hr => ⟨_, (pss_cons (ps_set (i := 2) sc_steps_of.nd rfl (Or.inl rfl) pe_int)
 (pss_cons (ps_for PassesOwn.never rfl (pi_list (pv 0)) (pg_name (i := 3) sc_steps_of.nd rfl (Or.inl rfl))
 (pss_one (ps_if (pt_cmpR op_eq (pe_ix ix_tup (pv 3) pe_int (fun _ _ => rfl)) (pv 1) (nomark _)) (pss_one (ps_set (i := 2) sc_steps_of.nd rfl (Or.inl rfl) (pe_callBfun cr_lcm rfl T.mg_lcm (pa_cons (pv 2) (pa_cons (pe_ix ix_tup (pe_ix ix_tup (pv 3) pe_int (fun _ _ => rfl)) pe_int (fun _ _ => rfl)) pa_nil))))) pss_nil)))
 (pss_cons (ps_set (i := 4) sc_steps_of.nd rfl (Or.inl rfl) (pe_lst pa_nil))
 (pss_cons (ps_for PassesOwn.never rfl (pi_list (pv 0)) (pg_tup rfl (pgs_cons (pg_name (i := 5) sc_steps_of.nd rfl (Or.inl rfl)) (pgs_cons (pg_name (i := 6) sc_steps_of.nd rfl (Or.inl rfl)) (pgs_cons (pg_name (i := 7) sc_steps_of.nd rfl (Or.inl rfl)) (pgs_cons (pg_name (i := 8) sc_steps_of.nd rfl (Or.inl rfl)) pgs_nil)))))
 (pss_one (ps_if (PW.pt (pw_and (pt_cmpR op_eq (pv 6) (pv 1) (nomark _)) (pw_and1 (pt_cmpR op_ne (pe_ix ix_tup (pv 8) pe_int (fun _ _ => rfl)) pe_int (nomark _))))) (pss_one (ps_expr (pe_bm PySem.F.plainAttrs_list PySem.F.slot_list_append PySem.F.type_list_append mt_append (pv 4) (pa_cons (pe_tup (pa_cons (pv 5) (pa_cons (pv 7) (pa_cons (pe_op op_mulX (pe_ix ix_tup (pv 8) pe_int (fun _ _ => rfl)) (pe_op op_fdivX (pv 2) (pe_ix ix_tup (pv 8) pe_int (fun _ _ => rfl)))) pa_nil)))) pa_nil)))) pss_nil)))
 (pss_one (ps_ret (pe_tup (pa_cons (pv 4) (pa_cons (pv 2) pa_nil))))))))), body_fn fun ⟨roads, s⟩ R ω Q hQ => ?_⟩
  have R : RdOk roads s := R
  obtain ⟨X, x0, x1, x2⟩ := R.x
  have hS := lcmS_lt x0 x1 x2
  refine q_asg (C := []) (e := eI (lcmS (roads.take 0) s : Int)) ev_c ?_
  refine q_for (C := []) (β := Unit) (fun _ _ => True) (fun i _ => [some (eLst (roads.map eRd)), some (eM [s]), some (eI (lcmS (roads.take i) s : Int)), none, none, none, none, none, none]) (fun i _ => [some (eLst (roads.map eRd)), some (eM [s]), some (eI (lcmS (roads.take i) s : Int)), some (itm (roads.map eRd) i), none, none, none, none, none]) (fun _ _ => []) (it_list (ev_var rfl)) ?_ (fun _ _ _ _ => tg_name) (fun m i _ hi _ => ?_) (fun _ _ => ?_)
  · exact ⟨(), trivial, ⟨rfl, rfl, rfl, trivial⟩, rfl⟩
  · rw [List.length_map] at hi
    rw [itm_map (0, 0, 0, 0) hi]
    have hr := R.q4 _ (getD_mem (0, 0, 0, 0) hi)
    have et := take_getD (0, 0, 0, 0) hi
    generalize roads.getD i (0, 0, 0, 0) = r at hr et
    refine s_if (C := []) (et_is (et_test (ev_op (ev_op (ev_is (ev_var rfl) (show eRd r = _ from rfl)) ev_c op_t1) (ev_var rfl) op_eqM)) eqM1) (fun h => ?_) (fun h => s_next (lp_mk () trivial rfl ?_))
    · have h := of_decide_eq_true h
      refine s_asg (C := []) (e := eI (lcmS (roads.take (i + 1)) s : Int)) ?_ (lp_mk () trivial rfl ?_)
      · rw [et, lcmS_snoc, if_pos h]
        refine ev_cb (ea_cons (ev_var rfl) (ea_cons (ev_op (ev_op (ev_is (ev_var rfl) (show eRd r = _ from rfl)) ev_c op_t3) ev_c op_t1) ea_nil)) (op_lcm ?_ ?_)
        · exact natm (pw_mono (hS i) (by decide))
        · exact natm (pw_mono hr.2 (by decide))
      · exact ⟨rfl, rfl, rfl, trivial⟩
    · have h := of_decide_eq_false h
      refine ⟨rfl, rfl, ?_, trivial⟩
      rw [et, lcmS_snoc, if_neg h]
  rw [List.length_map, List.take_of_length_le (Nat.le_refl _)]
  have hS' : lcmS roads s < 2 ^ 12000 := by
    have := hS roads.length
    rwa [List.take_of_length_le (Nat.le_refl _)] at this
  refine q_asgX (ex_lst ea_nil (Nat.zero_le _)) fun p hp => ?_
  have hp : ω.H p = none := hp p List.mem_cons_self
  refine q_for (C := []) (β := Unit) (fun _ _ => True) (fun i _ => [some (eLst (roads.map eRd)), some (eM [s]), some (eI (lcmS roads s : Int)), none, some (eR p), none, none, none, none]) (fun i _ => [some (eLst (roads.map eRd)), some (eM [s]), some (eI (lcmS roads s : Int)), none, some (eR p), some (eI ((roads.getD i (0, 0, 0, 0)).1 : Int)), some (eM [(roads.getD i (0, 0, 0, 0)).2.1]), some (eI ((roads.getD i (0, 0, 0, 0)).2.2.1 : Int)), some (eQ (roads.getD i (0, 0, 0, 0)).2.2.2)]) (fun i _ => [rL p ((stE (edsR (roads.take i) s) (lcmS roads s)).map eStp)]) (it_list (ev_var rfl)) ?_ (fun i _ hi _ => ?_) (fun m i _ hi _ => ?_) (fun _ _ => ?_)
  · exact ⟨(), trivial, ⟨rfl, rfl, rfl, rfl, trivial⟩, rfl⟩
  · rw [List.length_map] at hi
    rw [itm_map (0, 0, 0, 0) hi]
    exact tg_tup rfl (tgs_cons tg_name (tgs_cons tg_name (tgs_cons tg_name (tgs_cons tg_name tgs_nil))))
  · rw [List.length_map] at hi
    have hr := R.q4 _ (getD_mem (0, 0, 0, 0) hi)
    have et := take_getD (0, 0, 0, 0) hi
    have hl : (stE (edsR (roads.take i) s) (lcmS roads s)).length < 100000 := by
      have h1 : (stE (edsR (roads.take i) s) (lcmS roads s)).length ≤ (edsR (roads.take i) s).length := by unfold stE; rw [List.length_map]; exact List.length_filter_le _ _
      have h2 : (edsR (roads.take i) s).length ≤ (roads.take i).length := List.length_filterMap_le _ _
      have h3 := R.rl
      rw [List.length_take] at h2
      omega
    generalize roads.getD i (0, 0, 0, 0) = r at hr et
    have ek : stE (edsR (roads.take (i + 1)) s) (lcmS roads s) = if r.2.1 = s then (if r.2.2.2.num = 0 then stE (edsR (roads.take i) s) (lcmS roads s) else stE (edsR (roads.take i) s) (lcmS roads s) ++ [(r.1, r.2.2.1, r.2.2.2.num * ((lcmS roads s : Nat) : Int).fdiv (r.2.2.2.den : Int))]) else stE (edsR (roads.take i) s) (lcmS roads s) := by
      rw [et, edsR_snoc]
      split
      · rw [stE_snoc]
      · rfl
    refine s_if (C := []) (et_and (et_is (et_test (ev_op (ev_var rfl) (ev_var rfl) op_eqM)) eqM1) fun _ => et_test (ev_op (ev_op (ev_is (ev_var rfl) (show eQ r.2.2.2 = _ from rfl)) ev_c op_t0) ev_c op_neI)) (fun h => ?_) (fun h => s_next (lp_mk () trivial ?_ ?_))
    · obtain ⟨h1, h2⟩ := (Bool.and_eq_true_iff).mp h
      have h1 := of_decide_eq_true h1
      have h2 : r.2.2.2.num ≠ 0 := by simpa using h2
      rw [if_pos h1, if_neg h2] at ek
      refine s_drop (C := [p]) (Δ1 := [rL p ((stE (edsR (roads.take (i + 1)) s) (lcmS roads s)).map eStp)]) (ev_append (k := 0) (Δ2 := [rL p ((stE (edsR (roads.take i) s) (lcmS roads s)).map eStp)]) (e := eStp (r.1, r.2.2.1, r.2.2.2.num * ((lcmS roads s : Nat) : Int).fdiv (r.2.2.2.den : Int))) (ev_var rfl) List.mem_cons_self (ev_tup (ea_cons (ev_var rfl) (ea_cons (ev_var rfl) (ea_cons (ev_op (ev_op (ev_is (ev_var rfl) (show eQ r.2.2.2 = _ from rfl)) ev_c op_t0) (ev_op (ev_var rfl) (ev_op (ev_is (ev_var rfl) (show eQ r.2.2.2 = _ from rfl)) ev_c op_t1) (op_I ?_)) (op_I ?_)) ea_nil))) (Nat.le_of_ble_eq_true rfl)) rfl (by rw [List.length_map]; exact hl) List.mem_cons_self ?_) (lp_mk () trivial rfl ?_) (own1 hp)
      · exact divx_small (den_int _) (natm (pw_mono hr.2 (by decide)))
      · refine mulx (a := 4000) (b := 12000) hr.1 ?_ (by decide)
        rw [fd_pos, ← Int.natCast_ediv, Int.natAbs_natCast]
        exact Nat.lt_of_le_of_lt (Nat.div_le_self _ _) hS'
      · rw [ek, List.map_append]
        rfl
      · exact ⟨rfl, rfl, rfl, rfl, trivial⟩
    · rw [ek]
      rcases Bool.and_eq_false_iff.mp h with h | h
      · rw [if_neg (of_decide_eq_false h)]
      · rw [if_pos (show r.2.2.2.num = 0 by simpa using h)]
        split <;> rfl
    · exact ⟨rfl, rfl, rfl, rfl, trivial⟩
  rw [List.length_map, List.take_of_length_le (Nat.le_refl _)]
  refine t_frz (i := 4) hp rfl ?_
  exact s_ret (C := []) (ev_tup (ea_cons (ev_var rfl) (ea_cons (ev_var rfl) ea_nil)) (Nat.le_of_ble_eq_true rfl)) fun v ω' l _ hv => hQ v ω' l hv

abbrev s_integers_behind : Stmt := topS 29
abbrev n_integers_behind : List Str := ["steps", "integers", "found", "state", "behind", "integer"]
abbrev p_integers_behind : List Str := ["steps", "integers"]
theorem sc_integers_behind : FnScope n_integers_behind p_integers_behind (defScope s_integers_behind) := ⟨rfl, rfl, rfl, by decide +kernel, rfl, by decide +kernel, by decide +kernel⟩
structure BhOk (st : List Stp) (iz : List Int) : Prop where
  len : iz.length ≤ 1000
  sl : st.length ≤ 100000
  ix : ∀ e ∈ st, e.1 < iz.length ∧ e.2.1 < iz.length
  b : ∀ e ∈ st, e.2.2.natAbs < 2 ^ 20000
  c : ∀ i, (iz.getD i 0).natAbs < 2 ^ 20000
def spIntegersBehind : Sp := spFn (β := List Stp × List Int) (fun b => [eLst (b.1.map eStp), eIs b.2]) (fun b => BhOk b.1 b.2) (fun b => eIs (bh b.1 b.2))
theorem ok_integers_behind {st : List Stp} {iz : List Int} (h : BhOk st iz) : SpOk spIntegersBehind [eLst (st.map eStp), eIs iz] (eIs (bh st iz)) := spFn_ok (β := List Stp × List Int) (st, iz) h
abbrev IntegersBehind (P : Program) (w : World) (K : PySem.W.Frag) (mg : Str → Option Value) (base : Heap) : Prop := Cal P w K mg base "integers_behind" p_integers_behind 1 spIntegersBehind
theorem cal_integers_behind (T : Txt K mg) (D : DefAt K mg "integers_behind" s_integers_behind) : IntegersBehind P w K mg base := by
  refine cal_of D sc_integers_behind (fun _ _ _ _ _ _ us hl => match us, hl with | [_, _], _ => rfl) (len_fn fun _ => rfl) fun f cdv A outer s H E hr => ⟨_, (pss_cons (ps_set (i := 2) sc_integers_behind.nd rfl (Or.inl rfl) (pe_op op_rep (pe_lst (pa_cons pe_int pa_nil)) (pe_callB call_len_seq (by rfl) T.len (by decide +kernel) (pa_cons (pv 1) pa_nil))))
 (pss_cons (ps_for PassesOwn.never rfl (pi_list (pv 0)) (pg_tup rfl (pgs_cons (pg_name (i := 3) sc_integers_behind.nd rfl (Or.inl rfl)) (pgs_cons (pg_name (i := 4) sc_integers_behind.nd rfl (Or.inl rfl)) (pgs_cons (pg_name (i := 5) sc_integers_behind.nd rfl (Or.inl rfl)) pgs_nil))))
 (pss_one (ps_if (pt_cmpR op_ne (pe_ix ix_list (pv 1) (pv 3) (fun _ _ => rfl)) pe_int (nomark _)) (pss_one (ps_asg (pe_op op_add (pe_ix ix_list (pv 2) (pv 4) (fun _ _ => rfl)) (pe_op op_mulX (pe_ix ix_list (pv 1) (pv 3) (fun _ _ => rfl)) (pv 5))) (pg_sub (pv 2) (pv 4) set_list))) pss_nil)))
 (pss_one (ps_ret (pv 2))))), body_fn fun ⟨st, iz⟩ R ω Q hQ => ?_⟩
  have R : BhOk st iz := R
  have hl := R.len
  refine q_asgX (ex_rep (n := iz.length) (ev_lst (ea_cons ev_c ea_nil) (Nat.le_of_ble_eq_true rfl)) (ev_is (ev_cb (ea_cons (ev_var rfl) ea_nil) op_lenL) (by rw [List.length_map])) (by omega)) fun p hp => ?_
  have hp : ω.H p = none := hp p List.mem_cons_self
  refine q_for (C := []) (β := Unit) (fun _ _ => True) (fun i _ => [some (eLst (st.map eStp)), some (eIs iz), some (eR p), none, none, none]) (fun i _ => [some (eLst (st.map eStp)), some (eIs iz), some (eR p), some (eI ((st.getD i (0, 0, 0)).1 : Int)), some (eI ((st.getD i (0, 0, 0)).2.1 : Int)), some (eI (st.getD i (0, 0, 0)).2.2)]) (fun i _ => [rL p ((bhA iz (st.take i) (List.replicate iz.length 0)).map fun i => eI i)]) (it_list (ev_var rfl)) ?_ (fun i _ hi _ => ?_) (fun m i _ hi _ => ?_) (fun _ _ => ?_)
  · refine ⟨(), trivial, ⟨rfl, rfl, rfl, trivial⟩, ?_⟩
    show [rL p ((List.replicate iz.length 0).map _)] = _
    rw [List.map_replicate]
  · rw [List.length_map] at hi
    rw [itm_map (0, 0, 0) hi]
    exact tg_tup rfl (tgs_cons tg_name (tgs_cons tg_name (tgs_cons tg_name tgs_nil)))
  · rw [List.length_map] at hi
    have hm := getD_mem (0, 0, 0) hi
    have hx := R.ix _ hm
    have hb := R.b _ hm
    have et := take_getD (0, 0, 0) hi
    generalize st.getD i (0, 0, 0) = e at hx hb et
    obtain ⟨a, b, c⟩ := e
    have hx1 : a < iz.length := hx.1
    have hx2 : b < iz.length := hx.2
    have hacc : (bhA iz (st.take i) (List.replicate iz.length 0)).length = iz.length := by rw [bhA_len, List.length_replicate]
    have ek := bhA_snoc iz (st.take i) (a, b, c) (List.replicate iz.length 0)
    rw [← et] at ek
    generalize bhA iz (st.take i) (List.replicate iz.length 0) = acc at ek hacc
    refine s_if (C := []) (et_test (ev_op (ev_op (ev_var rfl) (ev_var rfl) (op_ixL (getI hx1))) ev_c op_neI)) (fun h => ?_) (fun h => s_next (lp_mk () trivial ?_ ?_))
    · have h : iz.getD a 0 ≠ 0 := by simpa using h
      rw [if_neg h] at ek
      refine s_setix (C := []) (k := 0) (j := b) (e := eI (acc.getD b 0 + iz.getD a 0 * c)) (Δ3 := [rL p (acc.map fun i => eI i)]) (ev_op (ev_ixM (ev_var rfl) (ev_var rfl) List.mem_cons_self (getI (by omega))) (ev_op (ev_op (ev_var rfl) (ev_var rfl) (op_ixL (getI hx1))) (ev_var rfl) (op_I (mulx (R.c a) hb (by decide)))) op_I0) (ev_var rfl) (ev_var rfl) rfl (by rw [List.length_map]; omega) (lp_mk () trivial ?_ ?_) (.inl hp)
      · rw [ek]
        show [rL p ((acc.set b _).map _)] = [rL p ((acc.map _).set b _)]
        rw [List.map_set]
      · exact ⟨rfl, rfl, rfl, trivial⟩
    · rw [ek, if_pos (show iz.getD a 0 = 0 by simpa using h)]
    · exact ⟨rfl, rfl, rfl, trivial⟩
  rw [List.length_map, List.take_of_length_le (Nat.le_refl _)]
  refine t_frz (i := 2) hp rfl ?_
  exact s_ret (C := []) (ev_var rfl) fun v ω' l _ hv => hQ v ω' l hv
end
end Tw

/-! machines.py: the machine, stepped -/
namespace Tw
open PySem L2 PyProof.Rows

abbrev fM : List Str := ["_signs", "_begin", "_roads", "_end", "_steps"]
abbrev stD (m : Mach) : Dom := fun u => match u with | [c] => if c ∈ m.signs then some (eSts m.roads c) else none | _ => none
abbrev lM (m : Mach) : List En := [eM m.signs, eQs m.bg, eLst (m.roads.map eRd), eQs m.en, eD (stD m)]
abbrev eMc (CM : Addr) (m : Mach) : En := eObj CM fM (lM m)
structure NoM (K : PySem.W.Frag) (CM : Addr) : Prop where
  signs : NoAttr K CM "_signs"
  bg : NoAttr K CM "_begin"
  roads : NoAttr K CM "_roads"
  en : NoAttr K CM "_end"
  steps : NoAttr K CM "_steps"
theorem fM_nd : fM.Nodup := by decide
theorem Mach.Fit.rdok {m : Mach} (F : m.Fit) (s : Nat) : RdOk m.roads s := ⟨F.rl, F.q4, F.x s⟩
section
variable {P : Program} {w : World} {K : PySem.W.Frag} {mg : Str → Option Value} {base : Heap} {CM : Addr}
abbrev s_Machine___init__ : Stmt := inClass (topS 30) 0
abbrev n_Machine___init__ : List Str := ["self", "signs", "begin", "roads", "end", "sign"]
abbrev p_Machine___init__ : List Str := ["self", "signs", "begin", "roads", "end"]
theorem sc_Machine___init__ : FnScope n_Machine___init__ p_Machine___init__ (defScope s_Machine___init__) := ⟨rfl, rfl, rfl, by decide +kernel, rfl, by decide +kernel, by decide +kernel⟩
def spMInit (CM : Addr) : Sp := spI (β := Mach) CM eMa Mach.Fit fM lM
theorem ok_mmake {m : Mach} (F : m.Fit) : SpI CM (spMInit CM) (eMa m) fM (lM m) := spI_ok (β := Mach) m F
abbrev MMake (P : Program) (w : World) (K : PySem.W.Frag) (mg : Str → Option Value) (base : Heap) (CM : Addr) : Prop := CalC P w K mg base "Machine" CM p_Machine___init__ 4 (spMInit CM)
theorem cal_mmake (T : Txt K mg) (cM : Cls K CM) (nM : NoM K CM) (D : DefC K mg "Machine" "Machine.__init__" CM s_Machine___init__) (c_checked_machine : CheckedMachine P w K mg base) (c_steps_of : StepsOf P w K mg base) : MMake P w K mg base CM := by
  refine calC_of D sc_Machine___init__ (fun _ _ _ _ _ _ us hl => match us, hl with | [_, _, _, _, _], _ => rfl) (len_i fun _ => rfl) fun f cdv A outer s H E hr => ⟨_, (pss_cons (ps_expr (pe_cal c_checked_machine hr rfl (pa_cons (pv 1) (pa_cons (pv 2) (pa_cons (pv 3) (pa_cons (pv 4) pa_nil))))))
 (pss_cons (ps_fld (pv 0) (pv 1) rfl)
 (pss_cons (ps_fld (pv 0) (pe_callTy call_list_of (by rfl) T.list (by decide +kernel) (pa_cons (pv 2) pa_nil)) rfl)
 (pss_cons (ps_fld (pv 0) (pe_callTy call_list_of (by rfl) T.list (by decide +kernel) (pa_cons (pv 3) pa_nil)) rfl)
 (pss_cons (ps_fld (pv 0) (pe_callTy call_list_of (by rfl) T.list (by decide +kernel) (pa_cons (pv 4) pa_nil)) rfl)
 (pss_one (ps_fld (pv 0) (pe_dc (own := [("sign", 5)]) rfl sc_Machine___init__.nd (pi_str (pv 1)) (blkOk_by (N := n_Machine___init__) (sc := defScope s_Machine___init__) (by decide +kernel)) (fun _ _ _ _ _ => (pg_name (i := 5) sc_Machine___init__.nd rfl (Or.inl rfl))) (fun _ _ _ _ _ => pts_nil) (fun _ _ _ _ _ => (pv 5)) (fun _ _ _ _ _ => (pe_cal c_steps_of hr rfl (pa_cons (pv 3) (pa_cons (pv 5) pa_nil))))) rfl))))))), body_i fun m F ω x dx Q hQ => ?_⟩
  have F : m.Fit := F
  have xS : x ∈ (bsS ω [x]).S := List.mem_cons_self
  refine q_drop (C := []) (ev_call (ea_cons (ev_var rfl) (ea_cons (ev_var rfl) (ea_cons (ev_var rfl) (ea_cons (ev_var rfl) ea_nil)))) (ok_checked_machine F)) ?_
  refine q_fld (C := []) (k := 0) (fn := []) (es := []) (ev_var rfl) (ev_var rfl) rfl cM nM.signs (by decide) (by decide) xS ?_
  refine q_fld (C := []) (k := 0) (fn := ["_signs"]) (es := [eM m.signs]) (ev_cb (ea_cons (ev_var rfl) ea_nil) op_listOf) (ev_var rfl) rfl cM nM.bg (by decide) (by decide) xS ?_
  refine q_fld (C := []) (k := 0) (fn := ["_signs", "_begin"]) (es := [eM m.signs, eQs m.bg]) (ev_cb (ea_cons (ev_var rfl) ea_nil) op_listOf) (ev_var rfl) rfl cM nM.roads (by decide) (by decide) xS ?_
  refine q_fld (C := []) (k := 0) (fn := ["_signs", "_begin", "_roads"]) (es := [eM m.signs, eQs m.bg, eLst (m.roads.map eRd)]) (ev_cb (ea_cons (ev_var rfl) ea_nil) op_listOf) (ev_var rfl) rfl cM nM.en (by decide) (by decide) xS ?_
  refine s_fld (C := []) (k := 0) (fn := ["_signs", "_begin", "_roads", "_end"]) (es := [eM m.signs, eQs m.bg, eLst (m.roads.map eRd), eQs m.en]) (ev_dc (w := m.signs) (ψ := fun c => eSts m.roads c) (ev_var rfl) (by have := F.sg.len; omega) (fun c hc => ev_var rfl) (fun c hc => ev_call (ea_cons (ev_var rfl) (ea_cons (ev_var rfl) ea_nil)) (ok_steps_of (F.rdok c)))) (ev_var rfl) rfl cM nM.steps (by decide) (by decide) (fun σ H ⟨ω', e1, l, _, _, d⟩ => ?_) xS
  subst e1
  exact hQ ω' l d
abbrev s_Machine_signs : Stmt := inClass (topS 30) 1
abbrev n_Machine_signs : List Str := ["self"]
abbrev p_Machine_signs : List Str := ["self"]
theorem sc_Machine_signs : FnScope n_Machine_signs p_Machine_signs (defScope s_Machine_signs) := ⟨rfl, rfl, rfl, by decide +kernel, rfl, by decide +kernel, by decide +kernel⟩
def spMSigns (CM : Addr) : Sp := spFn (β := Mach) (fun m => [eMc CM m]) (fun _ => True) (fun m => eM m.signs)
abbrev MSigns (P : Program) (w : World) (K : PySem.W.Frag) (mg : Str → Option Value) (base : Heap) (CM : Addr) : Prop := CalP P w K mg base CM "signs" 1 (spMSigns CM)
theorem cal_msigns (T : Txt K mg) (cM : Cls K CM) (nM : NoM K CM) (D : DefP K CM "signs" "Machine.signs" s_Machine_signs) : MSigns P w K mg base CM := by
  refine calP_of D sc_Machine_signs (fun _ _ _ _ _ _ us hl => match us, hl with | [_], _ => rfl) (len_fn fun _ => rfl) fun f cdv A outer s H E hr => ⟨_, (pss_one (ps_ret (pe_fld (pv 0) rfl))), body_fn fun m _ ω Q hQ => ?_⟩
  exact s_ret (C := []) (ev_fld (i := 0) (ev_var rfl) cM nM.signs fM_nd rfl rfl) fun v ω' l _ hv => hQ v ω' l hv
abbrev s_Machine_begin : Stmt := inClass (topS 30) 2
abbrev n_Machine_begin : List Str := ["self"]
abbrev p_Machine_begin : List Str := ["self"]
theorem sc_Machine_begin : FnScope n_Machine_begin p_Machine_begin (defScope s_Machine_begin) := ⟨rfl, rfl, rfl, by decide +kernel, rfl, by decide +kernel, by decide +kernel⟩
def spMBegin (CM : Addr) : Sp := spFn (β := Mach) (fun m => [eMc CM m]) (fun _ => True) (fun m => eQs m.bg)
abbrev MBegin (P : Program) (w : World) (K : PySem.W.Frag) (mg : Str → Option Value) (base : Heap) (CM : Addr) : Prop := CalP P w K mg base CM "begin" 1 (spMBegin CM)
theorem cal_mbegin (T : Txt K mg) (cM : Cls K CM) (nM : NoM K CM) (D : DefP K CM "begin" "Machine.begin" s_Machine_begin) : MBegin P w K mg base CM := by
  refine calP_of D sc_Machine_begin (fun _ _ _ _ _ _ us hl => match us, hl with | [_], _ => rfl) (len_fn fun _ => rfl) fun f cdv A outer s H E hr => ⟨_, (pss_one (ps_ret (pe_callTy call_list_of (by rfl) T.list (by decide +kernel) (pa_cons (pe_fld (pv 0) rfl) pa_nil)))), body_fn fun m _ ω Q hQ => ?_⟩
  exact s_ret (C := []) (ev_cb (ea_cons (ev_fld (i := 1) (ev_var rfl) cM nM.bg fM_nd rfl rfl) ea_nil) op_listOf) fun v ω' l _ hv => hQ v ω' l hv
abbrev s_Machine_end : Stmt := inClass (topS 30) 4
abbrev n_Machine_end : List Str := ["self"]
abbrev p_Machine_end : List Str := ["self"]
theorem sc_Machine_end : FnScope n_Machine_end p_Machine_end (defScope s_Machine_end) := ⟨rfl, rfl, rfl, by decide +kernel, rfl, by decide +kernel, by decide +kernel⟩
def spMEnd (CM : Addr) : Sp := spFn (β := Mach) (fun m => [eMc CM m]) (fun _ => True) (fun m => eQs m.en)
abbrev MEnd (P : Program) (w : World) (K : PySem.W.Frag) (mg : Str → Option Value) (base : Heap) (CM : Addr) : Prop := CalP P w K mg base CM "end" 1 (spMEnd CM)
theorem cal_mend (T : Txt K mg) (cM : Cls K CM) (nM : NoM K CM) (D : DefP K CM "end" "Machine.end" s_Machine_end) : MEnd P w K mg base CM := by
  refine calP_of D sc_Machine_end (fun _ _ _ _ _ _ us hl => match us, hl with | [_], _ => rfl) (len_fn fun _ => rfl) fun f cdv A outer s H E hr => ⟨_, (pss_one (ps_ret (pe_callTy call_list_of (by rfl) T.list (by decide +kernel) (pa_cons (pe_fld (pv 0) rfl) pa_nil)))), body_fn fun m _ ω Q hQ => ?_⟩
  exact s_ret (C := []) (ev_cb (ea_cons (ev_fld (i := 3) (ev_var rfl) cM nM.en fM_nd rfl rfl) ea_nil) op_listOf) fun v ω' l _ hv => hQ v ω' l hv
theorem ok_msigns {m : Mach} : SpOk (spMSigns CM) [eMc CM m] (eM m.signs) := spFn_ok (β := Mach) m trivial
theorem ok_mbegin {m : Mach} : SpOk (spMBegin CM) [eMc CM m] (eQs m.bg) := spFn_ok (β := Mach) m trivial
theorem ok_mend {m : Mach} : SpOk (spMEnd CM) [eMc CM m] (eQs m.en) := spFn_ok (β := Mach) m trivial
abbrev s_Machine_steps : Stmt := inClass (topS 30) 5
abbrev n_Machine_steps : List Str := ["self", "sign", "found", "below"]
abbrev p_Machine_steps : List Str := ["self", "sign"]
theorem sc_Machine_steps : FnScope n_Machine_steps p_Machine_steps (defScope s_Machine_steps) := ⟨rfl, rfl, rfl, by decide +kernel, rfl, by decide +kernel, by decide +kernel⟩
def spMSteps (CM : Addr) : Sp := spFn (β := Mach × Nat) (fun b => [eMc CM b.1, eM [b.2]]) (fun b => b.2 ∈ b.1.signs) (fun b => eSts b.1.roads b.2)
theorem ok_msteps {m : Mach} {s : Nat} (h : s ∈ m.signs) : SpOk (spMSteps CM) [eMc CM m, eM [s]] (eSts m.roads s) := spFn_ok (β := Mach × Nat) (m, s) h
abbrev MSteps (P : Program) (w : World) (K : PySem.W.Frag) (mg : Str → Option Value) (base : Heap) (CM : Addr) : Prop := CalM P w K mg base CM "steps" p_Machine_steps 1 (spMSteps CM)
theorem cal_msteps (T : Txt K mg) (cM : Cls K CM) (nM : NoM K CM) (D : DefM K CM "steps" "Machine.steps" s_Machine_steps) : MSteps P w K mg base CM := by
  refine calM_of D sc_Machine_steps (fun _ _ _ _ _ _ us hl => match us, hl with | [_, _], _ => rfl) (len_fn fun _ => rfl) fun f cdv A outer s H E hr => ⟨_, (pss_cons (ps_asg (pe_dget (hu_of hr) (pe_fld (pv 0) rfl) (pv 1) (fun _ _ => rfl)) (pg_tup rfl (pgs_cons (pg_name (i := 2) sc_Machine_steps.nd rfl (Or.inl rfl)) (pgs_cons (pg_name (i := 3) sc_Machine_steps.nd rfl (Or.inl rfl)) pgs_nil))))
 (pss_one (ps_ret (pe_tup (pa_cons (pe_callTy call_list_of (by rfl) T.list (by decide +kernel) (pa_cons (pv 2) pa_nil)) (pa_cons (pv 3) pa_nil)))))), body_fn fun ⟨m, s⟩ hs ω Q hQ => ?_⟩
  have hs : s ∈ m.signs := hs
  refine q_asgT (C := []) (e := eTup [eLst ((stR m.roads s).map eStp), eI (lcmS m.roads s : Int)]) (ev_dget (ev_fld (i := 4) (ev_var rfl) cM nM.steps fM_nd rfl rfl) (ev_var rfl) (if_pos hs)) (tg_tup rfl (tgs_cons tg_name (tgs_cons tg_name tgs_nil))) ?_
  exact s_ret (C := []) (ev_tup (ea_cons (ev_cb (ea_cons (ev_var rfl) ea_nil) op_listOf) (ea_cons (ev_var rfl) ea_nil)) (Nat.le_of_ble_eq_true rfl)) fun v ω' l _ hv => hQ v ω' l hv

/-! ### stepped -/
theorem stE_mem {es : List Edge} {S : Nat} {e : Stp} (h : e ∈ stE es S) : ∃ d ∈ es, e = (d.1, d.2.1, d.2.2.num * ((S : Nat) : Int).fdiv (d.2.2.den : Int)) := by
  unfold stE at h
  obtain ⟨d, hd, e1⟩ := List.mem_map.mp h
  exact ⟨d, (List.mem_filter.mp hd).1, e1.symm⟩
theorem intsR_lt {row : List Rat} (R : RowOk row) (i : Nat) : ((intsR row).getD i 0).natAbs < 2 ^ 20000 := by
  by_cases h : i < row.length
  · unfold intsR
    rw [getD_of_lt 0 (by rw [List.length_map]; exact h), List.getElem_map, Int.natAbs_mul]
    have h1 := (R.q4 _ (List.getElem_mem h)).1
    have h2 : (((lcmR row : Nat) : Int).fdiv (row[i].den : Int)).natAbs < 2 ^ 9000 := by
      rw [fd_pos, ← Int.natCast_ediv, Int.natAbs_natCast]
      exact Nat.lt_of_le_of_lt (Nat.div_le_self _ _) R.lt'
    exact Nat.lt_of_lt_of_le (Nat.mul_lt_mul'' h1 h2) (by rw [← Nat.pow_add]; exact Nat.pow_le_pow_right (by decide) (by decide))
  · rw [getD_of_le 0 (by rw [intsR_len]; omega)]
    exact Nat.pow_pos (by decide)
/-- the steps of es over row, S below: all that is asked, and what comes of it -/
theorem bh_edges {es : List Edge} {S n : Nat} {row : List Rat} (R : RowOk row) (hn : row.length = n) (h100 : n ≤ 100) (hS : S < 2 ^ 12000) (hl : es.length ≤ 1000) (hx : ∀ e ∈ es, e.1 < n ∧ e.2.1 < n) (hq : ∀ e ∈ es, Q4 e.2.2) (hd : ∀ e ∈ es, e.2.2.den ∣ S) (hS0 : 0 < S) :
    BhOk (stE es S) (intsR row) ∧ (bh (stE es S) (intsR row)).map (fun i => Rat.divInt i ((lcmR row : Int) * (S : Int))) = tab n (stepF es fun i => row.getD i 0) := by
  have e1 := intsR_len row
  have ix : ∀ e ∈ stE es S, e.1 < (intsR row).length ∧ e.2.1 < (intsR row).length := fun e he => by
    obtain ⟨d, hd, rfl⟩ := stE_mem he
    rw [e1, hn]
    exact hx d hd
  refine ⟨⟨by omega, ?_, ix, fun e he => ?_, intsR_lt R⟩, ?_⟩
  · unfold stE
    rw [List.length_map]
    exact Nat.le_trans (List.length_filter_le _ _) (by omega)
  · obtain ⟨d, hd', rfl⟩ := stE_mem he
    show (d.2.2.num * ((S : Nat) : Int).fdiv (d.2.2.den : Int)).natAbs < _
    rw [Int.natAbs_mul]
    have h2 : (((S : Nat) : Int).fdiv (d.2.2.den : Int)).natAbs < 2 ^ 12000 := by
      rw [fd_pos, ← Int.natCast_ediv, Int.natAbs_natCast]
      exact Nat.lt_of_le_of_lt (Nat.div_le_self _ _) hS
    exact Nat.lt_of_lt_of_le (Nat.mul_lt_mul'' (hq d hd').1 h2) (by rw [← Nat.pow_add]; exact Nat.pow_le_pow_right (by decide) (by decide))
  · apply List.ext_getElem
    · rw [List.length_map, bh_len, e1, tab_len, hn]
    · intro j h1 h2
      rw [List.getElem_map]
      have hj : j < n := by rwa [tab_len] at h2
      have t1 := tab_at (f := stepF es fun i => row.getD i 0) hj
      rw [getD_of_lt 0 h2] at t1
      rw [t1]
      have b1 := bh_at (fun e he => (ix e he).2) j
      rw [getD_of_lt 0 (by rw [bh_len, e1]; omega)] at b1
      have s1 := stI_eq (L := lcmR row) (S := S) (v := fun i => (intsR row).getD i 0) (r := fun i => row.getD i 0) (es := es) (j := j) hd fun i => intsR_at
      rw [← b1] at s1
      rw [div_int, s1, Rat.intCast_mul, Rat.intCast_natCast, Rat.intCast_natCast]
      have l0 : ((lcmR row : Nat) : Rat) ≠ 0 := by
        have := lcmR_pos row
        exact fun z => by have := Rat.natCast_eq_zero_iff.mp z; omega
      have s0 : ((S : Nat) : Rat) ≠ 0 := fun z => by have := Rat.natCast_eq_zero_iff.mp z; omega
      grind
structure StOk (m : Mach) (es : List Edge) (row : List Rat) (s : Nat) : Prop where
  fit : m.Fit
  s : s ∈ m.signs
  rl : row.length = m.n
  ro : RowOk row
  q4 : ∀ j, j < m.n → Q4 (stepF es (fun i => row.getD i 0) j)
def spStepped (CM : Addr) : Sp := spFn (β := Mach × List Rat × Nat) (fun b => [eMc CM b.1, eQs b.2.1, eM [b.2.2]]) (fun b => StOk b.1 (b.1.eds b.2.2) b.2.1 b.2.2) (fun b => eQs (tab b.1.n (stepF (b.1.eds b.2.2) fun i => b.2.1.getD i 0)))
theorem ok_stepped {m : Mach} {row r : List Rat} {s : Nat} (h : StOk m (m.eds s) row s) (e : tab m.n (stepF (m.eds s) fun i => row.getD i 0) = r) : SpOk (spStepped CM) [eMc CM m, eQs row, eM [s]] (eQs r) := by
  subst e
  exact spFn_ok (β := Mach × List Rat × Nat) (m, row, s) h
abbrev s_stepped : Stmt := topS 31
abbrev n_stepped : List Str := ["machine", "row", "sign", "integers", "below", "steps", "share"]
abbrev p_stepped : List Str := ["machine", "row", "sign"]
theorem sc_stepped : FnScope n_stepped p_stepped (defScope s_stepped) := ⟨rfl, rfl, rfl, by decide +kernel, rfl, by decide +kernel, by decide +kernel⟩
abbrev Stepped (P : Program) (w : World) (K : PySem.W.Frag) (mg : Str → Option Value) (base : Heap) (CM : Addr) : Prop := Cal P w K mg base "stepped" p_stepped 3 (spStepped CM)
theorem Mach.Fit.sl {m : Mach} (F : m.Fit) (s : Nat) : lcmS m.roads s < 2 ^ 12000 := by
  obtain ⟨X, h0, h1, h2⟩ := F.x s
  have := lcmS_lt h0 h1 h2 m.roads.length
  rwa [List.take_of_length_le (Nat.le_refl _)] at this
theorem Mach.Fit.eq4 {m : Mach} (F : m.Fit) {s : Nat} {e : Edge} (h : e ∈ m.eds s) : Q4 e.2.2 := F.q4 _ (mem_eds h)
theorem Mach.Fit.el {m : Mach} (F : m.Fit) (s : Nat) : (m.eds s).length ≤ 1000 := Nat.le_trans (eds_len m s) F.rl
theorem tab_mem {n : Nat} {f : Nat → Rat} {q : Rat} (h : q ∈ tab n f) : ∃ j, j < n ∧ f j = q := by
  unfold tab at h
  obtain ⟨j, hj, e⟩ := List.mem_map.mp h
  exact ⟨j, List.mem_range.mp hj, e⟩
theorem below_ne (row : List Rat) (roads : List Road) (s : Nat) : (lcmR row : Int) * (lcmS roads s : Int) ≠ 0 := by
  have h1 := lcmR_pos row
  have h2 := lcmS_pos roads s
  exact Int.mul_ne_zero (by omega) (by omega)
theorem cal_stepped (T : Txt K mg) (cM : Cls K CM) (D : DefAt K mg "stepped" s_stepped) (c_integers_of : IntegersOf P w K mg base) (c_Machine_steps : MSteps P w K mg base CM) (c_numbers_of : NumbersOf P w K mg base) (c_integers_behind : IntegersBehind P w K mg base) : Stepped P w K mg base CM := by
  refine cal_of D sc_stepped (fun _ _ _ _ _ _ us hl => match us, hl with | [_, _, _], _ => rfl) (len_fn fun _ => rfl) fun f cdv A outer s H E hr => ⟨_, (pss_cons (ps_asg (pe_cal c_integers_of hr rfl (pa_cons (pv 1) pa_nil)) (pg_tup rfl (pgs_cons (pg_name (i := 3) sc_stepped.nd rfl (Or.inl rfl)) (pgs_cons (pg_name (i := 4) sc_stepped.nd rfl (Or.inl rfl)) pgs_nil))))
 (pss_cons (ps_asg (pe_calM c_Machine_steps cM hr (pv 0) (pa_cons (pv 2) pa_nil)) (pg_tup rfl (pgs_cons (pg_name (i := 5) sc_stepped.nd rfl (Or.inl rfl)) (pgs_cons (pg_name (i := 6) sc_stepped.nd rfl (Or.inl rfl)) pgs_nil))))
 (pss_one (ps_ret (pe_cal c_numbers_of hr rfl (pa_cons (pe_cal c_integers_behind hr rfl (pa_cons (pv 5) (pa_cons (pv 3) pa_nil))) (pa_cons (pe_op op_mulX (pv 4) (pv 6)) pa_nil))))))), body_fn fun ⟨m, row, s⟩ R ω Q hQ => ?_⟩
  have R : StOk m (m.eds s) row s := R
  have F := R.fit
  obtain ⟨b1, b2⟩ := bh_edges (es := m.eds s) (S := lcmS m.roads s) R.ro R.rl F.n100 (F.sl s) (F.el s) (fun e he => F.ok.ed he) (fun e he => F.eq4 he) (fun e he => lcmS_den he) (lcmS_pos _ _)
  refine q_asgT (C := []) (ev_call (ea_cons (ev_var rfl) ea_nil) (ok_integers_of R.ro)) (tg_tup rfl (tgs_cons tg_name (tgs_cons tg_name tgs_nil))) ?_
  refine q_asgT (C := []) (e := eTup [eLst ((stR m.roads s).map eStp), eI (lcmS m.roads s : Int)]) (ev_meth (ev_var rfl) (by decide) (ea_cons (ev_var rfl) ea_nil) (ok_msteps R.s)) (tg_tup rfl (tgs_cons tg_name (tgs_cons tg_name tgs_nil))) ?_
  refine s_ret (C := []) (ev_call (ea_cons (ev_call (ea_cons (ev_var rfl) (ea_cons (ev_var rfl) ea_nil)) (ok_integers_behind b1)) (ea_cons (ev_op (ev_var rfl) (ev_var rfl) (op_I (mulx (natm R.ro.lt') (natm (F.sl s)) (by decide)))) ea_nil)) (ok_numbers_of b2 ?_ (below_ne _ _ _) fun q hq => ?_)) fun v ω' l _ hv => hQ v ω' l hv
  · have h1 := F.n100
    have h2 : row.length = m.n := R.rl
    rw [bh_len, intsR_len]
    show row.length ≤ 100000
    omega
  · obtain ⟨j, hj, rfl⟩ := tab_mem hq
    exact R.q4 j hj
def spSteppedBack (CM : Addr) : Sp := spFn (β := Mach × List Rat × Nat) (fun b => [eMc CM b.1, eQs b.2.1, eM [b.2.2]]) (fun b => StOk b.1 (swp (b.1.eds b.2.2)) b.2.1 b.2.2) (fun b => eQs (tab b.1.n (stepF (swp (b.1.eds b.2.2)) fun i => b.2.1.getD i 0)))
theorem ok_stepped_back {m : Mach} {row r : List Rat} {s : Nat} (h : StOk m (swp (m.eds s)) row s) (e : tab m.n (stepF (swp (m.eds s)) fun i => row.getD i 0) = r) : SpOk (spSteppedBack CM) [eMc CM m, eQs row, eM [s]] (eQs r) := by
  subst e
  exact spFn_ok (β := Mach × List Rat × Nat) (m, row, s) h
abbrev s_stepped_back : Stmt := topS 32
abbrev n_stepped_back : List Str := ["machine", "column", "sign", "turned", "integers", "below", "steps", "share", "state", "behind", "integer"]
abbrev p_stepped_back : List Str := ["machine", "column", "sign"]
theorem sc_stepped_back : FnScope n_stepped_back p_stepped_back (defScope s_stepped_back) := ⟨rfl, rfl, rfl, by decide +kernel, rfl, by decide +kernel, by decide +kernel⟩
abbrev SteppedBack (P : Program) (w : World) (K : PySem.W.Frag) (mg : Str → Option Value) (base : Heap) (CM : Addr) : Prop := Cal P w K mg base "stepped_back" p_stepped_back 3 (spSteppedBack CM)
theorem mem_of_swp {es : List Edge} {e : Edge} (h : e ∈ swp es) : (e.2.1, e.1, e.2.2) ∈ es := by
  obtain ⟨d, hd, rfl⟩ := List.mem_map.mp h
  exact hd
theorem swp_len (es : List Edge) : (swp es).length = es.length := List.length_map ..
theorem cal_stepped_back (T : Txt K mg) (cM : Cls K CM) (D : DefAt K mg "stepped_back" s_stepped_back) (c_integers_of : IntegersOf P w K mg base) (c_Machine_steps : MSteps P w K mg base CM) (c_numbers_of : NumbersOf P w K mg base) (c_integers_behind : IntegersBehind P w K mg base) : SteppedBack P w K mg base CM := by
  refine cal_of D sc_stepped_back (fun _ _ _ _ _ _ us hl => match us, hl with | [_, _, _], _ => rfl) (len_fn fun _ => rfl) fun f cdv A outer s H E hr => ⟨_, (pss_cons (ps_asg (pe_cal c_integers_of hr rfl (pa_cons (pv 1) pa_nil)) (pg_tup rfl (pgs_cons (pg_name (i := 4) sc_stepped_back.nd rfl (Or.inl rfl)) (pgs_cons (pg_name (i := 5) sc_stepped_back.nd rfl (Or.inl rfl)) pgs_nil))))
 (pss_cons (ps_asg (pe_calM c_Machine_steps cM hr (pv 0) (pa_cons (pv 2) pa_nil)) (pg_tup rfl (pgs_cons (pg_name (i := 6) sc_stepped_back.nd rfl (Or.inl rfl)) (pgs_cons (pg_name (i := 7) sc_stepped_back.nd rfl (Or.inl rfl)) pgs_nil))))
 (pss_cons (ps_setLc (i := 3) (own := [("state", 8), ("behind", 9), ("integer", 10)]) rfl sc_stepped_back.nd rfl rfl (sw_true rfl rfl rfl (by decide +kernel)) (pi_list (pv 6)) (blkOk_by (N := n_stepped_back) (sc := defScope s_stepped_back) (by decide +kernel)) (fun _ _ _ _ _ => (pg_tupK (n := 3) K rfl rfl (pgs_cons (pg_name (i := 8) sc_stepped_back.nd rfl (Or.inl rfl)) (pgs_cons (pg_name (i := 9) sc_stepped_back.nd rfl (Or.inl rfl)) (pgs_cons (pg_name (i := 10) sc_stepped_back.nd rfl (Or.inl rfl)) pgs_nil))))) (fun _ _ _ _ _ => pts_nil) (fun _ _ _ _ _ => (pe_tup (pa_cons (pv 9) (pa_cons (pv 8) (pa_cons (pv 10) pa_nil))))))
 (pss_one (ps_ret (pe_cal c_numbers_of hr rfl (pa_cons (pe_cal c_integers_behind hr rfl (pa_cons (pv 3) (pa_cons (pv 4) pa_nil))) (pa_cons (pe_op op_mulX (pv 5) (pv 7)) pa_nil)))))))), body_fn fun ⟨m, row, s⟩ R ω Q hQ => ?_⟩
  have R : StOk m (swp (m.eds s)) row s := R
  have F := R.fit
  obtain ⟨b1, b2⟩ := bh_edges (es := swp (m.eds s)) (S := lcmS m.roads s) R.ro R.rl F.n100 (F.sl s) (by rw [swp_len]; exact F.el s) (fun e he => ⟨(F.ok.ed (mem_of_swp he)).2, (F.ok.ed (mem_of_swp he)).1⟩) (fun e he => F.eq4 (s := s) (e := (e.2.1, e.1, e.2.2)) (mem_of_swp he)) (fun e he => lcmS_den (s := s) (e := (e.2.1, e.1, e.2.2)) (mem_of_swp he)) (lcmS_pos _ _)
  refine q_asgT (C := []) (ev_call (ea_cons (ev_var rfl) ea_nil) (ok_integers_of R.ro)) (tg_tup rfl (tgs_cons tg_name (tgs_cons tg_name tgs_nil))) ?_
  refine q_asgT (C := []) (e := eTup [eLst ((stR m.roads s).map eStp), eI (lcmS m.roads s : Int)]) (ev_meth (ev_var rfl) (by decide) (ea_cons (ev_var rfl) ea_nil) (ok_msteps R.s)) (tg_tup rfl (tgs_cons tg_name (tgs_cons tg_name tgs_nil))) ?_
  refine q_asg (C := []) (Δ1 := []) (e := eLst ((stE (swp (m.eds s)) (lcmS m.roads s)).map eStp)) ?_ ?_
  · refine ev_is (ev_lcT (xs := stR m.roads s) (φ := eStp) (ψ := fun e => eStp (e.2.1, e.1, e.2.2)) (ev_var rfl) ?_ (fun e _ => tv_tup rfl (tvs_cons (tv_name (by decide)) (tvs_cons (tv_name (by decide)) (tvs_cons (tv_name (by decide)) tvs_nil)))) fun e _ => ?_) ?_
    · unfold stR stE
      rw [List.length_map]
      exact Nat.le_trans (List.length_filter_le _ _) (Nat.le_trans (F.el s) (by decide))
    · exact ev_tup (ea_cons (ev_var rfl) (ea_cons (ev_var rfl) (ea_cons (ev_var rfl) ea_nil))) (Nat.le_of_ble_eq_true rfl)
    · rw [← stE_swp, List.map_map]
      rfl
  refine s_ret (C := []) (ev_call (ea_cons (ev_call (ea_cons (ev_var rfl) (ea_cons (ev_var rfl) ea_nil)) (ok_integers_behind b1)) (ea_cons (ev_op (ev_var rfl) (ev_var rfl) (op_I (mulx (natm R.ro.lt') (natm (F.sl s)) (by decide)))) ea_nil)) (ok_numbers_of b2 ?_ (below_ne _ _ _) fun q hq => ?_)) fun v ω' l _ hv => hQ v ω' l hv
  · have h1 := F.n100
    have h2 : row.length = m.n := R.rl
    rw [bh_len, intsR_len]
    show row.length ≤ 100000
    omega
  · obtain ⟨j, hj, rfl⟩ := tab_mem hq
    exact R.q4 j hj
end
end Tw

/-! tariffs.py: free_columns -/
namespace Tw
open PySem L2 PyProof.Rows

section
variable {W : Bs} {Γ : List (Option En)} {Δ : List Rs} {D : Ends} {t : TS}
/-- what a resource tells -/
theorem t_know {ρ : Rs} {p : Prop} (hm : ρ ∈ Δ) (h : ∀ ω, ρ.r ω → p) (k : p → Tr t (As W Γ Δ) D) : Tr t (As W Γ Δ) D := fun σ H a => k (let ⟨_, _, _, _, _, d⟩ := a; h _ (d.r _ hm)) σ H a
end
theorem mem_set_self {Δ : List Rs} {ρ ρ' : Rs} {k : Nat} (h : Δ[k]? = some ρ) : ρ' ∈ Δ.set k ρ' := List.mem_of_getElem? (List.getElem?_set_self (List.getElem?_eq_some_iff.mp h).1)
/-- the machine's columns are small -/
structure FcOk (m : Mach) (D X : Nat) : Prop where
  fit : m.Fit
  lim : Lim m.n D X
  rb : ∀ w, Wd m w → w.length ≤ m.n → ∀ j, RB D X ((colL m w).getD j 0)
theorem rowok_rb {m D X : Nat} {row : List Rat} (L : Lim m D X) (hl : row.length = m) (h : ∀ j, RB D X (row.getD j 0)) : RowOk row := by
  have hm : ∀ q ∈ row, RB D X q := fun q hq => by
    obtain ⟨j, _, e⟩ := mem_getD 0 hq
    rw [← e]
    exact h j
  refine ⟨by rw [hl]; have := L.m6; omega, fun q hq => q4_rb L (hm q hq), D, L.D0, ?_, fun q hq => (hm q hq).den⟩
  exact Nat.lt_of_le_of_lt (Nat.le_trans L.DX L.x) (bd_pw (Nat.le_refl _) (by decide))
theorem colL_len (m : Mach) (w : List Nat) : (colL m w).length = m.n := tab_len _ _
theorem FcOk.ind {m : Mach} {D X l : Nat} {F : List (List Rat)} {ω : Wo} (h : (rB l m.n D X F).r ω) : Indep m.n F := by
  obtain ⟨kp, k, _⟩ := h
  exact k.indep
theorem FcOk.back {m : Mach} {D X : Nat} (F : FcOk m D X) {w : List Nat} {s : Nat} (hw : Wd m w) (hl : w.length + 1 ≤ m.n) (hs : s ∈ m.signs) : StOk m (swp (m.eds s)) (colL m w) s := by
  refine ⟨F.fit, hs, colL_len m w, rowok_rb F.lim (colL_len m w) (F.rb w hw (by omega)), fun j hj => ?_⟩
  have h := F.rb (s :: w) (Wd.cons hs hw) (by rw [List.length_cons]; exact hl) j
  rw [← step_col F.fit.ok w s, tab_at hj] at h
  exact q4_rb F.lim h
section
variable {P : Program} {w : World} {K : PySem.W.Frag} {mg : Str → Option Value} {base : Heap} {CB CM : Addr}
abbrev s_free_columns : Stmt := topS 34
abbrev n_free_columns : List Str := ["machine", "basis", "found", "row", "longer", "column", "sign"]
abbrev p_free_columns : List Str := ["machine"]
theorem sc_free_columns : FnScope n_free_columns p_free_columns (defScope s_free_columns) := ⟨rfl, rfl, rfl, by decide +kernel, rfl, by decide +kernel, by decide +kernel⟩
abbrev eCs (Cs : List (List Rat)) : En := eLst (Cs.map eQs)
def spFreeColumns (CM : Addr) : Sp := spFn (β := Mach × Nat × Nat) (fun b => [eMc CM b.1]) (fun b => FcOk b.1 b.2.1 b.2.2) (fun b => eAny (List (List Rat)) (fun Cs => FreeC b.1 Cs) eCs)
theorem ok_free_columns {m : Mach} {D X : Nat} (h : FcOk m D X) : SpOk (spFreeColumns CM) [eMc CM m] (eAny (List (List Rat)) (fun Cs => FreeC m Cs) eCs) := spFn_ok (β := Mach × Nat × Nat) (m, D, X) h
abbrev FreeColumns (P : Program) (w : World) (K : PySem.W.Frag) (mg : Str → Option Value) (base : Heap) (CM : Addr) : Prop := Cal P w K mg base "free_columns" p_free_columns 4 (spFreeColumns CM)
theorem cal_free_columns (T : Txt K mg) (cB : Cls K CB) (cM : Cls K CM) (D : DefAt K mg "free_columns" s_free_columns) (k_Basis : BMake P w K mg base CB) (c_Basis_put : BPut P w K mg base CB) (c_Machine_end : MEnd P w K mg base CM) (c_Machine_signs : MSigns P w K mg base CM) (c_stepped_back : SteppedBack P w K mg base CM) : FreeColumns P w K mg base CM := by
  refine cal_of D sc_free_columns (fun _ _ _ _ _ _ us hl => match us, hl with | [_], _ => rfl) (len_fn fun _ => rfl) fun f cdv A outer s H E hr => ⟨_, (pss_cons (ps_set (i := 1) sc_free_columns.nd rfl (Or.inl rfl) (pe_calC0 k_Basis hr rfl))
 (pss_cons (ps_par (i := 2) (j := 3) rfl sc_free_columns.nd rfl rfl (by decide) rfl rfl (pa_cons (pe_lst pa_nil) (pa_cons (pe_lst (pa_cons (pe_calP c_Machine_end cM hr (pv 0)) pa_nil)) pa_nil)) rfl)
 (pss_cons (ps_while PassesOwn.never (pt_cmpR op_gt (pe_callB call_len_seq (by rfl) T.len (by decide +kernel) (pa_cons (pv 3) pa_nil)) pe_int (nomark _)) (pss_cons (ps_set (i := 4) sc_free_columns.nd rfl (Or.inl rfl) (pe_lst pa_nil))
 (pss_cons (ps_for PassesOwn.never rfl (pi_list (pv 3)) (pg_name (i := 5) sc_free_columns.nd rfl (Or.inr rfl))
 (pss_one (ps_if (pt_val (pe_calM c_Basis_put cB hr (pv 1) (pa_cons (pv 5) pa_nil))) (pss_cons (ps_expr (pe_bm PySem.F.plainAttrs_list PySem.F.slot_list_append PySem.F.type_list_append mt_append (pv 2) (pa_cons (pv 5) pa_nil)))
 (pss_one (ps_expr (pe_bm PySem.F.plainAttrs_list PySem.F.slot_list_extend PySem.F.type_list_extend mt_extend (pv 4) (pa_cons (pe_lc (own := [("sign", 6)]) rfl sc_free_columns.nd (pi_str (pe_calP c_Machine_signs cM hr (pv 0))) (blkOk_by (N := n_free_columns) (sc := defScope s_free_columns) (by decide +kernel)) (fun _ _ _ _ _ => (pg_name (i := 6) sc_free_columns.nd rfl (Or.inl rfl))) (fun _ _ _ _ _ => pts_nil) (fun _ _ _ _ _ => (pe_cal c_stepped_back hr rfl (pa_cons (pv 0) (pa_cons (pv 5) (pa_cons (pv 6) pa_nil)))))) pa_nil))))) pss_nil)))
 (pss_one (ps_set (i := 3) sc_free_columns.nd rfl (Or.inl rfl) (pv 4))))))
 (pss_one (ps_ret (pv 2)))))), body_fn fun ⟨m, D, X⟩ F ω Q hQ => ?_⟩
  have F : FcOk m D X := F
  have ok := F.fit.ok
  have hm6 := F.lim.m6
  have hsg := F.fit.sg.len
  refine q_asgX (γ := Addr) ex_makeB fun l hl => ?_
  have hl : ω.H l = none := hl l List.mem_cons_self
  refine t_conv (ρ' := rB l m.n D X (cols m [])) (fun ω h => ⟨[], kok_nil _ _ _, h⟩) rfl ?_
  refine q_parNE (C := []) (Δ2 := []) (e := eCs (cols m [[]])) (fun p => ?_) fun fa hf => ?_
  · refine ev_is (ev_lst (ea_cons (ev_prop (ev_var rfl) ok_mend) ea_nil) (Nat.le_of_ble_eq_true rfl)) ?_
    show eLst [eQs m.en] = eLst [eQs (colL m [])]
    rw [colL_nil ok]
  refine q_while (β := Nat × List (List Nat) × List (List Nat)) (fun b => FcSt m b.1 b.2.1 b.2.2) (fun b => 2 * (m.n + 1 - b.2.1.length) + (if b.2.2 = [] then 0 else 1)) (fun b => [some (eMc CM m), some (eBas CB l), some (eR fa), some (eCs (cols m b.2.2)), none, none, none]) (fun b => [rL fa ((cols m b.2.1).map eQs), rB l m.n D X (cols m b.2.1)]) ?_ fun b S => ?_
  · exact ⟨(0, [], [[]]), fc_start m, ⟨rfl, rfl, rfl, rfl, trivial⟩, rfl⟩
  obtain ⟨lev, ws, pend⟩ := b
  have S : FcSt m lev ws pend := S
  refine ⟨[], decide (0 < pend.length), [rL fa ((cols m ws).map eQs), rB l m.n D X (cols m ws)], Own.nil _, et_is (et_test (ev_op (ev_cb (ea_cons (ev_var rfl) ea_nil) op_lenL) ev_c op_I0)) ?_, fun h => ?_, fun h => ?_⟩
  · show decide ((0 : Int) < _) = _
    rw [List.length_map, List.length_map]
    show decide ((0 : Int) < (pend.length : Int)) = decide (0 < pend.length)
    exact decide_eq_decide.mpr (by omega)
  · have hne : pend ≠ [] := List.length_pos_iff.mp (of_decide_eq_true h)
    refine q_asgX (γ := Addr) (ex_lst ea_nil (Nat.zero_le _)) fun p hp => ?_
    have hp : ω.H p = none := hp p List.mem_cons_self
    refine q_for (C := []) (β := List (List Nat) × List (List Nat)) (fun i x => FcIn m lev ws.length (pend.drop i) x.1 x.2) (fun i x => [some (eMc CM m), some (eBas CB l), some (eR fa), some (eCs (cols m pend)), some (eR p), none, none]) (fun i x => [some (eMc CM m), some (eBas CB l), some (eR fa), some (eCs (cols m pend)), some (eR p), some (eQs (colL m (pend.getD i []))), none]) (fun i x => [rL p ((cols m x.2).map eQs), rL fa ((cols m x.1).map eQs), rB l m.n D X (cols m x.1)]) (it_list (ev_var rfl)) ?_ (fun i _ hi _ => ?_) (fun mm i x hi I => ?_) (fun x I => ?_)
    · exact ⟨(ws, []), fc_in S hne, ⟨rfl, rfl, rfl, rfl, rfl, trivial⟩, rfl⟩
    · rw [List.length_map, List.length_map] at hi
      rw [show itm ((cols m pend).map eQs) i = eQs (colL m (pend.getD i [])) by rw [List.map_map]; exact itm_map [] hi]
      exact tg_name
    · obtain ⟨vs, ls⟩ := x
      rw [List.length_map, List.length_map] at hi
      have ed : pend.drop i = pend.getD i [] :: pend.drop (i + 1) := by rw [List.drop_eq_getElem_cons hi, getD_of_lt [] hi]
      have I : FcIn m lev ws.length (pend.drop i) vs ls := I
      rw [ed] at I
      generalize pend.getD i [] = u at I
      obtain ⟨hu, hul⟩ := I.pl u List.mem_cons_self
      have hle := I.le
      have hkl := I.kl
      have hgr := I.gr
      refine s_if (C := [l]) (Δ1 := [rL p ((cols m ls).map eQs), rL fa ((cols m vs).map eQs), rB l m.n D X (nxF m.n (cols m vs) (colL m u))]) (et_B (ev_methR (k := 2) (ev_var rfl) (by decide) (ea_cons (ev_var rfl) ea_nil) (put_call F.lim (colL_len m u) (F.rb u hu (by omega))) rfl (fun _ h => h) rfl (fun _ h => h) rfl)) (fun h => ?_) (fun h => s_next ?_) (own1 hl)
      · have h1 : isp m.n (cols m vs) (colL m u) = false := by simpa using h
        have e1 : nxF m.n (cols m vs) (colL m u) = cols m (vs ++ [u]) := by
          unfold nxF
          rw [h1, cols_snoc]
          rfl
        rw [e1]
        refine t_know (ρ := rB l m.n D X (cols m (vs ++ [u]))) (by simp) (fun ω h => FcOk.ind h) fun hi => ?_
        have I2 := fc_put ok I hi
        have hle2 := I2.le
        rw [List.length_append, List.length_singleton] at hle2
        refine q_drop (C := [fa]) (Δ1 := [rL p ((cols m ls).map eQs), rL fa ((cols m (vs ++ [u])).map eQs), rB l m.n D X (cols m (vs ++ [u]))]) (ev_append (k := 1) (Δ2 := [rL p ((cols m ls).map eQs), rL fa ((cols m vs).map eQs), rB l m.n D X (cols m (vs ++ [u]))]) (e := eQs (colL m u)) (fs := (cols m vs).map eQs) (es := (cols m vs).map eQs) (ev_var rfl) (by simp) (ev_var rfl) rfl ?_ List.mem_cons_self ?_) ?_ (own1 hf)
        · rw [List.length_map, List.length_map]; omega
        · rw [cols_snoc, List.map_append]
          rfl
        refine s_drop (C := [p]) (Δ1 := [rL p ((cols m (ls ++ m.signs.map fun s => s :: u)).map eQs), rL fa ((cols m (vs ++ [u])).map eQs), rB l m.n D X (cols m (vs ++ [u]))]) (ev_extend (k := 0) (Δ2 := [rL p ((cols m ls).map eQs), rL fa ((cols m (vs ++ [u])).map eQs), rB l m.n D X (cols m (vs ++ [u]))]) (fs := (cols m ls).map eQs) (es := (cols m ls).map eQs) (gs := (cols m (m.signs.map fun s => s :: u)).map eQs) (ev_var rfl) (by simp) ?_ rfl ?_ List.mem_cons_self ?_) (lp_mk (vs ++ [u], ls ++ m.signs.map fun s => s :: u) I2 rfl ?_) (own1 hp)
        · refine ev_is (ev_lcM (u := m.signs) (ψ := fun s => eQs (colL m (s :: u))) (ev_prop (ev_var rfl) ok_msigns) (by omega) fun s hs => ev_call (ea_cons (ev_var rfl) (ea_cons (ev_var rfl) (ea_cons (ev_var rfl) ea_nil))) (ok_stepped_back (F.back hu (by omega) hs) (step_col ok u s))) ?_
          rw [List.map_map, List.map_map]
          rfl
        · rw [List.length_map, List.length_map, List.length_map, List.length_map, List.length_map]
          have h1 := I.lb
          have h2 : m.signs.length * vs.length ≤ 26 * 6 := Nat.mul_le_mul hsg (by omega)
          omega
        · show _ = _
          rw [show cols m (ls ++ m.signs.map fun s => s :: u) = cols m ls ++ cols m (m.signs.map fun s => s :: u) from List.map_append, List.map_append]
          rfl
        · exact ⟨rfl, rfl, rfl, rfl, rfl, trivial⟩
      · have h1 : isp m.n (cols m vs) (colL m u) = true := by simpa using h
        have e1 : nxF m.n (cols m vs) (colL m u) = cols m vs := by
          unfold nxF
          rw [h1]
          rfl
        rw [e1]
        exact lp_mk (vs, ls) (fc_skip ok I (isp_t.mp h1)) rfl ⟨rfl, rfl, rfl, rfl, rfl, trivial⟩
    · obtain ⟨vs, ls⟩ := x
      rw [List.length_map, List.length_map, List.drop_of_length_le (Nat.le_refl _)] at I
      have I : FcIn m lev ws.length [] vs ls := I
      refine t_frz (i := 4) hp rfl ?_
      refine s_asg (C := []) (ev_var rfl) (lp_mk (lev + 1, vs, ls) ⟨fc_next I, ?_⟩ rfl ?_)
      · show 2 * (m.n + 1 - vs.length) + (if ls = [] then 0 else 1) < 2 * (m.n + 1 - ws.length) + (if pend = [] then 0 else 1)
        have h1 := I.gr
        have h2 := I.le
        rw [if_neg hne]
        split
        · omega
        · rename_i q
          have h3 := I.gl q
          omega
      · exact ⟨rfl, rfl, rfl, rfl, trivial⟩
  · have he : pend = [] := by
      have := of_decide_eq_false h
      exact List.length_eq_zero_iff.mp (by omega)
    subst he
    refine t_know (ρ := rB l m.n D X (cols m ws)) (by simp) (fun ω h => FcOk.ind h) fun hi => ?_
    refine t_frz (i := 2) hf rfl ?_
    exact s_ret (C := []) (ev_var rfl) fun v ω' l _ hv => hQ v ω' l ⟨cols m ws, fc_done ok S hi, hv⟩
end
end Tw

/-! tariffs.py: form_of -/
namespace Tw
open PySem L2 PyProof.Rows

section
variable {W : Bs} {Γ : List (Option En)} {Δ : List Rs} {D : Ends} {t : TS}
theorem tr_lp {β : Type} {P : β → Prop} {Γf : β → List (Option En)} {Δf : β → List Rs} (h : ∀ b, P b → Tr t (As W (Γf b) (Δf b)) D) : Tr t (Lp W P Γf Δf) D := fun σ H ⟨b, p, a⟩ => h b p σ H a
end
theorem rowL_len (m : Mach) (u : List Nat) : (rowL m u).length = m.n := tab_len _ _
theorem DCXC : DC ≤ XC := by decide
theorem Mach.Sm.rowb {m : Mach} (S : m.Sm) {u : List Nat} (h : u.length ≤ 6) (j : Nat) : RB DC XC ((rowL m u).getD j 0) := by
  by_cases q : j < m.n
  · rw [show (rowL m u).getD j 0 = rowF m u j from tab_at q]
    exact rb_up (S.row u j) h
  · rw [show (rowL m u).getD j 0 = 0 from tab_ge (Nat.le_of_not_lt q)]
    exact RB.zero _ _
theorem rb_q4 {D X : Nat} {q : Rat} (h : RB D X q) (h0 : 0 < D) (h1 : D < 2 ^ 4000) (h2 : X < 2 ^ 4000) : Q4 q := ⟨Nat.lt_of_le_of_lt (h.num h0) h2, Nat.lt_of_le_of_lt (Nat.le_of_dvd h0 h.den) h1⟩
theorem dot_ok {m : Mach} (S : m.Sm) {u w : List Nat} (hu : u.length ≤ 6) (hw : w.length ≤ 6) : DotOk (rowL m u) (colL m w) where
  len := by rw [rowL_len]; have := S.n6; omega
  eq := by rw [rowL_len, colL_len]
  x := fun i => rb_q4 (S.rowb hu i) (by decide) (by decide) (by decide)
  y := fun i => rb_q4 (S.colL hw i) (by decide) (by decide) (by decide)
  p := fun i => rb_q4 ((S.rowb hu i).mul (S.colL hw i)) (by decide) (by decide) (by decide)
  s := fun i hi => by
    rw [rowL_len] at hi
    have h : RB (DC * DC) (i * (XC * XC)) (dotR (rowL m u) (colL m w) i) := sm_rb fun j _ => (S.rowb hu j).mul (S.colL hw j)
    have h6 : i ≤ 6 := Nat.le_trans hi S.n6
    exact rb_q4 (h.mono (Nat.mul_le_mul_right _ h6)) (by decide) (by decide) (by decide)
theorem dot_val {m : Mach} {u w : List Nat} : dotR (rowL m u) (colL m w) (rowL m u).length = wt m u w := by
  rw [rowL_len]
  exact dot_wt m u w
structure FmOk (m : Mach) : Prop where
  fit : m.Fit
  sm : m.Sm
theorem FmOk.fc {m : Mach} (F : FmOk m) : FcOk m DC XC := ⟨F.fit, lim_c F.sm.n6, fun w _ hl j => F.sm.colL (by have := F.sm.n6; omega) j⟩
theorem FmOk.step {m : Mach} (F : FmOk m) {u : List Nat} {s : Nat} (hu : u.length + 1 ≤ 6) (hs : s ∈ m.signs) : StOk m (m.eds s) (rowL m u) s := by
  refine ⟨F.fit, hs, rowL_len m u, rowok_rb (lim_c F.sm.n6) (rowL_len m u) (F.sm.rowb (by omega)), fun j hj => ?_⟩
  have h := F.sm.rowb (u := u ++ [s]) (by rw [List.length_append]; exact hu) j
  rw [← step_row F.fit.ok u s, tab_at hj] at h
  exact rb_q4 h (by decide) (by decide) (by decide)
abbrev eNb (nb : List (List Rat)) : En := eLst (nb.map eQs)
abbrev eTab (tb : List (List (List Rat))) : En := eLst (tb.map eNb)
def TbB (tb : List (List (List Rat))) : Prop := ∀ nb ∈ tb, ∀ c ∈ nb, ∃ X : Nat, 0 < X ∧ X ≤ Bd ∧ ∀ q ∈ c, RB X Bd q
abbrev Frm := List (List Nat) × List (List (List Rat))
def eFrm (m : Mach) : En := eAny Frm (fun x => HOk m x.1 x.2 ∧ x.1.length ≤ m.n ∧ TbB x.2 ∧ ∃ Cs, FreeC m Cs) fun x => eTup [eMs x.1, eTab x.2, eQs (x.1.map fun h => wt m h [])]
theorem map_snoc {α β : Type} (f : α → β) (xs : List α) (x : α) : (xs ++ [x]).map f = xs.map f ++ [f x] := by rw [List.map_append]; rfl
theorem map_eM {hs : List (List Nat)} : eLst (hs.map eM) = eMs hs := rfl
theorem tb_mem {tb : List (List (List Rat))} {nb : List (List Rat)} {c : List Rat} (h1 : nb ∈ tb) (h2 : c ∈ nb) : ∃ i k, i < tb.length ∧ k < (tb.getD i []).length ∧ (tb.getD i []).getD k [] = c := by
  obtain ⟨i, hi, e⟩ := mem_getD [] h1
  obtain ⟨k, hk, e2⟩ := mem_getD [] h2
  exact ⟨i, k, hi, by rw [e]; exact hk, by rw [e]; exact e2⟩
theorem FmSt.row_of {m : Mach} {ws hs : List (List Nat)} {tb : List (List (List Rat))} (S : FmSt m ws hs tb []) {nb : List (List Rat)} {c : List Rat} (h1 : nb ∈ tb) (h2 : c ∈ nb) : ∃ u, RowP m ws hs u c := by
  obtain ⟨i, k, hi, hk, e⟩ := tb_mem h1 h2
  rw [S.tk i hi] at hk
  have := S.rp i k _ (.inl hi) (List.getElem?_eq_getElem hk)
  rw [getD_snoc, if_pos hi, e] at this
  exact ⟨_, this⟩
theorem eQs_pad {n : Nat} {c : List Rat} : eLst (c.map eQ ++ List.replicate (n - c.length) (eQ 0)) = eQs (padR n c) := by
  show _ = eLst ((padR n c).map eQ)
  unfold padR
  rw [List.map_append, List.map_replicate]
section
variable {P : Program} {w : World} {K : PySem.W.Frag} {mg : Str → Option Value} {base : Heap} {CB CM : Addr}
abbrev s_form_of : Stmt := topS 35
abbrev n_form_of : List Str := ["machine", "columns", "basis", "size", "table", "heads", "rows", "place", "numbers", "sign", "row", "rest", "told", "column"]
abbrev p_form_of : List Str := ["machine"]
theorem sc_form_of : FnScope n_form_of p_form_of (defScope s_form_of) := ⟨rfl, rfl, rfl, by decide +kernel, rfl, by decide +kernel, by decide +kernel⟩
def spFormOf (CM : Addr) : Sp := spFn (β := Mach) (fun m => [eMc CM m]) FmOk eFrm
theorem ok_form_of {m : Mach} (h : FmOk m) : SpOk (spFormOf CM) [eMc CM m] (eFrm m) := spFn_ok (β := Mach) m h
abbrev FormOf (P : Program) (w : World) (K : PySem.W.Frag) (mg : Str → Option Value) (base : Heap) (CM : Addr) : Prop := Cal P w K mg base "form_of" p_form_of 5 (spFormOf CM)
theorem cal_form_of (T : Txt K mg) (cB : Cls K CB) (cM : Cls K CM) (D : DefAt K mg "form_of" s_form_of) (c_free_columns : FreeColumns P w K mg base CM) (k_Basis : BMake P w K mg base CB) (c_Basis_put : BPut P w K mg base CB) (c_Basis_told : BTold P w K mg base CB)
    (c_Machine_begin : MBegin P w K mg base CM) (c_Machine_end : MEnd P w K mg base CM) (c_Machine_signs : MSigns P w K mg base CM) (c_stepped : Stepped P w K mg base CM) (c_dot : Dot P w K mg base) : FormOf P w K mg base CM := by
  refine cal_of D sc_form_of (fun _ _ _ _ _ _ us hl => match us, hl with | [_], _ => rfl) (len_fn fun _ => rfl) fun f cdv A outer s H E hr => ⟨_, (pss_cons (ps_set (i := 1) sc_form_of.nd rfl (Or.inl rfl) (pe_cal c_free_columns hr rfl (pa_cons (pv 0) pa_nil)))
 (pss_cons (ps_set (i := 2) sc_form_of.nd rfl (Or.inl rfl) (pe_calC0 k_Basis hr rfl))
 (pss_cons (ps_par3 (i := 5) (j := 6) (l := 4) rfl sc_form_of.nd rfl rfl rfl (by decide) (by decide) (by decide) rfl rfl rfl (pa_cons (pe_lst pa_nil) (pa_cons (pe_lst pa_nil) (pa_cons (pe_lst pa_nil) pa_nil))) rfl)
 (Evl.pss_cut (ps_if (pt_val (pe_calM c_Basis_put cB hr (pv 2) (pa_cons (pe_lc (own := [("column", 13)]) rfl sc_form_of.nd (pi_list (pv 1)) (blkOk_by (N := n_form_of) (sc := defScope s_form_of) (by decide +kernel)) (fun _ _ _ _ _ => (pg_name (i := 13) sc_form_of.nd rfl (Or.inl rfl))) (fun _ _ _ _ _ => pts_nil) (fun _ _ _ _ _ => (pe_cal c_dot hr rfl (pa_cons (pe_calP c_Machine_begin cM hr (pv 0)) (pa_cons (pv 13) pa_nil))))) pa_nil))) (pss_cons (ps_expr (pe_bm PySem.F.plainAttrs_list PySem.F.slot_list_append PySem.F.type_list_append mt_append (pv 5) (pa_cons pe_str pa_nil)))
 (pss_one (ps_expr (pe_bm PySem.F.plainAttrs_list PySem.F.slot_list_append PySem.F.type_list_append mt_append (pv 6) (pa_cons (pe_calP c_Machine_begin cM hr (pv 0)) pa_nil))))) pss_nil)
 (pss_cons (ps_while PassesOwn.never (pt_cmpR op_lt (pe_callB call_len_seq (by rfl) T.len (by decide +kernel) (pa_cons (pv 4) pa_nil)) (pe_callB call_len_seq (by rfl) T.len (by decide +kernel) (pa_cons (pv 5) pa_nil)) (nomark _)) (pss_cons (ps_set (i := 7) sc_form_of.nd rfl (Or.inl rfl) (pe_callB call_len_seq (by rfl) T.len (by decide +kernel) (pa_cons (pv 4) pa_nil)))
 (pss_cons (ps_set (i := 8) sc_form_of.nd rfl (Or.inl rfl) (pe_lst pa_nil))
 (pss_cons (ps_for PassesOwn.never rfl (pi_str (pe_calP c_Machine_signs cM hr (pv 0))) (pg_name (i := 9) sc_form_of.nd rfl (Or.inl rfl))
 (pss_cons (ps_set (i := 10) sc_form_of.nd rfl (Or.inr rfl) (pe_cal c_stepped hr rfl (pa_cons (pv 0) (pa_cons (pe_ix ix_list (pv 6) (pv 7) (fun _ _ => rfl)) (pa_cons (pv 9) pa_nil)))))
 (pss_cons (ps_setLc (i := 11) (own := [("column", 13)]) rfl sc_form_of.nd rfl rfl (sw_true rfl rfl rfl (by decide +kernel)) (pi_list (pv 1)) (blkOk_by (N := n_form_of) (sc := defScope s_form_of) (by decide +kernel)) (fun _ _ _ _ _ => (pg_name (i := 13) sc_form_of.nd rfl (Or.inl rfl))) (fun _ _ _ _ _ => pts_nil) (fun _ _ _ _ _ => (pe_cal c_dot hr rfl (pa_cons (pv 10) (pa_cons (pv 13) pa_nil)))))
 (pss_cons (ps_set (i := 12) sc_form_of.nd rfl (Or.inl rfl) (pe_calM c_Basis_told cB hr (pv 2) (pa_cons (pv 11) pa_nil)))
 (Evl.pss_cut (ps_if (pt_cmpR op_isN (pv 12) pe_non (nomark _)) (pss_cons (ps_expr (pe_calM c_Basis_put cB hr (pv 2) (pa_cons (pv 11) pa_nil)))
 (pss_cons (ps_set (i := 12) sc_form_of.nd rfl (Or.inl rfl) (pe_op op_cat (pe_op op_rep (pe_lst (pa_cons (pe_tup (pa_cons pe_int (pa_cons pe_int pa_nil))) pa_nil)) (pe_callB call_len_seq (by rfl) T.len (by decide +kernel) (pa_cons (pv 5) pa_nil))) (pe_lst (pa_cons (pe_tup (pa_cons pe_int (pa_cons pe_int pa_nil))) pa_nil))))
 (pss_cons (ps_expr (pe_bm PySem.F.plainAttrs_list PySem.F.slot_list_append PySem.F.type_list_append mt_append (pv 5) (pa_cons (pe_op op_add_str (pe_ix ix_list (pv 5) (pv 7) (fun _ _ => rfl)) (pv 9)) pa_nil)))
 (pss_one (ps_expr (pe_bm PySem.F.plainAttrs_list PySem.F.slot_list_append PySem.F.type_list_append mt_append (pv 6) (pa_cons (pv 10) pa_nil))))))) pss_nil)
 (pss_one (ps_expr (pe_bm PySem.F.plainAttrs_list PySem.F.slot_list_append PySem.F.type_list_append mt_append (pv 8) (pa_cons (pv 12) pa_nil)))))))))
 (pss_one (ps_expr (pe_bm PySem.F.plainAttrs_list PySem.F.slot_list_append PySem.F.type_list_append mt_append (pv 4) (pa_cons (pv 8) pa_nil))))))))
 (pss_cons (ps_set (i := 3) sc_form_of.nd rfl (Or.inr rfl) (pe_callB call_len_seq (by rfl) T.len (by decide +kernel) (pa_cons (pv 5) pa_nil)))
 (pss_cons (ps_setLc (i := 4) (own := [("numbers", 8)]) rfl sc_form_of.nd rfl rfl (sw_true rfl rfl rfl (by decide +kernel)) (pi_list (pv 4)) (blkOk_by (N := n_form_of) (sc := defScope s_form_of) (by decide +kernel)) (fun _ _ _ _ _ => (pg_name (i := 8) sc_form_of.nd rfl (Or.inl rfl))) (fun _ _ _ _ _ => pts_nil) (fun _ _ _ _ _ => (pe_lc (own := [("told", 12)]) rfl sc_form_of.nd (pi_listK K rfl (pv 8)) (blkOk_by (by rfl)) (fun _ _ _ _ _ => (pg_name (i := 12) sc_form_of.nd rfl (Or.inl rfl))) (fun _ _ _ _ _ => pts_nil) (fun _ _ _ _ _ => (pe_op op_cat (pv 12) (pe_op op_rep (pe_lst (pa_cons (pe_tup (pa_cons pe_int (pa_cons pe_int pa_nil))) pa_nil)) (pe_op op_sub (pv 3) (pe_callB (lenSq K rfl) (by rfl) T.len (by decide +kernel) (pa_cons (pv 12) pa_nil)))))))))
 (pss_one (ps_ret (pe_tup (pa_cons (pv 5) (pa_cons (pv 4) (pa_cons (pe_lc (own := [("row", 10)]) rfl sc_form_of.nd (pi_list (pv 6)) (blkOk_by (N := n_form_of) (sc := defScope s_form_of) (by decide +kernel)) (fun _ _ _ _ _ => (pg_name (i := 10) sc_form_of.nd rfl (Or.inl rfl))) (fun _ _ _ _ _ => pts_nil) (fun _ _ _ _ _ => (pe_cal c_dot hr rfl (pa_cons (pv 10) (pa_cons (pe_calP c_Machine_end cM hr (pv 0)) pa_nil))))) pa_nil))))))))))))), body_fn fun m F ω Q hQ => ?_⟩
  have F : FmOk m := F
  have ok := F.fit.ok
  have hn6 := F.sm.n6
  have hsg := F.fit.sg.len
  refine q_asg (C := []) (ev_call (ea_cons (ev_var rfl) ea_nil) (ok_free_columns F.fc)) ?_
  refine t_any (i := 1) rfl fun Cs FC => ?_
  obtain ⟨ws, rfl, hws⟩ := FC.ws
  have FC : FreeC m (cols m ws) := FC
  have wl : ws.length ≤ m.n := by have := FC.ind.le; rwa [List.length_map] at this
  have LW := lim_w (m := ws.length) (by omega)
  have ew : eCs (ws.map (colL m)) = eLst (ws.map fun w => eQs (colL m w)) := by
    show eLst ((ws.map (colL m)).map eQs) = _
    rw [List.map_map]
    rfl
  rw [ew]
  have hwl : ∀ w ∈ ws, w.length ≤ 6 := fun w hw => by have := (hws w hw).2; omega
  have rho_ev : ∀ {u : List Nat}, (ws.map fun w => eQ (wt m u w)) = (rho m ws u).map eQ := fun {u} => by
    unfold rho
    rw [List.map_map]
    rfl
  have rl : ∀ u, (rho m ws u).length = ws.length := fun u => rho_len m ws u
  have rb : ∀ {u : List Nat}, u.length ≤ 6 → ∀ j, RB DW XW ((rho m ws u).getD j 0) := fun {u} hu j => by
    by_cases q : j < ws.length
    · rw [rho_at q]
      exact F.sm.wt (by have := hwl _ (getD_mem [] q); omega)
    · rw [getD_of_le 0 (by rw [rl]; omega)]
      exact RB.zero _ _
  refine q_asgX (γ := Addr) ex_makeB fun l hl => ?_
  have hl : ω.H l = none := hl l List.mem_cons_self
  refine t_conv (ρ' := rB l ws.length DW XW (rhos m ws [])) (fun ω h => ⟨[], kok_nil _ _ _, h⟩) rfl ?_
  refine q_par3N (C := []) fun p q r hp hq hr => ?_
  refine tr_cut (Lp (bs0 ω) (fun hs => hs = [[]] ∨ (hs = [] ∧ InSpan ws.length [] (rho m ws []))) (fun _ => [some (eMc CM m), some (eLst (ws.map fun w => eQs (colL m w))), some (eBas CB l), none, some (eR r), some (eR p), some (eR q), none, none, none, none, none, none, none])
    (fun hs => [rL r [], rL q (hs.map fun h => eQs (rowL m h)), rL p (hs.map eM), rB l ws.length DW XW (rhos m ws hs)])) ?_ (tr_lp fun hs0 H0 => ?_)
  · refine s_if (C := [l]) (Δ1 := [rL r [], rL q [], rL p [], rB l ws.length DW XW (nxF ws.length [] (rho m ws []))]) (et_B (ev_methR (k := 3) (ev_var rfl) (by decide) (ea_cons (Δ1 := [rL r [], rL q [], rL p [], rB l ws.length DW XW []]) (a := eQs (rho m ws [])) ?_ ea_nil) (put_call LW (rl []) (rb (Nat.zero_le _))) rfl (fun _ h => h) rfl (fun _ h => h) rfl)) (fun h => ?_) (fun h => s_next ?_) (own1 hl)
    · refine ev_is (ev_lcL (xs := ws) (φ := fun w => eQs (colL m w)) (ψ := fun w => eQ (wt m [] w)) (ev_var rfl) (by omega) fun w hw => ev_call (ea_cons (ev_is (ev_prop (ev_var rfl) ok_mbegin) (show _ = eQs (rowL m []) by rw [rowL_nil])) (ea_cons (ev_var rfl) ea_nil)) (ok_dot (dot_ok F.sm (Nat.zero_le _) (hwl w hw)) dot_val)) (congrArg eLst rho_ev)
    · have h1 : isp ws.length [] (rho m ws []) = false := by simpa using h
      have e1 : nxF ws.length [] (rho m ws []) = rhos m ws [[]] := by
        unfold nxF
        rw [h1]
        rfl
      rw [e1]
      refine q_drop (C := [p]) (Δ1 := [rL r [], rL q [], rL p [eM []], rB l ws.length DW XW (rhos m ws [[]])]) (ev_append (k := 2) (Δ2 := [rL r [], rL q [], rL p [], rB l ws.length DW XW (rhos m ws [[]])]) (es := []) (fs := []) (e := eM []) (ev_var rfl) (by simp) ev_c rfl (by decide) List.mem_cons_self rfl) ?_ (own1 hp)
      refine s_drop (C := [q]) (Δ1 := [rL r [], rL q [eQs (rowL m [])], rL p [eM []], rB l ws.length DW XW (rhos m ws [[]])]) (ev_append (k := 1) (Δ2 := [rL r [], rL q [], rL p [eM []], rB l ws.length DW XW (rhos m ws [[]])]) (es := []) (fs := []) (e := eQs (rowL m [])) (ev_var rfl) (by simp) (ev_is (ev_prop (ev_var rfl) ok_mbegin) (show _ = eQs (rowL m []) by rw [rowL_nil])) rfl (by decide) List.mem_cons_self rfl) (lp_mk [[]] (.inl rfl) rfl ?_) (own1 hq)
      exact ⟨rfl, rfl, rfl, rfl, rfl, rfl, trivial⟩
    · have h1 : isp ws.length [] (rho m ws []) = true := by simpa using h
      have e1 : nxF ws.length [] (rho m ws []) = [] := by
        unfold nxF
        rw [h1]
        rfl
      rw [e1]
      exact lp_mk [] (.inr ⟨rfl, isp_t.mp h1⟩) rfl ⟨rfl, rfl, rfl, rfl, rfl, rfl, trivial⟩
  refine q_while (β := Frm) (fun x => FmSt m ws x.1 x.2 [] ∨ (x.1 = [] ∧ x.2 = [] ∧ InSpan ws.length [] (rho m ws []))) (fun x => ws.length + 1 - x.2.length) (fun _ => [some (eMc CM m), some (eLst (ws.map fun w => eQs (colL m w))), some (eBas CB l), none, some (eR r), some (eR p), some (eR q), none, none, none, none, none, none, none])
    (fun x => [rL r (x.2.map eNb), rL q (x.1.map fun h => eQs (rowL m h)), rL p (x.1.map eM), rB l ws.length DW XW (rhos m ws x.1)]) ?_ fun x S => ?_
  · refine ⟨(hs0, []), ?_, ⟨rfl, rfl, rfl, rfl, rfl, rfl, trivial⟩, rfl⟩
    rcases H0 with h | ⟨h, h'⟩
    · subst h
      exact .inl fm_start
    · exact .inr ⟨h, rfl, h'⟩
  obtain ⟨hs, tb⟩ := x
  refine ⟨[], decide (tb.length < hs.length), [rL r (tb.map eNb), rL q (hs.map fun h => eQs (rowL m h)), rL p (hs.map eM), rB l ws.length DW XW (rhos m ws hs)], Own.nil _, et_is (et_test (ev_op (ev_lenM (es := tb.map eNb) (ev_var rfl) (by simp)) (ev_lenM (es := hs.map eM) (ev_var rfl) (by simp)) op_I0)) ?_, fun h => ?_, fun h => ?_⟩
  · rw [List.length_map, List.length_map]
    exact decide_eq_decide.mpr (by omega)
  · have hlt : tb.length < hs.length := of_decide_eq_true h
    have S : FmSt m ws hs tb [] := S.elim id fun h => by
      have e : hs = [] := h.1
      rw [e] at hlt
      exact absurd hlt (Nat.not_lt_zero _)
    refine t_know (ρ := rB l ws.length DW XW (rhos m ws hs)) (by simp) (fun ω h => FcOk.ind (m := ⟨[], List.replicate ws.length 0, [], []⟩) (by rw [show (Mach.mk [] (List.replicate ws.length 0) [] []).n = ws.length from List.length_replicate]; exact h)) fun ind0 => ?_
    rw [show (Mach.mk [] (List.replicate ws.length 0) [] []).n = ws.length from List.length_replicate] at ind0
    have hw0 : hs.length ≤ ws.length := by have := ind0.le; rwa [List.length_map] at this
    refine q_asg (C := []) (ev_lenM (es := tb.map eNb) (ev_var rfl) (by simp)) ?_
    refine q_asgX (γ := Addr) (ex_lst ea_nil (Nat.zero_le _)) fun np hnp => ?_
    have hnp : ω.H np = none := hnp np List.mem_cons_self
    refine q_for (C := []) (β := List (List Nat) × List (List Rat)) (fun k x => FmSt m ws x.1 tb x.2 ∧ x.2.length = k ∧ tb.length < x.1.length) (fun k x => [some (eMc CM m), some (eLst (ws.map fun w => eQs (colL m w))), some (eBas CB l), none, some (eR r), some (eR p), some (eR q), some (eI (tb.length : Int)), some (eR np), none, none, none, none, none])
      (fun k x => [some (eMc CM m), some (eLst (ws.map fun w => eQs (colL m w))), some (eBas CB l), none, some (eR r), some (eR p), some (eR q), some (eI (tb.length : Int)), some (eR np), some (eM [m.signs.getD k 0]), none, none, none, none])
      (fun k x => [rL np (x.2.map eQs), rL r (tb.map eNb), rL q (x.1.map fun h => eQs (rowL m h)), rL p (x.1.map eM), rB l ws.length DW XW (rhos m ws x.1)]) (it_msg (u := m.signs) (ev_prop (ev_var rfl) ok_msigns)) ?_ (fun _ _ _ _ => tg_name) (fun mm k x hk I => ?_) (fun x I => ?_)
    · refine ⟨(hs, []), ⟨S, rfl, hlt⟩, ⟨rfl, rfl, rfl, rfl, rfl, rfl, ?_, rfl, trivial⟩, rfl⟩
      rw [List.length_map]
    · obtain ⟨hs, nb⟩ := x
      obtain ⟨S, hkl, hlt⟩ := I
      have S : FmSt m ws hs tb nb := S
      have hkl : nb.length = k := hkl
      have hlt : tb.length < hs.length := hlt
      have hs' : m.signs[nb.length]? = some (m.signs.getD k 0) := by rw [hkl, getD_of_lt 0 hk]; exact List.getElem?_eq_getElem hk
      have sm' : m.signs.getD k 0 ∈ m.signs := getD_mem 0 hk
      generalize m.signs.getD k 0 = sg at hs' sm'
      refine t_know (ρ := rB l ws.length DW XW (rhos m ws hs)) (by simp) (fun ω h => FcOk.ind (m := ⟨[], List.replicate ws.length 0, [], []⟩) (by rw [show (Mach.mk [] (List.replicate ws.length 0) [] []).n = ws.length from List.length_replicate]; exact h)) fun ind => ?_
      rw [show (Mach.mk [] (List.replicate ws.length 0) [] []).n = ws.length from List.length_replicate] at ind
      have hw : hs.length ≤ ws.length := by have := ind.le; rwa [List.length_map] at this
      have hul := S.ln _ hlt
      have hu6 : (hd hs tb.length ++ [sg]).length ≤ 6 := by rw [List.length_append, List.length_singleton]; omega
      refine q_asg (C := []) (Δ1 := [rL np (nb.map eQs), rL r (tb.map eNb), rL q (hs.map fun h => eQs (rowL m h)), rL p (hs.map eM), rB l ws.length DW XW (rhos m ws hs)]) (e := eQs (rowL m (hd hs tb.length ++ [sg]))) (ev_call (ea_cons (ev_var rfl) (ea_cons (ev_ixM (es := hs.map fun h => eQs (rowL m h)) (e := eQs (rowL m (hd hs tb.length))) (j := tb.length) (ev_var rfl) (ev_var rfl) (by simp) ?_) (ea_cons (ev_var rfl) ea_nil))) (ok_stepped (F.step (by omega) sm') (step_row ok _ _))) ?_
      · rw [List.getElem?_map, List.getElem?_eq_getElem hlt]
        unfold hd
        rw [getD_of_lt [] hlt]
        rfl
      refine q_asg (C := []) (Δ1 := [rL np (nb.map eQs), rL r (tb.map eNb), rL q (hs.map fun h => eQs (rowL m h)), rL p (hs.map eM), rB l ws.length DW XW (rhos m ws hs)]) (e := eQs (rho m ws (hd hs tb.length ++ [sg]))) ?_ ?_
      · refine ev_is (ev_lcL (xs := ws) (φ := fun w => eQs (colL m w)) (ψ := fun w => eQ (wt m (hd hs tb.length ++ [sg]) w)) (ev_var rfl) (by omega) fun w hw => ev_call (ea_cons (ev_var rfl) (ea_cons (ev_var rfl) ea_nil)) (ok_dot (dot_ok F.sm hu6 (hwl w hw)) dot_val)) (congrArg eLst rho_ev)
      refine q_asg (C := []) (Δ1 := [rL np (nb.map eQs), rL r (tb.map eNb), rL q (hs.map fun h => eQs (rowL m h)), rL p (hs.map eM), rB l ws.length DW XW (rhos m ws hs)]) (e := eTold ws.length (rhos m ws hs) (rho m ws (hd hs tb.length ++ [sg]))) (ev_methR (k := 4) (Δ1 := [rL np (nb.map eQs), rL r (tb.map eNb), rL q (hs.map fun h => eQs (rowL m h)), rL p (hs.map eM), rB l ws.length DW XW (rhos m ws hs)]) (ev_var rfl) (by decide) (ea_cons (ev_var rfl) ea_nil) (told_call LW (rl _) (rb hu6)) rfl (fun _ h => nomatch h) rfl (fun _ h => nomatch h) rfl) ?_
      cases hsp : isp ws.length (rhos m ws hs) (rho m ws (hd hs tb.length ++ [sg])) with
      | true =>
        rw [show eTold ws.length (rhos m ws hs) (rho m ws (hd hs tb.length ++ [sg])) = eAny (List Rat) (fun c => CfOk ws.length (rhos m ws hs) (rho m ws (hd hs tb.length ++ [sg])) c) eQs by unfold eTold; rw [hsp]; rfl]
        refine t_any (i := 12) rfl fun c hc => ?_
        refine tr_cut (As ((bs0 ω).at mm) [some (eMc CM m), some (eLst (ws.map fun w => eQs (colL m w))), some (eBas CB l), none, some (eR r), some (eR p), some (eR q), some (eI (tb.length : Int)), some (eR np), some (eM [sg]), some (eQs (rowL m (hd hs tb.length ++ [sg]))), some (eQs (rho m ws (hd hs tb.length ++ [sg]))), some (eQs c), none] [rL np (nb.map eQs), rL r (tb.map eNb), rL q (hs.map fun h => eQs (rowL m h)), rL p (hs.map eM), rB l ws.length DW XW (rhos m ws hs)]) ?_ ?_
        · exact s_if (C := []) (c := false) (et_test (ev_op (ev_var rfl) ev_c op_isNL)) (fun h => nomatch h) (fun _ => s_next fun _ _ h => h)
        · refine s_drop (C := [np]) (Δ1 := [rL np ((nb ++ [c]).map eQs), rL r (tb.map eNb), rL q (hs.map fun h => eQs (rowL m h)), rL p (hs.map eM), rB l ws.length DW XW (rhos m ws hs)]) (ev_append (k := 0) (Δ2 := [rL np (nb.map eQs), rL r (tb.map eNb), rL q (hs.map fun h => eQs (rowL m h)), rL p (hs.map eM), rB l ws.length DW XW (rhos m ws hs)]) (es := nb.map eQs) (fs := nb.map eQs) (e := eQs c) (ev_var rfl) (by simp) (ev_var rfl) rfl (by rw [List.length_map]; omega) List.mem_cons_self (by rw [List.map_append]; rfl)) (lp_mk (hs, nb ++ [c]) ⟨fm_told F.fit.sg.up S hlt hs' (by rw [hc.len, List.length_map]) hc.x (fun j hj => by rw [hc.rel j hj, List.length_map]), by rw [List.length_append, hkl]; rfl, hlt⟩ rfl ?_) (own1 hnp)
          exact ⟨rfl, rfl, rfl, rfl, rfl, rfl, rfl, rfl, trivial⟩
      | false =>
        have hns := isp_f.mp hsp
        have S2 := fm_head F.fit.sg.up S hlt hs'
        have eF : nxF ws.length (rhos m ws hs) (rho m ws (hd hs tb.length ++ [sg])) = rhos m ws (hs ++ [hd hs tb.length ++ [sg]]) := by
          unfold nxF rhos
          rw [hsp, List.map_append]
          rfl
        rw [show eTold ws.length (rhos m ws hs) (rho m ws (hd hs tb.length ++ [sg])) = eN by unfold eTold; rw [hsp]; rfl]
        refine tr_cut (As ((bs0 ω).at mm) [some (eMc CM m), some (eLst (ws.map fun w => eQs (colL m w))), some (eBas CB l), none, some (eR r), some (eR p), some (eR q), some (eI (tb.length : Int)), some (eR np), some (eM [sg]), none, none, some (eQs (List.replicate hs.length 0 ++ [1])), none] [rL np (nb.map eQs), rL r (tb.map eNb), rL q ((hs ++ [hd hs tb.length ++ [sg]]).map fun h => eQs (rowL m h)), rL p ((hs ++ [hd hs tb.length ++ [sg]]).map eM), rB l ws.length DW XW (rhos m ws (hs ++ [hd hs tb.length ++ [sg]]))]) ?_ ?_
        · refine s_if (C := []) (c := true) (et_test (ev_op (ev_var rfl) ev_c op_isN')) (fun _ => ?_) (fun h => nomatch h)
          refine q_drop (C := [l]) (Δ1 := [rL np (nb.map eQs), rL r (tb.map eNb), rL q (hs.map fun h => eQs (rowL m h)), rL p (hs.map eM), rB l ws.length DW XW (rhos m ws (hs ++ [hd hs tb.length ++ [sg]]))]) (ev_methR (k := 4) (Δ1 := [rL np (nb.map eQs), rL r (tb.map eNb), rL q (hs.map fun h => eQs (rowL m h)), rL p (hs.map eM), rB l ws.length DW XW (rhos m ws hs)]) (ev_var rfl) (by decide) (ea_cons (ev_var rfl) ea_nil) (put_call LW (rl _) (rb hu6)) rfl (fun _ h => h) rfl (fun _ h => h) (by rw [eF]; rfl)) ?_ (own1 hl)
          refine q_asg (C := []) (Δ1 := [rL np (nb.map eQs), rL r (tb.map eNb), rL q (hs.map fun h => eQs (rowL m h)), rL p (hs.map eM), rB l ws.length DW XW (rhos m ws (hs ++ [hd hs tb.length ++ [sg]]))]) (e := eQs (List.replicate hs.length 0 ++ [1])) ?_ ?_
          · refine ev_is (ev_op (ev_op (ev_lst (ea_cons (a := eQ 0) (ev_tup (ea_cons ev_c (ea_cons ev_c ea_nil)) (Nat.le_of_ble_eq_true rfl)) ea_nil) (Nat.le_of_ble_eq_true rfl)) (ev_lenM (es := hs.map eM) (ev_var rfl) (by simp)) (op_repI (n := hs.length) (by rw [List.length_map]) (by omega))) (ev_lst (ea_cons (a := eQ 1) (ev_tup (ea_cons ev_c (ea_cons ev_c ea_nil)) (Nat.le_of_ble_eq_true rfl)) ea_nil) (Nat.le_of_ble_eq_true rfl)) (op_cat' (by rw [List.length_replicate]; show hs.length + 1 ≤ 100000; omega))) ?_
            unfold eQs
            rw [List.map_append, List.map_replicate]
            rfl
          refine q_drop (C := [p]) (Δ1 := [rL np (nb.map eQs), rL r (tb.map eNb), rL q (hs.map fun h => eQs (rowL m h)), rL p ((hs ++ [hd hs tb.length ++ [sg]]).map eM), rB l ws.length DW XW (rhos m ws (hs ++ [hd hs tb.length ++ [sg]]))]) (ev_append (k := 3) (Δ2 := [rL np (nb.map eQs), rL r (tb.map eNb), rL q (hs.map fun h => eQs (rowL m h)), rL p (hs.map eM), rB l ws.length DW XW (rhos m ws (hs ++ [hd hs tb.length ++ [sg]]))]) (es := hs.map eM) (fs := hs.map eM) (e := eM (hd hs tb.length ++ [sg])) (ev_var rfl) (by simp) (ev_op (ev_ixM (es := hs.map eM) (e := eM (hd hs tb.length)) (j := tb.length) (ev_var rfl) (ev_var rfl) (by simp) ?_) (ev_var rfl) (op_catM (by show _ + 1 ≤ _; omega))) rfl (by rw [List.length_map]; omega) List.mem_cons_self (by rw [List.map_append]; rfl)) ?_ (own1 hp)
          · rw [List.getElem?_map, List.getElem?_eq_getElem hlt]
            unfold hd
            rw [getD_of_lt [] hlt]
            rfl
          refine s_drop (C := [q]) (Δ1 := [rL np (nb.map eQs), rL r (tb.map eNb), rL q ((hs ++ [hd hs tb.length ++ [sg]]).map fun h => eQs (rowL m h)), rL p ((hs ++ [hd hs tb.length ++ [sg]]).map eM), rB l ws.length DW XW (rhos m ws (hs ++ [hd hs tb.length ++ [sg]]))]) (ev_append (k := 2) (Δ2 := [rL np (nb.map eQs), rL r (tb.map eNb), rL q (hs.map fun h => eQs (rowL m h)), rL p ((hs ++ [hd hs tb.length ++ [sg]]).map eM), rB l ws.length DW XW (rhos m ws (hs ++ [hd hs tb.length ++ [sg]]))]) (es := hs.map fun h => eQs (rowL m h)) (fs := hs.map fun h => eQs (rowL m h)) (e := eQs (rowL m (hd hs tb.length ++ [sg]))) (ev_var rfl) (by simp) (ev_var rfl) rfl (by rw [List.length_map]; omega) List.mem_cons_self (by rw [map_snoc (fun h => eQs (rowL m h)) hs]; rfl)) (As.wk ?_) (own1 hq)
          exact ⟨rfl, rfl, rfl, rfl, rfl, rfl, rfl, rfl, rfl, rfl, trivial⟩
        · refine s_drop (C := [np]) (Δ1 := [rL np ((nb ++ [List.replicate hs.length 0 ++ [1]]).map eQs), rL r (tb.map eNb), rL q ((hs ++ [hd hs tb.length ++ [sg]]).map fun h => eQs (rowL m h)), rL p ((hs ++ [hd hs tb.length ++ [sg]]).map eM), rB l ws.length DW XW (rhos m ws (hs ++ [hd hs tb.length ++ [sg]]))]) (ev_append (k := 0) (Δ2 := [rL np (nb.map eQs), rL r (tb.map eNb), rL q ((hs ++ [hd hs tb.length ++ [sg]]).map fun h => eQs (rowL m h)), rL p ((hs ++ [hd hs tb.length ++ [sg]]).map eM), rB l ws.length DW XW (rhos m ws (hs ++ [hd hs tb.length ++ [sg]]))]) (es := nb.map eQs) (fs := nb.map eQs) (e := eQs (List.replicate hs.length 0 ++ [1])) (ev_var rfl) (by simp) (ev_var rfl) rfl (by rw [List.length_map]; omega) List.mem_cons_self (by rw [map_snoc eQs nb]; rfl)) (lp_mk (hs ++ [hd hs tb.length ++ [sg]], nb ++ [List.replicate hs.length 0 ++ [1]]) ⟨S2, by rw [List.length_append, hkl]; rfl, by rw [List.length_append]; omega⟩ rfl ?_) (own1 hnp)
          exact ⟨rfl, rfl, rfl, rfl, rfl, rfl, rfl, rfl, trivial⟩
    · obtain ⟨hs, nb⟩ := x
      obtain ⟨S, hkl, hlt⟩ := I
      have S : FmSt m ws hs tb nb := S
      have hkl : nb.length = m.signs.length := hkl
      have hlt : tb.length < hs.length := hlt
      refine t_frz (i := 8) hnp rfl ?_
      refine s_drop (C := [r]) (Δ1 := [rL r ((tb ++ [nb]).map eNb), rL q (hs.map fun h => eQs (rowL m h)), rL p (hs.map eM), rB l ws.length DW XW (rhos m ws hs)]) (ev_append (k := 0) (Δ2 := [rL r (tb.map eNb), rL q (hs.map fun h => eQs (rowL m h)), rL p (hs.map eM), rB l ws.length DW XW (rhos m ws hs)]) (es := tb.map eNb) (fs := tb.map eNb) (e := eNb nb) (ev_var rfl) (by simp) (ev_var rfl) rfl (by rw [List.length_map]; omega) List.mem_cons_self (by rw [List.map_append]; rfl)) (lp_mk (hs, tb ++ [nb]) ⟨.inl (fm_place S hlt hkl), ?_⟩ rfl ?_) (own1 hr)
      · show ws.length + 1 - (tb ++ [nb]).length < ws.length + 1 - tb.length
        rw [List.length_append, List.length_singleton]
        omega
      · exact ⟨rfl, rfl, rfl, rfl, rfl, rfl, trivial⟩
  · have hge : ¬ tb.length < hs.length := of_decide_eq_false h
    refine t_know (ρ := rB l ws.length DW XW (rhos m ws hs)) (by simp) (fun ω h => FcOk.ind (m := ⟨[], List.replicate ws.length 0, [], []⟩) (by rw [show (Mach.mk [] (List.replicate ws.length 0) [] []).n = ws.length from List.length_replicate]; exact h)) fun ind => ?_
    rw [show (Mach.mk [] (List.replicate ws.length 0) [] []).n = ws.length from List.length_replicate] at ind
    have hw : hs.length ≤ ws.length := by have := ind.le; rwa [List.length_map] at this
    have fin : HOk m hs (padT hs.length tb) ∧ hs.length ≤ 6 ∧ (∀ nb ∈ tb, ∀ c ∈ nb, c.length ≤ hs.length ∧ ∃ X : Nat, 0 < X ∧ X ≤ Bd ∧ ∀ q ∈ c, RB X Bd q) ∧ (∀ nb ∈ tb, nb.length = m.signs.length) ∧ tb.length ≤ 6 ∧ (∀ h ∈ hs, h.length ≤ 6) := by
      rcases S with S | ⟨e1, e2, e3⟩
      · have S : FmSt m ws hs tb [] := S
        have hi : tb.length = hs.length := by have := S.il; omega
        refine ⟨fm_done ok FC hws S hi ind, by omega, fun nb h1 c h2 => ?_, fun nb h1 => ?_, by omega, fun h hh => ?_⟩
        · obtain ⟨u, R⟩ := S.row_of h1 h2
          exact ⟨R.len, R.x⟩
        · obtain ⟨i, hi2, e⟩ := mem_getD [] h1
          rw [← e]
          exact S.tk i hi2
        · obtain ⟨i, hi2, e⟩ := hd_of hh
          have := S.ln i hi2
          rw [e] at this
          omega
      · have e1 : hs = [] := e1
        have e2 : tb = [] := e2
        subst e1 e2
        exact ⟨fm_none ok FC e3, Nat.zero_le _, fun _ h => (nomatch h), fun _ h => (nomatch h), Nat.zero_le _, fun _ h => (nomatch h)⟩
    obtain ⟨HO, h6, hc, hnl, t6, hh6⟩ := fin
    refine q_asg (C := []) (ev_is (ev_lenM (es := hs.map eM) (ev_var rfl) (by simp)) (show _ = eI (hs.length : Int) by rw [List.length_map])) ?_
    refine t_frz (i := 4) hr rfl ?_
    refine q_asg (C := []) (Δ1 := [rL q (hs.map fun h => eQs (rowL m h)), rL p (hs.map eM), rB l ws.length DW XW (rhos m ws hs)]) (e := eTab (padT hs.length tb)) ?_ ?_
    · refine ev_is (ev_lcL (xs := tb) (φ := eNb) (ψ := fun nb => eNb (nb.map (padR hs.length))) (ev_var rfl) (by omega) fun nb hnb => ev_is (ev_lcL (xs := nb) (φ := eQs) (ψ := fun c => eQs (padR hs.length c)) (ev_var rfl) (by rw [hnl nb hnb]; omega) fun c hcm => ?_) ?_) ?_
      · have hcl := (hc nb hnb c hcm).1
        refine ev_is (ev_op (ev_var rfl) (ev_op (ev_lst (ea_cons (a := eQ 0) (ev_tup (ea_cons ev_c (ea_cons ev_c ea_nil)) (Nat.le_of_ble_eq_true rfl)) ea_nil) (Nat.le_of_ble_eq_true rfl)) (ev_op (ev_var rfl) (ev_cb (ea_cons (ev_var rfl) ea_nil) op_lenL) op_I0) (op_repI (n := hs.length - c.length) (by rw [List.length_map]; omega) (by omega))) (op_cat' (by rw [List.length_map, List.length_replicate]; omega))) eQs_pad
      · show eLst _ = eLst ((nb.map (padR hs.length)).map eQs)
        rw [List.map_map]
        rfl
      · show eLst _ = eLst ((padT hs.length tb).map eNb)
        unfold padT
        rw [List.map_map]
        rfl
    refine t_frz (i := 6) hq rfl ?_
    refine t_frz (i := 5) hp rfl ?_
    refine s_ret (C := []) (ev_tup (ea_cons (ev_var rfl) (ea_cons (ev_var rfl) (ea_cons (ev_is (ev_lcL (xs := hs) (φ := fun h => eQs (rowL m h)) (ψ := fun h => eQ (wt m h [])) (ev_var rfl) (by omega) fun h hh => ev_call (ea_cons (ev_var rfl) (ea_cons (ev_is (ev_prop (ev_var rfl) ok_mend) (show _ = eQs (colL m []) by rw [colL_nil ok])) ea_nil)) (ok_dot (dot_ok F.sm (hh6 h hh) (Nat.zero_le _)) dot_val)) (show _ = eQs (hs.map fun h => wt m h []) by show _ = eLst ((hs.map fun h => wt m h []).map eQ); rw [List.map_map]; rfl)) ea_nil))) (Nat.le_of_ble_eq_true rfl)) fun v ω' l' _ hv => hQ v ω' l' ⟨(hs, padT hs.length tb), ⟨HO, HO.le ok FC, ?_, _, FC⟩, hv⟩
    intro nb hnb c hcm
    obtain ⟨nb0, hnb0, rfl⟩ := List.mem_map.mp hnb
    obtain ⟨c0, hc0, rfl⟩ := List.mem_map.mp hcm
    obtain ⟨_, X, x0, x1, x2⟩ := hc nb0 hnb0 c0 hc0
    refine ⟨X, x0, x1, fun q hq => ?_⟩
    unfold padR at hq
    rcases List.mem_append.mp hq with hq | hq
    · exact x2 q hq
    · rw [(List.mem_replicate.mp hq).2]
      exact RB.zero _ _
end
end Tw

/-! tariffs.py: machine_by -/
namespace Tw
open PySem L2 PyProof.Rows

structure TfOk (m : Mach) (hs : List (List Nat)) (tb : List (List (List Rat))) : Prop where
  fm : FmOk m
  H : HOk m hs tb
  le : hs.length ≤ m.n
  tb : TbB tb
  fc : ∃ Cs, FreeC m Cs
section
variable {m : Mach} {hs : List (List Nat)} {tb : List (List (List Rat))}
theorem TfOk.h6 (F : TfOk m hs tb) : hs.length ≤ 6 := Nat.le_trans F.le F.fm.sm.n6
theorem TfOk.row (F : TfOk m hs tb) {i k : Nat} (hi : i < hs.length) (hk : k < m.signs.length) : ∃ X : Nat, 0 < X ∧ X ≤ Bd ∧ ∀ q ∈ (tb.getD i []).getD k [], RB X Bd q := by
  have h1 : i < tb.length := by rw [F.H.tl]; exact hi
  exact F.tb _ (getD_mem [] h1) _ (getD_mem [] (by rw [F.H.tk i hi]; exact hk))
theorem TfOk.entry (F : TfOk m hs tb) {i k j : Nat} (hi : i < hs.length) (hk : k < m.signs.length) (hj : j < hs.length) : Q4 (T3 tb i k j) := by
  obtain ⟨X, h0, h1, h2⟩ := F.row hi hk
  have hm : T3 tb i k j ∈ (tb.getD i []).getD k [] := getD_mem 0 (by rw [F.H.tj i k hi hk]; exact hj)
  exact ⟨bd_pw ((h2 _ hm).num h0) (by decide), bd_pw (Nat.le_trans (Nat.le_of_dvd h0 (h2 _ hm).den) h1) (by decide)⟩
theorem pow_bd {n : Nat} (h : n ≤ 6) : Bd ^ n < 2 ^ 12000 := Nat.lt_of_le_of_lt (Nat.pow_le_pow_right (by decide) h) (by decide)
theorem TfOk.fit2 (F : TfOk m hs tb) : (mach2 m hs tb).Fit where
  ok := mach2_ok F.H
  sg := F.fm.fit.sg
  n100 := by rw [mach2_n]; have := F.h6; omega
  rl := by
    have h := rdI_len m.signs tb (n := hs.length) (fun i k => by
      rcases Nat.lt_or_ge i hs.length with hi | hi
      · rcases Nat.lt_or_ge k m.signs.length with hk | hk
        · exact Nat.le_of_eq (F.H.tj i k hi hk)
        · rw [getD_of_le [] (by rw [F.H.tk i hi]; exact hk)]; exact Nat.zero_le _
      · have e : tb.getD i [] = [] := getD_of_le [] (by rw [F.H.tl]; exact hi)
        rw [e]; exact Nat.zero_le _) tb.length
    have h6 := F.h6
    have hsg := F.fm.fit.sg.len
    have e := F.H.tl
    refine Nat.le_trans h ?_
    have h1 : m.signs.length * hs.length ≤ 26 * 6 := Nat.mul_le_mul hsg h6
    have h2 : tb.length * (m.signs.length * hs.length) ≤ 6 * (26 * 6) := Nat.mul_le_mul (by omega) h1
    omega
  q4 := fun r hr => by
    obtain ⟨i, k, j, hi, hk, hj, rfl⟩ := mem_rdI hr
    rw [F.H.tl] at hi
    rw [F.H.tj i k hi hk] at hj
    exact F.entry hi hk hj
  x := fun s => by
    have sub : ∀ e ∈ (mach2 m hs tb).eds s, ∃ i k j, i < hs.length ∧ m.signs[k]? = some s ∧ j < hs.length ∧ e.2.2 = T3 tb i k j := fun e he => by
      obtain ⟨i, k, j, hi, hk, hj, h⟩ := mem_rdI (mem_eds he)
      rw [F.H.tl] at hi
      rw [F.H.tj i k hi hk] at hj
      have e1 : s = m.signs.getD k 0 := congrArg (fun r : RoadT => r.2.1) h
      have e2 : e.2.2 = T3 tb i k j := congrArg (fun r : RoadT => r.2.2.2) h
      exact ⟨i, k, j, hi, by rw [e1, getD_of_lt 0 hk]; exact List.getElem?_eq_getElem hk, hj, e2⟩
    by_cases hs0 : ∃ k : Nat, m.signs[k]? = some s
    · obtain ⟨k, hk⟩ := hs0
      have hk1 := (List.getElem?_eq_some_iff.mp hk).1
      obtain ⟨X, h0, h1, h2⟩ := x_all (tb := tb) (k := k) (fun i => by
        rcases Nat.lt_or_ge i hs.length with hi | hi
        · obtain ⟨X, a, b, c⟩ := F.row hi hk1
          exact ⟨X, a, b, fun q hq => (c q hq).den⟩
        · refine ⟨1, by decide, Nat.one_le_two_pow, fun q hq => ?_⟩
          have e : tb.getD i [] = [] := getD_of_le [] (by rw [F.H.tl]; exact hi)
          rw [e] at hq
          exact absurd hq (fun z => nomatch z)) hs.length
      refine ⟨X, h0, Nat.lt_of_le_of_lt h1 (pow_bd F.h6), fun e he => ?_⟩
      obtain ⟨i, k', j, hi, hk', hj, e2⟩ := sub e he
      have ek : k' = k := by
        obtain ⟨a1, a2⟩ := List.getElem?_eq_some_iff.mp hk
        obtain ⟨b1, b2⟩ := List.getElem?_eq_some_iff.mp hk'
        rcases Nat.lt_trichotomy k' k with q | q | q
        · have := List.pairwise_iff_getElem.mp F.fm.fit.sg.up k' k b1 a1 q; omega
        · exact q
        · have := List.pairwise_iff_getElem.mp F.fm.fit.sg.up k k' a1 b1 q; omega
      subst ek
      rw [e2]
      exact h2 i hi _ (getD_mem 0 (by rw [F.H.tj i k' hi hk1]; exact hj))
    · refine ⟨1, by decide, by decide, fun e he => ?_⟩
      obtain ⟨i, k', j, hi, hk', hj, e2⟩ := sub e he
      exact absurd ⟨k', hk'⟩ hs0
theorem TfOk.mir (F : TfOk m hs tb) : Mir m (mach2 m hs tb) hs tb := mach2_mir F.fm.fit.sg.up F.H
theorem TfOk.fc2 (F : TfOk m hs tb) : FcOk (mach2 m hs tb) DW XW := by
  have h6 := F.h6
  refine ⟨F.fit2, by rw [mach2_n]; exact lim_w h6, fun w hw hl j => ?_⟩
  rw [mach2_n] at hl
  rcases Nat.lt_or_ge j hs.length with q | q
  · rw [show (colL (mach2 m hs tb) w).getD j 0 = colF (mach2 m hs tb) w j from tab_at (by rw [mach2_n]; exact q), F.mir.col F.fm.fit.ok F.H w hw j q]
    exact F.fm.sm.wt (by have := F.H.len j q; omega)
  · rw [getD_of_le 0 (by rw [colL_len, mach2_n]; exact q)]
    exact RB.zero _ _
end
abbrev eTf (m : Mach) (hs : List (List Nat)) (tb : List (List (List Rat))) : List En := [eM m.signs, eMs hs, eTab tb, eQs (hs.map fun h => wt m h [])]
structure G3 where
  m : Mach
  hs : List (List Nat)
  tb : List (List (List Rat))
abbrev G3.Ok (b : G3) : Prop := TfOk b.m b.hs b.tb
section
variable {P : Program} {w : World} {K : PySem.W.Frag} {mg : Str → Option Value} {base : Heap} {CM : Addr}
abbrev s_machine_by : Stmt := topS 36
abbrev n_machine_by : List Str := ["signs", "table", "worths", "roads", "begin", "state", "numbers", "sign", "row", "behind", "number"]
abbrev p_machine_by : List Str := ["signs", "table", "worths"]
theorem sc_machine_by : FnScope n_machine_by p_machine_by (defScope s_machine_by) := ⟨rfl, rfl, rfl, by decide +kernel, rfl, by decide +kernel, by decide +kernel⟩
def spMachineBy (CM : Addr) : Sp := spFn (β := G3) (fun b => [eM b.m.signs, eTab b.tb, eQs (b.hs.map fun h => wt b.m h [])]) G3.Ok (fun b => eMc CM (mach2 b.m b.hs b.tb))
theorem ok_machine_by {m : Mach} {hs : List (List Nat)} {tb : List (List (List Rat))} (h : TfOk m hs tb) : SpOk (spMachineBy CM) [eM m.signs, eTab tb, eQs (hs.map fun h => wt m h [])] (eMc CM (mach2 m hs tb)) := spFn_ok (β := G3) ⟨m, hs, tb⟩ h
abbrev MachineBy (P : Program) (w : World) (K : PySem.W.Frag) (mg : Str → Option Value) (base : Heap) (CM : Addr) : Prop := Cal P w K mg base "machine_by" p_machine_by 6 (spMachineBy CM)
theorem sg128 {u : List Nat} (h : SgOk u) : ∀ c ∈ u, c < 128 := fun c hc => by have := h.lt c hc; omega
theorem eq01 {i : Nat} : eTup [eI (if decide ((i : Int) = 0) then 1 else 0), eI 1] = eQ (if i = 0 then 1 else 0) := by
  by_cases h : i = 0
  · rw [if_pos h, decide_eq_true (by omega)]; rfl
  · rw [if_neg h, decide_eq_false (by omega)]; rfl
theorem cal_machine_by (T : Txt K mg) (D : DefAt K mg "machine_by" s_machine_by) (k_Machine : MMake P w K mg base CM) : MachineBy P w K mg base CM := by
  refine cal_of D sc_machine_by (fun _ _ _ _ _ _ us hl => match us, hl with | [_, _, _], _ => rfl) (len_fn fun _ => rfl) fun f cdv A outer s H E hr => ⟨_, (pss_cons (ps_set (i := 3) sc_machine_by.nd rfl (Or.inl rfl) (pe_lst pa_nil))
 (pss_cons (ps_for PassesOwn.never rfl (pi_enum (by rfl) T.enumerate (pa_cons (pv 1) pa_nil)) (pg_tup rfl (pgs_cons (pg_name (i := 5) sc_machine_by.nd rfl (Or.inl rfl)) (pgs_cons (pg_name (i := 6) sc_machine_by.nd rfl (Or.inl rfl)) pgs_nil)))
 (pss_one (ps_for PassesOwn.never rfl (pi_zipS (by rfl) T.zip (pa_cons (pv 0) (pa_cons (pv 6) pa_nil))) (pg_tup rfl (pgs_cons (pg_name (i := 7) sc_machine_by.nd rfl (Or.inl rfl)) (pgs_cons (pg_name (i := 8) sc_machine_by.nd rfl (Or.inl rfl)) pgs_nil)))
 (pss_one (ps_for PassesOwn.never rfl (pi_enum (by rfl) T.enumerate (pa_cons (pv 8) pa_nil)) (pg_tup rfl (pgs_cons (pg_name (i := 9) sc_machine_by.nd rfl (Or.inl rfl)) (pgs_cons (pg_name (i := 10) sc_machine_by.nd rfl (Or.inl rfl)) pgs_nil)))
 (pss_one (ps_if (pt_cmpR op_ne (pe_ix ix_tup (pv 10) pe_int (fun _ _ => rfl)) pe_int (nomark _)) (pss_one (ps_expr (pe_bm PySem.F.plainAttrs_list PySem.F.slot_list_append PySem.F.type_list_append mt_append (pv 3) (pa_cons (pe_tup (pa_cons (pv 5) (pa_cons (pv 7) (pa_cons (pv 9) (pa_cons (pv 10) pa_nil))))) pa_nil)))) pss_nil)))))))
 (pss_cons (ps_setLc (i := 4) (own := [("state", 5)]) rfl sc_machine_by.nd rfl rfl (sw_true rfl rfl rfl (by decide +kernel)) (pi_range1 rfl T.range (pa_cons (pe_callB call_len_seq (by rfl) T.len (by decide +kernel) (pa_cons (pv 2) pa_nil)) pa_nil)) (blkOk_by (N := n_machine_by) (sc := defScope s_machine_by) (by decide +kernel)) (fun _ _ _ _ _ => (pg_name (i := 5) sc_machine_by.nd rfl (Or.inl rfl))) (fun _ _ _ _ _ => pts_nil) (fun _ _ _ _ _ => (pe_tup (pa_cons (pe_callTy call_int1 (by rfl) T.int (by decide +kernel) (pa_cons (pe_cmpR op_eq (pv 5) pe_int (nomark _)) pa_nil)) (pa_cons pe_int pa_nil)))))
 (pss_one (ps_ret (pe_calC k_Machine hr rfl (pa_cons (pv 0) (pa_cons (pv 4) (pa_cons (pv 3) (pa_cons (pv 2) pa_nil)))))))))), body_fn fun b F ω Q hQ => ?_⟩
  obtain ⟨m, hs, tb⟩ := b
  have F : TfOk m hs tb := F
  have h6 := F.h6
  have H := F.H
  have hsg := F.fm.fit.sg.len
  have tl := H.tl
  have lenB : ∀ i k, ((tb.getD i []).getD k []).length ≤ 6 := fun i k => by
    rcases Nat.lt_or_ge i hs.length with hi | hi
    · rcases Nat.lt_or_ge k m.signs.length with hk | hk
      · rw [H.tj i k hi hk]; exact h6
      · rw [getD_of_le [] (by rw [H.tk i hi]; exact hk)]; exact Nat.zero_le _
    · have e : tb.getD i [] = [] := getD_of_le [] (by omega)
      rw [e]; exact Nat.zero_le _
  refine q_asgX (γ := Addr) (ex_lst ea_nil (Nat.zero_le _)) fun p hp => ?_
  have hp : ω.H p = none := hp p List.mem_cons_self
  refine q_for (C := []) (β := Unit) (fun _ _ => True) (fun i _ => [some (eM m.signs), some (eTab tb), some (eQs (hs.map fun h => wt m h [])), some (eR p), none, none, none, none, none, none, none]) (fun i _ => [some (eM m.signs), some (eTab tb), some (eQs (hs.map fun h => wt m h [])), some (eR p), none, some (eI (i : Int)), some (eNb (tb.getD i [])), none, none, none, none]) (fun i _ => [rL p ((rdI m.signs tb i).map eRd)]) (it_enum (es := tb.map eNb) (ea_cons (ev_var rfl) ea_nil)) ?_ (fun i _ hi _ => ?_) (fun mm i _ hi _ => ?_) (fun _ _ => ?_)
  · exact ⟨(), trivial, ⟨rfl, rfl, rfl, rfl, trivial⟩, rfl⟩
  · rw [List.length_map] at hi
    rw [itm_map [] hi]
    exact tg_tup rfl (tgs_cons tg_name (tgs_cons tg_name tgs_nil))
  · rw [List.length_map] at hi
    have hkl : (tb.getD i []).length = m.signs.length := H.tk i (by omega)
    have l1 := rdI_len m.signs tb lenB i
    have l1b : i * (m.signs.length * 6) ≤ 6 * (26 * 6) := Nat.mul_le_mul (by omega) (Nat.mul_le_mul_right _ hsg)
    refine s_for (C := []) (β := Unit) (fun _ _ => True) (fun k _ => [some (eM m.signs), some (eTab tb), some (eQs (hs.map fun h => wt m h [])), some (eR p), none, some (eI (i : Int)), some (eNb (tb.getD i [])), none, none, none, none]) (fun k _ => [some (eM m.signs), some (eTab tb), some (eQs (hs.map fun h => wt m h [])), some (eR p), none, some (eI (i : Int)), some (eNb (tb.getD i [])), some (eM [m.signs.getD k 0]), some (eQs ((tb.getD i []).getD k [])), none, none]) (fun k _ => [rL p ((rdI m.signs tb i ++ rdK m.signs i (tb.getD i []) k).map eRd)])
      (it_zipS (u := m.signs) (fs := (tb.getD i []).map eQs) (ea_cons (ev_var rfl) (ea_cons (ev_var rfl) ea_nil)) (sg128 F.fm.fit.sg) (by rw [List.length_map, hkl])) ?_ (fun k _ hk _ => ?_) (fun mm k _ hk _ => ?_) (fun _ _ => ?_)
    · refine ⟨(), trivial, ⟨rfl, rfl, rfl, rfl, rfl, rfl, trivial⟩, ?_⟩
      show [rL p ((rdI m.signs tb i ++ []).map eRd)] = _
      rw [List.append_nil]
    · rw [itm_map [] (by omega)]
      exact tg_tup rfl (tgs_cons tg_name (tgs_cons tg_name tgs_nil))
    · have l2 := rdK_len m.signs i (tb.getD i []) (lenB i) k
      have l2b : k * 6 ≤ 26 * 6 := Nat.mul_le_mul_right _ (by omega)
      have lr := lenB i k
      have q4 : ∀ j, j < ((tb.getD i []).getD k []).length → True := fun _ _ => trivial
      generalize hrow : (tb.getD i []).getD k [] = row at lr q4
      refine s_for (C := []) (β := Unit) (fun _ _ => True) (fun j _ => [some (eM m.signs), some (eTab tb), some (eQs (hs.map fun h => wt m h [])), some (eR p), none, some (eI (i : Int)), some (eNb (tb.getD i [])), some (eM [m.signs.getD k 0]), some (eQs row), none, none]) (fun j _ => [some (eM m.signs), some (eTab tb), some (eQs (hs.map fun h => wt m h [])), some (eR p), none, some (eI (i : Int)), some (eNb (tb.getD i [])), some (eM [m.signs.getD k 0]), some (eQs row), some (eI (j : Int)), some (eQ (row.getD j 0))]) (fun j _ => [rL p ((rdI m.signs tb i ++ rdK m.signs i (tb.getD i []) k ++ rdJ i (m.signs.getD k 0) row j).map eRd)])
        (it_enum (es := row.map eQ) (ea_cons (ev_var rfl) ea_nil)) ?_ (fun j _ hj _ => ?_) (fun mm j _ hj _ => ?_) (fun _ _ => ?_)
      · refine ⟨(), trivial, ⟨rfl, rfl, rfl, rfl, rfl, rfl, rfl, rfl, trivial⟩, ?_⟩
        show [rL p ((rdI m.signs tb i ++ rdK m.signs i (tb.getD i []) k ++ []).map eRd)] = _
        rw [List.append_nil]
      · rw [List.length_map] at hj
        rw [itm_map 0 hj]
        exact tg_tup rfl (tgs_cons tg_name (tgs_cons tg_name tgs_nil))
      · rw [List.length_map] at hj
        have l3 := rdJ_len i (m.signs.getD k 0) row j
        have ek := rdJ_succ i (m.signs.getD k 0) row j
        refine s_if (C := []) (et_test (ev_op (ev_op (ev_is (ev_var rfl) (show eQ (row.getD j 0) = _ from rfl)) ev_c op_t0) ev_c op_neI)) (fun h => ?_) (fun h => s_next (lp_mk () trivial ?_ ?_))
        · have hn : row.getD j 0 ≠ 0 := fun z => by
            rw [z] at h
            exact absurd h (by decide)
          rw [if_neg hn] at ek
          refine s_drop (C := [p]) (Δ1 := [rL p ((rdI m.signs tb i ++ rdK m.signs i (tb.getD i []) k ++ rdJ i (m.signs.getD k 0) row (j + 1)).map eRd)]) (ev_append (k := 0) (Δ2 := [rL p ((rdI m.signs tb i ++ rdK m.signs i (tb.getD i []) k ++ rdJ i (m.signs.getD k 0) row j).map eRd)]) (e := eRd (i, m.signs.getD k 0, j, row.getD j 0)) (ev_var rfl) List.mem_cons_self (ev_tup (ea_cons (ev_var rfl) (ea_cons (ev_var rfl) (ea_cons (ev_var rfl) (ea_cons (ev_var rfl) ea_nil)))) (Nat.le_of_ble_eq_true rfl)) rfl ?_ List.mem_cons_self ?_) (lp_mk () trivial rfl ?_) (own1 hp)
          · rw [List.length_map, List.length_append, List.length_append]; omega
          · rw [ek, ← List.append_assoc, map_snoc]; rfl
          · exact ⟨rfl, rfl, rfl, rfl, rfl, rfl, rfl, rfl, trivial⟩
        · have hz : row.getD j 0 = 0 := num0 (by simpa using h)
          rw [ek, if_pos hz, List.append_nil]
        · exact ⟨rfl, rfl, rfl, rfl, rfl, rfl, rfl, rfl, trivial⟩
      · rw [List.length_map]
        refine lp_mk () trivial ?_ ⟨rfl, rfl, rfl, rfl, rfl, rfl, trivial⟩
        rw [rdK_succ, hrow, List.append_assoc]
    · refine lp_mk () trivial ?_ ⟨rfl, rfl, rfl, rfl, trivial⟩
      rw [rdI_succ]
  rw [List.length_map]
  refine t_frz (i := 3) hp rfl ?_
  refine q_asg (C := []) (Δ1 := []) (e := eQs (mach2 m hs tb).bg) ?_ ?_
  · refine ev_is (ev_lcR (n := hs.length) (f := fun i => eQ (if i = 0 then 1 else 0)) (ea_cons (ev_is (ev_cb (ea_cons (ev_var rfl) ea_nil) op_lenL) (by rw [List.length_map, List.length_map])) ea_nil) (by omega) fun i hi => ev_is (ev_tup (ea_cons (ev_cb (ea_cons (ev_op (ev_var rfl) ev_c op_eqI) ea_nil) op_intB) (ea_cons ev_c ea_nil)) (Nat.le_of_ble_eq_true rfl)) eq01) ?_
    show _ = eLst ((((List.range hs.length).map fun i => if i = 0 then 1 else 0) : List Rat).map eQ)
    rw [List.map_map]
    rfl
  exact s_ret (C := []) (ev_make (ea_cons (ev_var rfl) (ea_cons (ev_var rfl) (ea_cons (ev_var rfl) (ea_cons (ev_var rfl) ea_nil)))) (ok_mmake F.fit2)) fun v ω' l _ hv => hQ v ω' l hv
end
end Tw

/-! tariffs.py: what is checked of a form -/
namespace Tw
open PySem L2 PyProof.Rows

theorem lx_list : ∀ {u v : List Nat}, lx u v → u < v
  | [], [], h => h.elim
  | [], _ :: _, _ => List.nil_lt_cons _ _
  | _ :: _, [], h => h.elim
  | a :: u, b :: v, h => List.cons_lt_cons_iff.mpr (h.imp id fun ⟨x, y⟩ => ⟨x, lx_list y⟩)
theorem kLt_of {u v : List Nat} (h : lt u v) : kLt (u.length : Int) (v.length : Int) (tx u) (tx v) = true := by
  unfold kLt
  rcases h with h | ⟨h1, h2⟩
  · rw [if_neg (by omega)]
    exact decide_eq_true (by omega)
  · rw [if_pos (by omega)]
    exact decide_eq_true (lx_list h2)
section
variable {C : List Addr} {Γ : List (Option En)} {Δ Δ1 : List Rs} {K : PySem.W.Frag}
theorem opc_any1 {r : List V → Hp → VK → Prop} {α : Type} {P : α → Prop} {f : α → En} {e : En} (h : ∀ x, P x → OpC r [f x] e) : OpC r [eAny α P f] e := fun vs ω Q hv k => by
  match vs, hv with
  | [v], ⟨⟨x, px, hx⟩, _⟩ => exact h x px [v] ω Q ⟨hx, trivial⟩ k
end
section
variable {P : Program} {w : World} {K : PySem.W.Frag} {mg : Str → Option Value} {base : Heap} {CM CT : Addr}
abbrev s_is_shaped : Stmt := topS 37
abbrev n_is_shaped : List Str := ["signs", "heads", "table", "worths", "numbers", "row"]
abbrev p_is_shaped : List Str := ["signs", "heads", "table", "worths"]
theorem sc_is_shaped : FnScope n_is_shaped p_is_shaped (defScope s_is_shaped) := ⟨rfl, rfl, rfl, by decide +kernel, rfl, by decide +kernel, by decide +kernel⟩
def spIsShaped : Sp := spFn (β := G3) (fun b => eTf b.m b.hs b.tb) G3.Ok (fun _ => eB true)
theorem ok_is_shaped {m : Mach} {hs : List (List Nat)} {tb : List (List (List Rat))} (h : TfOk m hs tb) : SpOk spIsShaped (eTf m hs tb) (eB true) := spFn_ok (β := G3) ⟨m, hs, tb⟩ h
abbrev IsShaped (P : Program) (w : World) (K : PySem.W.Frag) (mg : Str → Option Value) (base : Heap) : Prop := Cal P w K mg base "is_shaped" p_is_shaped 1 spIsShaped
theorem cal_is_shaped (T : Txt K mg) (D : DefAt K mg "is_shaped" s_is_shaped) : IsShaped P w K mg base := by
  refine cal_of D sc_is_shaped (fun _ _ _ _ _ _ us hl => match us, hl with | [_, _, _, _], _ => rfl) (len_fn fun _ => rfl) fun f cdv A outer s H E hr => ⟨_, (Evl.pss_cut (ps_if (PW.pt (pw_or (pt_cmpR op_ne (pe_callB call_len_seq (by rfl) T.len (by decide +kernel) (pa_cons (pv 2) pa_nil)) (pe_callB call_len_seq (by rfl) T.len (by decide +kernel) (pa_cons (pv 1) pa_nil)) (nomark _)) (pw_or1 (pt_cmpR op_ne (pe_callB call_len_seq (by rfl) T.len (by decide +kernel) (pa_cons (pv 3) pa_nil)) (pe_callB call_len_seq (by rfl) T.len (by decide +kernel) (pa_cons (pv 1) pa_nil)) (nomark _))))) (pss_one (ps_ret pe_bl)) pss_nil)
 (pss_cons (ps_for PassesOwn.never rfl (pi_list (pv 2)) (pg_name (i := 4) sc_is_shaped.nd rfl (Or.inl rfl))
 (pss_one (ps_if (PW.pt (pw_or (pt_cmpR op_ne (pe_callB call_len_seq (by rfl) T.len (by decide +kernel) (pa_cons (pv 4) pa_nil)) (pe_callB call_len_str (by rfl) T.len (by decide +kernel) (pa_cons (pv 0) pa_nil)) (nomark _)) (pw_or1 (pt_val (pe_callB (cr_any rfl) (by rfl) T.any (by decide +kernel) (pa_cons (pe_lc (own := [("row", 5)]) rfl sc_is_shaped.nd (pi_list (pv 4)) (blkOk_by (N := n_is_shaped) (sc := defScope s_is_shaped) (by decide +kernel)) (fun _ _ _ _ _ => (pg_name (i := 5) sc_is_shaped.nd rfl (Or.inl rfl))) (fun _ _ _ _ _ => pts_nil) (fun _ _ _ _ _ => (pe_cmpR op_ne (pe_callB (lenSq K rfl) (by rfl) T.len (by decide +kernel) (pa_cons (pv 5) pa_nil)) (pe_callB (lenSq K rfl) (by rfl) T.len (by decide +kernel) (pa_cons (pv 1) pa_nil)) (nomark _)))) pa_nil)))))) (pss_one (ps_ret pe_bl)) pss_nil)))
 (pss_one (ps_ret pe_bl)))), body_fn fun b F ω Q hQ => ?_⟩
  obtain ⟨m, hs, tb⟩ := b
  have F : TfOk m hs tb := F
  have h6 := F.h6
  have H := F.H
  have hsg := F.fm.fit.sg.len
  have tl := H.tl
  refine tr_cut (As (bs0 ω) [some (eM m.signs), some (eMs hs), some (eTab tb), some (eQs (hs.map fun h => wt m h [])), none, none] []) ?_ ?_
  · refine s_if (C := []) (c := false) (et_is (et_or (c := false) (et_is (et_test (ev_op (ev_cb (ea_cons (ev_var rfl) ea_nil) op_lenL) (ev_cb (ea_cons (ev_var rfl) ea_nil) op_lenL) op_neI)) ?_) fun _ => (et_test (ev_op (ev_cb (ea_cons (ev_var rfl) ea_nil) op_lenL) (ev_cb (ea_cons (ev_var rfl) ea_nil) op_lenL) op_neI))) ?_) (fun h => nomatch h) (fun _ => s_next fun _ _ h => h)
    · rw [List.length_map, List.length_map, tl, decide_eq_true rfl]; rfl
    · rw [List.length_map, List.length_map, List.length_map, decide_eq_true rfl]; rfl
  refine q_for (C := []) (β := Unit) (fun _ _ => True) (fun i _ => [some (eM m.signs), some (eMs hs), some (eTab tb), some (eQs (hs.map fun h => wt m h [])), none, none]) (fun i _ => [some (eM m.signs), some (eMs hs), some (eTab tb), some (eQs (hs.map fun h => wt m h [])), some (itm (tb.map eNb) i), none]) (fun _ _ => []) (it_list (ev_var rfl)) ?_ (fun _ _ _ _ => tg_name) (fun mm i _ hi _ => ?_) (fun _ _ => ?_)
  · exact ⟨(), trivial, ⟨rfl, rfl, rfl, rfl, trivial⟩, rfl⟩
  · rw [List.length_map] at hi
    rw [itm_map [] hi]
    have hk := H.tk i (by omega)
    have hj : ∀ c ∈ tb.getD i [], c.length = hs.length := fun c hc => by
      obtain ⟨k, hk2, e⟩ := mem_getD [] hc
      rw [← e]
      exact H.tj i k (by omega) (by omega)
    generalize tb.getD i [] = nb at hk hj
    refine s_if (C := []) (c := false) (et_is (et_or (c := false) (et_is (et_test (ev_op (ev_cb (ea_cons (ev_var rfl) ea_nil) op_lenL) (ev_cb (ea_cons (ev_var rfl) ea_nil) (op_lenS (by omega))) op_neI)) ?_) fun _ => (et_B (ev_cb (ea_cons (ev_is (ev_lcL (xs := nb) (φ := eQs) (ψ := fun c => eB (!decide (((c.map eQ).length : Int) = ((hs.map eM).length : Int)))) (ev_var rfl) (by omega) fun c hc => ev_op (ev_cb (ea_cons (ev_var rfl) ea_nil) op_lenL) (ev_cb (ea_cons (ev_var rfl) ea_nil) op_lenL) op_neI) (e' := eLst ((nb.map fun c => !decide (((c.map eQ).length : Int) = ((hs.map eM).length : Int))).map eB)) (by rw [List.map_map]; rfl)) ea_nil) op_any))) ?_) (fun h => nomatch h) (fun _ => s_next (lp_mk () trivial rfl ?_))
    · rw [List.length_map, hk, decide_eq_true rfl]; rfl
    · rw [Bool.false_or]
      refine List.any_eq_false.mpr fun x hx => ?_
      obtain ⟨c, hc, rfl⟩ := List.mem_map.mp hx
      rw [List.length_map, List.length_map, hj c hc, decide_eq_true rfl]
      decide
    · exact ⟨rfl, rfl, rfl, rfl, trivial⟩
  exact s_ret (C := []) ev_c fun v ω' l _ hv => hQ v ω' l hv
abbrev s_order_key : Stmt := topS 25
abbrev n_order_key : List Str := ["message"]
abbrev p_order_key : List Str := ["message"]
theorem sc_order_key : FnScope n_order_key p_order_key (defScope s_order_key) := ⟨rfl, rfl, rfl, by decide +kernel, rfl, by decide +kernel, by decide +kernel⟩
def spOrderKey : Sp := spFn (β := List Nat) (fun u => [eM u]) (fun u => u.length ≤ 100000) (fun u => eTup [eI (u.length : Int), eM u])
theorem ok_order_key {u : List Nat} (h : u.length ≤ 100000) : SpOk spOrderKey [eM u] (eTup [eI (u.length : Int), eM u]) := spFn_ok (β := List Nat) u h
abbrev OrderKey (P : Program) (w : World) (K : PySem.W.Frag) (mg : Str → Option Value) (base : Heap) : Prop := Cal P w K mg base "order_key" p_order_key 1 spOrderKey
theorem cal_order_key (T : Txt K mg) (D : DefAt K mg "order_key" s_order_key) : OrderKey P w K mg base := by
  refine cal_of D sc_order_key (fun _ _ _ _ _ _ us hl => match us, hl with | [_], _ => rfl) (len_fn fun _ => rfl) fun f cdv A outer s H E hr => ⟨_, (pss_one (ps_ret (pe_tup (pa_cons (pe_callB call_len_str (by rfl) T.len (by decide +kernel) (pa_cons (pv 0) pa_nil)) (pa_cons (pv 0) pa_nil))))), body_fn fun u hu ω Q hQ => ?_⟩
  exact s_ret (C := []) (ev_tup (ea_cons (ev_cb (ea_cons (ev_var rfl) ea_nil) (op_lenS hu)) (ea_cons (ev_var rfl) ea_nil)) (Nat.le_of_ble_eq_true rfl)) fun v ω' l _ hv => hQ v ω' l hv
abbrev s_are_heads : Stmt := topS 38
abbrev n_are_heads : List Str := ["signs", "heads", "place", "head", "sign"]
abbrev p_are_heads : List Str := ["signs", "heads"]
theorem sc_are_heads : FnScope n_are_heads p_are_heads (defScope s_are_heads) := ⟨rfl, rfl, rfl, by decide +kernel, rfl, by decide +kernel, by decide +kernel⟩
def spAreHeads : Sp := spFn (β := G3) (fun b => [eM b.m.signs, eMs b.hs]) G3.Ok (fun _ => eB true)
theorem ok_are_heads {m : Mach} {hs : List (List Nat)} {tb : List (List (List Rat))} (h : TfOk m hs tb) : SpOk spAreHeads [eM m.signs, eMs hs] (eB true) := spFn_ok (β := G3) ⟨m, hs, tb⟩ h
abbrev AreHeads (P : Program) (w : World) (K : PySem.W.Frag) (mg : Str → Option Value) (base : Heap) : Prop := Cal P w K mg base "are_heads" p_are_heads 2 spAreHeads
theorem hd_at {hs : List (List Nat)} {i : Nat} (hi : i < hs.length) : (hs.map eM)[i]? = some (eM (hd hs i)) := by
  rw [List.getElem?_map, List.getElem?_eq_getElem hi]
  unfold hd
  rw [getD_of_lt [] hi]
  rfl
theorem cal_are_heads (T : Txt K mg) (D : DefAt K mg "are_heads" s_are_heads) (c_order_key : OrderKey P w K mg base) : AreHeads P w K mg base := by
  refine cal_of D sc_are_heads (fun _ _ _ _ _ _ us hl => match us, hl with | [_, _], _ => rfl) (len_fn fun _ => rfl) fun f cdv A outer s H E hr => ⟨_, (pss_cons (ps_for PassesOwn.never rfl (pi_enum (by rfl) T.enumerate (pa_cons (pv 1) pa_nil)) (pg_tup rfl (pgs_cons (pg_name (i := 2) sc_are_heads.nd rfl (Or.inl rfl)) (pgs_cons (pg_name (i := 3) sc_are_heads.nd rfl (Or.inl rfl)) pgs_nil)))
 (Evl.pss_cut (ps_if (pt_val (pe_callB (cr_any rfl) (by rfl) T.any (by decide +kernel) (pa_cons (pe_lc (own := [("sign", 4)]) rfl sc_are_heads.nd (pi_str (pv 3)) (blkOk_by (N := n_are_heads) (sc := defScope s_are_heads) (by decide +kernel)) (fun _ _ _ _ _ => (pg_name (i := 4) sc_are_heads.nd rfl (Or.inl rfl))) (fun _ _ _ _ _ => pts_nil) (fun _ _ _ _ _ => (pe_cmpR op_notIn_sign (pv 4) (pv 0) (by rfl)))) pa_nil))) (pss_one (ps_ret pe_bl)) pss_nil)
 (Evl.pss_cut (ps_if (PW.pt (pw_and (pt_cmpR op_ne (pv 3) pe_str (nomark _)) (pw_and1 (pt_cmpR op_notIn_seq (pe_slice sl_str (pv 3) po_none (po_some (pe_un un_neg pe_int))) (pe_slice sl_list (pv 1) po_none (po_some (pv 2))) (by rfl))))) (pss_one (ps_ret pe_bl)) pss_nil)
 (pss_one (ps_if (PW.pt (pw_and (pt_cmpR op_gt (pv 2) pe_int (nomark _)) (pw_and1 (pt_not (pt_cmpR (op_lt_key K rfl hr.units0) (pe_cal c_order_key hr rfl (pa_cons (pe_ix ix_list (pv 1) (pe_op op_sub (pv 2) pe_int) (fun _ _ => rfl)) pa_nil)) (pe_cal c_order_key hr rfl (pa_cons (pv 3) pa_nil)) (nomark _)))))) (pss_one (ps_ret pe_bl)) pss_nil)))))
 (pss_one (ps_ret pe_bl))), body_fn fun b F ω Q hQ => ?_⟩
  obtain ⟨m, hs, tb⟩ := b
  have F : TfOk m hs tb := F
  have h6 := F.h6
  have H := F.H
  have hln : ∀ i, i < hs.length → (hd hs i).length ≤ 6 := fun i hi => by have := H.len i hi; omega
  refine q_for (C := []) (β := Unit) (fun _ _ => True) (fun i _ => [some (eM m.signs), some (eMs hs), none, none, none]) (fun i _ => [some (eM m.signs), some (eMs hs), some (eI (i : Int)), some (eM (hd hs i)), none]) (fun _ _ => []) (it_enum (es := hs.map eM) (ea_cons (ev_var rfl) ea_nil)) ?_ (fun i _ hi _ => ?_) (fun mm i _ hi _ => ?_) (fun _ _ => ?_)
  · exact ⟨(), trivial, ⟨rfl, rfl, trivial⟩, rfl⟩
  · rw [List.length_map] at hi
    rw [itm_map [] hi]
    exact tg_tup rfl (tgs_cons tg_name (tgs_cons tg_name tgs_nil))
  · rw [List.length_map] at hi
    have hl := hln i hi
    have hwd := H.wd _ (hd_mem hi)
    refine tr_cut (As ((bs0 ω).at mm) [some (eM m.signs), some (eMs hs), some (eI (i : Int)), some (eM (hd hs i)), none] []) ?_ ?_
    · refine s_if (C := []) (c := false) (et_is (et_B (ev_cb (ea_cons (ev_is (ev_lcM (u := hd hs i) (ψ := fun c => eB (!decide (c ∈ m.signs))) (ev_var rfl) (by omega) fun c hc => ev_op (ev_var rfl) (ev_var rfl) op_notInM) (e' := eLst (((hd hs i).map fun c => !decide (c ∈ m.signs)).map eB)) (by rw [List.map_map]; rfl)) ea_nil) op_any)) ?_) (fun h => nomatch h) (fun _ => s_next fun _ _ h => h)
      refine List.any_eq_false.mpr fun x hx => ?_
      obtain ⟨c, hc, rfl⟩ := List.mem_map.mp hx
      rw [decide_eq_true (hwd c hc)]
      decide
    refine tr_cut (As ((bs0 ω).at mm) [some (eM m.signs), some (eMs hs), some (eI (i : Int)), some (eM (hd hs i)), none] []) ?_ ?_
    · refine s_if (C := []) (c := false) (et_is (et_and (c := !decide (hd hs i = [])) (c' := false) (et_test (ev_op (ev_var rfl) (b := eM []) ev_c op_neM)) fun hne => ?_) (Bool.and_false _)) (fun h => nomatch h) (fun _ => s_next fun _ _ h => h)
      have hne : hd hs i ≠ [] := by simpa using hne
      have i0 : 0 < i := by
        rcases Nat.eq_zero_or_pos i with z | z
        · refine absurd ?_ hne
          have e0 := H.e0 (fun z2 => by rw [z2] at hi; exact absurd hi (Nat.not_lt_zero _))
          rw [z]
          unfold hd
          rw [List.getD_eq_getElem?_getD, e0]
          rfl
        · exact z
      obtain ⟨p, s, hp, _, e⟩ := H.pre i i0 hi
      refine et_is (et_test (ev_op (ev_slS (u := hd hs i) (v := hd hs p) (lo := none) (hi := some (-1)) (ev_var rfl) eo_none (eo_some (ev_un ev_c op_U)) (by omega) ?_) (ev_is (ev_slL (es := hs.map eM) (fs := (hs.take i).map eM) (lo := none) (hi := some (i : Int)) (ev_var rfl) eo_none (eo_some (ev_var rfl)) ?_) rfl) (op_inMs (us := hs.take i)))) ?_
      · rw [e, List.length_append, List.length_singleton]
        show ((hd hs p ++ [s]).drop 0).take (HT.sIx ((hd hs p).length + 1) ((hd hs p).length + 1) (some (-1)) - 0) = hd hs p
        have e2 : HT.sIx ((hd hs p).length + 1) ((hd hs p).length + 1) (some (-1)) = (hd hs p).length := by
          show (if (-1 : Int) < 0 then ((-1 : Int) + (((hd hs p).length + 1 : Nat) : Int)).toNat else min (-1 : Int).toNat ((hd hs p).length + 1)) = _
          rw [if_pos (by decide)]
          omega
        rw [e2, List.drop_zero, Nat.sub_zero, List.take_left']
        rfl
      · rw [HT.sIx_none, HT.sIx_nat, List.length_map, List.drop_zero, Nat.sub_zero, Nat.min_eq_left (Nat.le_of_lt hi), List.map_take]
      · show (!decide (hd hs p ∈ hs.take i)) = false
        rw [decide_eq_true]
        · rfl
        · have hpl : p < hs.length := by omega
          unfold hd
          rw [getD_of_lt [] hpl]
          exact List.mem_take_iff_getElem.mpr ⟨p, by omega, rfl⟩
    · refine s_if (C := []) (c := false) (et_is (et_and (c := decide (0 < i)) (c' := false) (et_is (et_test (ev_op (ev_var rfl) ev_c op_I0)) (decide_eq_decide.mpr (by omega))) fun h0 => ?_) (Bool.and_false _)) (fun h => nomatch h) (fun _ => s_next (lp_mk () trivial rfl ?_))
      · have h0 := of_decide_eq_true h0
        refine et_is (et_not (et_test (ev_op (ev_call (ea_cons (ev_op (ev_var rfl) (b := eI ((i - 1 : Nat) : Int)) (ev_is (ev_op (ev_var rfl) ev_c op_I0) ?_) (op_ixL (hd_at (i := i - 1) (by omega)))) ea_nil) (ok_order_key ?_)) (ev_call (ea_cons (ev_var rfl) ea_nil) (ok_order_key (by omega))) op_key))) ?_
        · show eI ((i : Int) - 1) = eI _
          congr 2
          omega
        · have := hln (i - 1) (by omega)
          omega
        · rw [kLt_of]
          · rfl
          · have := H.up.get (show i - 1 < i by omega) hi
            unfold hd
            rw [getD_of_lt [] hi, getD_of_lt [] (by omega)]
            exact this
      · exact ⟨rfl, rfl, trivial⟩
  exact s_ret (C := []) ev_c fun v ω' l _ hv => hQ v ω' l hv
end
end Tw

/-! tariffs.py: is_row, checked_form, the tariff -/
namespace Tw
open PySem L2 PyProof.Rows

/-! ### equal lists of numbers -/
def dQ (q : Rat) : PyData := .tuple [.int q.num, .int (q.den : Int)]
def dQs (r : List Rat) : PyData := .list (r.map dQ)
theorem lay_dQs (r : List Rat) : (dQs r).canLay0 = true := by
  unfold dQs
  rw [PyData.canLay0]
  induction r with
  | nil => rfl
  | cons q r ih =>
    rw [List.map_cons, PyData.canLayAll0, ih]
    rfl
theorem dep_dQs (r : List Rat) : (dQs r).depth ≤ 64 := by
  have key : PyData.depthAll (r.map dQ) ≤ 1 := by
    induction r with
    | nil => exact Nat.zero_le _
    | cons q r ih =>
      rw [List.map_cons, PyData.depthAll]
      exact Nat.max_le.mpr ⟨Nat.le_of_eq rfl, ih⟩
  unfold dQs
  rw [PyData.depth]
  omega
theorem shp_dQs (r : List Rat) : SeqAt.shaped (dQs r) = true := by
  unfold SeqAt.shaped
  rw [lay_dQs, decide_eq_true (dep_dQs r)]
  rfl
theorem dp_eQ {K : PySem.W.Frag} {q : Rat} {v : V} {ω : Wo} (h : (eQ q).r v ω.M) : Dp K ω.H v (dQ q) := by
  obtain ⟨a, vs, rfl, ha, hv⟩ := h
  match vs, hv with
  | [x, y], ⟨hx, hy, _⟩ =>
    cases (show x = V.int q.num from hx)
    cases (show y = V.int (q.den : Int) from hy)
    exact .tup (SqT.of (ω.sub _ _ ha)) (.cons (.int _) (.cons (.int _) .nil))
theorem dp_all {K : PySem.W.Frag} {ω : Wo} : ∀ {r : List Rat} {vs : List V}, Args (r.map eQ) vs ω.M → DpAll K ω.H vs (r.map dQ)
  | [], [], _ => .nil
  | q :: r, v :: vs, h => .cons (dp_eQ h.1) (dp_all h.2)
  | [], _ :: _, h => h.elim
  | _ :: _, [], h => h.elim
theorem op_eqQs {K : PySem.W.Frag} {r : List Rat} : Op2 (rEqD K) (eQs r) (eQs r) (eB true) := fun x y ω Q hx hy k => by
  obtain ⟨a, vs, rfl, ha, hv⟩ := hx
  obtain ⟨b, ws, rfl, hb, hw⟩ := hy
  refine ⟨dQs r, dQs r, .lst (SqL.of (ω.sub _ _ ha)) (dp_all hv), .lst (SqL.of (ω.sub _ _ hb)) (dp_all hw), shp_dQs r, shp_dQs r, ?_⟩
  rw [SeqAt.eqv_refl _ (lay_dQs r)]
  exact k _ ω (LeX.refl _ _) rfl
section
variable {P : Program} {w : World} {K : PySem.W.Frag} {mg : Str → Option Value} {base : Heap} {CM CT : Addr}
structure GR where
  hs : List (List Nat)
  u : List Nat
  row : List Rat
structure GR.Ok (b : GR) : Prop where
  nd : b.hs.Nodup
  len : b.row.length = b.hs.length
  h6 : b.hs.length ≤ 100
  ul : b.u.length ≤ 100000
  hl : ∀ h ∈ b.hs, h.length ≤ 100000
  alt : (∃ j, b.hs[j]? = some b.u ∧ ∀ j', j' < b.hs.length → b.row.getD j' 0 = if j' = j then 1 else 0) ∨ (b.u ∉ b.hs ∧ ∀ j, j < b.hs.length → b.row.getD j 0 ≠ 0 → lt (hd b.hs j) b.u)
abbrev s_is_row : Stmt := topS 39
abbrev n_is_row : List Str := ["heads", "message", "row", "head", "number"]
abbrev p_is_row : List Str := ["heads", "message", "row"]
theorem sc_is_row : FnScope n_is_row p_is_row (defScope s_is_row) := ⟨rfl, rfl, rfl, by decide +kernel, rfl, by decide +kernel, by decide +kernel⟩
def spIsRow : Sp := spFn (β := GR) (fun b => [eMs b.hs, eM b.u, eQs b.row]) GR.Ok (fun _ => eB true)
theorem ok_is_row {hs : List (List Nat)} {u : List Nat} {row : List Rat} (h : GR.Ok ⟨hs, u, row⟩) : SpOk spIsRow [eMs hs, eM u, eQs row] (eB true) := spFn_ok (β := GR) ⟨hs, u, row⟩ h
abbrev IsRow (P : Program) (w : World) (K : PySem.W.Frag) (mg : Str → Option Value) (base : Heap) : Prop := Cal P w K mg base "is_row" p_is_row 2 spIsRow
theorem unit_row {hs : List (List Nat)} {u : List Nat} {row : List Rat} {j : Nat} (nd : hs.Nodup) (len : row.length = hs.length) (hj : hs[j]? = some u) (hr : ∀ j', j' < hs.length → row.getD j' 0 = if j' = j then 1 else 0) : row = hs.map fun h => if h = u then 1 else 0 := by
  apply List.ext_getElem
  · rw [List.length_map, len]
  · intro i h1 h2
    have hi : i < hs.length := by omega
    have e1 := hr i hi
    rw [getD_of_lt 0 h1] at e1
    rw [e1, List.getElem_map]
    obtain ⟨hj1, hj2⟩ := List.getElem?_eq_some_iff.mp hj
    by_cases q : i = j
    · subst q
      rw [if_pos rfl, if_pos hj2]
    · rw [if_neg q, if_neg fun z => ?_]
      rcases Nat.lt_or_ge i j with t | t
      · exact List.pairwise_iff_getElem.mp nd i j hi hj1 t (z.trans hj2.symm)
      · exact List.pairwise_iff_getElem.mp nd j i hj1 hi (by omega) (hj2.trans z.symm)
theorem eq01u {h u : List Nat} : eTup [eI (if decide (h = u) then 1 else 0), eI 1] = eQ (if h = u then 1 else 0) := by
  by_cases q : h = u
  · rw [if_pos q, decide_eq_true q]; rfl
  · rw [if_neg q, decide_eq_false q]; rfl
theorem zipB {α β : Type} (f : α → β → Bool) (xs : List α) (ys : List β) : List.zipWith (fun a b => eB (f a b)) xs ys = (List.zipWith f xs ys).map eB := by rw [List.map_zipWith]
theorem cal_is_row (T : Txt K mg) (D : DefAt K mg "is_row" s_is_row) (c_order_key : OrderKey P w K mg base) : IsRow P w K mg base := by
  refine cal_of D sc_is_row (fun _ _ _ _ _ _ us hl => match us, hl with | [_, _, _], _ => rfl) (len_fn fun _ => rfl) fun f cdv A outer s H E hr => ⟨_, (Evl.pss_cut (ps_if (pt_cmpR op_in_seq (pv 1) (pv 0) (by rfl)) (pss_one (ps_ret (pe_cmpR (op_eqD hr.units) (pv 2) (pe_lc (own := [("head", 3)]) rfl sc_is_row.nd (pi_list (pv 0)) (blkOk_by (N := n_is_row) (sc := defScope s_is_row) (by decide +kernel)) (fun _ _ _ _ _ => (pg_name (i := 3) sc_is_row.nd rfl (Or.inl rfl))) (fun _ _ _ _ _ => pts_nil) (fun _ _ _ _ _ => (pe_tup (pa_cons (pe_callTy call_int1 (by rfl) T.int (by decide +kernel) (pa_cons (pe_cmpR op_eq (pv 3) (pv 1) (nomark _)) pa_nil)) (pa_cons pe_int pa_nil))))) (nomark _)))) pss_nil)
 (pss_one (ps_ret (pe_callB (cr_all rfl) (by rfl) T.all (by decide +kernel) (pa_cons (pe_lc (own := [("head", 3), ("number", 4)]) rfl sc_is_row.nd (pi_zip (by rfl) T.zip (pa_cons (pv 0) (pa_cons (pv 2) pa_nil))) (blkOk_by (N := n_is_row) (sc := defScope s_is_row) (by decide +kernel)) (fun _ _ _ _ _ => (pg_tupK (n := 2) K rfl rfl (pgs_cons (pg_name (i := 3) sc_is_row.nd rfl (Or.inl rfl)) (pgs_cons (pg_name (i := 4) sc_is_row.nd rfl (Or.inl rfl)) pgs_nil)))) (fun _ _ _ _ _ => pts_nil) (fun _ _ _ _ _ => (pe_or (pe_cmpR op_eq (pe_ix (ixT K rfl) (pv 4) pe_int (fun _ _ => rfl)) pe_int (nomark _)) (pe_one (pe_cmpR (op_lt_key K rfl hr.units0) (pe_cal c_order_key hr rfl (pa_cons (pv 3) pa_nil)) (pe_cal c_order_key hr rfl (pa_cons (pv 1) pa_nil)) (nomark _)))))) pa_nil))))), body_fn fun b ok ω Q hQ => ?_⟩
  obtain ⟨hs, u, row⟩ := b
  obtain ⟨nd, len, h6, ul, hl, alt⟩ := ok
  have len : row.length = hs.length := len
  have h6 : hs.length ≤ 100 := h6
  refine tr_cutP (u ∉ hs) (As (bs0 ω) [some (eMs hs), some (eM u), some (eQs row), none, none] []) ?_ (fun hnu => ?_)
  · refine s_if (C := []) (et_is (et_test (ev_op (ev_var rfl) (ev_var rfl) (op_inMs (us := hs)))) (if_neg (fun z => nomatch z))) (fun h => ?_) (fun h => s_next fun _ _ a => ⟨of_decide_eq_false h, a⟩)
    have hu : u ∈ hs := of_decide_eq_true h
    rcases alt with ⟨j, e1, e2⟩ | ⟨e1, _⟩
    · have er : row = hs.map fun h => if h = u then 1 else 0 := unit_row nd len e1 e2
      refine s_ret (C := []) (ev_op (a := eQs row) (b := eQs row) (ev_var rfl) (ev_is (ev_lcL (xs := hs) (φ := eM) (ψ := fun h => eQ (if h = u then 1 else 0)) (ev_var rfl) (by omega) fun h _ => ev_is (ev_tup (ea_cons (ev_cb (ea_cons (ev_op (ev_var rfl) (ev_var rfl) op_eqM) ea_nil) op_intB) (ea_cons ev_c ea_nil)) (Nat.le_of_ble_eq_true rfl)) eq01u) ?_) op_eqQs) fun v ω' l _ hv => hQ v ω' l hv
      conv => rhs; rw [er]
      show _ = eLst ((hs.map fun h => if h = u then 1 else 0).map eQ)
      rw [List.map_map]
      rfl
    · exact absurd hu e1
  · rcases alt with ⟨j, e1, _⟩ | ⟨_, e2⟩
    · exact absurd (List.mem_of_getElem? e1) hnu
    refine s_ret (C := []) (ev_cb (ea_cons (ev_is (ev_lcZ (xs := hs) (ys := row) (φ := eM) (χ := eQ) (ψ := fun h q => eB (decide (q.num = 0) || kLt (h.length : Int) (u.length : Int) (tx h) (tx u))) (by decide) (ea_cons (ev_var rfl) (ea_cons (ev_var rfl) ea_nil)) len.symm (by omega) fun k h1 h2 => ?_) (e' := eLst ((List.zipWith (fun (h : List Nat) (q : Rat) => decide (q.num = 0) || kLt (h.length : Int) (u.length : Int) (tx h) (tx u)) hs row).map eB)) (by rw [zipB])) ea_nil) op_all) fun v ω' l _ hv => hQ v ω' l ?_
    · exact ev_orV (ev_op (ev_op (ev_is (ev_var rfl) (show eQ row[k] = _ from rfl)) ev_c op_t0) ev_c op_eqI) fun _ => ev_op (ev_call (ea_cons (ev_var rfl) ea_nil) (ok_order_key (hl _ (List.getElem_mem h1)))) (ev_call (ea_cons (ev_var rfl) ea_nil) (ok_order_key ul)) op_key
    · have e : (List.zipWith (fun (h : List Nat) (q : Rat) => decide (q.num = 0) || kLt (h.length : Int) (u.length : Int) (tx h) (tx u)) hs row).all id = true := by
        refine List.all_eq_true.mpr fun x hx => ?_
        obtain ⟨i, hi⟩ := List.mem_iff_getElem?.mp hx
        obtain ⟨hi1, hi2⟩ := List.getElem?_eq_some_iff.mp hi
        rw [List.length_zipWith] at hi1
        rw [List.getElem_zipWith] at hi2
        rw [← hi2]
        show (decide _ || kLt _ _ _ _) = true
        by_cases q : row[i].num = 0
        · rw [decide_eq_true q]; rfl
        · have h1 := e2 i (by show i < hs.length; omega) (by
            show row.getD i 0 ≠ 0
            rw [getD_of_lt 0 (by omega)]
            exact fun z => q (by rw [z]; rfl))
          have e3 : hd hs i = hs[i] := by unfold hd; rw [getD_of_lt [] (by omega)]
          have h2 := kLt_of h1
          rw [show hd hs i = hs[i] from e3] at h2
          rw [h2, Bool.or_true]
      rw [e] at hv
      exact hv
end
end Tw

/-! tariffs.py: checked_form, the tariff -/
namespace Tw
open PySem L2 PyProof.Rows

section
variable {P : Program} {w : World} {K : PySem.W.Frag} {mg : Str → Option Value} {base : Heap} {CM CT : Addr}
abbrev s_checked_form : Stmt := topS 40
abbrev n_checked_form : List Str := ["signs", "heads", "table", "worths", "numbers", "number", "machine", "row", "head", "sign"]
abbrev p_checked_form : List Str := ["signs", "heads", "table", "worths"]
theorem sc_checked_form : FnScope n_checked_form p_checked_form (defScope s_checked_form) := ⟨rfl, rfl, rfl, by decide +kernel, rfl, by decide +kernel, by decide +kernel⟩
def spCheckedForm (CM : Addr) : Sp := spFn (β := G3) (fun b => eTf b.m b.hs b.tb) G3.Ok (fun b => eMc CM (mach2 b.m b.hs b.tb))
theorem ok_checked_form {m : Mach} {hs : List (List Nat)} {tb : List (List (List Rat))} (h : TfOk m hs tb) : SpOk (spCheckedForm CM) (eTf m hs tb) (eMc CM (mach2 m hs tb)) := spFn_ok (β := G3) ⟨m, hs, tb⟩ h
abbrev CheckedForm (P : Program) (w : World) (K : PySem.W.Frag) (mg : Str → Option Value) (base : Heap) (CM : Addr) : Prop := Cal P w K mg base "checked_form" p_checked_form 7 (spCheckedForm CM)
theorem Up.nodup {l : List (List Nat)} (h : Up l) : l.Nodup := List.Pairwise.imp (S := fun a b => a ≠ b) (fun {a b} (hab : lt a b) (e : a = b) => lt_irrefl b (by rw [e] at hab; exact hab)) h
theorem TfOk.isrow {m : Mach} {hs : List (List Nat)} {tb : List (List (List Rat))} (F : TfOk m hs tb) {i k : Nat} (hi : i < hs.length) (hk : k < m.signs.length) : GR.Ok ⟨hs, hd hs i ++ [m.signs.getD k 0], (tb.getD i []).getD k []⟩ := by
  have h6 := F.h6
  have hk2 : m.signs[k]? = some (m.signs.getD k 0) := by rw [getD_of_lt 0 hk]; exact List.getElem?_eq_getElem hk
  have hl : ∀ h ∈ hs, h.length ≤ 6 := fun h hh => by
    obtain ⟨i, hi, e⟩ := hd_of hh
    have := F.H.len i hi
    rw [e] at this
    omega
  refine ⟨F.H.up.nodup, F.H.tj i k hi hk, by show hs.length ≤ 100; omega, ?_, fun h hh => by have := hl h hh; omega, ?_⟩
  · show (hd hs i ++ [m.signs.getD k 0]).length ≤ 100000
    have := hl _ (hd_mem hi)
    rw [List.length_append, List.length_singleton]
    omega
  · exact F.H.row i k _ hi hk2
theorem cal_checked_form (T : Txt K mg) (D : DefAt K mg "checked_form" s_checked_form) (c_checked_signs : CheckedSigns P w K mg base) (c_checked : Checked P w K mg base) (c_is_shaped : IsShaped P w K mg base) (c_are_heads : AreHeads P w K mg base) (c_is_row : IsRow P w K mg base)
    (c_machine_by : MachineBy P w K mg base CM) (c_free_columns : FreeColumns P w K mg base CM) : CheckedForm P w K mg base CM := by
  refine cal_of D sc_checked_form (fun _ _ _ _ _ _ us hl => match us, hl with | [_, _, _, _], _ => rfl) (len_fn fun _ => rfl) fun f cdv A outer s H E hr => ⟨_, (pss_cons (ps_expr (pe_cal c_checked_signs hr rfl (pa_cons (pv 0) pa_nil)))
 (pss_cons (ps_for PassesOwn.never rfl (pi_list (pv 2)) (pg_name (i := 4) sc_checked_form.nd rfl (Or.inl rfl))
 (pss_one (ps_for PassesOwn.never rfl (pi_list (pv 4)) (pg_name (i := 7) sc_checked_form.nd rfl (Or.inl rfl))
 (pss_one (ps_for PassesOwn.never rfl (pi_list (pv 7)) (pg_name (i := 5) sc_checked_form.nd rfl (Or.inl rfl))
 (pss_one (ps_expr (pe_cal c_checked hr rfl (pa_cons (pv 5) pa_nil)))))))))
 (pss_cons (ps_for PassesOwn.never rfl (pi_list (pv 3)) (pg_name (i := 5) sc_checked_form.nd rfl (Or.inl rfl))
 (pss_one (ps_expr (pe_cal c_checked hr rfl (pa_cons (pv 5) pa_nil)))))
 (Evl.pss_cut (ps_if (PW.pt (pw_or (pt_not (pt_val (pe_cal c_is_shaped hr rfl (pa_cons (pv 0) (pa_cons (pv 1) (pa_cons (pv 2) (pa_cons (pv 3) pa_nil))))))) (pw_or1 (pt_not (pt_val (pe_cal c_are_heads hr rfl (pa_cons (pv 0) (pa_cons (pv 1) pa_nil)))))))) (pss_one ps_never) pss_nil)
 (pss_cons (ps_for PassesOwn.never rfl (pi_zip (by rfl) T.zip (pa_cons (pv 1) (pa_cons (pv 2) pa_nil))) (pg_tup rfl (pgs_cons (pg_name (i := 8) sc_checked_form.nd rfl (Or.inl rfl)) (pgs_cons (pg_name (i := 4) sc_checked_form.nd rfl (Or.inl rfl)) pgs_nil)))
 (pss_one (ps_for PassesOwn.never rfl (pi_zipS (by rfl) T.zip (pa_cons (pv 0) (pa_cons (pv 4) pa_nil))) (pg_tup rfl (pgs_cons (pg_name (i := 9) sc_checked_form.nd rfl (Or.inl rfl)) (pgs_cons (pg_name (i := 7) sc_checked_form.nd rfl (Or.inl rfl)) pgs_nil)))
 (pss_one (ps_if (pt_not (pt_val (pe_cal c_is_row hr rfl (pa_cons (pv 1) (pa_cons (pe_op op_add_str (pv 8) (pv 9)) (pa_cons (pv 7) pa_nil)))))) (pss_one ps_never) pss_nil)))))
 (pss_cons (ps_set (i := 6) sc_checked_form.nd rfl (Or.inl rfl) (pe_cal c_machine_by hr rfl (pa_cons (pv 0) (pa_cons (pv 2) (pa_cons (pv 3) pa_nil)))))
 (Evl.pss_cut (ps_if (pt_cmpR op_ne (pe_callB call_len_seq (by rfl) T.len (by decide +kernel) (pa_cons (pe_cal c_free_columns hr rfl (pa_cons (pv 6) pa_nil)) pa_nil)) (pe_callB call_len_seq (by rfl) T.len (by decide +kernel) (pa_cons (pv 1) pa_nil)) (nomark _)) (pss_one ps_never) pss_nil)
 (pss_one (ps_ret (pv 6)))))))))), body_fn fun b F ω Q hQ => ?_⟩
  obtain ⟨m, hs, tb⟩ := b
  have F : TfOk m hs tb := F
  have h6 := F.h6
  have H := F.H
  have hsg := F.fm.fit.sg.len
  have tl := H.tl
  refine q_drop (C := []) (ev_call (ea_cons (ev_var rfl) ea_nil) (ok_checked_signs F.fm.fit.sg)) ?_
  refine q_for (C := []) (β := Unit) (fun _ _ => True) (fun i _ => [some (eM m.signs), some (eMs hs), some (eTab tb), some (eQs (hs.map fun h => wt m h [])), none, none, none, none, none, none]) (fun i _ => [some (eM m.signs), some (eMs hs), some (eTab tb), some (eQs (hs.map fun h => wt m h [])), some (itm (tb.map eNb) i), none, none, none, none, none]) (fun _ _ => []) (it_list (ev_var rfl)) ?_ (fun _ _ _ _ => tg_name) (fun mm i _ hi _ => ?_) (fun _ _ => ?_)
  · exact ⟨(), trivial, ⟨rfl, rfl, rfl, rfl, trivial⟩, rfl⟩
  · rw [List.length_map] at hi
    rw [itm_map [] hi]
    generalize tb.getD i [] = nb
    refine s_for (C := []) (β := Unit) (fun _ _ => True) (fun i _ => [some (eM m.signs), some (eMs hs), some (eTab tb), some (eQs (hs.map fun h => wt m h [])), some (eNb nb), none, none, none, none, none]) (fun i _ => [some (eM m.signs), some (eMs hs), some (eTab tb), some (eQs (hs.map fun h => wt m h [])), some (eNb nb), none, none, some (itm (nb.map eQs) i), none, none]) (fun _ _ => []) (it_list (ev_var rfl)) ?_ (fun _ _ _ _ => tg_name) (fun mm k _ hk _ => ?_) (fun _ _ => ?_)
    · exact ⟨(), trivial, ⟨rfl, rfl, rfl, rfl, rfl, trivial⟩, rfl⟩
    · rw [List.length_map] at hk
      rw [itm_map [] hk]
      generalize nb.getD k [] = c
      refine s_for (C := []) (β := Unit) (fun _ _ => True) (fun i _ => [some (eM m.signs), some (eMs hs), some (eTab tb), some (eQs (hs.map fun h => wt m h [])), some (eNb nb), none, none, some (eQs c), none, none]) (fun i _ => [some (eM m.signs), some (eMs hs), some (eTab tb), some (eQs (hs.map fun h => wt m h [])), some (eNb nb), some (itm (c.map eQ) i), none, some (eQs c), none, none]) (fun _ _ => []) (it_list (ev_var rfl)) ?_ (fun _ _ _ _ => tg_name) (fun mm j _ hj _ => ?_) (fun _ _ => ?_)
      · exact ⟨(), trivial, ⟨rfl, rfl, rfl, rfl, rfl, rfl, trivial⟩, rfl⟩
      · rw [List.length_map] at hj
        rw [itm_map 0 hj]
        refine s_drop (C := []) (ev_call (ea_cons (ev_var rfl) ea_nil) ok_checked) (lp_mk () trivial rfl ?_)
        exact ⟨rfl, rfl, rfl, rfl, rfl, rfl, trivial⟩
      · exact lp_mk () trivial rfl ⟨rfl, rfl, rfl, rfl, rfl, trivial⟩
    · exact lp_mk () trivial rfl ⟨rfl, rfl, rfl, rfl, trivial⟩
  refine q_for (C := []) (β := Unit) (fun _ _ => True) (fun i _ => [some (eM m.signs), some (eMs hs), some (eTab tb), some (eQs (hs.map fun h => wt m h [])), none, none, none, none, none, none]) (fun i _ => [some (eM m.signs), some (eMs hs), some (eTab tb), some (eQs (hs.map fun h => wt m h [])), none, some (itm ((hs.map fun h => wt m h []).map eQ) i), none, none, none, none]) (fun _ _ => []) (it_list (ev_var rfl)) ?_ (fun _ _ _ _ => tg_name) (fun mm i _ hi _ => ?_) (fun _ _ => ?_)
  · exact ⟨(), trivial, ⟨rfl, rfl, rfl, rfl, trivial⟩, rfl⟩
  · rw [List.length_map] at hi
    rw [itm_map 0 hi]
    refine s_drop (C := []) (ev_call (ea_cons (ev_var rfl) ea_nil) ok_checked) (lp_mk () trivial rfl ?_)
    exact ⟨rfl, rfl, rfl, rfl, trivial⟩
  refine tr_cut (As (bs0 ω) [some (eM m.signs), some (eMs hs), some (eTab tb), some (eQs (hs.map fun h => wt m h [])), none, none, none, none, none, none] []) ?_ ?_
  · exact s_if (C := []) (c := false) (et_or (c := false) (c' := false) (et_not (et_B (ev_call (ea_cons (ev_var rfl) (ea_cons (ev_var rfl) (ea_cons (ev_var rfl) (ea_cons (ev_var rfl) ea_nil)))) (ok_is_shaped F)))) fun _ => et_not (et_B (ev_call (ea_cons (ev_var rfl) (ea_cons (ev_var rfl) ea_nil)) (ok_are_heads F)))) (fun h => nomatch h) (fun _ => s_next fun _ _ h => h)
  refine q_for (C := []) (β := Unit) (fun _ _ => True) (fun i _ => [some (eM m.signs), some (eMs hs), some (eTab tb), some (eQs (hs.map fun h => wt m h [])), none, none, none, none, none, none]) (fun i _ => [some (eM m.signs), some (eMs hs), some (eTab tb), some (eQs (hs.map fun h => wt m h [])), some (eNb (tb.getD i [])), none, none, none, some (eM (hd hs i)), none]) (fun _ _ => []) (it_zip (ea_cons (ev_var rfl) (ea_cons (ev_var rfl) ea_nil)) (n := hs.length) (by rw [List.length_map, List.length_map, tl, Nat.min_self])) ?_ (fun i _ hi _ => ?_) (fun mm i _ hi _ => ?_) (fun _ _ => ?_)
  · exact ⟨(), trivial, ⟨rfl, rfl, rfl, rfl, trivial⟩, rfl⟩
  · rw [itm_map [] hi, itm_map [] (by omega)]
    exact tg_tup rfl (tgs_cons tg_name (tgs_cons tg_name tgs_nil))
  · have hk := H.tk i hi
    refine s_for (C := []) (β := Unit) (fun _ _ => True) (fun k _ => [some (eM m.signs), some (eMs hs), some (eTab tb), some (eQs (hs.map fun h => wt m h [])), some (eNb (tb.getD i [])), none, none, none, some (eM (hd hs i)), none]) (fun k _ => [some (eM m.signs), some (eMs hs), some (eTab tb), some (eQs (hs.map fun h => wt m h [])), some (eNb (tb.getD i [])), none, none, some (eQs ((tb.getD i []).getD k [])), some (eM (hd hs i)), some (eM [m.signs.getD k 0])]) (fun _ _ => [])
      (it_zipS (u := m.signs) (fs := (tb.getD i []).map eQs) (ea_cons (ev_var rfl) (ea_cons (ev_var rfl) ea_nil)) (sg128 F.fm.fit.sg) (by rw [List.length_map, hk])) ?_ (fun k _ hk2 _ => ?_) (fun mm k _ hk2 _ => ?_) (fun _ _ => ?_)
    · exact ⟨(), trivial, ⟨rfl, rfl, rfl, rfl, rfl, rfl, trivial⟩, rfl⟩
    · rw [itm_map [] (by omega)]
      exact tg_tup rfl (tgs_cons tg_name (tgs_cons tg_name tgs_nil))
    · have ok := F.isrow hi hk2
      refine s_if (C := []) (c := false) (et_not (et_B (ev_call (ea_cons (ev_var rfl) (ea_cons (ev_op (ev_var rfl) (ev_var rfl) (op_catM ?_)) (ea_cons (ev_var rfl) ea_nil))) (ok_is_row ok)))) (fun h => nomatch h) (fun _ => s_next (lp_mk () trivial rfl ?_))
      · have := ok.ul
        rw [List.length_append] at this
        exact this
      · exact ⟨rfl, rfl, rfl, rfl, rfl, rfl, trivial⟩
    · exact lp_mk () trivial rfl ⟨rfl, rfl, rfl, rfl, trivial⟩
  refine q_asg (C := []) (ev_call (ea_cons (ev_var rfl) (ea_cons (ev_var rfl) (ea_cons (ev_var rfl) ea_nil))) (ok_machine_by F)) ?_
  refine tr_cut (As (bs0 ω) [some (eM m.signs), some (eMs hs), some (eTab tb), some (eQs (hs.map fun h => wt m h [])), none, none, some (eMc CM (mach2 m hs tb)), none, none, none] []) ?_ ?_
  · refine s_if (C := []) (c := false) (et_is (et_test (ev_op (ev_cb (ea_cons (ev_call (ea_cons (ev_var rfl) ea_nil) (ok_free_columns F.fc2)) ea_nil) (opc_any1 (e := eI (hs.length : Int)) fun Cs hC => ?_)) (ev_cb (ea_cons (ev_var rfl) ea_nil) op_lenL) op_neI)) ?_) (fun h => nomatch h) (fun _ => s_next fun _ _ h => h)
    · have e := Mir.count F.fm.fit.ok H F.mir hC
      have := op_lenL (K := K) (es := Cs.map eQs)
      rw [List.length_map, e] at this
      exact this
    · rw [List.length_map, decide_eq_true rfl]; rfl
  exact s_ret (C := []) (ev_var rfl) fun v ω' l _ hv => hQ v ω' l hv

/-! ### the tariff -/
abbrev fT : List Str := ["_machine", "_signs", "_heads", "_table", "_worths"]
abbrev lT (CM : Addr) (b : G3) : List En := [eMc CM (mach2 b.m b.hs b.tb), eM b.m.signs, eMs b.hs, eTab b.tb, eQs (b.hs.map fun h => wt b.m h [])]
abbrev eTar (CT CM : Addr) (b : G3) : En := eObj CT fT (lT CM b)
structure NoT (K : PySem.W.Frag) (CT : Addr) : Prop where
  machine : NoAttr K CT "_machine"
  signs : NoAttr K CT "_signs"
  heads : NoAttr K CT "_heads"
  table : NoAttr K CT "_table"
  worths : NoAttr K CT "_worths"
theorem fT_nd : fT.Nodup := by decide
abbrev s_Tariff___init__ : Stmt := inClass (topS 41) 0
abbrev n_Tariff___init__ : List Str := ["self", "signs", "heads", "table", "worths", "numbers", "row"]
abbrev p_Tariff___init__ : List Str := ["self", "signs", "heads", "table", "worths"]
theorem sc_Tariff___init__ : FnScope n_Tariff___init__ p_Tariff___init__ (defScope s_Tariff___init__) := ⟨rfl, rfl, rfl, by decide +kernel, rfl, by decide +kernel, by decide +kernel⟩
def spTInit (CT CM : Addr) : Sp := spI (β := G3) CT (fun b => eTf b.m b.hs b.tb) G3.Ok fT (lT CM)
theorem ok_tmake {b : G3} (F : b.Ok) : SpI CT (spTInit CT CM) (eTf b.m b.hs b.tb) fT (lT CM b) := spI_ok (β := G3) b F
abbrev TMake (P : Program) (w : World) (K : PySem.W.Frag) (mg : Str → Option Value) (base : Heap) (CT CM : Addr) : Prop := CalC P w K mg base "Tariff" CT p_Tariff___init__ 8 (spTInit CT CM)
theorem cal_tmake (T : Txt K mg) (cT : Cls K CT) (nT : NoT K CT) (D : DefC K mg "Tariff" "Tariff.__init__" CT s_Tariff___init__) (c_checked_form : CheckedForm P w K mg base CM) : TMake P w K mg base CT CM := by
  refine calC_of D sc_Tariff___init__ (fun _ _ _ _ _ _ us hl => match us, hl with | [_, _, _, _, _], _ => rfl) (len_i fun _ => rfl) fun f cdv A outer s H E hr => ⟨_, (pss_cons (ps_fld (pv 0) (pe_cal c_checked_form hr rfl (pa_cons (pv 1) (pa_cons (pv 2) (pa_cons (pv 3) (pa_cons (pv 4) pa_nil))))) rfl)
 (pss_cons (ps_fld (pv 0) (pv 1) rfl)
 (pss_cons (ps_fld (pv 0) (pe_callTy call_list_of (by rfl) T.list (by decide +kernel) (pa_cons (pv 2) pa_nil)) rfl)
 (pss_cons (ps_fld (pv 0) (pe_lc (own := [("numbers", 5)]) rfl sc_Tariff___init__.nd (pi_list (pv 3)) (blkOk_by (N := n_Tariff___init__) (sc := defScope s_Tariff___init__) (by decide +kernel)) (fun _ _ _ _ _ => (pg_name (i := 5) sc_Tariff___init__.nd rfl (Or.inl rfl))) (fun _ _ _ _ _ => pts_nil) (fun _ _ _ _ _ => (pe_lc (own := [("row", 6)]) rfl sc_Tariff___init__.nd (pi_listK K rfl (pv 5)) (blkOk_by (by rfl)) (fun _ _ _ _ _ => (pg_name (i := 6) sc_Tariff___init__.nd rfl (Or.inl rfl))) (fun _ _ _ _ _ => pts_nil) (fun _ _ _ _ _ => (pe_callTy (listSq K rfl) (by rfl) T.list (by decide +kernel) (pa_cons (pv 6) pa_nil)))))) rfl)
 (pss_one (ps_fld (pv 0) (pe_callTy call_list_of (by rfl) T.list (by decide +kernel) (pa_cons (pv 4) pa_nil)) rfl)))))), body_i fun b F ω x dx Q hQ => ?_⟩
  obtain ⟨m, hs, tb⟩ := b
  have F : TfOk m hs tb := F
  have H := F.H
  have h6 := F.h6
  have hsg := F.fm.fit.sg.len
  have xS : x ∈ (bsS ω [x]).S := List.mem_cons_self
  refine q_fld (C := []) (k := 0) (fn := []) (es := []) (ev_call (ea_cons (ev_var rfl) (ea_cons (ev_var rfl) (ea_cons (ev_var rfl) (ea_cons (ev_var rfl) ea_nil)))) (ok_checked_form F)) (ev_var rfl) rfl cT nT.machine (by decide) (by decide) xS ?_
  refine q_fld (C := []) (k := 0) (fn := ["_machine"]) (es := [eMc CM (mach2 m hs tb)]) (ev_var rfl) (ev_var rfl) rfl cT nT.signs (by decide) (by decide) xS ?_
  refine q_fld (C := []) (k := 0) (fn := ["_machine", "_signs"]) (es := [eMc CM (mach2 m hs tb), eM m.signs]) (ev_cb (ea_cons (ev_var rfl) ea_nil) op_listOf) (ev_var rfl) rfl cT nT.heads (by decide) (by decide) xS ?_
  refine q_fld (C := []) (k := 0) (Δ1 := [rO x CT dx ["_machine", "_signs", "_heads"] [eMc CM (mach2 m hs tb), eM m.signs, eMs hs]]) (fn := ["_machine", "_signs", "_heads"]) (es := [eMc CM (mach2 m hs tb), eM m.signs, eMs hs]) (e := eTab tb) ?_ (ev_var rfl) rfl cT nT.table (by decide) (by decide) xS ?_
  · refine ev_lcL (xs := tb) (φ := eNb) (ψ := eNb) (ev_var rfl) (by have := H.tl; omega) fun nb hnb => ev_lcL (xs := nb) (φ := eQs) (ψ := eQs) (ev_var rfl) ?_ fun c hc => ev_cb (ea_cons (ev_var rfl) ea_nil) op_listOf
    obtain ⟨i, hi, e⟩ := mem_getD [] hnb
    have := H.tk i (by rw [← H.tl]; exact hi)
    rw [e] at this
    omega
  refine s_fld (C := []) (k := 0) (fn := ["_machine", "_signs", "_heads", "_table"]) (es := [eMc CM (mach2 m hs tb), eM m.signs, eMs hs, eTab tb]) (ev_cb (ea_cons (ev_var rfl) ea_nil) op_listOf) (ev_var rfl) rfl cT nT.worths (by decide) (by decide) (fun σ H ⟨ω', e1, l, _, _, d⟩ => ?_) xS
  subst e1
  exact hQ ω' l d
abbrev s_Tariff_signs : Stmt := inClass (topS 41) 1
abbrev n_Tariff_signs : List Str := ["self"]
abbrev p_Tariff_signs : List Str := ["self"]
theorem sc_Tariff_signs : FnScope n_Tariff_signs p_Tariff_signs (defScope s_Tariff_signs) := ⟨rfl, rfl, rfl, by decide +kernel, rfl, by decide +kernel, by decide +kernel⟩
def spTSigns (CT CM : Addr) : Sp := spFn (β := G3) (fun b => [eTar CT CM b]) (fun _ => True) (fun b => eM b.m.signs)
theorem ok_tsigns {b : G3} : SpOk (spTSigns CT CM) [eTar CT CM b] (eM b.m.signs) := spFn_ok (β := G3) b trivial
abbrev TSigns (P : Program) (w : World) (K : PySem.W.Frag) (mg : Str → Option Value) (base : Heap) (CT CM : Addr) : Prop := CalP P w K mg base CT "signs" 1 (spTSigns CT CM)
theorem cal_tsigns (T : Txt K mg) (cT : Cls K CT) (nT : NoT K CT) (D : DefP K CT "signs" "Tariff.signs" s_Tariff_signs) : TSigns P w K mg base CT CM := by
  refine calP_of D sc_Tariff_signs (fun _ _ _ _ _ _ us hl => match us, hl with | [_], _ => rfl) (len_fn fun _ => rfl) fun f cdv A outer s H E hr => ⟨_, (pss_one (ps_ret (pe_fld (pv 0) rfl))), body_fn fun b _ ω Q hQ => ?_⟩
  exact s_ret (C := []) (ev_fld (i := 1) (ev_var rfl) cT nT.signs fT_nd rfl rfl) fun v ω' l _ hv => hQ v ω' l hv
abbrev s_Tariff_heads : Stmt := inClass (topS 41) 2
abbrev n_Tariff_heads : List Str := ["self"]
abbrev p_Tariff_heads : List Str := ["self"]
theorem sc_Tariff_heads : FnScope n_Tariff_heads p_Tariff_heads (defScope s_Tariff_heads) := ⟨rfl, rfl, rfl, by decide +kernel, rfl, by decide +kernel, by decide +kernel⟩
def spTHeads (CT CM : Addr) : Sp := spFn (β := G3) (fun b => [eTar CT CM b]) (fun _ => True) (fun b => eMs b.hs)
theorem ok_theads {b : G3} : SpOk (spTHeads CT CM) [eTar CT CM b] (eMs b.hs) := spFn_ok (β := G3) b trivial
abbrev THeads (P : Program) (w : World) (K : PySem.W.Frag) (mg : Str → Option Value) (base : Heap) (CT CM : Addr) : Prop := CalP P w K mg base CT "heads" 1 (spTHeads CT CM)
theorem cal_theads (T : Txt K mg) (cT : Cls K CT) (nT : NoT K CT) (D : DefP K CT "heads" "Tariff.heads" s_Tariff_heads) : THeads P w K mg base CT CM := by
  refine calP_of D sc_Tariff_heads (fun _ _ _ _ _ _ us hl => match us, hl with | [_], _ => rfl) (len_fn fun _ => rfl) fun f cdv A outer s H E hr => ⟨_, (pss_one (ps_ret (pe_callTy call_list_of (by rfl) T.list (by decide +kernel) (pa_cons (pe_fld (pv 0) rfl) pa_nil)))), body_fn fun b _ ω Q hQ => ?_⟩
  exact s_ret (C := []) (ev_cb (ea_cons (ev_fld (i := 2) (ev_var rfl) cT nT.heads fT_nd rfl rfl) ea_nil) op_listOf) fun v ω' l _ hv => hQ v ω' l hv
abbrev s_tariff_of : Stmt := topS 42
abbrev n_tariff_of : List Str := ["machine", "heads", "table", "worths"]
abbrev p_tariff_of : List Str := ["machine"]
theorem sc_tariff_of : FnScope n_tariff_of p_tariff_of (defScope s_tariff_of) := ⟨rfl, rfl, rfl, by decide +kernel, rfl, by decide +kernel, by decide +kernel⟩
abbrev eTars (CT CM : Addr) (m : Mach) : En := eAny G3 (fun b => b.m = m ∧ b.Ok) (eTar CT CM)
def spTariffOf (CT CM : Addr) : Sp := spFn (β := Mach) (fun m => [eMc CM m]) FmOk (eTars CT CM)
theorem ok_tariff_of {m : Mach} (h : FmOk m) : SpOk (spTariffOf CT CM) [eMc CM m] (eTars CT CM m) := spFn_ok (β := Mach) m h
abbrev TariffOf (P : Program) (w : World) (K : PySem.W.Frag) (mg : Str → Option Value) (base : Heap) (CT CM : Addr) : Prop := Cal P w K mg base "tariff_of" p_tariff_of 10 (spTariffOf CT CM)
theorem cal_tariff_of (T : Txt K mg) (cM : Cls K CM) (D : DefAt K mg "tariff_of" s_tariff_of) (c_form_of : FormOf P w K mg base CM) (k_Tariff : TMake P w K mg base CT CM) (c_Machine_signs : MSigns P w K mg base CM) : TariffOf P w K mg base CT CM := by
  refine cal_of D sc_tariff_of (fun _ _ _ _ _ _ us hl => match us, hl with | [_], _ => rfl) (len_fn fun _ => rfl) fun f cdv A outer s H E hr => ⟨_, (pss_cons (ps_asg (pe_cal c_form_of hr rfl (pa_cons (pv 0) pa_nil)) (pg_tup rfl (pgs_cons (pg_name (i := 1) sc_tariff_of.nd rfl (Or.inl rfl)) (pgs_cons (pg_name (i := 2) sc_tariff_of.nd rfl (Or.inl rfl)) (pgs_cons (pg_name (i := 3) sc_tariff_of.nd rfl (Or.inl rfl)) pgs_nil)))))
 (pss_one (ps_ret (pe_calC k_Tariff hr rfl (pa_cons (pe_calP c_Machine_signs cM hr (pv 0)) (pa_cons (pv 1) (pa_cons (pv 2) (pa_cons (pv 3) pa_nil)))))))), body_fn fun m F ω Q hQ => ?_⟩
  have F : FmOk m := F
  refine q_asgTA (C := []) (Δ1 := []) (α := Frm) (Γf := fun x => [some (eMc CM m), some (eMs x.1), some (eTab x.2), some (eQs (x.1.map fun h => wt m h []))]) (ev_call (ea_cons (ev_var rfl) ea_nil) (ok_form_of F)) (fun x _ => tg_tup rfl (tgs_cons tg_name (tgs_cons tg_name (tgs_cons tg_name tgs_nil)))) fun x hx => ?_
  obtain ⟨hs, tb⟩ := x
  obtain ⟨h1, h2, h3, h4⟩ := hx
  have G : TfOk m hs tb := ⟨F, h1, h2, h3, h4⟩
  exact s_ret (C := []) (ev_make (ea_cons (ev_prop (ev_var rfl) ok_msigns) (ea_cons (ev_var rfl) (ea_cons (ev_var rfl) (ea_cons (ev_var rfl) ea_nil)))) (ok_tmake (b := ⟨m, hs, tb⟩) G)) fun v ω' l _ hv => hQ v ω' l ⟨⟨m, hs, tb⟩, ⟨rfl, G⟩, hv⟩
end
end Tw

/-! the law's whole numbers -/
namespace Tw
open PySem L2 PyProof.Rows

theorem fmod_nat (x y : Nat) : ((x : Int).fmod (y : Int)) = ((x % y : Nat) : Int) := by
  rw [Int.fmod_eq_emod_of_nonneg _ (by omega)]
  rfl
section
variable {P : Program} {w : World} {K : PySem.W.Frag} {mg : Str → Option Value} {base : Heap}
abbrev s__law_gcd : Stmt := topS 46
abbrev n__law_gcd : List Str := ["_law_one", "_law_other"]
abbrev p__law_gcd : List Str := ["_law_one", "_law_other"]
theorem sc__law_gcd : FnScope n__law_gcd p__law_gcd (defScope s__law_gcd) := ⟨rfl, rfl, rfl, by decide +kernel, rfl, by decide +kernel, by decide +kernel⟩
def spLGcd : Sp := spFn (β := Int × Int) (fun b => [eI b.1, eI b.2]) (fun _ => True) (fun b => eI (Nat.gcd b.1.natAbs b.2.natAbs : Nat))
theorem ok_lgcd {a b : Int} : SpOk spLGcd [eI a, eI b] (eI (Nat.gcd a.natAbs b.natAbs : Nat)) := spFn_ok (β := Int × Int) (a, b) trivial
abbrev LGcd (P : Program) (w : World) (K : PySem.W.Frag) (mg : Str → Option Value) (base : Heap) : Prop := Cal P w K mg base "_law_gcd" p__law_gcd 1 spLGcd
theorem cal_lgcd (T : Txt K mg) (D : DefAt K mg "_law_gcd" s__law_gcd) : LGcd P w K mg base := by
  refine cal_of D sc__law_gcd (fun _ _ _ _ _ _ us hl => match us, hl with | [_, _], _ => rfl) (len_fn fun _ => rfl) fun f cdv A outer s H E hr => ⟨_, (pss_cons (ps_par (i := 0) (j := 1) rfl sc__law_gcd.nd rfl rfl (by decide) rfl rfl (pa_cons (pe_callB call_abs (by rfl) T.abs (by decide +kernel) (pa_cons (pv 0) pa_nil)) (pa_cons (pe_callB call_abs (by rfl) T.abs (by decide +kernel) (pa_cons (pv 1) pa_nil)) pa_nil)) rfl)
 (pss_cons (ps_while PassesOwn.never (pt_cmpR op_ne (pv 1) pe_int (nomark _)) (pss_one (ps_par (i := 0) (j := 1) rfl sc__law_gcd.nd rfl rfl (by decide) rfl rfl (pa_cons (pv 1) (pa_cons (pe_op op_modN (pe_callTy call_int1 (by rfl) T.int (by decide +kernel) (pa_cons (pv 0) pa_nil)) (pv 1)) pa_nil)) rfl)))
 (pss_one (ps_ret (pv 0))))), body_fn fun ⟨a, b⟩ _ ω Q hQ => ?_⟩
  refine q_par (C := []) (e1 := eI (a.natAbs : Int)) (e2 := eI (b.natAbs : Int)) (ea_cons (ev_cb (ea_cons (ev_var rfl) ea_nil) op_abs) (ea_cons (ev_cb (ea_cons (ev_var rfl) ea_nil) op_abs) ea_nil)) ?_
  refine q_while (β := Nat × Nat) (fun x => Nat.gcd x.1 x.2 = Nat.gcd a.natAbs b.natAbs) (fun x => x.2) (fun x => [some (eI (x.1 : Int)), some (eI (x.2 : Int))]) (fun _ => []) ⟨(a.natAbs, b.natAbs), rfl, ⟨rfl, rfl, trivial⟩, rfl⟩ fun x hx => ?_
  obtain ⟨x, y⟩ := x
  have hx : Nat.gcd x y = Nat.gcd a.natAbs b.natAbs := hx
  refine ⟨[], !decide ((y : Int) = 0), [], Own.nil _, et_test (ev_op (ev_var rfl) ev_c op_neI), fun h => ?_, fun h => ?_⟩
  · have hy : y ≠ 0 := by simpa using h
    refine s_par (C := []) (Δ1 := []) (e1 := eI (y : Int)) (e2 := eI ((x % y : Nat) : Int)) (ea_cons (ev_var rfl) (ea_cons (ev_is (ev_op (ev_cb (ea_cons (ev_var rfl) ea_nil) op_int1) (ev_var rfl) (op_I (by show (y : Int) ≠ 0; omega))) (congrArg (fun z => eI z) (fmod_nat x y))) ea_nil)) (lp_mk (y, x % y) ⟨?_, Nat.mod_lt _ (Nat.pos_of_ne_zero hy)⟩ rfl ⟨rfl, rfl, trivial⟩)
    show Nat.gcd y (x % y) = _
    rw [← hx, Nat.gcd_comm x y, Nat.gcd_rec y x, Nat.gcd_comm]
  · have hy : y = 0 := by simpa using h
    subst hy
    rw [Nat.gcd_zero_right] at hx
    refine s_ret (C := []) (ev_var rfl) fun v ω' l _ hv => hQ v ω' l ?_
    show (eI (Nat.gcd a.natAbs b.natAbs : Nat)).r v ω'.M
    rw [← hx]
    exact hv
abbrev s__law_pair : Stmt := topS 47
abbrev n__law_pair : List Str := ["_law_above", "_law_below", "_law_common"]
abbrev p__law_pair : List Str := ["_law_above", "_law_below"]
theorem sc__law_pair : FnScope n__law_pair p__law_pair (defScope s__law_pair) := ⟨rfl, rfl, rfl, by decide +kernel, rfl, by decide +kernel, by decide +kernel⟩
def spLPair : Sp := spFn (β := Int × Int) (fun b => [eI b.1, eI b.2]) (fun b => b.2 ≠ 0 ∧ b.2.natAbs < 2 ^ 4000) (fun b => eQ (Rat.divInt b.1 b.2))
theorem ok_lpair {a b : Int} (h : b ≠ 0) (h2 : b.natAbs < 2 ^ 4000) : SpOk spLPair [eI a, eI b] (eQ (Rat.divInt a b)) := spFn_ok (β := Int × Int) (a, b) ⟨h, h2⟩
abbrev LPair (P : Program) (w : World) (K : PySem.W.Frag) (mg : Str → Option Value) (base : Heap) : Prop := Cal P w K mg base "_law_pair" p__law_pair 2 spLPair
theorem cal_lpair (T : Txt K mg) (D : DefAt K mg "_law_pair" s__law_pair) (c__law_gcd : LGcd P w K mg base) : LPair P w K mg base := by
  refine cal_of D sc__law_pair (fun _ _ _ _ _ _ us hl => match us, hl with | [_, _], _ => rfl) (len_fn fun _ => rfl) fun f cdv A outer s H E hr => ⟨_, (pss_cons (ps_set (i := 2) sc__law_pair.nd rfl (Or.inl rfl) (pe_cal c__law_gcd hr rfl (pa_cons (pv 0) (pa_cons (pv 1) pa_nil))))
 (Evl.pss_cut (ps_if (pt_cmpR op_lt (pv 1) pe_int (nomark _)) (pss_one (ps_set (i := 2) sc__law_pair.nd rfl (Or.inl rfl) (pe_op op_sub pe_int (pv 2)))) pss_nil)
 (pss_one (ps_ret (pe_tup (pa_cons (pe_op op_fdivX (pv 0) (pv 2)) (pa_cons (pe_op op_fdivX (pv 1) (pv 2)) pa_nil))))))), body_fn fun ⟨a, b⟩ ⟨hb, hs⟩ ω Q hQ => ?_⟩
  have hb : b ≠ 0 := hb
  have hs : b.natAbs < 2 ^ 4000 := hs
  obtain ⟨c, c0, ec, ea, eb⟩ := low_eq (a := a) hb
  have hc : c.natAbs < 2 ^ 9000 := by
    have h1 : c.natAbs ∣ b.natAbs := Int.natAbs_dvd_natAbs.mpr ⟨_, by rw [Int.mul_comm]; exact eb⟩
    exact Nat.lt_of_le_of_lt (Nat.le_of_dvd (by omega) h1) (pw_mono hs (by decide))
  refine q_asg (C := []) (ev_call (ea_cons (ev_var rfl) (ea_cons (ev_var rfl) ea_nil)) ok_lgcd) ?_
  refine tr_cut (As (bs0 ω) [some (eI a), some (eI b), some (eI c)] []) ?_ ?_
  · refine s_if (C := []) (et_test (ev_op (ev_var rfl) ev_c op_I0)) (fun h => ?_) (fun h => ?_)
    · refine s_asg (C := []) (e := eI c) (ev_is (ev_op ev_c (ev_var rfl) op_I0) ?_) (fun _ _ h => h)
      rw [ec, if_pos (of_decide_eq_true h)]
      show eI (0 - ((Nat.gcd a.natAbs b.natAbs : Nat) : Int)) = eI (-((Nat.gcd a.natAbs b.natAbs : Nat) : Int))
      rw [Int.zero_sub]
    · refine s_next ?_
      rw [ec, if_neg (of_decide_eq_false h)]
      exact fun _ _ h => h
  · have dv : ∀ x : Int, DivX x c := fun x => divx_small c0 hc
    refine s_ret (C := []) (ev_tup (ea_cons (ev_op (ev_var rfl) (ev_var rfl) (op_I (dv a))) (ea_cons (ev_op (ev_var rfl) (ev_var rfl) (op_I (dv b))) ea_nil)) (Nat.le_of_ble_eq_true rfl)) fun v ω' l _ hv => hQ v ω' l ?_
    have e1 : a.fdiv c = (Rat.divInt a b).num := by
      conv => lhs; rw [ea]
      exact Int.mul_fdiv_cancel _ c0
    have e2 : b.fdiv c = ((Rat.divInt a b).den : Int) := by
      conv => lhs; rw [eb]
      exact Int.mul_fdiv_cancel _ c0
    rw [e1, e2] at hv
    exact hv
abbrev s__law_over : Stmt := topS 53
abbrev n__law_over : List Str := ["_law_numbers", "_law_found", "_law_above", "_law_below"]
abbrev p__law_over : List Str := ["_law_numbers"]
theorem sc__law_over : FnScope n__law_over p__law_over (defScope s__law_over) := ⟨rfl, rfl, rfl, by decide +kernel, rfl, by decide +kernel, by decide +kernel⟩
def spLOver : Sp := spFn (β := List Rat) (fun row => [eQs row]) RowOk (fun row => eI (lcmR row : Int))
theorem ok_lover {row : List Rat} (h : RowOk row) : SpOk spLOver [eQs row] (eI (lcmR row : Int)) := spFn_ok (β := List Rat) row h
abbrev LOver (P : Program) (w : World) (K : PySem.W.Frag) (mg : Str → Option Value) (base : Heap) : Prop := Cal P w K mg base "_law_over" p__law_over 2 spLOver
theorem over_lcm {a b : Nat} (ha : 0 < a) : ((a : Int).fdiv ((Nat.gcd ((a : Int)).natAbs ((b : Int)).natAbs : Nat) : Int)) * (b : Int) = ((Nat.lcm a b : Nat) : Int) := by
  rw [fd_pos, Int.natAbs_natCast, Int.natAbs_natCast, ← Int.natCast_ediv, ← Int.natCast_mul]
  congr 1
  have hg := Nat.gcd_pos_of_pos_left b ha
  unfold Nat.lcm
  rw [Nat.div_mul_right_comm (Nat.gcd_dvd_left a b)]
theorem cal_lover (T : Txt K mg) (D : DefAt K mg "_law_over" s__law_over) (c__law_gcd : LGcd P w K mg base) : LOver P w K mg base := by
  refine cal_of D sc__law_over (fun _ _ _ _ _ _ us hl => match us, hl with | [_], _ => rfl) (len_fn fun _ => rfl) fun f cdv A outer s H E hr => ⟨_, (pss_cons (ps_set (i := 1) sc__law_over.nd rfl (Or.inl rfl) pe_int)
 (pss_cons (ps_for PassesOwn.never rfl (pi_list (pv 0)) (pg_tup rfl (pgs_cons (pg_name (i := 2) sc__law_over.nd rfl (Or.inl rfl)) (pgs_cons (pg_name (i := 3) sc__law_over.nd rfl (Or.inl rfl)) pgs_nil)))
 (pss_one (ps_set (i := 1) sc__law_over.nd rfl (Or.inl rfl) (pe_op op_mulX (pe_op op_fdivX (pv 1) (pe_cal c__law_gcd hr rfl (pa_cons (pv 1) (pa_cons (pv 3) pa_nil)))) (pv 3)))))
 (pss_one (ps_ret (pv 1))))), body_fn fun row R ω Q hQ => ?_⟩
  have R : RowOk row := R
  refine q_asg (C := []) (e := eI (lcmR (row.take 0) : Int)) ev_c ?_
  refine q_for (C := []) (β := Unit) (fun _ _ => True) (fun i _ => [some (eQs row), some (eI (lcmR (row.take i) : Int)), none, none]) (fun i _ => [some (eQs row), some (eI (lcmR (row.take i) : Int)), some (eI (row.getD i 0).num), some (eI ((row.getD i 0).den : Int))]) (fun _ _ => []) (it_list (ev_var rfl)) ?_ (fun i _ hi _ => ?_) (fun m i _ hi _ => ?_) (fun _ _ => ?_)
  · exact ⟨(), trivial, ⟨rfl, rfl, trivial⟩, rfl⟩
  · rw [List.length_map] at hi
    rw [itm_map 0 hi]
    exact tg_tup rfl (tgs_cons tg_name (tgs_cons tg_name tgs_nil))
  · rw [List.length_map] at hi
    have hq := R.q4 _ (getD_mem 0 hi)
    have et := take_getD 0 hi
    generalize row.getD i 0 = q at hq et
    have p0 := lcmR_pos (row.take i)
    have lt := R.lt i
    refine s_asg (C := []) (e := eI (lcmR (row.take (i + 1)) : Int)) ?_ (lp_mk () trivial rfl ⟨rfl, rfl, trivial⟩)
    rw [et, lcmR_snoc]
    refine ev_is (ev_op (ev_op (ev_var rfl) (ev_call (ea_cons (ev_var rfl) (ea_cons (ev_var rfl) ea_nil)) ok_lgcd) (op_I ?_)) (ev_var rfl) (op_I ?_)) (congrArg (fun z => eI z) (over_lcm p0))
    · refine divx_small ?_ (natm ?_)
      · have := Nat.gcd_pos_of_pos_left ((q.den : Int)).natAbs (show 0 < (((lcmR (row.take i) : Nat) : Int)).natAbs by rw [Int.natAbs_natCast]; exact p0)
        omega
      · exact Nat.lt_of_le_of_lt (Nat.gcd_le_left _ (by rw [Int.natAbs_natCast]; exact p0)) (by rw [Int.natAbs_natCast]; exact lt)
    · refine mulx (a := 9000) (b := 4000) ?_ (natm hq.2) (by decide)
      rw [fd_pos]
      exact Nat.lt_of_le_of_lt (Int.natAbs_ediv_le_natAbs _ _) (natm lt)
  rw [List.length_map, List.take_of_length_le (Nat.le_refl _)]
  exact s_ret (C := []) (ev_var rfl) fun v ω' l _ hv => hQ v ω' l hv
end
end Tw

/-! the law's machine over whole numbers -/
namespace Tw
open PySem L2 PyProof.Rows

abbrev RoadI := Nat × Nat × Nat × Int
def eRdI (r : RoadI) : En := eTup [eI (r.1 : Int), eM [r.2.1], eI (r.2.2.1 : Int), eI r.2.2.2]
def rdsI (roads : List Road) : List RoadI := roads.map fun r => (r.1, r.2.1, r.2.2.1, r.2.2.2.num * ((lcmR (roads.map fun r => r.2.2.2) : Nat) : Int).fdiv (r.2.2.2.den : Int))
def swpI (rs : List RoadI) : List RoadI := rs.map fun r => (r.2.2.1, r.2.1, r.1, r.2.2.2)
/-- one step over whole numbers -/
def lstA (rs : List RoadI) (row : List Int) (s : Nat) (acc : List Int) : List Int := rs.foldl (fun f r => if r.2.1 = s then f.set r.2.2.1 (f.getD r.2.2.1 0 + row.getD r.1 0 * r.2.2.2) else f) acc
def lstp (rs : List RoadI) (row : List Int) (s : Nat) : List Int := lstA rs row s (List.replicate row.length 0)
theorem lstA_snoc (rs : List RoadI) (r : RoadI) (row : List Int) (s : Nat) (acc : List Int) : lstA (rs ++ [r]) row s acc = if r.2.1 = s then (lstA rs row s acc).set r.2.2.1 ((lstA rs row s acc).getD r.2.2.1 0 + row.getD r.1 0 * r.2.2.2) else lstA rs row s acc := by
  unfold lstA
  rw [List.foldl_append]
  rfl
theorem lstA_cons (rs : List RoadI) (r : RoadI) (row : List Int) (s : Nat) (acc : List Int) : lstA (r :: rs) row s acc = lstA rs row s (if r.2.1 = s then acc.set r.2.2.1 (acc.getD r.2.2.1 0 + row.getD r.1 0 * r.2.2.2) else acc) := rfl
theorem lstA_len (row : List Int) (s : Nat) : ∀ (rs : List RoadI) (acc : List Int), (lstA rs row s acc).length = acc.length
  | [], _ => rfl
  | r :: rs, acc => by
    rw [lstA_cons, lstA_len row s rs]
    split
    · rw [List.length_set]
    · rfl
theorem lstp_len (rs : List RoadI) (row : List Int) (s : Nat) : (lstp rs row s).length = row.length := by unfold lstp; rw [lstA_len, List.length_replicate]
def selI (rs : List RoadI) (s : Nat) : List Stp := rs.filterMap fun r => if r.2.1 = s then some (r.1, r.2.2.1, r.2.2.2) else none
theorem lstA_at (row : List Int) (s : Nat) : ∀ (rs : List RoadI) (acc : List Int) (j : Nat), (∀ r ∈ rs, r.2.2.1 < acc.length) → (lstA rs row s acc).getD j 0 = acc.getD j 0 + stI (selI rs s) (fun i => row.getD i 0) j
  | [], acc, j, _ => by show _ = _ + 0; rw [Int.add_zero]; rfl
  | r :: rs, acc, j, h => by
    rw [lstA_cons]
    have e0 : selI (r :: rs) s = if r.2.1 = s then (r.1, r.2.2.1, r.2.2.2) :: selI rs s else selI rs s := by
      unfold selI
      rw [List.filterMap_cons]
      split
      · rename_i q
        split at q
        · cases q
        · rename_i q2; rw [if_neg q2]
      · rename_i q
        split at q
        · rename_i q2; cases q; rw [if_pos q2]
        · cases q
    rw [e0]
    by_cases q : r.2.1 = s
    · rw [if_pos q, if_pos q, lstA_at row s rs _ j fun x hx => by rw [List.length_set]; exact h x (List.mem_cons_of_mem _ hx), getD_set (h r List.mem_cons_self)]
      show _ = acc.getD j 0 + ((if r.2.2.1 = j then row.getD r.1 0 * r.2.2.2 else 0) + _)
      split
      · rename_i e1
        rw [e1]
        omega
      · omega
    · rw [if_neg q, if_neg q]
      exact lstA_at row s rs acc j fun x hx => h x (List.mem_cons_of_mem _ hx)
theorem lstp_at {rs : List RoadI} {row : List Int} {s : Nat} (h : ∀ r ∈ rs, r.2.2.1 < row.length) (j : Nat) : (lstp rs row s).getD j 0 = stI (selI rs s) (fun i => row.getD i 0) j := by
  unfold lstp
  rw [lstA_at row s rs _ j fun r hr => by rw [List.length_replicate]; exact h r hr, List.getD_eq_getElem?_getD, List.getElem?_replicate]
  split <;> exact Int.zero_add _
structure LsOk (rs : List RoadI) (row : List Int) : Prop where
  len : row.length ≤ 1000
  rl : rs.length ≤ 100000
  ix : ∀ r ∈ rs, r.1 < row.length ∧ r.2.2.1 < row.length
  b : ∀ r ∈ rs, r.2.2.2.natAbs < 2 ^ 20000
  c : ∀ i, (row.getD i 0).natAbs < 2 ^ 20000
section
variable {P : Program} {w : World} {K : PySem.W.Frag} {mg : Str → Option Value} {base : Heap}
abbrev s__law_scaled : Stmt := topS 54
abbrev n__law_scaled : List Str := ["_law_parts", "_law_middle", "_law_begin", "_law_end", "_law_roads", "_law_first", "_law_last", "_law_road", "_law_above", "_law_below"]
abbrev p__law_scaled : List Str := ["_law_parts"]
theorem sc__law_scaled : FnScope n__law_scaled p__law_scaled (defScope s__law_scaled) := ⟨rfl, rfl, rfl, by decide +kernel, rfl, by decide +kernel, by decide +kernel⟩
abbrev eParts (m : Mach) : En := eLst [eM m.signs, eQs m.bg, eLst (m.roads.map eRd), eQs m.en]
def eScl (m : Mach) : En := eTup [eIs (intsR m.bg), eI (lcmR m.bg : Int), eLst ((rdsI m.roads).map eRdI), eI (lcmR (m.roads.map fun r => r.2.2.2) : Int), eIs (intsR m.en), eI (lcmR m.en : Int)]
structure ScOk (m : Mach) : Prop where
  b : RowOk m.bg
  e : RowOk m.en
  r : RowOk (m.roads.map fun r => r.2.2.2)
def spLScaled : Sp := spFn (β := Mach) (fun m => [eParts m]) ScOk eScl
theorem ok_lscaled {m : Mach} (h : ScOk m) : SpOk spLScaled [eParts m] (eScl m) := spFn_ok (β := Mach) m h
abbrev LScaled (P : Program) (w : World) (K : PySem.W.Frag) (mg : Str → Option Value) (base : Heap) : Prop := Cal P w K mg base "_law_scaled" p__law_scaled 3 spLScaled
theorem mul_ok {row : List Rat} (R : RowOk row) {q : Rat} (hq : q ∈ row) : DivX (lcmR row : Int) (q.den : Int) ∧ CMulX q.num ((lcmR row : Int).fdiv (q.den : Int)) := by
  refine ⟨divx_small (den_int q) (natm (pw_mono (R.q4 q hq).2 (by decide))), mulx (a := 4000) (b := 9000) (R.q4 q hq).1 ?_ (by decide)⟩
  rw [fd_pos]
  exact Nat.lt_of_le_of_lt (Int.natAbs_ediv_le_natAbs _ _) (natm R.lt')
theorem cal_lscaled (T : Txt K mg) (D : DefAt K mg "_law_scaled" s__law_scaled) (c__law_over : LOver P w K mg base) : LScaled P w K mg base := by
  refine cal_of D sc__law_scaled (fun _ _ _ _ _ _ us hl => match us, hl with | [_], _ => rfl) (len_fn fun _ => rfl) fun f cdv A outer s H E hr => ⟨_, (pss_cons (ps_asg (pe_tup (pa_cons (pe_cal c__law_over hr rfl (pa_cons (pe_ix ix_list (pv 0) pe_int (fun _ _ => rfl)) pa_nil)) (pa_cons (pe_cal c__law_over hr rfl (pa_cons (pe_ix ix_list (pv 0) pe_int (fun _ _ => rfl)) pa_nil)) pa_nil))) (pg_tup rfl (pgs_cons (pg_name (i := 5) sc__law_scaled.nd rfl (Or.inr rfl)) (pgs_cons (pg_name (i := 6) sc__law_scaled.nd rfl (Or.inr rfl)) pgs_nil))))
 (pss_cons (ps_set (i := 1) sc__law_scaled.nd rfl (Or.inr rfl) (pe_cal c__law_over hr rfl (pa_cons (pe_lc (own := [("_law_road", 7)]) rfl sc__law_scaled.nd (pi_list (pe_ix ix_list (pv 0) pe_int (fun _ _ => rfl))) (blkOk_by (N := n__law_scaled) (sc := defScope s__law_scaled) (by decide +kernel)) (fun _ _ _ _ _ => (pg_name (i := 7) sc__law_scaled.nd rfl (Or.inl rfl))) (fun _ _ _ _ _ => pts_nil) (fun _ _ _ _ _ => (pe_ix (ixT K rfl) (pv 7) pe_int (fun _ _ => rfl)))) pa_nil)))
 (pss_cons (ps_setLc (i := 2) (own := [("_law_above", 8), ("_law_below", 9)]) rfl sc__law_scaled.nd rfl rfl (sw_true rfl rfl rfl (by decide +kernel)) (pi_list (pe_ix ix_list (pv 0) pe_int (fun _ _ => rfl))) (blkOk_by (N := n__law_scaled) (sc := defScope s__law_scaled) (by decide +kernel)) (fun _ _ _ _ _ => (pg_tupK (n := 2) K rfl rfl (pgs_cons (pg_name (i := 8) sc__law_scaled.nd rfl (Or.inl rfl)) (pgs_cons (pg_name (i := 9) sc__law_scaled.nd rfl (Or.inl rfl)) pgs_nil)))) (fun _ _ _ _ _ => pts_nil) (fun _ _ _ _ _ => (pe_op op_mulX (pv 8) (pe_op op_fdivX (pv 5) (pv 9)))))
 (pss_cons (ps_setLc (i := 3) (own := [("_law_above", 8), ("_law_below", 9)]) rfl sc__law_scaled.nd rfl rfl (sw_true rfl rfl rfl (by decide +kernel)) (pi_list (pe_ix ix_list (pv 0) pe_int (fun _ _ => rfl))) (blkOk_by (N := n__law_scaled) (sc := defScope s__law_scaled) (by decide +kernel)) (fun _ _ _ _ _ => (pg_tupK (n := 2) K rfl rfl (pgs_cons (pg_name (i := 8) sc__law_scaled.nd rfl (Or.inl rfl)) (pgs_cons (pg_name (i := 9) sc__law_scaled.nd rfl (Or.inl rfl)) pgs_nil)))) (fun _ _ _ _ _ => pts_nil) (fun _ _ _ _ _ => (pe_op op_mulX (pv 8) (pe_op op_fdivX (pv 6) (pv 9)))))
 (pss_cons (ps_setLc (i := 4) (own := [("_law_road", 7)]) rfl sc__law_scaled.nd rfl rfl (sw_true rfl rfl rfl (by decide +kernel)) (pi_list (pe_ix ix_list (pv 0) pe_int (fun _ _ => rfl))) (blkOk_by (N := n__law_scaled) (sc := defScope s__law_scaled) (by decide +kernel)) (fun _ _ _ _ _ => (pg_name (i := 7) sc__law_scaled.nd rfl (Or.inl rfl))) (fun _ _ _ _ _ => pts_nil) (fun _ _ _ _ _ => (pe_tup (pa_cons (pe_ix (ixT K rfl) (pv 7) pe_int (fun _ _ => rfl)) (pa_cons (pe_ix (ixT K rfl) (pv 7) pe_int (fun _ _ => rfl)) (pa_cons (pe_ix (ixT K rfl) (pv 7) pe_int (fun _ _ => rfl)) (pa_cons (pe_op op_mulX (pe_ix (ixT K rfl) (pe_ix (ixT K rfl) (pv 7) pe_int (fun _ _ => rfl)) pe_int (fun _ _ => rfl)) (pe_op op_fdivX (pv 1) (pe_ix (ixT K rfl) (pe_ix (ixT K rfl) (pv 7) pe_int (fun _ _ => rfl)) pe_int (fun _ _ => rfl)))) pa_nil)))))))
 (pss_one (ps_ret (pe_tup (pa_cons (pv 2) (pa_cons (pv 5) (pa_cons (pv 4) (pa_cons (pv 1) (pa_cons (pv 3) (pa_cons (pv 6) pa_nil)))))))))))))), body_fn fun m R ω Q hQ => ?_⟩
  have R : ScOk m := R
  have hrl : m.roads.length ≤ 100000 := by have := R.r.len; rwa [List.length_map] at this
  refine q_asgT (C := []) (ev_tup (ea_cons (ev_call (ea_cons (ev_op (ev_var rfl) ev_c op_l1) ea_nil) (ok_lover R.b)) (ea_cons (ev_call (ea_cons (ev_op (ev_var rfl) ev_c op_l3) ea_nil) (ok_lover R.e)) ea_nil)) (Nat.le_of_ble_eq_true rfl)) (tg_tup rfl (tgs_cons tg_name (tgs_cons tg_name tgs_nil))) ?_
  refine q_asg (C := []) (ev_call (ea_cons (ev_is (ev_lcL (xs := m.roads) (φ := eRd) (ψ := fun r => eQ r.2.2.2) (ev_op (ev_var rfl) ev_c op_l2) hrl fun r _ => ev_op (ev_is (ev_var rfl) (show eRd r = _ from rfl)) ev_c op_t3) (e' := eQs (m.roads.map fun r => r.2.2.2)) (by unfold eQs; rw [List.map_map]; rfl)) ea_nil) (ok_lover R.r)) ?_
  refine q_asg (C := []) (Δ1 := []) (e := eIs (intsR m.bg)) ?_ ?_
  · refine ev_is (ev_lcT (xs := m.bg) (φ := eQ) (ψ := fun q => eI (q.num * (lcmR m.bg : Int).fdiv (q.den : Int))) (ev_op (ev_var rfl) ev_c op_l1) R.b.len (fun q _ => tv_tup rfl (tvs_cons (tv_name (by decide)) (tvs_cons (tv_name (by decide)) tvs_nil))) fun q hq => ev_op (ev_var rfl) (ev_op (ev_var rfl) (ev_var rfl) (op_I (mul_ok R.b hq).1)) (op_I (mul_ok R.b hq).2)) ?_
    unfold eIs intsR
    rw [List.map_map]
    rfl
  refine q_asg (C := []) (Δ1 := []) (e := eIs (intsR m.en)) ?_ ?_
  · refine ev_is (ev_lcT (xs := m.en) (φ := eQ) (ψ := fun q => eI (q.num * (lcmR m.en : Int).fdiv (q.den : Int))) (ev_op (ev_var rfl) ev_c op_l3) R.e.len (fun q _ => tv_tup rfl (tvs_cons (tv_name (by decide)) (tvs_cons (tv_name (by decide)) tvs_nil))) fun q hq => ev_op (ev_var rfl) (ev_op (ev_var rfl) (ev_var rfl) (op_I (mul_ok R.e hq).1)) (op_I (mul_ok R.e hq).2)) ?_
    unfold eIs intsR
    rw [List.map_map]
    rfl
  refine q_asg (C := []) (Δ1 := []) (e := eLst ((rdsI m.roads).map eRdI)) ?_ ?_
  · refine ev_is (ev_lcL (xs := m.roads) (φ := eRd) (ψ := fun r => eRdI (r.1, r.2.1, r.2.2.1, r.2.2.2.num * (lcmR (m.roads.map fun r => r.2.2.2) : Int).fdiv (r.2.2.2.den : Int))) (ev_op (ev_var rfl) ev_c op_l2) hrl fun r hr => ?_) ?_
    · have h := mul_ok R.r (List.mem_map_of_mem (f := fun r : Road => r.2.2.2) hr)
      exact ev_tup (ea_cons (ev_op (ev_is (ev_var rfl) (show eRd r = _ from rfl)) ev_c op_t0) (ea_cons (ev_op (ev_is (ev_var rfl) (show eRd r = _ from rfl)) ev_c op_t1) (ea_cons (ev_op (ev_is (ev_var rfl) (show eRd r = _ from rfl)) ev_c op_t2) (ea_cons (ev_op (ev_op (ev_op (ev_is (ev_var rfl) (show eRd r = _ from rfl)) ev_c op_t3) ev_c op_t0) (ev_op (ev_var rfl) (ev_op (ev_op (ev_is (ev_var rfl) (show eRd r = _ from rfl)) ev_c op_t3) ev_c op_t1) (op_I h.1)) (op_I h.2)) ea_nil)))) (Nat.le_of_ble_eq_true rfl)
    · unfold rdsI
      rw [List.map_map]
      rfl
  exact s_ret (C := []) (ev_tup (ea_cons (ev_var rfl) (ea_cons (ev_var rfl) (ea_cons (ev_var rfl) (ea_cons (ev_var rfl) (ea_cons (ev_var rfl) (ea_cons (ev_var rfl) ea_nil)))))) (Nat.le_of_ble_eq_true rfl)) fun v ω' l _ hv => hQ v ω' l hv
abbrev s__law_stepped : Stmt := topS 55
abbrev n__law_stepped : List Str := ["_law_roads", "_law_row", "_law_sign", "_law_found", "_law_state", "_law_other", "_law_behind", "_law_integer"]
abbrev p__law_stepped : List Str := ["_law_roads", "_law_row", "_law_sign"]
theorem sc__law_stepped : FnScope n__law_stepped p__law_stepped (defScope s__law_stepped) := ⟨rfl, rfl, rfl, by decide +kernel, rfl, by decide +kernel, by decide +kernel⟩
def spLStepped : Sp := spFn (β := List RoadI × List Int × Nat) (fun b => [eLst (b.1.map eRdI), eIs b.2.1, eM [b.2.2]]) (fun b => LsOk b.1 b.2.1) (fun b => eIs (lstp b.1 b.2.1 b.2.2))
theorem ok_lstepped {rs : List RoadI} {row : List Int} {s : Nat} (h : LsOk rs row) : SpOk spLStepped [eLst (rs.map eRdI), eIs row, eM [s]] (eIs (lstp rs row s)) := spFn_ok (β := List RoadI × List Int × Nat) (rs, row, s) h
abbrev LStepped (P : Program) (w : World) (K : PySem.W.Frag) (mg : Str → Option Value) (base : Heap) : Prop := Cal P w K mg base "_law_stepped" p__law_stepped 1 spLStepped
theorem cal_lstepped (T : Txt K mg) (D : DefAt K mg "_law_stepped" s__law_stepped) : LStepped P w K mg base := by
  refine cal_of D sc__law_stepped (fun _ _ _ _ _ _ us hl => match us, hl with | [_, _, _], _ => rfl) (len_fn fun _ => rfl) fun f cdv A outer s H E hr => ⟨_, (pss_cons (ps_set (i := 3) sc__law_stepped.nd rfl (Or.inl rfl) (pe_op op_rep (pe_lst (pa_cons pe_int pa_nil)) (pe_callB call_len_seq (by rfl) T.len (by decide +kernel) (pa_cons (pv 1) pa_nil))))
 (pss_cons (ps_for PassesOwn.never rfl (pi_list (pv 0)) (pg_tup rfl (pgs_cons (pg_name (i := 4) sc__law_stepped.nd rfl (Or.inl rfl)) (pgs_cons (pg_name (i := 5) sc__law_stepped.nd rfl (Or.inl rfl)) (pgs_cons (pg_name (i := 6) sc__law_stepped.nd rfl (Or.inl rfl)) (pgs_cons (pg_name (i := 7) sc__law_stepped.nd rfl (Or.inl rfl)) pgs_nil)))))
 (pss_one (ps_if (pt_cmpR op_eq (pv 5) (pv 2) (nomark _)) (pss_one (ps_asg (pe_op op_add (pe_ix ix_list (pv 3) (pv 6) (fun _ _ => rfl)) (pe_op op_mulX (pe_ix ix_list (pv 1) (pv 4) (fun _ _ => rfl)) (pv 7))) (pg_sub (pv 3) (pv 6) set_list))) pss_nil)))
 (pss_one (ps_ret (pv 3))))), body_fn fun ⟨rs, row, s⟩ R ω Q hQ => ?_⟩
  have R : LsOk rs row := R
  have hl := R.len
  refine q_asgX (ex_rep (n := row.length) (ev_lst (ea_cons ev_c ea_nil) (Nat.le_of_ble_eq_true rfl)) (ev_is (ev_cb (ea_cons (ev_var rfl) ea_nil) op_lenL) (by rw [List.length_map])) (by omega)) fun p hp => ?_
  have hp : ω.H p = none := hp p List.mem_cons_self
  refine q_for (C := []) (β := Unit) (fun _ _ => True) (fun i _ => [some (eLst (rs.map eRdI)), some (eIs row), some (eM [s]), some (eR p), none, none, none, none]) (fun i _ => [some (eLst (rs.map eRdI)), some (eIs row), some (eM [s]), some (eR p), some (eI ((rs.getD i (0, 0, 0, 0)).1 : Int)), some (eM [(rs.getD i (0, 0, 0, 0)).2.1]), some (eI ((rs.getD i (0, 0, 0, 0)).2.2.1 : Int)), some (eI (rs.getD i (0, 0, 0, 0)).2.2.2)]) (fun i _ => [rL p ((lstA (rs.take i) row s (List.replicate row.length 0)).map fun i => eI i)]) (it_list (ev_var rfl)) ?_ (fun i _ hi _ => ?_) (fun m i _ hi _ => ?_) (fun _ _ => ?_)
  · refine ⟨(), trivial, ⟨rfl, rfl, rfl, rfl, trivial⟩, ?_⟩
    show [rL p ((List.replicate row.length 0).map _)] = _
    rw [List.map_replicate]
  · rw [List.length_map] at hi
    rw [itm_map (0, 0, 0, 0) hi]
    exact tg_tup rfl (tgs_cons tg_name (tgs_cons tg_name (tgs_cons tg_name (tgs_cons tg_name tgs_nil))))
  · rw [List.length_map] at hi
    have hm := getD_mem (0, 0, 0, 0) hi
    have hx := R.ix _ hm
    have hb := R.b _ hm
    have et := take_getD (0, 0, 0, 0) hi
    generalize rs.getD i (0, 0, 0, 0) = e at hx hb et
    obtain ⟨a, c, b, d⟩ := e
    have hx1 : a < row.length := hx.1
    have hx2 : b < row.length := hx.2
    have hacc : (lstA (rs.take i) row s (List.replicate row.length 0)).length = row.length := by rw [lstA_len, List.length_replicate]
    have ek := lstA_snoc (rs.take i) (a, c, b, d) row s (List.replicate row.length 0)
    rw [← et] at ek
    generalize lstA (rs.take i) row s (List.replicate row.length 0) = acc at ek hacc
    refine s_if (C := []) (et_is (et_test (ev_op (ev_var rfl) (ev_var rfl) op_eqM)) eqM1) (fun h => ?_) (fun h => s_next (lp_mk () trivial ?_ ?_))
    · have h : c = s := of_decide_eq_true h
      rw [if_pos h] at ek
      refine s_setix (C := []) (k := 0) (j := b) (e := eI (acc.getD b 0 + row.getD a 0 * d)) (Δ3 := [rL p (acc.map fun i => eI i)]) (ev_op (ev_ixM (ev_var rfl) (ev_var rfl) List.mem_cons_self (getI (by omega))) (ev_op (ev_op (ev_var rfl) (ev_var rfl) (op_ixL (getI hx1))) (ev_var rfl) (op_I (mulx (R.c a) hb (by decide)))) op_I0) (ev_var rfl) (ev_var rfl) rfl (by rw [List.length_map]; omega) (lp_mk () trivial ?_ ?_) (.inl hp)
      · rw [ek]
        show [rL p ((acc.set b _).map _)] = [rL p ((acc.map _).set b _)]
        rw [List.map_set]
      · exact ⟨rfl, rfl, rfl, rfl, trivial⟩
    · rw [ek, if_neg (show ¬ c = s from of_decide_eq_false h)]
    · exact ⟨rfl, rfl, rfl, rfl, trivial⟩
  rw [List.length_map, List.take_of_length_le (Nat.le_refl _)]
  refine t_frz (i := 3) hp rfl ?_
  exact s_ret (C := []) (ev_var rfl) fun v ω' l _ hv => hQ v ω' l hv
end
end Tw

/-! the law's messages, rows, columns -/
namespace Tw
open PySem L2 PyProof.Rows

def rwI (rs : List RoadI) (b : List Int) (u : List Nat) : List Int := u.foldl (fun r s => lstp rs r s) b
def clI (rs : List RoadI) (e : List Int) (w : List Nat) : List Int := w.foldr (fun s c => lstp (swpI rs) c s) e
theorem rwI_len (rs : List RoadI) : ∀ (u : List Nat) (b : List Int), (rwI rs b u).length = b.length
  | [], _ => rfl
  | s :: u, b => by
    show (rwI rs (lstp rs b s) u).length = _
    rw [rwI_len rs u, lstp_len]
theorem clI_len (rs : List RoadI) (e : List Int) : ∀ w : List Nat, (clI rs e w).length = e.length
  | [] => rfl
  | s :: w => by
    show (lstp (swpI rs) (clI rs e w) s).length = _
    rw [lstp_len, clI_len rs e w]
theorem rwI_snoc (rs : List RoadI) (b : List Int) (u : List Nat) (s : Nat) : rwI rs b (u ++ [s]) = lstp rs (rwI rs b u) s := by
  unfold rwI
  rw [List.foldl_append]
  rfl
/-- a list of messages in which every one's beginning, and every one's rest, stands ahead of it -/
structure MsOk (sg : List Nat) (ms : List (List Nat)) : Prop where
  len : ms.length ≤ 99999
  ml : ∀ u ∈ ms, u.length ≤ 6
  pre : ∀ i, i < ms.length → ms.getD i [] ≠ [] → (ms.getD i []).dropLast = [] ∨ (ms.getD i []).dropLast ∈ ms.take i
  suf : ∀ i, i < ms.length → ms.getD i [] ≠ [] → (ms.getD i []).drop 1 = [] ∨ (ms.getD i []).drop 1 ∈ ms.take i
section
variable {P : Program} {w : World} {K : PySem.W.Frag} {mg : Str → Option Value} {base : Heap}
abbrev s__law_messages : Stmt := topS 58
abbrev n__law_messages : List Str := ["_law_signs_here", "_law_length", "_law_k", "_law_found", "_law_row", "_law_longer", "_law_message", "_law_sign"]
abbrev p__law_messages : List Str := ["_law_signs_here", "_law_length"]
theorem sc__law_messages : FnScope n__law_messages p__law_messages (defScope s__law_messages) := ⟨rfl, rfl, rfl, by decide +kernel, rfl, by decide +kernel, by decide +kernel⟩
structure GM where
  sg : List Nat
  n : Nat
structure GM.Ok (b : GM) : Prop where
  sg : b.sg.length ≤ 10
  n : b.n ≤ 6
  lim : ∀ k, k ≤ b.n → (msgs b.sg k).length ≤ 5000
def spLMessages : Sp := spFn (β := GM) (fun b => [eM b.sg, eI (b.n : Int)]) GM.Ok (fun b => eMs (msgs b.sg b.n))
theorem ok_lmessages {sg : List Nat} {n : Nat} (h : GM.Ok ⟨sg, n⟩) : SpOk spLMessages [eM sg, eI (n : Int)] (eMs (msgs sg n)) := spFn_ok (β := GM) ⟨sg, n⟩ h
abbrev LMessages (P : Program) (w : World) (K : PySem.W.Frag) (mg : Str → Option Value) (base : Heap) : Prop := Cal P w K mg base "_law_messages" p__law_messages 1 spLMessages
theorem lvl_take {sg : List Nat} {k i : Nat} (hi : i < (lvl sg k).length) : ((lvl sg k).take (i + 1)).flatMap (fun u => sg.map fun s => u ++ [s]) = ((lvl sg k).take i).flatMap (fun u => sg.map fun s => u ++ [s]) ++ sg.map fun s => (lvl sg k).getD i [] ++ [s] := by
  rw [take_getD [] hi, List.flatMap_append, List.flatMap_cons, List.flatMap_nil, List.append_nil]
theorem flat_len {sg : List Nat} : ∀ l : List (List Nat), (l.flatMap fun u => sg.map fun s => u ++ [s]).length = l.length * sg.length
  | [] => by rw [List.flatMap_nil]; simp
  | u :: l => by
    rw [List.flatMap_cons, List.length_append, List.length_map, flat_len l, List.length_cons, Nat.add_mul, Nat.one_mul, Nat.add_comm]
theorem lvl_len {sg : List Nat} {k n : Nat} (h : k + 1 ≤ n) (lim : ∀ k, k ≤ n → (msgs sg k).length ≤ 5000) : (lvl sg k).length ≤ 5000 := by
  have := lim (k + 1) h
  rw [show msgs sg (k + 1) = msgs sg k ++ lvl sg k from rfl, List.length_append] at this
  omega
theorem cal_lmessages (T : Txt K mg) (D : DefAt K mg "_law_messages" s__law_messages) : LMessages P w K mg base := by
  refine cal_of D sc__law_messages (fun _ _ _ _ _ _ us hl => match us, hl with | [_, _], _ => rfl) (len_fn fun _ => rfl) fun f cdv A outer s H E hr => ⟨_, (pss_cons (ps_par (i := 3) (j := 4) rfl sc__law_messages.nd rfl rfl (by decide) rfl rfl (pa_cons (pe_lst pa_nil) (pa_cons (pe_lst (pa_cons pe_str pa_nil)) pa_nil)) rfl)
 (pss_cons (ps_for PassesOwn.never rfl (pi_range1 rfl T.range (pa_cons (pv 1) pa_nil)) (pg_name (i := 2) sc__law_messages.nd rfl (Or.inl rfl))
 (pss_cons (ps_expr (pe_bm PySem.F.plainAttrs_list PySem.F.slot_list_extend PySem.F.type_list_extend mt_extend (pv 3) (pa_cons (pv 4) pa_nil)))
 (pss_cons (ps_set (i := 5) sc__law_messages.nd rfl (Or.inl rfl) (pe_lst pa_nil))
 (pss_cons (ps_for PassesOwn.never rfl (pi_list (pv 4)) (pg_name (i := 6) sc__law_messages.nd rfl (Or.inr rfl))
 (pss_one (ps_expr (pe_bm PySem.F.plainAttrs_list PySem.F.slot_list_extend PySem.F.type_list_extend mt_extend (pv 5) (pa_cons (pe_lc (own := [("_law_sign", 7)]) rfl sc__law_messages.nd (pi_str (pv 0)) (blkOk_by (N := n__law_messages) (sc := defScope s__law_messages) (by decide +kernel)) (fun _ _ _ _ _ => (pg_name (i := 7) sc__law_messages.nd rfl (Or.inl rfl))) (fun _ _ _ _ _ => pts_nil) (fun _ _ _ _ _ => (pe_op op_add_str (pv 6) (pv 7)))) pa_nil)))))
 (pss_one (ps_set (i := 4) sc__law_messages.nd rfl (Or.inl rfl) (pv 5)))))))
 (pss_one (ps_ret (pv 3))))), body_fn fun b ok ω Q hQ => ?_⟩
  obtain ⟨sg, n⟩ := b
  obtain ⟨hsg, hn, lim⟩ := ok
  have hsg : sg.length ≤ 10 := hsg
  have hn : n ≤ 6 := hn
  have lim : ∀ k, k ≤ n → (msgs sg k).length ≤ 5000 := lim
  refine q_parNE (C := []) (Δ2 := []) (e := eMs [[]]) (fun p => ev_lst (ea_cons ev_c ea_nil) (Nat.le_of_ble_eq_true rfl)) fun fa hf => ?_
  refine q_for (C := []) (β := Unit) (fun _ _ => True) (fun k _ => [some (eM sg), some (eI (n : Int)), none, some (eR fa), some (eMs (lvl sg k)), none, none, none]) (fun k _ => [some (eM sg), some (eI (n : Int)), some (eI (k : Int)), some (eR fa), some (eMs (lvl sg k)), none, none, none]) (fun k _ => [rL fa ((msgs sg k).map eM)]) (it_range (ea_cons (ev_var rfl) ea_nil) (by omega)) ?_ (fun _ _ _ _ => tg_name) (fun mm k _ hk _ => ?_) (fun _ _ => ?_)
  · exact ⟨(), trivial, ⟨rfl, rfl, rfl, rfl, trivial⟩, rfl⟩
  · have hk : k < n := hk
    have hlv := lvl_len (sg := sg) (k := k) (n := n) hk lim
    have hms := lim k (by omega)
    refine q_drop (C := [fa]) (Δ1 := [rL fa ((msgs sg (k + 1)).map eM)]) (ev_extend (k := 0) (Δ2 := [rL fa ((msgs sg k).map eM)]) (gs := (lvl sg k).map eM) (ev_var rfl) List.mem_cons_self (ev_var rfl) rfl (by rw [List.length_map, List.length_map]; omega) List.mem_cons_self (by rw [show msgs sg (k + 1) = msgs sg k ++ lvl sg k from rfl, List.map_append]; rfl)) ?_ (own1 hf)
    refine q_asgX (γ := Addr) (ex_lst ea_nil (Nat.zero_le _)) fun p hp => ?_
    have hp : ω.H p = none := hp p List.mem_cons_self
    refine q_for (C := []) (β := Unit) (fun _ _ => True) (fun i _ => [some (eM sg), some (eI (n : Int)), none, some (eR fa), some (eMs (lvl sg k)), some (eR p), none, none]) (fun i _ => [some (eM sg), some (eI (n : Int)), none, some (eR fa), some (eMs (lvl sg k)), some (eR p), some (itm ((lvl sg k).map eM) i), none]) (fun i _ => [rL p ((((lvl sg k).take i).flatMap fun u => sg.map fun s => u ++ [s]).map eM), rL fa ((msgs sg (k + 1)).map eM)]) (it_list (ev_var rfl)) ?_ (fun _ _ _ _ => tg_name) (fun mm i _ hi _ => ?_) (fun _ _ => ?_)
    · exact ⟨(), trivial, ⟨rfl, rfl, rfl, rfl, rfl, trivial⟩, rfl⟩
    · rw [List.length_map] at hi
      rw [itm_map [] hi]
      have et := lvl_take (sg := sg) hi
      have hul : ((lvl sg k).getD i []).length = k := (lvl_mem.mp (getD_mem [] hi)).1
      generalize (lvl sg k).getD i [] = u at et hul
      refine s_drop (C := [p]) (Δ1 := [rL p ((((lvl sg k).take (i + 1)).flatMap fun u => sg.map fun s => u ++ [s]).map eM), rL fa ((msgs sg (k + 1)).map eM)]) (ev_extend (k := 0) (Δ2 := [rL p ((((lvl sg k).take i).flatMap fun u => sg.map fun s => u ++ [s]).map eM), rL fa ((msgs sg (k + 1)).map eM)]) (gs := (sg.map fun s => u ++ [s]).map eM) (ev_var rfl) List.mem_cons_self (ev_is (ev_lcM (u := sg) (ψ := fun s => eM (u ++ [s])) (ev_var rfl) (by omega) fun s _ => ev_op (ev_var rfl) (ev_var rfl) (op_catM (by show u.length + 1 ≤ _; omega))) (by rw [List.map_map]; rfl)) rfl ?_ List.mem_cons_self ?_) (lp_mk () trivial rfl ⟨rfl, rfl, rfl, rfl, rfl, trivial⟩) (own1 hp)
      · rw [List.length_map, List.length_map, List.length_map, flat_len, List.length_take]
        have h1 : min i (lvl sg k).length * sg.length ≤ 5000 * 10 := Nat.mul_le_mul (by omega) hsg
        omega
      · rw [et, List.map_append]
        rfl
    · rw [List.length_map, List.take_of_length_le (Nat.le_refl _)]
      refine t_frz (i := 5) hp rfl ?_
      exact s_asg (C := []) (ev_var rfl) (lp_mk () trivial rfl ⟨rfl, rfl, rfl, rfl, trivial⟩)
  refine t_frz (i := 3) hf rfl ?_
  exact s_ret (C := []) (ev_var rfl) fun v ω' l _ hv => hQ v ω' l hv
abbrev s__law_dot : Stmt := topS 61
abbrev n__law_dot : List Str := ["_law_row", "_law_column", "_law_k"]
abbrev p__law_dot : List Str := ["_law_row", "_law_column"]
theorem sc__law_dot : FnScope n__law_dot p__law_dot (defScope s__law_dot) := ⟨rfl, rfl, rfl, by decide +kernel, rfl, by decide +kernel, by decide +kernel⟩
def dotI (a b : List Int) (n : Nat) : Int := ((List.range n).map fun k => a.getD k 0 * b.getD k 0).sum
structure DiOk (a b : List Int) : Prop where
  len : a.length ≤ 100
  eq : b.length = a.length
  x : ∀ i, (a.getD i 0).natAbs < 2 ^ 20000
  y : ∀ i, (b.getD i 0).natAbs < 2 ^ 20000
def spLDot : Sp := spFn (β := List Int × List Int) (fun b => [eIs b.1, eIs b.2]) (fun b => DiOk b.1 b.2) (fun b => eI (dotI b.1 b.2 b.1.length))
theorem ok_ldot {a b : List Int} (h : DiOk a b) : SpOk spLDot [eIs a, eIs b] (eI (dotI a b a.length)) := spFn_ok (β := List Int × List Int) (a, b) h
abbrev LDot (P : Program) (w : World) (K : PySem.W.Frag) (mg : Str → Option Value) (base : Heap) : Prop := Cal P w K mg base "_law_dot" p__law_dot 1 spLDot
theorem cal_ldot (T : Txt K mg) (D : DefAt K mg "_law_dot" s__law_dot) : LDot P w K mg base := by
  refine cal_of D sc__law_dot (fun _ _ _ _ _ _ us hl => match us, hl with | [_, _], _ => rfl) (len_fn fun _ => rfl) fun f cdv A outer s H E hr => ⟨_, (pss_one (ps_ret (pe_callB (cr_sum rfl) (by rfl) T.sum (by decide +kernel) (pa_cons (pe_lc (own := [("_law_k", 2)]) rfl sc__law_dot.nd (pi_range1 rfl T.range (pa_cons (pe_callB call_len_seq (by rfl) T.len (by decide +kernel) (pa_cons (pv 0) pa_nil)) pa_nil)) (blkOk_by (N := n__law_dot) (sc := defScope s__law_dot) (by decide +kernel)) (fun _ _ _ _ _ => (pg_name (i := 2) sc__law_dot.nd rfl (Or.inl rfl))) (fun _ _ _ _ _ => pts_nil) (fun _ _ _ _ _ => (pe_op op_mulX (pe_ix (ixL K rfl) (pv 0) (pv 2) (fun _ _ => rfl)) (pe_ix (ixL K rfl) (pv 1) (pv 2) (fun _ _ => rfl))))) pa_nil)))), body_fn fun ⟨a, b⟩ R ω Q hQ => ?_⟩
  have R : DiOk a b := R
  have hl := R.len
  have hb : b.length = a.length := R.eq
  exact s_ret (C := []) (ev_cb (ea_cons (ev_is (ev_lcR (n := a.length) (f := fun k => eI (a.getD k 0 * b.getD k 0)) (ea_cons (ev_is (ev_cb (ea_cons (ev_var rfl) ea_nil) op_lenL) (by rw [List.length_map])) ea_nil) (by omega) fun k hk => ev_op (ev_op (ev_var rfl) (ev_var rfl) (op_ixL (getI hk))) (ev_op (ev_var rfl) (ev_var rfl) (op_ixL (getI (show k < b.length by omega)))) (op_I (mulx (R.x k) (R.y k) (by decide)))) (e' := eIs ((List.range a.length).map fun k => a.getD k 0 * b.getD k 0)) (by unfold eIs; rw [List.map_map]; rfl)) ea_nil) op_sum) fun v ω' l _ hv => hQ v ω' l hv
end
end Tw

/-! the law's rows and columns -/
namespace Tw
open PySem L2 PyProof.Rows

theorem op_ixS {u : List Nat} {i : Int} {c : Nat} (hl : u.length ≤ 100000) (h : atI u i = some c) : Op2 rIxS (eM u) (eI i) (eM [c]) := fun x y ω Q hx hy k => ⟨tx u, i, c, hx, hy, sz _ hl, h, k _ ω (LeX.refl _ _) rfl⟩
theorem atI_last {u : List Nat} {c : Nat} : atI (u ++ [c]) (-1) = some c := by
  unfold atI ixN
  rw [if_neg (by decide), List.length_append, List.length_singleton, if_pos (by omega)]
  show (u ++ [c])[((-1 : Int) + ((u.length + 1 : Nat) : Int)).toNat]? = _
  rw [show ((-1 : Int) + ((u.length + 1 : Nat) : Int)).toNat = u.length by omega, List.getElem?_append_right (Nat.le_refl _), Nat.sub_self]
  rfl
theorem atI_first {u : List Nat} {c : Nat} : atI (c :: u) 0 = some c := by
  unfold atI ixN
  rw [if_pos (by decide), List.length_cons, if_pos (by omega)]
  rfl
def domU (f : List Nat → List Int) (ms : List (List Nat)) (i : Nat) : Dom := fun u => if u = [] ∨ u ∈ ms.take i then some (eIs (f u)) else none
theorem domU_start (f : List Nat → List Int) (ms : List (List Nat)) : dput (fun _ => none) [] (eIs (f [])) = domU f ms 0 := by
  funext u
  unfold dput domU
  by_cases h : u = []
  · rw [if_pos h, if_pos (.inl h), h]
  · rw [if_neg h, if_neg (fun z => z.elim h fun z => nomatch z)]
theorem domU_put (f : List Nat → List Int) (ms : List (List Nat)) {i : Nat} (hi : i < ms.length) : dput (domU f ms i) (ms.getD i []) (eIs (f (ms.getD i []))) = domU f ms (i + 1) := by
  funext u
  unfold dput domU
  rw [take_getD [] hi]
  by_cases h : u = ms.getD i []
  · rw [if_pos h, if_pos (.inr (List.mem_append_right _ (List.mem_singleton.mpr h))), h]
  · rw [if_neg h]
    by_cases q : u = [] ∨ u ∈ ms.take i
    · rw [if_pos q, if_pos (q.imp id fun z => List.mem_append_left _ z)]
    · rw [if_neg q, if_neg fun z => q (z.imp id fun z => (List.mem_append.mp z).resolve_right fun z => h (List.mem_singleton.mp z))]
theorem domU_skip (f : List Nat → List Int) (ms : List (List Nat)) {i : Nat} (hi : i < ms.length) (h : ms.getD i [] = []) : domU f ms i = domU f ms (i + 1) := by
  funext u
  unfold domU
  rw [take_getD [] hi, h]
  by_cases q : u = [] ∨ u ∈ ms.take i
  · rw [if_pos q, if_pos (q.imp id fun z => List.mem_append_left _ z)]
  · rw [if_neg q, if_neg fun z => q (z.elim .inl fun z => (List.mem_append.mp z).elim .inr fun z => .inl (List.mem_singleton.mp z))]
structure GW where
  m : Mach
  ms : List (List Nat)
abbrev GW.rs (b : GW) : List RoadI := rdsI b.m.roads
abbrev GW.f (b : GW) : List Nat → List Int := rwI b.rs (intsR b.m.bg)
abbrev GW.g (b : GW) : List Nat → List Int := clI b.rs (intsR b.m.en)
structure GW.OkR (b : GW) : Prop where
  ms : MsOk b.m.signs b.ms
  ls : ∀ u, u.length ≤ 6 → LsOk b.rs (b.f u)
structure GW.OkC (b : GW) : Prop where
  ms : MsOk b.m.signs b.ms
  ls : ∀ u, u.length ≤ 6 → LsOk (swpI b.rs) (b.g u)
section
variable {P : Program} {w : World} {K : PySem.W.Frag} {mg : Str → Option Value} {base : Heap}
abbrev s__law_rows : Stmt := topS 59
abbrev n__law_rows : List Str := ["_law_scaled_here", "_law_messages_here", "_law_table", "_law_message"]
abbrev p__law_rows : List Str := ["_law_scaled_here", "_law_messages_here"]
theorem sc__law_rows : FnScope n__law_rows p__law_rows (defScope s__law_rows) := ⟨rfl, rfl, rfl, by decide +kernel, rfl, by decide +kernel, by decide +kernel⟩
def spLRows : Sp := spFn (β := GW) (fun b => [eScl b.m, eMs b.ms]) GW.OkR (fun b => eD (domU b.f b.ms b.ms.length))
theorem ok_lrows {b : GW} (h : b.OkR) : SpOk spLRows [eScl b.m, eMs b.ms] (eD (domU b.f b.ms b.ms.length)) := spFn_ok (β := GW) b h
abbrev LRows (P : Program) (w : World) (K : PySem.W.Frag) (mg : Str → Option Value) (base : Heap) : Prop := Cal P w K mg base "_law_rows" p__law_rows 2 spLRows
theorem op_t4 {K : PySem.W.Frag} {a b c d e : En} {r : List En} : Op2 (rIxT K) (eTup (a :: b :: c :: d :: e :: r)) (eI 4) e := op_ixT (j := 4) rfl
theorem cal_lrows (T : Txt K mg) (D : DefAt K mg "_law_rows" s__law_rows) (c__law_stepped : LStepped P w K mg base) : LRows P w K mg base := by
  refine cal_of D sc__law_rows (fun _ _ _ _ _ _ us hl => match us, hl with | [_, _], _ => rfl) (len_fn fun _ => rfl) fun f cdv A outer s H E hr => ⟨_, (pss_cons (ps_set (i := 2) sc__law_rows.nd rfl (Or.inl rfl) (pe_disp (pps_cons pe_str (pe_ix ix_tup (pv 0) pe_int (fun _ _ => rfl)) pps_nil) (by rfl) (by rfl) (fun z => by cases z) (by decide)))
 (pss_cons (ps_for PassesOwn.never rfl (pi_list (pv 1)) (pg_name (i := 3) sc__law_rows.nd rfl (Or.inl rfl))
 (pss_one (ps_if (pt_cmpR op_ne (pv 3) pe_str (nomark _)) (pss_one (ps_dput (hu_of hr) (pv 2) (pv 3) (pe_cal c__law_stepped hr rfl (pa_cons (pe_ix ix_tup (pv 0) pe_int (fun _ _ => rfl)) (pa_cons (pe_dget (hu_of hr) (pv 2) (pe_slice sl_str (pv 3) po_none (po_some (pe_un un_neg pe_int))) (fun _ _ => rfl)) (pa_cons (pe_ix ix_str (pv 3) (pe_un un_neg pe_int) (fun _ _ => rfl)) pa_nil)))) rfl)) pss_nil)))
 (pss_one (ps_ret (pv 2))))), body_fn fun b ok ω Q hQ => ?_⟩
  have mo := ok.ms
  have ml := mo.len
  refine q_asgX (γ := Addr) (ex_disp (w := []) (e := eIs (b.f [])) (fun _ => ev_c) (fun _ => ev_op (ev_is (ev_var rfl) (show eScl b.m = _ from rfl)) ev_c op_t0) rfl) fun p hp => ?_
  have hp : ω.H p = none := hp p List.mem_cons_self
  rw [domU_start b.f b.ms]
  refine q_for (C := []) (β := Nat) (fun i c => c ≤ i + 1) (fun i _ => [some (eScl b.m), some (eMs b.ms), some (eR p), none]) (fun i _ => [some (eScl b.m), some (eMs b.ms), some (eR p), some (itm (b.ms.map eM) i)]) (fun i c => [rD p c (domU b.f b.ms i)]) (it_list (ev_var rfl)) ?_ (fun _ _ _ _ => tg_name) (fun mm i c hi hc => ?_) (fun c _ => ?_)
  · exact ⟨1, Nat.le_refl _, ⟨rfl, rfl, rfl, trivial⟩, rfl⟩
  · rw [List.length_map] at hi
    rw [itm_map [] hi]
    have h6 := mo.ml _ (getD_mem [] hi)
    refine s_if (C := []) (et_test (ev_op (ev_var rfl) (b := eM []) ev_c op_neM)) (fun h => ?_) (fun h => s_next ?_)
    · have hne : b.ms.getD i [] ≠ [] := by simpa using h
      have hput := domU_put b.f b.ms hi
      have hpre := mo.pre i hi hne
      obtain ⟨v, c1, ev⟩ : ∃ v c1, b.ms.getD i [] = v ++ [c1] := ⟨_, _, (List.dropLast_concat_getLast hne).symm⟩
      rw [ev, List.dropLast_concat] at hpre
      rw [ev] at h6 hput
      rw [ev]
      rw [List.length_append, List.length_singleton] at h6
      have hdom : domU b.f b.ms i v = some (eIs (b.f v)) := if_pos hpre
      refine s_dput (C := []) (k := 0) (n := c) (w := v ++ [c1]) (e := eIs (b.f (v ++ [c1]))) (Δ3 := [rD p c (domU b.f b.ms i)]) (ev_is (ev_call (ea_cons (ev_op (ev_is (ev_var rfl) (show eScl b.m = _ from rfl)) ev_c op_t2) (ea_cons (ev_dgetM (ev_var rfl) (ev_slS (u := v ++ [c1]) (v := v) (lo := none) (hi := some (-1)) (ev_var rfl) eo_none (eo_some (ev_un ev_c op_U)) (by rw [List.length_append, List.length_singleton]; omega) ?_) List.mem_cons_self hdom) (ea_cons (ev_op (ev_var rfl) (ev_un ev_c op_U) (op_ixS (by rw [List.length_append, List.length_singleton]; omega) atI_last)) ea_nil))) (ok_lstepped (ok.ls v (by omega)))) ?_) (ev_var rfl) (ev_var rfl) rfl (by omega) (lp_mk (c + 1) (by show c + 1 ≤ i + 1 + 1; omega) ?_ ⟨rfl, rfl, rfl, trivial⟩) (.inl hp)
      · rw [List.length_append, List.length_singleton]
        show ((v ++ [c1]).drop 0).take (HT.sIx (v.length + 1) (v.length + 1) (some (-1)) - 0) = v
        have e2 : HT.sIx (v.length + 1) (v.length + 1) (some (-1)) = v.length := by
          show (if (-1 : Int) < 0 then ((-1 : Int) + ((v.length + 1 : Nat) : Int)).toNat else min (-1 : Int).toNat (v.length + 1)) = _
          rw [if_pos (by decide)]
          omega
        rw [e2, List.drop_zero, Nat.sub_zero, List.take_left']
        rfl
      · show eIs (lstp b.rs (b.f v) c1) = eIs (b.f (v ++ [c1]))
        rw [show b.f (v ++ [c1]) = lstp b.rs (b.f v) c1 from rwI_snoc _ _ _ _]
      · rw [hput]
        rfl
    · have he : b.ms.getD i [] = [] := by simpa using h
      rw [domU_skip b.f b.ms hi he]
      exact lp_mk c (by show c ≤ i + 1 + 1; omega) rfl ⟨rfl, rfl, rfl, trivial⟩
  rw [List.length_map]
  refine t_frzD (i := 2) hp rfl ?_
  exact s_ret (C := []) (ev_var rfl) fun v ω' l _ hv => hQ v ω' l hv
abbrev s__law_columns : Stmt := topS 60
abbrev n__law_columns : List Str := ["_law_scaled_here", "_law_messages_here", "_law_turned", "_law_table", "_law_message", "_law_road"]
abbrev p__law_columns : List Str := ["_law_scaled_here", "_law_messages_here"]
theorem sc__law_columns : FnScope n__law_columns p__law_columns (defScope s__law_columns) := ⟨rfl, rfl, rfl, by decide +kernel, rfl, by decide +kernel, by decide +kernel⟩
def spLCols : Sp := spFn (β := GW) (fun b => [eScl b.m, eMs b.ms]) GW.OkC (fun b => eD (domU b.g b.ms b.ms.length))
theorem ok_lcols {b : GW} (h : b.OkC) : SpOk spLCols [eScl b.m, eMs b.ms] (eD (domU b.g b.ms b.ms.length)) := spFn_ok (β := GW) b h
abbrev LCols (P : Program) (w : World) (K : PySem.W.Frag) (mg : Str → Option Value) (base : Heap) : Prop := Cal P w K mg base "_law_columns" p__law_columns 2 spLCols
theorem cal_lcols (T : Txt K mg) (D : DefAt K mg "_law_columns" s__law_columns) (c__law_stepped : LStepped P w K mg base) : LCols P w K mg base := by
  refine cal_of D sc__law_columns (fun _ _ _ _ _ _ us hl => match us, hl with | [_, _], _ => rfl) (len_fn fun _ => rfl) fun f cdv A outer s H E hr => ⟨_, (pss_cons (ps_setLc (i := 2) (own := [("_law_road", 5)]) rfl sc__law_columns.nd rfl rfl (sw_true rfl rfl rfl (by decide +kernel)) (pi_list (pe_ix ix_tup (pv 0) pe_int (fun _ _ => rfl))) (blkOk_by (N := n__law_columns) (sc := defScope s__law_columns) (by decide +kernel)) (fun _ _ _ _ _ => (pg_name (i := 5) sc__law_columns.nd rfl (Or.inl rfl))) (fun _ _ _ _ _ => pts_nil) (fun _ _ _ _ _ => (pe_tup (pa_cons (pe_ix (ixT K rfl) (pv 5) pe_int (fun _ _ => rfl)) (pa_cons (pe_ix (ixT K rfl) (pv 5) pe_int (fun _ _ => rfl)) (pa_cons (pe_ix (ixT K rfl) (pv 5) pe_int (fun _ _ => rfl)) (pa_cons (pe_ix (ixT K rfl) (pv 5) pe_int (fun _ _ => rfl)) pa_nil)))))))
 (pss_cons (ps_set (i := 3) sc__law_columns.nd rfl (Or.inl rfl) (pe_disp (pps_cons pe_str (pe_ix ix_tup (pv 0) pe_int (fun _ _ => rfl)) pps_nil) (by rfl) (by rfl) (fun z => by cases z) (by decide)))
 (pss_cons (ps_for PassesOwn.never rfl (pi_list (pv 1)) (pg_name (i := 4) sc__law_columns.nd rfl (Or.inl rfl))
 (pss_one (ps_if (pt_cmpR op_ne (pv 4) pe_str (nomark _)) (pss_one (ps_dput (hu_of hr) (pv 3) (pv 4) (pe_cal c__law_stepped hr rfl (pa_cons (pv 2) (pa_cons (pe_dget (hu_of hr) (pv 3) (pe_slice sl_str (pv 4) (po_some pe_int) po_none) (fun _ _ => rfl)) (pa_cons (pe_ix ix_str (pv 4) pe_int (fun _ _ => rfl)) pa_nil)))) rfl)) pss_nil)))
 (pss_one (ps_ret (pv 3)))))), body_fn fun b ok ω Q hQ => ?_⟩
  have mo := ok.ms
  have ml := mo.len
  have hrl := (ok.ls [] (Nat.zero_le _)).rl
  refine q_asg (C := []) (Δ1 := []) (e := eLst ((swpI b.rs).map eRdI)) ?_ ?_
  · refine ev_is (ev_lcL (xs := b.rs) (φ := eRdI) (ψ := fun r => eRdI (r.2.2.1, r.2.1, r.1, r.2.2.2)) (ev_op (ev_is (ev_var rfl) (show eScl b.m = _ from rfl)) ev_c op_t2) (by unfold swpI at hrl; rwa [List.length_map] at hrl) fun r _ => ev_tup (ea_cons (ev_op (ev_is (ev_var rfl) (show eRdI r = _ from rfl)) ev_c op_t2) (ea_cons (ev_op (ev_is (ev_var rfl) (show eRdI r = _ from rfl)) ev_c op_t1) (ea_cons (ev_op (ev_is (ev_var rfl) (show eRdI r = _ from rfl)) ev_c op_t0) (ea_cons (ev_op (ev_is (ev_var rfl) (show eRdI r = _ from rfl)) ev_c op_t3) ea_nil)))) (Nat.le_of_ble_eq_true rfl)) ?_
    unfold swpI
    rw [List.map_map]
    rfl
  refine q_asgX (γ := Addr) (ex_disp (w := []) (e := eIs (b.g [])) (fun _ => ev_c) (fun _ => ev_op (ev_is (ev_var rfl) (show eScl b.m = _ from rfl)) ev_c op_t4) rfl) fun p hp => ?_
  have hp : ω.H p = none := hp p List.mem_cons_self
  rw [domU_start b.g b.ms]
  refine q_for (C := []) (β := Nat) (fun i c => c ≤ i + 1) (fun i _ => [some (eScl b.m), some (eMs b.ms), some (eLst ((swpI b.rs).map eRdI)), some (eR p), none, none]) (fun i _ => [some (eScl b.m), some (eMs b.ms), some (eLst ((swpI b.rs).map eRdI)), some (eR p), some (itm (b.ms.map eM) i), none]) (fun i c => [rD p c (domU b.g b.ms i)]) (it_list (ev_var rfl)) ?_ (fun _ _ _ _ => tg_name) (fun mm i c hi hc => ?_) (fun c _ => ?_)
  · exact ⟨1, Nat.le_refl _, ⟨rfl, rfl, rfl, rfl, trivial⟩, rfl⟩
  · rw [List.length_map] at hi
    rw [itm_map [] hi]
    have h6 := mo.ml _ (getD_mem [] hi)
    refine s_if (C := []) (et_test (ev_op (ev_var rfl) (b := eM []) ev_c op_neM)) (fun h => ?_) (fun h => s_next ?_)
    · have hne : b.ms.getD i [] ≠ [] := by simpa using h
      have hput := domU_put b.g b.ms hi
      have hsuf := mo.suf i hi hne
      obtain ⟨c1, v, ev⟩ : ∃ c1 v, b.ms.getD i [] = c1 :: v := List.exists_cons_of_ne_nil hne
      rw [ev] at hsuf
      have hsuf : v = [] ∨ v ∈ b.ms.take i := hsuf
      rw [ev] at h6 hput
      rw [ev]
      rw [List.length_cons] at h6
      have hdom : domU b.g b.ms i v = some (eIs (b.g v)) := if_pos hsuf
      refine s_dput (C := []) (k := 0) (n := c) (w := c1 :: v) (e := eIs (b.g (c1 :: v))) (Δ3 := [rD p c (domU b.g b.ms i)]) (ev_call (ea_cons (ev_var rfl) (ea_cons (ev_dgetM (ev_var rfl) (ev_slS (u := c1 :: v) (v := v) (lo := some ((1 : Nat) : Int)) (hi := none) (ev_var rfl) (eo_some ev_c) eo_none (by rw [List.length_cons]; omega) ?_) List.mem_cons_self hdom) (ea_cons (ev_op (ev_var rfl) ev_c (op_ixS (by rw [List.length_cons]; omega) atI_first)) ea_nil))) (ok_lstepped (ok.ls v (by omega)))) (ev_var rfl) (ev_var rfl) rfl (by omega) (lp_mk (c + 1) (by show c + 1 ≤ i + 1 + 1; omega) ?_ ⟨rfl, rfl, rfl, rfl, trivial⟩) (.inl hp)
      · rw [HT.sIx_nat, HT.sIx_none, List.length_cons, show min 1 (v.length + 1) = 1 by omega]
        show v.take (v.length + 1 - 1) = v
        rw [Nat.add_sub_cancel, List.take_length]
      · rw [hput]
        rfl
    · have he : b.ms.getD i [] = [] := by simpa using h
      rw [domU_skip b.g b.ms hi he]
      exact lp_mk c (by show c ≤ i + 1 + 1; omega) rfl ⟨rfl, rfl, rfl, rfl, trivial⟩
  rw [List.length_map]
  refine t_frzD (i := 3) hp rfl ?_
  exact s_ret (C := []) (ev_var rfl) fun v ω' l _ hv => hQ v ω' l hv
end
end Tw

/-! the law's elimination -/
namespace Tw
open PySem L2 PyProof.Rows

def eLE (e : LEnt) : En := eTup [eI (e.1 : Int), eIs e.2]
abbrev rLL (p : Addr) (kp : List LEnt) : Rs := rL p (kp.map eLE)
/-- what the law keeps -/
def rLK (p : Addr) (N : Nat) (G : List (List Int)) : Rs := ⟨[p], fun ω => ∃ kp, LKOk N G kp ∧ (rLL p kp).r ω, fun ω ω' ⟨kp, h1, h2⟩ m e => ⟨kp, h1, (rLL p kp).st ω ω' h2 m e⟩⟩
theorem gF_zero {l : List Int} (h : ∀ x ∈ l, x = 0) : gF 0 l = 0 := by
  have h1 : (0 : Int) ∣ ((gF 0 l : Nat) : Int) := gF_max (Int.dvd_refl 0) fun x hx => by rw [h x hx]; exact Int.dvd_refl 0
  have := Int.zero_dvd.mp h1
  omega
theorem gF_lt {l : List Int} {B : Nat} (h : ∀ x ∈ l, x.natAbs < B) (h1 : gF 0 l > 1) : gF 0 l < B := by
  apply Classical.byContradiction
  intro hn
  have : gF 0 l = 0 := gF_zero fun x hx => by
    have h2 := gF_mem (own := 0) hx
    apply Classical.byContradiction
    intro hx0
    have h3 := Nat.le_of_dvd (by omega) (Int.ofNat_dvd_left.mp h2)
    have h4 := h x hx
    omega
  omega
theorem rng_mix {sc ld : Int} {xs ys : List Int} (h : xs.length = ys.length) : ((List.range xs.length).map fun k => sc * xs.getD k 0 - ld * ys.getD k 0) = mix sc ld xs ys := by
  apply List.ext_getElem
  · rw [List.length_map, List.length_range, mix_len h]
  · intro i h1 h2
    rw [List.getElem_map, List.getElem_range]
    have e := mix_at (sc := sc) (ld := ld) h i
    rw [getD_of_lt 0 h2] at e
    exact e.symm
structure GL where
  p : Addr
  kp : List LEnt
  G : List (List Int)
  row : List Int
  N : Nat
structure GL.Ok (b : GL) : Prop where
  kok : LKOk b.N b.G b.kp
  len : b.row.length = b.N
  n : b.N ≤ 5000
  b : ∀ j, (b.row.getD j 0).natAbs ≤ XW
theorem op_eqNilI {K : PySem.W.Frag} {xs : List Int} : Op2 (rEqD K) (eIs xs) (eLst []) (eB (decide (xs = []))) := fun x y ω Q hx hy k => by
  obtain ⟨a, vs, rfl, ha, hv⟩ := hx
  obtain ⟨b, ws, rfl, hb, hw⟩ := hy
  have ew : ws = [] := List.length_eq_zero_iff.mp hw.len
  subst ew
  have dp : ∀ {xs : List Int} {vs : List V}, Args (xs.map fun i => eI i) vs ω.M → DpAll K ω.H vs (xs.map PyData.int) := by
    intro xs
    induction xs with
    | nil =>
      intro vs h
      match vs, h with
      | [], _ => exact .nil
    | cons x xs ih =>
      intro vs h
      match vs, h with
      | v :: vs, h =>
        cases (show v = V.int x from h.1)
        exact .cons (.int x) (ih h.2)
  have lay : ∀ xs : List Int, PyData.canLayAll0 (xs.map PyData.int) = true := by
    intro xs
    induction xs with
    | nil => rfl
    | cons x xs ih => rw [List.map_cons, PyData.canLayAll0, ih]; rfl
  have dep : ∀ xs : List Int, PyData.depthAll (xs.map PyData.int) = 0 := by
    intro xs
    induction xs with
    | nil => rfl
    | cons x xs ih => rw [List.map_cons, PyData.depthAll, ih]; rfl
  refine ⟨.list (xs.map PyData.int), .list [], .lst (SqL.of (ω.sub _ _ ha)) (dp hv), .lst (SqL.of (ω.sub _ _ hb)) .nil, ?_, rfl, ?_⟩
  · unfold SeqAt.shaped
    rw [PyData.canLay0, lay, PyData.depth, dep]
    rfl
  · have e : PyData.eqv (.list (xs.map PyData.int)) (.list []) = decide (xs = []) := by
      cases xs with
      | nil => rfl
      | cons x xs => rfl
    rw [e]
    exact k _ ω (LeX.refl _ _) rfl
section
variable {P : Program} {w : World} {K : PySem.W.Frag} {mg : Str → Option Value} {base : Heap}
abbrev s__law_rest : Stmt := topS 56
abbrev n__law_rest : List Str := ["_law_kept", "_law_row", "_law_pivot", "_law_other", "_law_common", "_law_one", "_law_scale", "_law_lead", "_law_k"]
abbrev p__law_rest : List Str := ["_law_kept", "_law_row"]
theorem sc__law_rest : FnScope n__law_rest p__law_rest (defScope s__law_rest) := ⟨rfl, rfl, rfl, by decide +kernel, rfl, by decide +kernel, by decide +kernel⟩
def spLRest : Sp := spR (β := GL) (fun b => [eR b.p, eIs b.row]) GL.Ok (fun b => eAny (List Int) (fun c => LwSt b.N b.G b.kp b.row b.G.length c) eIs) (fun _ => []) (fun b => rLL b.p b.kp) (fun b => rLL b.p b.kp)
abbrev LRest (P : Program) (w : World) (K : PySem.W.Frag) (mg : Str → Option Value) (base : Heap) : Prop := Cal P w K mg base "_law_rest" p__law_rest 2 spLRest
theorem cal_lrest (T : Txt K mg) (D : DefAt K mg "_law_rest" s__law_rest) (c__law_gcd : LGcd P w K mg base) : LRest P w K mg base := by
  refine cal_of D sc__law_rest (fun _ _ _ _ _ _ us hl => match us, hl with | [_, _], _ => rfl) (len_r fun _ => rfl) fun f cdv A outer s H E hr => ⟨_, (pss_cons (ps_for PassesOwn.never rfl (pi_list (pv 0)) (pg_tup rfl (pgs_cons (pg_name (i := 2) sc__law_rest.nd rfl (Or.inl rfl)) (pgs_cons (pg_name (i := 3) sc__law_rest.nd rfl (Or.inr rfl)) pgs_nil)))
 (pss_one (ps_if (pt_cmpR op_ne (pe_ix ix_list (pv 1) (pv 2) (fun _ _ => rfl)) pe_int (nomark _)) (pss_cons (ps_asg (pe_tup (pa_cons (pe_ix ix_list (pv 3) (pv 2) (fun _ _ => rfl)) (pa_cons (pe_ix ix_list (pv 1) (pv 2) (fun _ _ => rfl)) pa_nil))) (pg_tup rfl (pgs_cons (pg_name (i := 6) sc__law_rest.nd rfl (Or.inr rfl)) (pgs_cons (pg_name (i := 7) sc__law_rest.nd rfl (Or.inr rfl)) pgs_nil))))
 (pss_cons (ps_set (i := 1) sc__law_rest.nd rfl (Or.inr rfl) (pe_lc (own := [("_law_k", 8)]) rfl sc__law_rest.nd (pi_range1 rfl T.range (pa_cons (pe_callB call_len_seq (by rfl) T.len (by decide +kernel) (pa_cons (pv 1) pa_nil)) pa_nil)) (blkOk_by (N := n__law_rest) (sc := defScope s__law_rest) (by decide +kernel)) (fun _ _ _ _ _ => (pg_name (i := 8) sc__law_rest.nd rfl (Or.inl rfl))) (fun _ _ _ _ _ => pts_nil) (fun _ _ _ _ _ => (pe_op op_sub (pe_op op_mulX (pv 6) (pe_ix (ixL K rfl) (pv 1) (pv 8) (fun _ _ => rfl))) (pe_op op_mulX (pv 7) (pe_ix (ixL K rfl) (pv 3) (pv 8) (fun _ _ => rfl)))))))
 (pss_cons (ps_set (i := 4) sc__law_rest.nd rfl (Or.inr rfl) pe_int)
 (pss_cons (ps_for PassesOwn.never rfl (pi_list (pv 1)) (pg_name (i := 5) sc__law_rest.nd rfl (Or.inl rfl))
 (pss_one (ps_if (pt_cmpR op_ne (pv 4) pe_int (nomark _)) (pss_one (ps_set (i := 4) sc__law_rest.nd rfl (Or.inr rfl) (pe_cal c__law_gcd hr rfl (pa_cons (pv 4) (pa_cons (pv 5) pa_nil))))) pss_nil)))
 (pss_one (ps_if (pt_cmpR op_gt (pv 4) pe_int (nomark _)) (pss_one (ps_set (i := 1) sc__law_rest.nd rfl (Or.inr rfl) (pe_lc (own := [("_law_one", 5)]) rfl sc__law_rest.nd (pi_list (pv 1)) (blkOk_by (N := n__law_rest) (sc := defScope s__law_rest) (by decide +kernel)) (fun _ _ _ _ _ => (pg_name (i := 5) sc__law_rest.nd rfl (Or.inl rfl))) (fun _ _ _ _ _ => pts_nil) (fun _ _ _ _ _ => (pe_op op_fdivX (pv 5) (pv 4)))))) pss_nil)))))) pss_nil)))
 (pss_one (ps_ret (pv 1)))), body_r fun b ok ω Q d0 hQ => ?_⟩
  obtain ⟨p, kp, G, row, N⟩ := b
  have kok : LKOk N G kp := ok.kok
  have hrl : row.length = N := ok.len
  have hN : N ≤ 5000 := ok.n
  have hb : ∀ j, (row.getD j 0).natAbs ≤ XW := ok.b
  have hp : ω.H p ≠ none := (d0.a p (List.mem_flatMap.mpr ⟨_, List.mem_singleton.mpr rfl, List.mem_singleton.mpr rfl⟩)).1
  refine q_for (C := []) (β := List Int) (fun i c => LwSt N G kp row i c) (fun i c => [some (eR p), some (eIs c), none, none, none, none, none, none, none]) (fun i c => [some (eR p), some (eIs c), some (eI ((kp.getD i (0, [])).1 : Int)), some (eIs (kp.getD i (0, [])).2), none, none, none, none, none]) (fun _ _ => [rLL p kp]) (it_listM (ev_var rfl) List.mem_cons_self hp (fun z => nomatch z) rfl) ?_ (fun i c hi _ => ?_) (fun mm i c hi S => ?_) (fun c S => ?_)
  · exact ⟨row, lw_start hrl hb, ⟨rfl, rfl, trivial⟩, rfl⟩
  · rw [List.length_map] at hi
    rw [itm_map (0, []) hi]
    exact tg_tup rfl (tgs_cons tg_name (tgs_cons tg_name tgs_nil))
  · rw [List.length_map] at hi
    have S : LwSt N G kp row i c := S
    generalize hge : kp.getD i (0, []) = e
    have he : kp[i]? = some e := by rw [← hge, getD_of_lt _ hi]; exact List.getElem?_eq_getElem hi
    obtain ⟨pv, ot⟩ := e
    have E := kok.ent i _ he
    have hpm : pv < N := E.p
    have hpi : pv < c.length := by rw [S.il]; exact hpm
    have hol : ot.length = N := E.ol
    have hpo : pv < ot.length := by rw [hol]; exact hpm
    have hiG : i < G.length := by rw [← kok.len]; exact hi
    have il : c.length = ot.length := by rw [S.il, hol]
    refine s_if (C := []) (et_test (ev_op (ev_op (ev_var rfl) (ev_var rfl) (op_ixL (getI hpi))) ev_c op_neI)) (fun h => ?_) (fun h => s_next (lp_mk c (lw_skip S ?_) rfl ?_))
    · have bo : ∀ j, (ot.getD j 0).natAbs ≤ Bd := E.bi
      have mx : ∀ {x y : Int}, x.natAbs ≤ Bd → y.natAbs ≤ Bd → CMulX x y := fun h1 h2 => mulx (bd_pw h1 (Nat.le_refl _)) (bd_pw h2 (Nat.le_refl _)) (by decide)
      refine q_asgT (C := []) (ev_tup (ea_cons (ev_op (ev_var rfl) (ev_var rfl) (op_ixL (getI hpo))) (ea_cons (ev_op (ev_var rfl) (ev_var rfl) (op_ixL (getI hpi))) ea_nil)) (Nat.le_of_ble_eq_true rfl)) (tg_tup rfl (tgs_cons tg_name (tgs_cons tg_name tgs_nil))) ?_
      have step := fun {g : Int} => lw_step (g := g) kok hb hiG he S
      have step := fun {g : Int} => @step g
      generalize hsc : ot.getD pv 0 = sc at step
      generalize hld : c.getD pv 0 = ld at step
      have b1 : sc.natAbs ≤ Bd := by rw [← hsc]; exact bo pv
      have b2 : ld.natAbs ≤ Bd := by rw [← hld]; exact S.bi pv
      have ml : (mix sc ld c ot).length = N := by rw [mix_len il, S.il]
      have mb : ∀ x ∈ mix sc ld c ot, x.natAbs < 2 ^ 8000 := fun x hx => by
        obtain ⟨j, _, e⟩ := mem_getD 0 hx
        rw [← e, mix_at il]
        exact mix_lt b1 b2 (S.bi j) (bo j)
      refine q_asg (C := []) (e := eIs (mix sc ld c ot)) (ev_is (ev_lcR (n := c.length) (f := fun k => eI (sc * c.getD k 0 - ld * ot.getD k 0)) (ea_cons (ev_is (ev_cb (ea_cons (ev_var rfl) ea_nil) op_lenL) (by rw [List.length_map])) ea_nil) (by rw [S.il]; omega) fun k hk => ev_op (ev_op (ev_var rfl) (ev_op (ev_var rfl) (ev_var rfl) (op_ixL (getI hk))) (op_I (mx b1 (S.bi k)))) (ev_op (ev_var rfl) (ev_op (ev_var rfl) (ev_var rfl) (op_ixL (getI (show k < ot.length by omega)))) (op_I (mx b2 (bo k)))) op_I0) ?_) ?_
      · show _ = eLst ((mix sc ld c ot).map fun i => eI i)
        rw [← rng_mix il, List.map_map]
        rfl
      have hg := @step (gF 0 (mix sc ld c ot) : Nat) (by omega) (fun x hx => gF_mem hx) (fun d h1 => gF_max ⟨0, by rw [Int.mul_zero]⟩ h1)
      generalize hmx : mix sc ld c ot = mxs at hg ml mb
      refine q_asg (C := []) (e := eI ((gF 0 (mxs.take 0) : Nat) : Int)) ev_c ?_
      refine q_for (C := []) (β := Unit) (fun _ _ => True) (fun j _ => [some (eR p), some (eIs mxs), some (eI (pv : Int)), some (eIs ot), some (eI ((gF 0 (mxs.take j) : Nat) : Int)), none, none, none, none]) (fun j _ => [some (eR p), some (eIs mxs), some (eI (pv : Int)), some (eIs ot), some (eI ((gF 0 (mxs.take j) : Nat) : Int)), some (itm (mxs.map fun i => eI i) j), none, none, none]) (fun _ _ => [rLL p kp]) (it_list (ev_var rfl)) ?_ (fun _ _ _ _ => tg_name) (fun mm j _ hj _ => ?_) (fun _ _ => ?_)
      · exact ⟨(), trivial, ⟨rfl, rfl, rfl, rfl, rfl, trivial⟩, rfl⟩
      · rw [List.length_map] at hj
        rw [itm_map 0 hj]
        have et := take_getD 0 hj
        have eg : gF 0 (mxs.take (j + 1)) = Nat.gcd (gF 0 (mxs.take j)) (mxs.getD j 0).natAbs := by rw [et, gF_snoc]
        refine s_if (C := []) (et_test (ev_op (ev_var rfl) ev_c op_neI)) (fun h => ?_) (fun h => s_next (lp_mk () trivial rfl ?_))
        · refine s_asg (C := []) (e := eI ((gF 0 (mxs.take (j + 1)) : Nat) : Int)) (ev_is (ev_call (ea_cons (ev_var rfl) (ea_cons (ev_var rfl) ea_nil)) ok_lgcd) ?_) (lp_mk () trivial rfl ⟨rfl, rfl, rfl, rfl, rfl, trivial⟩)
          rw [eg, Int.natAbs_natCast]
        · have h1 : ((gF 0 (mxs.take j) : Nat) : Int) = 1 := by simpa using h
          have h1 : gF 0 (mxs.take j) = 1 := by omega
          refine ⟨rfl, rfl, rfl, rfl, ?_, trivial⟩
          rw [eg, h1, Nat.gcd_one_left]
      rw [List.length_map, List.take_of_length_le (Nat.le_refl _)]
      refine s_if (C := []) (et_test (ev_op (ev_var rfl) ev_c op_I0)) (fun h => ?_) (fun h => s_next (lp_mk mxs ?_ rfl ?_))
      · have h : (1 : Int) < ((gF 0 mxs : Nat) : Int) := of_decide_eq_true h
        have hlt := gF_lt mb (by omega)
        refine s_asg (C := []) (e := eIs (cut (gF 0 mxs : Nat) mxs)) (ev_is (ev_lcL (xs := mxs) (φ := fun i => eI i) (ψ := fun i => eI (i.fdiv (gF 0 mxs : Nat))) (ev_var rfl) (by rw [ml]; omega) fun x hx => ev_op (ev_var rfl) (ev_var rfl) (op_I (divx_small (by omega) (natm (pw_mono hlt (by decide)))))) ?_) (lp_mk (cut (gF 0 mxs : Nat) mxs) ?_ rfl ⟨rfl, rfl, trivial⟩)
        · unfold eIs cut
          rw [List.map_map]
          refine congrArg eLst (List.map_congr_left fun x _ => ?_)
          show eI _ = eI _
          rw [fd_pos]
        · unfold lcut at hg
          rw [if_pos h] at hg
          exact hg
      · have h : ¬ (1 : Int) < ((gF 0 mxs : Nat) : Int) := of_decide_eq_false h
        unfold lcut at hg
        rw [if_neg h] at hg
        exact hg
      · exact ⟨rfl, rfl, trivial⟩
    · have : c.getD pv 0 = 0 := by simpa using h
      rw [lpv_of he]
      exact this
    · exact ⟨rfl, rfl, trivial⟩
  · rw [List.length_map, kok.len] at S
    exact s_ret (C := []) (ev_var rfl) fun v ω' l d hv => hQ v ω' l d ⟨c, S, hv⟩
end
end Tw

/-! the law's heads -/
namespace Tw
open PySem L2 PyProof.Rows

/-! ### the whole numbers are the machine's, scaled -/
def scE (es : List Edge) (S : Nat) : List Stp := es.map fun e => (e.1, e.2.1, e.2.2.num * ((S : Nat) : Int).fdiv (e.2.2.den : Int))
theorem scE_eq {L : Rat} {S : Nat} {v : Nat → Int} {r : Nat → Rat} : ∀ {es : List Edge} {j : Nat}, (∀ e ∈ es, e.2.2.den ∣ S) → (∀ i, ((v i : Int) : Rat) = L * r i) → ((stI (scE es S) v j : Int) : Rat) = L * (S : Rat) * stepF es r j
  | [], j, _, _ => by show ((0 : Int) : Rat) = _ * 0; grind
  | e :: es, j, hd, hv => by
    have ih := scE_eq (es := es) (j := j) (fun x hx => hd x (List.mem_cons_of_mem _ hx)) hv
    show (((if e.2.1 = j then v e.1 * (e.2.2.num * ((S : Nat) : Int).fdiv (e.2.2.den : Int)) else 0) + stI (scE es S) v j : Int) : Rat) = _ * ((if e.2.1 = j then r e.1 * e.2.2 else 0) + stepF es r j)
    rw [Rat.intCast_add, ih]
    split
    · have h1 := fd_num (hd e List.mem_cons_self)
      have h2 := mul_den e.2.2
      rw [Rat.intCast_mul, Rat.intCast_mul, hv, ← h2]
      grind
    · show ((0 : Int) : Rat) + _ = _
      grind
abbrev mid (m : Mach) : Nat := lcmR (m.roads.map fun r => r.2.2.2)
def rdsS (S : Nat) (roads : List Road) : List RoadI := roads.map fun r => (r.1, r.2.1, r.2.2.1, r.2.2.2.num * ((S : Nat) : Int).fdiv (r.2.2.2.den : Int))
theorem sel_rds (S : Nat) (s : Nat) : ∀ roads : List Road, selI (rdsS S roads) s = scE (edsR roads s) S
  | [] => rfl
  | r :: roads => by
    have ih := sel_rds S s roads
    unfold selI rdsS edsR scE at ih ⊢
    rw [List.map_cons, List.filterMap_cons, List.filterMap_cons]
    by_cases h : r.2.1 = s
    · rw [if_pos h, if_pos h]
      show _ :: _ = _ :: _
      rw [ih]
    · rw [if_neg h, if_neg h]
      exact ih
theorem sel_swp (s : Nat) : ∀ rs : List RoadI, selI (swpI rs) s = (selI rs s).map fun e => (e.2.1, e.1, e.2.2)
  | [] => rfl
  | r :: rs => by
    have ih := sel_swp s rs
    unfold selI swpI at ih ⊢
    rw [List.map_cons, List.filterMap_cons, List.filterMap_cons]
    by_cases h : r.2.1 = s
    · rw [if_pos h, if_pos h]
      show _ :: _ = _ :: _
      rw [ih]
    · rw [if_neg h, if_neg h]
      exact ih
theorem scE_swp (es : List Edge) (S : Nat) : (scE es S).map (fun e => (e.2.1, e.1, e.2.2)) = scE (swp es) S := by
  unfold scE swp
  rw [List.map_map, List.map_map]
  rfl
section
variable {m : Mach}
theorem rds_ix (ok : m.Ok) {r : RoadI} (h : r ∈ rdsI m.roads) : r.1 < m.n ∧ r.2.2.1 < m.n := by
  obtain ⟨d, hd, rfl⟩ := List.mem_map.mp h
  exact ⟨(ok.rd d hd).1, (ok.rd d hd).2.2⟩
theorem mid_den {s : Nat} {e : Edge} (h : e ∈ m.eds s) : e.2.2.den ∣ mid m := den_lcmR (List.mem_map.mpr ⟨_, mem_eds h, rfl⟩)
theorem rwI_at (ok : m.Ok) : ∀ (u : List Nat) (j : Nat), (((rwI (rdsI m.roads) (intsR m.bg) u).getD j 0 : Int) : Rat) = ((lcmR m.bg : Nat) : Rat) * ((mid m : Nat) : Rat) ^ u.length * rowF m u j := by
  intro u
  induction h : u.length generalizing u with
  | zero =>
    intro j
    have e : u = [] := List.length_eq_zero_iff.mp h
    subst e
    show (((intsR m.bg).getD j 0 : Int) : Rat) = _ * _ * m.bg.getD j 0
    rw [intsR_at, Rat.pow_zero]
    grind
  | succ k ih =>
    intro j
    have hne : u ≠ [] := fun z => by rw [z] at h; cases h
    obtain ⟨v, s, rfl⟩ : ∃ v s, u = v ++ [s] := ⟨_, _, (List.dropLast_concat_getLast hne).symm⟩
    have hv : v.length = k := by rw [List.length_append, List.length_singleton] at h; omega
    rw [rwI_snoc, lstp_at (fun r hr => by rw [rwI_len, intsR_len]; exact (rds_ix ok hr).2), show rdsI m.roads = rdsS (mid m) m.roads from rfl, sel_rds, rowF_snoc]
    have := scE_eq (L := ((lcmR m.bg : Nat) : Rat) * ((mid m : Nat) : Rat) ^ k) (S := mid m) (v := fun i => (rwI (rdsI m.roads) (intsR m.bg) v).getD i 0) (r := rowF m v) (es := m.eds s) (j := j) (fun e he => mid_den he) (fun i => ih v hv i)
    rw [show edsR m.roads s = m.eds s from rfl, show rdsS (mid m) m.roads = rdsI m.roads from rfl, this, Rat.pow_succ]
    grind
theorem clI_at (ok : m.Ok) : ∀ (w : List Nat) (j : Nat), (((clI (rdsI m.roads) (intsR m.en) w).getD j 0 : Int) : Rat) = ((lcmR m.en : Nat) : Rat) * ((mid m : Nat) : Rat) ^ w.length * colF m w j
  | [], j => by
    show (((intsR m.en).getD j 0 : Int) : Rat) = _ * _ * m.en.getD j 0
    rw [intsR_at, List.length_nil, Rat.pow_zero]
    grind
  | s :: w, j => by
    show (((lstp (swpI (rdsI m.roads)) (clI (rdsI m.roads) (intsR m.en) w) s).getD j 0 : Int) : Rat) = _ * _ * stepF (swp (m.eds s)) (colF m w) j
    rw [lstp_at (fun r hr => by
      obtain ⟨d, hd, rfl⟩ := List.mem_map.mp hr
      rw [clI_len, intsR_len, ok.el]
      exact (rds_ix ok hd).1), sel_swp, show rdsI m.roads = rdsS (mid m) m.roads from rfl, sel_rds, scE_swp, List.length_cons]
    have := scE_eq (L := ((lcmR m.en : Nat) : Rat) * ((mid m : Nat) : Rat) ^ w.length) (S := mid m) (v := fun i => (clI (rdsI m.roads) (intsR m.en) w).getD i 0) (r := colF m w) (es := swp (m.eds s)) (j := j) (fun e he => mid_den (s := s) (e := (e.2.1, e.1, e.2.2)) (mem_of_swp he)) (fun i => clI_at ok w i)
    rw [show edsR m.roads s = m.eds s from rfl, show rdsS (mid m) m.roads = rdsI m.roads from rfl, this, Rat.pow_succ]
    grind
/-- a whole number d times q, where d divides D -/
theorem rb_part {D X d : Nat} {q : Rat} {z : Int} (h : RB D X q) (hd : d ∣ D) (hD : 0 < D) (hz : (z : Rat) = (d : Rat) * q) : z.natAbs ≤ X := by
  obtain ⟨y, e, hy⟩ := h
  obtain ⟨c, rfl⟩ := hd
  have hc : 0 < c := Nat.pos_of_mul_pos_left hD
  have ey : y = z * (c : Int) := Rat.intCast_inj.mp (by rw [e, Rat.intCast_mul, hz, Rat.natCast_mul, Rat.intCast_natCast]; grind)
  rw [ey, Int.natAbs_mul, Int.natAbs_natCast] at hy
  exact Nat.le_trans (Nat.le_mul_of_pos_right _ hc) hy
theorem lcm_2520 {row : List Rat} (h : ∀ q ∈ row, RB 2520 12600 q) : lcmR row ∣ 2520 := lcmR_dvd fun q hq => (h q hq).den
theorem Mach.Sm.mid (S : m.Sm) : Tw.mid m ∣ 2520 := lcm_2520 fun q hq => by
  obtain ⟨r, hr, rfl⟩ := List.mem_map.mp hq
  exact S.r r hr
theorem pow_dvd {a b L M : Nat} (ha : a ∣ b) (h : L ≤ M) : a ^ L ∣ b ^ M := by
  obtain ⟨c, rfl⟩ := ha
  refine Nat.dvd_trans ?_ (Nat.pow_dvd_pow _ h)
  rw [Nat.mul_pow]
  exact Nat.dvd_mul_right _ _
theorem row_k (S : m.Sm) {L : Nat} (h : L ≤ 6) : lcmR m.bg * Tw.mid m ^ L ∣ DC := by
  show _ ∣ 2520 ^ 7
  rw [show (2520 : Nat) ^ 7 = 2520 * 2520 ^ 6 from by rw [← Nat.pow_succ']]
  exact Nat.mul_dvd_mul (lcm_2520 S.b) (pow_dvd S.mid h)
theorem col_k (S : m.Sm) {L : Nat} (h : L ≤ 6) : lcmR m.en * Tw.mid m ^ L ∣ DC := by
  show _ ∣ 2520 ^ 7
  rw [show (2520 : Nat) ^ 7 = 2520 * 2520 ^ 6 from by rw [← Nat.pow_succ']]
  exact Nat.mul_dvd_mul (lcm_2520 S.e) (pow_dvd S.mid h)
theorem cast_k (a b L : Nat) : ((a * b ^ L : Nat) : Rat) = (a : Rat) * (b : Rat) ^ L := by
  rw [Rat.natCast_mul, Rat.natCast_pow]
theorem XC_lt : XC < 2 ^ 20000 := Nat.lt_of_lt_of_le (show XC < 2 ^ 250 by decide) (Nat.pow_le_pow_right (by decide) (by decide))
theorem rw_b (ok : m.Ok) (S : m.Sm) {u : List Nat} (h : u.length ≤ 6) (i : Nat) : ((rwI (rdsI m.roads) (intsR m.bg) u).getD i 0).natAbs ≤ XC := by
  rcases Nat.lt_or_ge i m.n with hi | hi
  · have hb := S.rowb h i
    rw [show (rowL m u).getD i 0 = rowF m u i from tab_at hi] at hb
    exact rb_part hb (row_k S h) (by decide) (by rw [rwI_at ok, cast_k])
  · rw [getD_of_le 0 (by rw [rwI_len, intsR_len]; exact hi)]
    exact Nat.zero_le _
theorem cl_b (ok : m.Ok) (S : m.Sm) {w : List Nat} (h : w.length ≤ 6) (i : Nat) : ((clI (rdsI m.roads) (intsR m.en) w).getD i 0).natAbs ≤ XC := by
  rcases Nat.lt_or_ge i m.n with hi | hi
  · have hb := S.colL h i
    rw [show (colL m w).getD i 0 = colF m w i from tab_at hi] at hb
    exact rb_part hb (col_k S h) (by decide) (by rw [clI_at ok, cast_k])
  · rw [getD_of_le 0 (by rw [clI_len, intsR_len, ok.el]; exact hi)]
    exact Nat.zero_le _
theorem rd_b (S : m.Sm) {r : RoadI} (h : r ∈ rdsI m.roads) : r.2.2.2.natAbs < 2 ^ 20000 := by
  obtain ⟨d, hd, rfl⟩ := List.mem_map.mp h
  have hm : d.2.2.2 ∈ m.roads.map fun r => r.2.2.2 := List.mem_map.mpr ⟨d, hd, rfl⟩
  have e : (((d.2.2.2.num * ((Tw.mid m : Nat) : Int).fdiv (d.2.2.2.den : Int)) : Int) : Rat) = ((Tw.mid m : Nat) : Rat) * d.2.2.2 := by
    have h1 := fd_num (den_lcmR hm)
    have h2 := mul_den d.2.2.2
    rw [Rat.intCast_mul, ← h2]
    grind
  exact Nat.lt_of_le_of_lt (rb_part (S.r d hd) S.mid (by decide) e) (Nat.lt_of_lt_of_le (show 12600 < 2 ^ 250 by decide) (Nat.pow_le_pow_right (by decide) (by decide)))
theorem ls_row (ok : m.Ok) (S : m.Sm) {u : List Nat} (h : u.length ≤ 6) : LsOk (rdsI m.roads) (rwI (rdsI m.roads) (intsR m.bg) u) where
  len := by rw [rwI_len, intsR_len]; have := S.n6; show m.n ≤ 1000; omega
  rl := by unfold rdsI; rw [List.length_map]; have := S.r24; omega
  ix := fun r hr => by rw [rwI_len, intsR_len]; exact rds_ix ok hr
  b := fun r hr => rd_b S hr
  c := fun i => Nat.lt_of_le_of_lt (rw_b ok S h i) XC_lt
theorem ls_col (ok : m.Ok) (S : m.Sm) {w : List Nat} (h : w.length ≤ 6) : LsOk (swpI (rdsI m.roads)) (clI (rdsI m.roads) (intsR m.en) w) where
  len := by rw [clI_len, intsR_len, ok.el]; have := S.n6; omega
  rl := by unfold swpI rdsI; rw [List.length_map, List.length_map]; have := S.r24; omega
  ix := fun r hr => by
    obtain ⟨d, hd, rfl⟩ := List.mem_map.mp hr
    rw [clI_len, intsR_len, ok.el]
    exact ⟨(rds_ix ok hd).2, (rds_ix ok hd).1⟩
  b := fun r hr => by
    obtain ⟨d, hd, rfl⟩ := List.mem_map.mp hr
    exact rd_b (r := d) S hd
  c := fun i => Nat.lt_of_le_of_lt (cl_b ok S h i) XC_lt
theorem sum_sm (f : Nat → Int) : ∀ n, ((((List.range n).map f).sum : Int) : Rat) = sm (fun k => ((f k : Int) : Rat)) n
  | 0 => rfl
  | n + 1 => by
    rw [List.range_succ, List.map_append, List.sum_append, Rat.intCast_add, sum_sm f n]
    show _ + (((f n + 0 : Int)) : Rat) = sm (fun k => ((f k : Int) : Rat)) n + ((f n : Int) : Rat)
    rw [Int.add_zero]
abbrev hrI (m : Mach) (ms : List (List Nat)) (u : List Nat) : List Int := ms.map fun w => dotI (rwI (rdsI m.roads) (intsR m.bg) u) (clI (rdsI m.roads) (intsR m.en) w) m.n
theorem dot_at (ok : m.Ok) (u w : List Nat) : ((dotI (rwI (rdsI m.roads) (intsR m.bg) u) (clI (rdsI m.roads) (intsR m.en) w) m.n : Int) : Rat) = (((lcmR m.bg : Nat) : Rat) * ((Tw.mid m : Nat) : Rat) ^ u.length) * (((lcmR m.en : Nat) : Rat) * ((Tw.mid m : Nat) : Rat) ^ w.length) * wt m u w := by
  unfold dotI wt
  rw [sum_sm, ← sm_mul]
  refine sm_congr fun k _ => ?_
  rw [Rat.intCast_mul, rwI_at ok, clI_at ok]
  grind
theorem rat_pos {n : Nat} (h : 0 < n) : ((n : Nat) : Rat) ≠ 0 := fun z => by have := Rat.natCast_eq_zero_iff.mp z; omega
theorem ltab (ok : m.Ok) (S : m.Sm) {ms : List (List Nat)} (hm : ∀ u ∈ ms, u.length ≤ 6) : LTab m ms (hrI m ms) where
  len := fun u _ => List.length_map ..
  b := fun u hu j => by
    rcases Nat.lt_or_ge j ms.length with hj | hj
    · rw [getD_of_lt 0 (by rw [List.length_map]; exact hj), List.getElem_map]
      have h1 := hm u hu
      have h2 := hm _ (List.getElem_mem hj)
      generalize ms[j] = w at h2
      have hb := S.wt (u := u) (w := w) (by omega)
      refine rb_part hb (d := lcmR m.bg * Tw.mid m ^ u.length * (lcmR m.en * Tw.mid m ^ w.length)) ?_ (by decide) (by rw [dot_at ok, Rat.natCast_mul, cast_k, cast_k])
      show _ ∣ 2520 ^ 14
      rw [show (2520 : Nat) ^ 14 = 2520 ^ 7 * 2520 ^ 7 from by rw [← Nat.pow_add]]
      exact Nat.mul_dvd_mul (row_k S h1) (col_k S h2)
    · rw [getD_of_le 0 (by rw [List.length_map]; exact hj)]
      exact Nat.zero_le _
  v := by
    have p1 := rat_pos (lcmR_pos m.bg)
    have p2 := rat_pos (lcmR_pos m.en)
    have p3 : ((Tw.mid m : Nat) : Rat) ≠ 0 := rat_pos (lcmR_pos _)
    have pw : ∀ k : Nat, ((Tw.mid m : Nat) : Rat) ^ k ≠ 0 := fun k => by
      induction k with
      | zero => rw [Rat.pow_zero]; decide
      | succ k ih => rw [Rat.pow_succ]; exact fun z => (Rat.mul_eq_zero.mp z).elim ih p3
    refine ⟨fun u => ((lcmR m.bg : Nat) : Rat) * ((Tw.mid m : Nat) : Rat) ^ u.length, fun w => ((lcmR m.en : Nat) : Rat) * ((Tw.mid m : Nat) : Rat) ^ w.length, fun u z => (Rat.mul_eq_zero.mp z).elim p1 (pw _), fun u z => (Rat.mul_eq_zero.mp z).elim p2 (pw _), fun u _ j hj => ?_⟩
    rw [getD_of_lt 0 (by rw [List.length_map]; exact hj), List.getElem_map, dot_at ok]
    unfold hd
    rw [getD_of_lt [] hj]
end
end Tw

/-! the law's heads, walked -/
namespace Tw
open PySem L2 PyProof.Rows

noncomputable def lsp (N : Nat) (G : List (List Int)) (row : List Int) : Bool := @decide (LSpan N G row) (Classical.propDecidable _)
theorem lsp_t {N : Nat} {G : List (List Int)} {row : List Int} : lsp N G row = true ↔ LSpan N G row := @decide_eq_true_iff _ (Classical.propDecidable _)
theorem lsp_f {N : Nat} {G : List (List Int)} {row : List Int} : lsp N G row = false ↔ ¬ LSpan N G row := @decide_eq_false_iff_not _ (Classical.propDecidable _)
noncomputable def nxG (N : Nat) (G : List (List Int)) (row : List Int) : List (List Int) := if lsp N G row then G else G ++ [row]
structure GK where
  p : Addr
  G : List (List Int)
  row : List Int
  N : Nat
structure GK.Ok (b : GK) : Prop where
  len : b.row.length = b.N
  n : b.N ≤ 5000
  rb : ∀ j, (b.row.getD j 0).natAbs ≤ XW
  g6 : ¬ LSpan b.N b.G b.row → b.G.length + 1 ≤ 6
theorem satL {p : Addr} {N : Nat} {G : List (List Int)} {kp : List LEnt} {ω : Wo} (k : LKOk N G kp) (d : SatD [rLL p kp] ω) : SatD [rLK p N G] ω := by
  obtain ⟨h1, h2, h3⟩ := satD1.mp d
  exact satD1.mpr ⟨⟨kp, k, h1⟩, h2, h3⟩
section
variable {P : Program} {w : World} {K : PySem.W.Frag} {mg : Str → Option Value} {base : Heap}
theorem rest_call {p : Addr} {kp : List LEnt} {G : List (List Int)} {row : List Int} {N : Nat} (h : GL.Ok ⟨p, kp, G, row, N⟩) : SpR [] spLRest [eR p, eIs row] (eAny (List Int) (fun c => LwSt N G kp row G.length c) eIs) (rLL p kp) (rLL p kp) :=
  fun vs ω Q E ha hr h1 h2 hk => ⟨GL.mk p kp G row N, ω, rfl, h, ha, satD1.mpr ⟨hr, h1, h2⟩, fun v ω' l d hv => hk v ω' l (satD1.mp d).1 hv⟩
abbrev s__law_keep : Stmt := topS 57
abbrev n__law_keep : List Str := ["_law_kept", "_law_row", "_law_rest_here", "_law_places", "_law_k"]
abbrev p__law_keep : List Str := ["_law_kept", "_law_row"]
theorem sc__law_keep : FnScope n__law_keep p__law_keep (defScope s__law_keep) := ⟨rfl, rfl, rfl, by decide +kernel, rfl, by decide +kernel, by decide +kernel⟩
def spLKeep : Sp := spR (β := GK) (fun b => [eR b.p, eIs b.row]) GK.Ok (fun b => eB (!lsp b.N b.G b.row)) (fun b => [b.p]) (fun b => rLK b.p b.N b.G) (fun b => rLK b.p b.N (nxG b.N b.G b.row))
theorem keep_call {p : Addr} {G : List (List Int)} {row : List Int} {N : Nat} (h : GK.Ok ⟨p, G, row, N⟩) : SpR [p] spLKeep [eR p, eIs row] (eB (!lsp N G row)) (rLK p N G) (rLK p N (nxG N G row)) :=
  fun vs ω Q E ha hr h1 h2 hk => ⟨GK.mk p G row N, ω, rfl, h, ha, satD1.mpr ⟨hr, h1, h2⟩, fun v ω' l d hv => hk v ω' l (satD1.mp d).1 hv⟩
abbrev LKeep (P : Program) (w : World) (K : PySem.W.Frag) (mg : Str → Option Value) (base : Heap) : Prop := Cal P w K mg base "_law_keep" p__law_keep 3 spLKeep
theorem rng_getD {n i : Nat} (h : i < n) : (List.range n).getD i 0 = i := by
  rw [getD_of_lt 0 (by rw [List.length_range]; exact h), List.getElem_range]
theorem cal_lkeep (T : Txt K mg) (D : DefAt K mg "_law_keep" s__law_keep) (c__law_rest : LRest P w K mg base) : LKeep P w K mg base := by
  refine cal_of D sc__law_keep (fun _ _ _ _ _ _ us hl => match us, hl with | [_, _], _ => rfl) (len_r fun _ => rfl) fun f cdv A outer s H E hr => ⟨_, (pss_cons (ps_set (i := 2) sc__law_keep.nd rfl (Or.inr rfl) (pe_cal c__law_rest hr rfl (pa_cons (pv 0) (pa_cons (pv 1) pa_nil))))
 (pss_cons (ps_setLc (i := 3) (own := [("_law_k", 4)]) rfl sc__law_keep.nd rfl rfl (sw_true rfl rfl rfl (by decide +kernel)) (pi_range1 rfl T.range (pa_cons (pe_callB call_len_seq (by rfl) T.len (by decide +kernel) (pa_cons (pv 2) pa_nil)) pa_nil)) (blkOk_by (N := n__law_keep) (sc := defScope s__law_keep) (by decide +kernel)) (fun _ _ _ _ _ => (pg_name (i := 4) sc__law_keep.nd rfl (Or.inl rfl))) (fun _ _ _ _ _ => (pts_one (pt_cmpR op_ne (pe_ix (ixL K rfl) (pv 2) (pv 4) (fun _ _ => rfl)) pe_int (nomark _)))) (fun _ _ _ _ _ => (pv 4)))
 (Evl.pss_cut (ps_if (pt_cmpR (op_eqD hr.units) (pv 3) (pe_lst pa_nil) (nomark _)) (pss_one (ps_ret pe_bl)) pss_nil)
 (pss_cons (ps_expr (pe_bm PySem.F.plainAttrs_list PySem.F.slot_list_append PySem.F.type_list_append mt_append (pv 0) (pa_cons (pe_tup (pa_cons (pe_ix ix_list (pv 3) pe_int (fun _ _ => rfl)) (pa_cons (pv 2) pa_nil))) pa_nil)))
 (pss_one (ps_ret pe_bl)))))), body_r fun b ok ω Q d0 hQ => ?_⟩
  obtain ⟨p, G, row, N⟩ := b
  obtain ⟨hrl, hN, hb, hg6⟩ := ok
  have hrl : row.length = N := hrl
  have hN : N ≤ 5000 := hN
  have hb : ∀ j, (row.getD j 0).natAbs ≤ XW := hb
  have hg6 : ¬ LSpan N G row → G.length + 1 ≤ 6 := hg6
  have hQ : ∀ v ω', LeX [p] ω ω' → SatD [rLK p N (nxG N G row)] ω' → (eB (!lsp N G row)).r v ω'.M → Q v ω'.H := hQ
  refine t_ex (ρ := rLK p N G) (ρf := fun kp => rLL p kp) (P := fun kp => LKOk N G kp) (fun ω h => h) (fun _ => rfl) fun kp kok => ?_
  have hkl := kok.len
  have hk6 := kok.six
  refine q_asg (C := []) (Δ1 := [rLL p kp]) (ev_callR (k := 0) (ea_cons (ev_var rfl) (ea_cons (ev_var rfl) ea_nil)) (rest_call ⟨kok, hrl, hN, hb⟩) rfl (fun _ h => nomatch h) rfl (fun _ h => h) rfl) ?_
  refine t_any (i := 2) rfl fun c S => ?_
  have S : LwSt N G kp row G.length c := S
  have hcl := S.il
  refine q_asg (C := []) (Δ1 := [rLL p kp]) (e := eIs (((List.range N).filter fun k => !decide (c.getD k 0 = 0)).map fun k : Nat => (k : Int))) ?_ ?_
  · refine ev_is (ev_lcF (d0 := 0) (xs := List.range N) (it := fun i => eI (i : Int)) (ψ := fun k : Nat => eI (k : Int)) (c := fun k => !decide (c.getD k 0 = 0)) (by rw [List.length_range]; omega) (fun W => ?_) (fun i _ => tv_name (by decide)) (fun i hi => ?_) (fun i hi _ => ?_)) ?_
    · rw [List.length_range]
      exact it_range (ea_cons (ev_is (ev_cb (ea_cons (ev_var rfl) ea_nil) op_lenL) (by rw [List.length_map, hcl])) ea_nil) (by omega)
    · rw [List.length_range] at hi
      rw [rng_getD hi]
      exact et_test (ev_op (ev_op (ev_var rfl) (ev_var rfl) (op_ixL (getI (by omega)))) ev_c op_neI)
    · rw [List.length_range] at hi
      rw [rng_getD hi]
      exact ev_var rfl
    · unfold eIs
      rw [List.map_map]
      rfl
  have hpl : ∀ k, k ∈ ((List.range N).filter fun k => !decide (c.getD k 0 = 0)) ↔ (k < N ∧ c.getD k 0 ≠ 0) := fun k => by
    rw [List.mem_filter, List.mem_range]
    simp
  generalize ((List.range N).filter fun k => !decide (c.getD k 0 = 0)) = ps at hpl
  refine tr_cutP (ps ≠ []) (As (bsS ω [p]) [some (eR p), some (eIs row), some (eIs c), some (eIs (ps.map fun k : Nat => (k : Int))), none] [rLL p kp]) ?_ (fun hne => ?_)
  · refine s_if (C := []) (et_test (ev_op (ev_var rfl) (ev_lst ea_nil (Nat.zero_le _)) op_eqNilI)) (fun h => ?_) (fun h => s_next fun σ H a => ⟨fun z => ?_, a⟩)
    · have hz : ps = [] := List.map_eq_nil_iff.mp (of_decide_eq_true h)
      have hs : LSpan N G row := lspan_of S fun j hj => by
        apply Classical.byContradiction
        intro hn
        have := (hpl j).mpr ⟨hj, hn⟩
        rw [hz] at this
        cases this
      refine s_ret (C := []) ev_c fun v ω' l d hv => hQ v ω' l ?_ ?_
      · unfold nxG
        rw [lsp_t.mpr hs, if_pos rfl]
        exact satL kok d
      · rw [lsp_t.mpr hs]
        exact hv
    · have := of_decide_eq_false h
      exact this (by rw [z]; rfl)
  · obtain ⟨k0, ps', rfl⟩ := List.exists_cons_of_ne_nil hne
    obtain ⟨hk1, hk2⟩ := (hpl k0).mp List.mem_cons_self
    have hns : ¬ LSpan N G row := fun hs => hk2 (lzero_of kok S hs k0 hk1)
    have h6 := hg6 hns
    refine q_drop (C := [p]) (Δ1 := [rLL p (kp ++ [(k0, c)])]) (ev_append (k := 0) (Δ2 := [rLL p kp]) (e := eLE (k0, c)) (ev_var rfl) List.mem_cons_self (ev_tup (ea_cons (ev_op (ev_var rfl) ev_c op_l0) (ea_cons (ev_var rfl) ea_nil)) (Nat.le_of_ble_eq_true rfl)) rfl (by rw [List.length_map]; omega) List.mem_cons_self ?_) ?_ (ownS List.mem_cons_self)
    · show [rL p _] = [rL p _]
      rw [List.map_append]
      rfl
    · refine s_ret (C := []) ev_c fun v ω' l d hv => hQ v ω' l ?_ ?_
      · unfold nxG
        rw [lsp_f.mpr hns]
        exact satL (lkok_put kok h6 hb S hk1 hk2) d
      · rw [lsp_f.mpr hns]
        exact hv
abbrev s__law_heads : Stmt := topS 63
abbrev n__law_heads : List Str := ["_law_parts", "_law_messages_here", "_law_scaled_here", "_law_message", "_law_rows_here", "_law_columns_here", "_law_found", "_law_kept", "_law_other"]
abbrev p__law_heads : List Str := ["_law_parts", "_law_messages_here"]
theorem sc__law_heads : FnScope n__law_heads p__law_heads (defScope s__law_heads) := ⟨rfl, rfl, rfl, by decide +kernel, rfl, by decide +kernel, by decide +kernel⟩
structure GH where
  m : Mach
  hs : List (List Nat)
  tb : List (List (List Rat))
abbrev GH.ms (b : GH) : List (List Nat) := msgs b.m.signs b.m.n
structure GH.Ok (b : GH) : Prop where
  fm : FmOk b.m
  H : HOk b.m b.hs b.tb
  le : b.hs.length ≤ b.m.n
  fc : ∃ C, FreeC b.m C
  mm : b.ms.length ≤ 5000
  nd : b.ms.Nodup
theorem msok (sg : List Nat) (hsg : sg.Pairwise (· < ·)) {n : Nat} (hn : n ≤ 6) (hl : (msgs sg n).length ≤ 5000) : MsOk sg (msgs sg n) := by
  have up := msgs_up hsg n
  have early : ∀ i, i < (msgs sg n).length → ∀ v, v.length < ((msgs sg n).getD i []).length → (∀ s ∈ v, s ∈ sg) → v ∈ (msgs sg n).take i := fun i hi v hv hw => by
    have hu := msgs_mem.mp (getD_mem (d := []) hi)
    have hm : v ∈ msgs sg n := msgs_mem.mpr ⟨by omega, hw⟩
    obtain ⟨j, hj, e⟩ := List.getElem_of_mem hm
    have hji : j < i := by
      rcases Nat.lt_or_ge j i with t | t
      · exact t
      · exfalso
        rcases Nat.lt_or_ge i j with t2 | t2
        · have := up.get t2 hj
          rw [e] at this
          rw [getD_of_lt [] hi] at hv
          rcases this with h | ⟨h, _⟩ <;> omega
        · have ej : j = i := by omega
          subst ej
          rw [getD_of_lt [] hi, e] at hv
          omega
    exact List.mem_take_iff_getElem.mpr ⟨j, by omega, e⟩
  refine ⟨by omega, fun u hu => by have := (msgs_mem.mp hu).1; omega, fun i hi hne => .inr ?_, fun i hi hne => .inr ?_⟩
  · have hu := msgs_mem.mp (getD_mem (d := []) hi)
    refine early i hi _ ?_ fun s hs => hu.2 s ((List.dropLast_sublist _).subset hs)
    rw [List.length_dropLast]
    have := List.length_pos_iff.mpr hne
    omega
  · have hu := msgs_mem.mp (getD_mem (d := []) hi)
    refine early i hi _ ?_ fun s hs => hu.2 s (List.mem_of_mem_drop hs)
    rw [List.length_drop]
    have := List.length_pos_iff.mpr hne
    omega
def spLHeads : Sp := spFn (β := GH) (fun b => [eParts b.m, eMs b.ms]) GH.Ok (fun b => eMs b.hs)
theorem ok_lheads {b : GH} (h : b.Ok) : SpOk spLHeads [eParts b.m, eMs b.ms] (eMs b.hs) := spFn_ok (β := GH) b h
abbrev LHeads (P : Program) (w : World) (K : PySem.W.Frag) (mg : Str → Option Value) (base : Heap) : Prop := Cal P w K mg base "_law_heads" p__law_heads 4 spLHeads
theorem ScOk_of {m : Mach} (F : FmOk m) : ScOk m := by
  have one : ∀ {row : List Rat}, row.length ≤ 100 → (∀ q ∈ row, RB 2520 12600 q) → RowOk row := fun hl h => ⟨by omega, fun q hq => rb_q4 (h q hq) (by decide) (Nat.lt_of_lt_of_le (show 2520 < 2 ^ 20 by decide) (Nat.pow_le_pow_right (by decide) (by decide))) (Nat.lt_of_lt_of_le (show 12600 < 2 ^ 20 by decide) (Nat.pow_le_pow_right (by decide) (by decide))), 2520, by decide, Nat.lt_of_lt_of_le (show 2520 < 2 ^ 20 by decide) (Nat.pow_le_pow_right (by decide) (by decide)), fun q hq => (h q hq).den⟩
  have S := F.sm
  refine ⟨one (by have := S.n6; show m.n ≤ 100; omega) S.b, one (by rw [F.fit.ok.el]; have := S.n6; omega) S.e, one (by rw [List.length_map]; have := S.r24; omega) fun q hq => ?_⟩
  obtain ⟨r, hr, rfl⟩ := List.mem_map.mp hq
  exact S.r r hr
theorem cal_lheads (T : Txt K mg) (D : DefAt K mg "_law_heads" s__law_heads) (c__law_scaled : LScaled P w K mg base) (c__law_rows : LRows P w K mg base) (c__law_columns : LCols P w K mg base) (c__law_keep : LKeep P w K mg base) (c__law_dot : LDot P w K mg base) : LHeads P w K mg base := by
  refine cal_of D sc__law_heads (fun _ _ _ _ _ _ us hl => match us, hl with | [_, _], _ => rfl) (len_fn fun _ => rfl) fun f cdv A outer s H E hr => ⟨_, (pss_cons (ps_set (i := 2) sc__law_heads.nd rfl (Or.inl rfl) (pe_cal c__law_scaled hr rfl (pa_cons (pv 0) pa_nil)))
 (pss_cons (ps_asg (pe_tup (pa_cons (pe_cal c__law_rows hr rfl (pa_cons (pv 2) (pa_cons (pv 1) pa_nil))) (pa_cons (pe_cal c__law_columns hr rfl (pa_cons (pv 2) (pa_cons (pv 1) pa_nil))) pa_nil))) (pg_tup rfl (pgs_cons (pg_name (i := 4) sc__law_heads.nd rfl (Or.inr rfl)) (pgs_cons (pg_name (i := 5) sc__law_heads.nd rfl (Or.inr rfl)) pgs_nil))))
 (pss_cons (ps_par (i := 6) (j := 7) rfl sc__law_heads.nd rfl rfl (by decide) rfl rfl (pa_cons (pe_lst pa_nil) (pa_cons (pe_lst pa_nil) pa_nil)) rfl)
 (pss_cons (ps_for PassesOwn.never rfl (pi_list (pv 1)) (pg_name (i := 3) sc__law_heads.nd rfl (Or.inr rfl))
 (pss_one (ps_if (pt_val (pe_cal c__law_keep hr rfl (pa_cons (pv 7) (pa_cons (pe_lc (own := [("_law_other", 8)]) rfl sc__law_heads.nd (pi_list (pv 1)) (blkOk_by (N := n__law_heads) (sc := defScope s__law_heads) (by decide +kernel)) (fun _ _ _ _ _ => (pg_name (i := 8) sc__law_heads.nd rfl (Or.inl rfl))) (fun _ _ _ _ _ => pts_nil) (fun _ _ _ _ _ => (pe_cal c__law_dot hr rfl (pa_cons (pe_dget (hu_of hr) (pv 4) (pv 3) (fun _ _ => rfl)) (pa_cons (pe_dget (hu_of hr) (pv 5) (pv 8) (fun _ _ => rfl)) pa_nil))))) pa_nil)))) (pss_one (ps_expr (pe_bm PySem.F.plainAttrs_list PySem.F.slot_list_append PySem.F.type_list_append mt_append (pv 6) (pa_cons (pv 3) pa_nil)))) pss_nil)))
 (pss_one (ps_ret (pv 6))))))), body_fn fun b bok ω Q hQ => ?_⟩
  obtain ⟨m, hs, tb⟩ := b
  obtain ⟨F, H, hle, ⟨Cs, FC⟩, hmm, hnd⟩ := bok
  have F : FmOk m := F
  have H : HOk m hs tb := H
  have hle : hs.length ≤ m.n := hle
  have FC : FreeC m Cs := FC
  have hmm : (msgs m.signs m.n).length ≤ 5000 := hmm
  have S := F.sm
  have ok := F.fit.ok
  have hsg := F.fit.sg.up
  have n6 := S.n6
  have hfin := heads_eq hsg H hle
  have hfree := fun {t : Nat} => law_free (t := t) ok hsg H hle FC (ltab ok S (ms := msgs m.signs m.n) fun u hu => by have := (msgs_mem.mp hu).1; omega)
  have hfree := fun {t : Nat} => @hfree t
  have LT := ltab ok S (ms := msgs m.signs m.n) fun u hu => by have := (msgs_mem.mp hu).1; omega
  have mo := msok m.signs hsg (n := m.n) n6 hmm
  have ml : ∀ u ∈ msgs m.signs m.n, u.length ≤ 6 := mo.ml
  have hQ : ∀ v ω', LeX [] ω ω' → (eMs hs).r v ω'.M → Q v ω'.H := hQ
  show Tr _ (As _ (Γ0 n__law_heads [eParts m, eMs (msgs m.signs m.n)]) []) _
  generalize hms : msgs m.signs m.n = ms at hfin hfree LT mo ml hmm ⊢
  have gR : GW.OkR ⟨m, ms⟩ := ⟨mo, fun u hu => ls_row ok S hu⟩
  have gC : GW.OkC ⟨m, ms⟩ := ⟨mo, fun u hu => ls_col ok S hu⟩
  have hk6 : ∀ i, ((ms.take i).filter fun u => decide (u ∈ hs)).length ≤ 6 := fun i => by
    have h1 : ((ms.take i).filter fun u => decide (u ∈ hs)).length ≤ (ms.filter fun u => decide (u ∈ hs)).length := ((List.take_sublist i ms).filter _).length_le
    rw [hfin] at h1
    omega
  refine q_asg (C := []) (ev_call (ea_cons (ev_var rfl) ea_nil) (ok_lscaled (ScOk_of F))) ?_
  refine q_asgT (C := []) (ev_tup (ea_cons (ev_call (ea_cons (ev_var rfl) (ea_cons (ev_var rfl) ea_nil)) (ok_lrows gR)) (ea_cons (ev_call (ea_cons (ev_var rfl) (ea_cons (ev_var rfl) ea_nil)) (ok_lcols gC)) ea_nil)) (Nat.le_of_ble_eq_true rfl)) (tg_tup rfl (tgs_cons tg_name (tgs_cons tg_name tgs_nil))) ?_
  refine q_parNN (C := []) fun p q hp hq => ?_
  refine t_conv (ρ' := rLK q ms.length []) (fun ω h => ⟨[], lkok_nil _, h⟩) rfl ?_
  refine q_for (C := []) (β := Unit) (fun _ _ => True) (fun i _ => [some (eParts m), some (eMs ms), some (eScl m), none, some (eD (domU (GW.f ⟨m, ms⟩) ms ms.length)), some (eD (domU (GW.g ⟨m, ms⟩) ms ms.length)), some (eR p), some (eR q), none]) (fun i _ => [some (eParts m), some (eMs ms), some (eScl m), some (itm (ms.map eM) i), some (eD (domU (GW.f ⟨m, ms⟩) ms ms.length)), some (eD (domU (GW.g ⟨m, ms⟩) ms ms.length)), some (eR p), some (eR q), none])
    (fun i _ => [rLK q ms.length (((ms.take i).filter fun u => decide (u ∈ hs)).map (hrI m ms)), rL p (((ms.take i).filter fun u => decide (u ∈ hs)).map eM)]) (it_list (ev_var rfl)) ?_ (fun _ _ _ _ => tg_name) (fun mm i _ hi _ => ?_) (fun _ _ => ?_)
  · exact ⟨(), trivial, ⟨rfl, rfl, rfl, rfl, rfl, rfl, rfl, trivial⟩, rfl⟩
  · rw [List.length_map] at hi
    rw [itm_map [] hi]
    have hfr := @hfree i hi
    have et := take_getD [] hi
    have hum := getD_mem (d := []) hi
    have eg : ms[i] = ms.getD i [] := (getD_of_lt [] hi).symm
    rw [eg] at hfr
    have ef : (ms.take (i + 1)).filter (fun u => decide (u ∈ hs)) = if ms.getD i [] ∈ hs then ((ms.take i).filter fun u => decide (u ∈ hs)) ++ [ms.getD i []] else (ms.take i).filter fun u => decide (u ∈ hs) := by
      rw [et, List.filter_append, List.filter_cons]
      by_cases h : ms.getD i [] ∈ hs
      · rw [if_pos (decide_eq_true h), if_pos h]
        rfl
      · rw [if_neg (fun z => h (of_decide_eq_true z)), if_neg h]
        exact List.append_nil _
    have h6' := hk6 (i + 1)
    rw [ef] at h6'
    rw [ef]
    generalize ms.getD i [] = u at hfr hum h6' ef
    generalize (ms.take i).filter (fun u => decide (u ∈ hs)) = fl at hfr h6' ef
    have hul := ml u hum
    have hrb := LT.b u hum
    have hrl := LT.len u hum
    have gok : GK.Ok ⟨q, fl.map (hrI m ms), hrI m ms u, ms.length⟩ := ⟨hrl, hmm, hrb, fun hn => by
      have hin : u ∈ hs := Classical.byContradiction fun z => hn (hfr.mpr z)
      rw [if_pos hin, List.length_append, List.length_singleton] at h6'
      show (fl.map _).length + 1 ≤ 6
      rw [List.length_map]
      exact h6'⟩
    have flen : fl.length ≤ 6 := by
      split at h6'
      · rw [List.length_append, List.length_singleton] at h6'; omega
      · exact h6'
    have dm : ∀ (f : List Nat → List Int) (v : List Nat), v ∈ ms → domU f ms ms.length v = some (eIs (f v)) := fun f v hv => if_pos (.inr (by rw [List.take_length]; exact hv))
    refine s_if (C := [q]) (Δ1 := [rLK q ms.length (nxG ms.length (fl.map (hrI m ms)) (hrI m ms u)), rL p (fl.map eM)]) (et_B (ev_callR (k := 0) (ea_cons (ev_var rfl) (ea_cons (Δ1 := [rLK q ms.length (fl.map (hrI m ms)), rL p (fl.map eM)]) (a := eIs (hrI m ms u)) (ev_is (ev_lcL (xs := ms) (φ := eM) (ψ := fun w => eI (dotI (rwI (rdsI m.roads) (intsR m.bg) u) (clI (rdsI m.roads) (intsR m.en) w) m.n)) (ev_var rfl) (by omega) fun w hw => ?_) ?_) ea_nil)) (keep_call gok) rfl (fun _ h => h) rfl (fun _ h => h) rfl)) (fun h => ?_) (fun h => s_next ?_) (own1 hq)
    · have hwl := ml w hw
      have e1 : (rwI (rdsI m.roads) (intsR m.bg) u).length = m.n := by rw [rwI_len, intsR_len]; rfl
      have := ok_ldot (a := rwI (rdsI m.roads) (intsR m.bg) u) (b := clI (rdsI m.roads) (intsR m.en) w) ⟨by rw [e1]; omega, by rw [clI_len, intsR_len, ok.el, e1], fun i => Nat.lt_of_le_of_lt (rw_b ok S hul i) XC_lt, fun i => Nat.lt_of_le_of_lt (cl_b ok S hwl i) XC_lt⟩
      rw [e1] at this
      exact ev_call (ea_cons (ev_dget (ev_var rfl) (ev_var rfl) (dm (GW.f ⟨m, ms⟩) u hum)) (ea_cons (ev_dget (ev_var rfl) (ev_var rfl) (dm (GW.g ⟨m, ms⟩) w hw)) ea_nil)) this
    · unfold eIs hrI
      rw [List.map_map]
      rfl
    · have hl : lsp ms.length (fl.map (hrI m ms)) (hrI m ms u) = false := by simpa using h
      have hin : u ∈ hs := Classical.byContradiction fun z => lsp_f.mp hl (hfr.mpr z)
      have eG : nxG ms.length (fl.map (hrI m ms)) (hrI m ms u) = (fl ++ [u]).map (hrI m ms) := by
        unfold nxG
        rw [hl, List.map_append]
        rfl
      rw [eG]
      refine s_drop (C := [p]) (Δ1 := [rLK q ms.length ((fl ++ [u]).map (hrI m ms)), rL p ((fl ++ [u]).map eM)]) (ev_append (k := 1) (Δ2 := [rLK q ms.length ((fl ++ [u]).map (hrI m ms)), rL p (fl.map eM)]) (es := fl.map eM) (fs := fl.map eM) (e := eM u) (ev_var rfl) (by simp) (ev_var rfl) rfl (by rw [List.length_map]; omega) List.mem_cons_self (by rw [map_snoc eM fl u]; rfl)) (lp_mk () trivial (by rw [if_pos hin]) ⟨rfl, rfl, rfl, rfl, rfl, rfl, rfl, trivial⟩) (own1 hp)
    · have hl : lsp ms.length (fl.map (hrI m ms)) (hrI m ms u) = true := by simpa using h
      have hnin : u ∉ hs := hfr.mp (lsp_t.mp hl)
      have eG : nxG ms.length (fl.map (hrI m ms)) (hrI m ms u) = fl.map (hrI m ms) := by
        unfold nxG
        rw [hl]
        rfl
      rw [eG]
      exact lp_mk () trivial (by rw [if_neg hnin]) ⟨rfl, rfl, rfl, rfl, rfl, rfl, rfl, trivial⟩
  rw [List.length_map, List.take_of_length_le (Nat.le_refl _), hfin]
  refine t_skip ?_
  refine t_frz (i := 6) hp rfl ?_
  exact s_ret (C := []) (ev_var rfl) fun v ω' l _ hv => hQ v ω' l hv
end
end Tw

/-! the law's comparison -/
namespace Tw
open PySem L2 PyProof.Rows

inductive AD where
  | s (u : List Nat)
  | i (n : Int)
  | l (us : List (List Nat))
  | p (sg : List Nat) (us : List (List Nat))
def eAD : AD → En
  | .s u => eM u
  | .i n => eI n
  | .l us => eMs us
  | .p sg us => eLst [eM sg, eMs us]
def AD.lev : AD → Nat
  | .s _ => 0
  | .i _ => 0
  | .l _ => 1
  | .p _ _ => 2
def AD.items : AD → List AD
  | .s _ => []
  | .i _ => []
  | .l us => us.map .s
  | .p sg us => [.s sg, .l us]
theorem AD.items_l (us : List (List Nat)) : eAD (.l us) = eLst ((AD.items (.l us)).map eAD) := by
  show eLst (us.map eM) = eLst ((us.map AD.s).map eAD)
  rw [List.map_map]
  rfl
theorem AD.items_lev {d x : AD} (h : x ∈ d.items) : x.lev < d.lev := by
  cases d with
  | s u => cases h
  | i n => cases h
  | l us => obtain ⟨u, _, rfl⟩ := List.mem_map.mp h; exact Nat.zero_lt_one
  | p sg us =>
    rcases List.mem_cons.mp h with h | h
    · rw [h]; exact Nat.zero_lt_succ _
    · rw [List.mem_singleton.mp h]; exact Nat.lt_succ_self _
/-- of this type -/
def TyE (e : En) (T : String) : Prop := ∀ (K : PySem.W.Frag) v (ω : Wo), e.r v ω.M → TyX K ω.H v (.type T)
theorem ty_lst {es : List En} : TyE (eLst es) "list" := fun K v ω ⟨a, vs, e, ha, _⟩ => by rw [e]; exact .base (.lst (ω.sub _ _ ha))
theorem ty_str {x : Str} : TyE (eS x) "str" := fun K v ω e => by rw [show v = V.str x from e]; exact .base (.str x)
theorem ty_int {i : Int} : TyE (eI i) "int" := fun K v ω e => by rw [show v = V.int i from e]; exact .base (.int i)
theorem op_isi {K : PySem.W.Frag} {e : En} {T U : String} {b : Bool} (h : TyE e T) (k : PySem.W.kitOne K (.type T) (.type U) = some b) : OpC (rIsi K) [e, eLit (.ty U)] (eB b) := fun vs ω Q hv q => by
  match vs, hv with
  | [x, c], ⟨hx, hc, _⟩ =>
    cases (show c = V.ty U from hc)
    exact ⟨x, .ty U, .type T, .type U, b, rfl, .ty U, h K x ω hx, k, q _ ω (LeX.refl _ _) rfl⟩
theorem op_isiT {K : PySem.W.Frag} {e : En} {T U V' : String} {b : Bool} (h : TyE e T) (k : PySem.W.kitAny K (.type T) [.type U, .type V'] = some b) : OpC (rIsiT K) [e, eTup [eLit (.ty U), eLit (.ty V')]] (eB b) := fun vs ω Q hv q => by
  match vs, hv with
  | [x, c], ⟨hx, ⟨a, cs, e1, ha, hcs⟩, _⟩ =>
    subst e1
    match cs, hcs with
    | [c1, c2], ⟨h1, h2, _⟩ =>
      cases (show c1 = V.ty U from h1)
      cases (show c2 = V.ty V' from h2)
      exact ⟨x, a, [.ty U, .ty V'], .type T, [.type U, .type V'], b, rfl, ω.sub _ _ ha, .cons (.ty U) (.cons (.ty V') .nil), h K x ω hx, k, q _ ω (LeX.refl _ _) rfl⟩
theorem op_neB {a b : Bool} : Op2 rNe (eB a) (eB b) (eB (a != b)) := by
  have := op_Ne (v := .bl a) (w := .bl b) rfl
  have e : (!decide (V.bl a = V.bl b)) = (a != b) := by
    cases a <;> cases b <;> decide
  rw [e] at this
  exact this
theorem op_isNo {v : V} (h : v ≠ .non) : Op2 (fun x y H Q => y = .non ∧ Q (.bl (decide (x = .non))) H) (eLit v) eN (eB false) := by
  have := op_isN' (v := v)
  rw [decide_eq_false h] at this
  exact this
section
variable {P : Program} {w : World} {K : PySem.W.Frag} {mg : Str → Option Value} {base : Heap}
theorem kb {T U : String} {b : Bool} (h : kitB T U = some b) : PySem.W.kitOne K (.type T) (.type U) = some b := kit_ty h
abbrev s__law_alike : Stmt := topS 48
abbrev n__law_alike : List Str := ["_law_found", "_law_due", "_law_one", "_law_other"]
abbrev p__law_alike : List Str := ["_law_found", "_law_due"]
theorem sc__law_alike : FnScope n__law_alike p__law_alike (defScope s__law_alike) := ⟨rfl, rfl, rfl, by decide +kernel, rfl, by decide +kernel, by decide +kernel⟩
def spLAlike (k : Nat) : Sp := spFn (β := AD) (fun d => [eAD d, eAD d]) (fun d => d.lev < k) (fun _ => eB true)
theorem ok_lalike {k : Nat} {d : AD} (h : d.lev < k) : SpOk (spLAlike k) [eAD d, eAD d] (eB true) := spFn_ok (β := AD) d h
abbrev LAlike (P : Program) (w : World) (K : PySem.W.Frag) (mg : Str → Option Value) (base : Heap) (j k : Nat) : Prop := Cal P w K mg base "_law_alike" p__law_alike j (spLAlike k)
theorem cal_lalike0 (D : DefAt K mg "_law_alike" s__law_alike) : LAlike P w K mg base 0 0 := by
  obtain ⟨f, fd, F, m⟩ := D.ex
  refine ⟨f, fd, ⟨fun vs H Q E ⟨b, ω, _, h, _⟩ => absurd h (Nat.not_lt_zero _), fun A outer s H args us vs Q E _ _ _ _ ⟨b, ω, _, h, _⟩ => absurd h (Nat.not_lt_zero _)⟩, m, F.kp, F.binds fun _ _ _ _ _ _ us hl => match us, hl with | [_, _], _ => rfl⟩
theorem cal_lalike (T : Txt K mg) (D : DefAt K mg "_law_alike" s__law_alike) {j k : Nat} (c__law_alike : LAlike P w K mg base j k) : LAlike P w K mg base (j + 1) (k + 1) := by
  refine cal_of D sc__law_alike (fun _ _ _ _ _ _ us hl => match us, hl with | [_, _], _ => rfl) (len_fn fun _ => rfl) fun f cdv A outer s H E hr => ⟨_, (Evl.pss_cut (ps_if (pt_cmpR op_isN (pv 1) pe_non (nomark _)) (pss_one (ps_ret (pe_cmpR op_isN (pv 0) pe_non (nomark _)))) pss_nil)
 (Evl.pss_cut (ps_if (pt_val (pe_callB call_isiT (by rfl) T.isinstance (by decide +kernel) (pa_cons (pv 1) (pa_cons (pe_tup (pa_cons (pe_bltn (by rfl) T.list (by decide +kernel) (v := .ty "list") rfl) (pa_cons (pe_bltn (by rfl) T.tuple (by decide +kernel) (v := .ty "tuple") rfl) pa_nil))) pa_nil)))) (Evl.pss_cut (ps_if (PW.pt (pw_or (pt_not (pt_val (pe_callB call_isiT (by rfl) T.isinstance (by decide +kernel) (pa_cons (pv 0) (pa_cons (pe_tup (pa_cons (pe_bltn (by rfl) T.list (by decide +kernel) (v := .ty "list") rfl) (pa_cons (pe_bltn (by rfl) T.tuple (by decide +kernel) (v := .ty "tuple") rfl) pa_nil))) pa_nil))))) (pw_or1 (pt_cmpR op_ne (pe_callB call_isi (by rfl) T.isinstance (by decide +kernel) (pa_cons (pv 0) (pa_cons (pe_bltn (by rfl) T.list (by decide +kernel) (v := .ty "list") rfl) pa_nil))) (pe_callB call_isi (by rfl) T.isinstance (by decide +kernel) (pa_cons (pv 1) (pa_cons (pe_bltn (by rfl) T.list (by decide +kernel) (v := .ty "list") rfl) pa_nil))) (nomark _))))) (pss_one (ps_ret pe_bl)) pss_nil)
 (Evl.pss_cut (ps_if (pt_cmpR op_ne (pe_callB call_len_seq (by rfl) T.len (by decide +kernel) (pa_cons (pv 0) pa_nil)) (pe_callB call_len_seq (by rfl) T.len (by decide +kernel) (pa_cons (pv 1) pa_nil)) (nomark _)) (pss_one (ps_ret pe_bl)) pss_nil)
 (pss_cons (ps_for PassesOwn.never rfl (pi_zip (by rfl) T.zip (pa_cons (pv 0) (pa_cons (pv 1) pa_nil))) (pg_tup rfl (pgs_cons (pg_name (i := 2) sc__law_alike.nd rfl (Or.inl rfl)) (pgs_cons (pg_name (i := 3) sc__law_alike.nd rfl (Or.inl rfl)) pgs_nil)))
 (pss_one (ps_if (pt_not (pt_val (pe_cal c__law_alike hr rfl (pa_cons (pv 2) (pa_cons (pv 3) pa_nil)) (Nat.le_refl _)))) (pss_one (ps_ret pe_bl)) pss_nil)))
 (pss_one (ps_ret pe_bl))))) pss_nil)
 (Evl.pss_cut (ps_if (pt_val (pe_callB call_isi (by rfl) T.isinstance (by decide +kernel) (pa_cons (pv 1) (pa_cons (pe_bltn (by rfl) T.str (by decide +kernel) (v := .ty "str") rfl) pa_nil)))) (pss_one (ps_ret (pe_and (pe_callB call_isi (by rfl) T.isinstance (by decide +kernel) (pa_cons (pv 0) (pa_cons (pe_bltn (by rfl) T.str (by decide +kernel) (v := .ty "str") rfl) pa_nil))) (pe_one (pe_cmpR op_eq (pv 0) (pv 1) (nomark _)))))) pss_nil)
 (Evl.pss_cut (ps_if (pt_cmpR op_ne (pe_callB call_isi (by rfl) T.isinstance (by decide +kernel) (pa_cons (pv 0) (pa_cons (pe_bltn (by rfl) T.bool (by decide +kernel) (v := .ty "bool") rfl) pa_nil))) (pe_callB call_isi (by rfl) T.isinstance (by decide +kernel) (pa_cons (pv 1) (pa_cons (pe_bltn (by rfl) T.bool (by decide +kernel) (v := .ty "bool") rfl) pa_nil))) (nomark _)) (pss_one (ps_ret pe_bl)) pss_nil)
 (pss_one (ps_ret (pe_and (pe_callB call_isi (by rfl) T.isinstance (by decide +kernel) (pa_cons (pv 0) (pa_cons (pe_bltn (by rfl) T.int (by decide +kernel) (v := .ty "int") rfl) pa_nil))) (pe_one (pe_cmpR op_eq (pv 0) (pv 1) (nomark _)))))))))), body_fn fun d hd ω Q hQ => ?_⟩
  have hQ : ∀ v ω', LeX [] ω ω' → (eB true).r v ω'.M → Q v ω'.H := hQ
  have hd : d.lev < k + 1 := hd
  show Tr _ (As (bs0 ω) (Γ0 n__law_alike [eAD d, eAD d]) []) _
  have scal : ∀ (v : V) (T : String), (T = "str" ∧ ∃ x, v = .str x) ∨ (T = "int" ∧ ∃ i, v = .int i) → True := fun _ _ _ => trivial
  have three : (∃ xs : List AD, eAD d = eLst (xs.map eAD) ∧ ∀ x ∈ xs, x.lev < k) ∨ (∃ u, eAD d = eM u) ∨ ∃ n, eAD d = eI n := by
    cases d with
    | s u => exact .inr (.inl ⟨u, rfl⟩)
    | i n => exact .inr (.inr ⟨n, rfl⟩)
    | l us => exact .inl ⟨AD.items (.l us), AD.items_l us, fun x hx => Nat.lt_of_lt_of_le (AD.items_lev hx) (Nat.le_of_lt_succ hd)⟩
    | p sg us => exact .inl ⟨AD.items (.p sg us), rfl, fun x hx => Nat.lt_of_lt_of_le (AD.items_lev hx) (Nat.le_of_lt_succ hd)⟩
  have tup2 : ∀ {Γ : List (Option En)} , EvA [] (tCons (tC (.ty "list")) (tCons (tC (.ty "tuple")) tNil)) Γ [] [eLit (.ty "list"), eLit (.ty "tuple")] [] := fun {Γ} => ea_cons ev_c (ea_cons ev_c ea_nil)
  rcases three with ⟨xs, hL, hx⟩ | ⟨u, hL⟩ | ⟨n, hL⟩
  · rw [hL]
    refine tr_cut (As (bs0 ω) [some (eLst (xs.map eAD)), some (eLst (xs.map eAD)), none, none] []) ?_ ?_
    · exact s_if (C := []) (c := false) (et_test (ev_op (ev_var rfl) ev_c op_isNL)) (fun h => nomatch h) (fun _ => s_next fun _ _ h => h)
    refine tr_cut (fun _ _ => False) ?_ (fun _ _ h => h.elim)
    refine s_if (C := []) (c := true) (et_B (ev_cb (ea_cons (ev_var rfl) (ea_cons (ev_tup tup2 (Nat.le_of_ble_eq_true rfl)) ea_nil)) (op_isiT ty_lst (by rfl)))) (fun _ => ?_) (fun h => nomatch h)
    refine tr_cut (As (bs0 ω) [some (eLst (xs.map eAD)), some (eLst (xs.map eAD)), none, none] []) ?_ ?_
    · exact s_if (C := []) (c := false) (et_or (c := false) (c' := false) (et_not (c := true) (et_B (ev_cb (ea_cons (ev_var rfl) (ea_cons (ev_tup tup2 (Nat.le_of_ble_eq_true rfl)) ea_nil)) (op_isiT ty_lst (by rfl))))) fun _ => et_test (ev_op (ev_cb (ea_cons (ev_var rfl) (ea_cons ev_c ea_nil)) (op_isi ty_lst (b := true) (by rfl))) (ev_cb (ea_cons (ev_var rfl) (ea_cons ev_c ea_nil)) (op_isi ty_lst (b := true) (by rfl))) op_neB)) (fun h => nomatch h) (fun _ => s_next fun _ _ h => h)
    refine tr_cut (As (bs0 ω) [some (eLst (xs.map eAD)), some (eLst (xs.map eAD)), none, none] []) ?_ ?_
    · refine s_if (C := []) (c := false) (et_is (et_test (ev_op (ev_cb (ea_cons (ev_var rfl) ea_nil) op_lenL) (ev_cb (ea_cons (ev_var rfl) ea_nil) op_lenL) op_neI)) ?_) (fun h => nomatch h) (fun _ => s_next fun _ _ h => h)
      rw [decide_eq_true rfl]; rfl
    refine q_for (C := []) (β := Unit) (fun _ _ => True) (fun i _ => [some (eLst (xs.map eAD)), some (eLst (xs.map eAD)), none, none]) (fun i _ => [some (eLst (xs.map eAD)), some (eLst (xs.map eAD)), some (itm (xs.map eAD) i), some (itm (xs.map eAD) i)]) (fun _ _ => []) (it_zip (ea_cons (ev_var rfl) (ea_cons (ev_var rfl) ea_nil)) (n := xs.length) (by rw [List.length_map, Nat.min_self])) ?_ (fun i _ hi _ => tg_tup rfl (tgs_cons tg_name (tgs_cons tg_name tgs_nil))) (fun mm i _ hi _ => ?_) (fun _ _ => ?_)
    · exact ⟨(), trivial, ⟨rfl, rfl, trivial⟩, rfl⟩
    · rw [itm_map (.i 0) hi]
      exact s_if (C := []) (c := false) (et_not (c := true) (et_B (ev_call (ea_cons (ev_var rfl) (ea_cons (ev_var rfl) ea_nil)) (ok_lalike (hx _ (getD_mem _ hi)))))) (fun h => nomatch h) (fun _ => s_next (lp_mk () trivial rfl ⟨rfl, rfl, trivial⟩))
    exact s_ret (C := []) ev_c fun v ω' l _ hv => hQ v ω' l hv
  · rw [hL]
    refine tr_cut (As (bs0 ω) [some (eM u), some (eM u), none, none] []) ?_ ?_
    · exact s_if (C := []) (c := false) (et_test (ev_op (ev_var rfl) ev_c (op_isNo (fun z => nomatch z)))) (fun h => nomatch h) (fun _ => s_next fun _ _ h => h)
    refine tr_cut (As (bs0 ω) [some (eM u), some (eM u), none, none] []) ?_ ?_
    · exact s_if (C := []) (c := false) (et_B (ev_cb (ea_cons (ev_var rfl) (ea_cons (ev_tup tup2 (Nat.le_of_ble_eq_true rfl)) ea_nil)) (op_isiT ty_str (by rfl)))) (fun h => nomatch h) (fun _ => s_next fun _ _ h => h)
    refine tr_cut (fun _ _ => False) ?_ (fun _ _ h => h.elim)
    refine s_if (C := []) (c := true) (et_B (ev_cb (ea_cons (ev_var rfl) (ea_cons ev_c ea_nil)) (op_isi ty_str (by rfl)))) (fun _ => ?_) (fun h => nomatch h)
    refine s_ret (C := []) (ev_is (ev_andV (c := true) (c' := decide (u = u)) (ev_cb (ea_cons (ev_var rfl) (ea_cons ev_c ea_nil)) (op_isi ty_str (by rfl))) fun _ => ev_op (ev_var rfl) (ev_var rfl) op_eqM) ?_) fun v ω' l _ hv => hQ v ω' l hv
    rw [decide_eq_true rfl]; rfl
  · rw [hL]
    refine tr_cut (As (bs0 ω) [some (eI n), some (eI n), none, none] []) ?_ ?_
    · exact s_if (C := []) (c := false) (et_test (ev_op (ev_var rfl) ev_c (op_isNo (fun z => nomatch z)))) (fun h => nomatch h) (fun _ => s_next fun _ _ h => h)
    refine tr_cut (As (bs0 ω) [some (eI n), some (eI n), none, none] []) ?_ ?_
    · exact s_if (C := []) (c := false) (et_B (ev_cb (ea_cons (ev_var rfl) (ea_cons (ev_tup tup2 (Nat.le_of_ble_eq_true rfl)) ea_nil)) (op_isiT ty_int (by rfl)))) (fun h => nomatch h) (fun _ => s_next fun _ _ h => h)
    refine tr_cut (As (bs0 ω) [some (eI n), some (eI n), none, none] []) ?_ ?_
    · exact s_if (C := []) (c := false) (et_B (ev_cb (ea_cons (ev_var rfl) (ea_cons ev_c ea_nil)) (op_isi ty_int (by rfl)))) (fun h => nomatch h) (fun _ => s_next fun _ _ h => h)
    refine tr_cut (As (bs0 ω) [some (eI n), some (eI n), none, none] []) ?_ ?_
    · exact s_if (C := []) (c := false) (et_test (ev_op (ev_cb (ea_cons (ev_var rfl) (ea_cons ev_c ea_nil)) (op_isi ty_int (b := false) (by rfl))) (ev_cb (ea_cons (ev_var rfl) (ea_cons ev_c ea_nil)) (op_isi ty_int (b := false) (by rfl))) op_neB)) (fun h => nomatch h) (fun _ => s_next fun _ _ h => h)
    refine s_ret (C := []) (ev_is (ev_andV (c := true) (c' := decide (n = n)) (ev_cb (ea_cons (ev_var rfl) (ea_cons ev_c ea_nil)) (op_isi ty_int (by rfl))) fun _ => ev_op (ev_var rfl) (ev_var rfl) op_eqI) ?_) fun v ω' l _ hv => hQ v ω' l hv
    rw [decide_eq_true rfl]; rfl
end
end Tw

/-! the law's draws -/
namespace Tw
open PySem L2 PyProof.Rows

/-- the deck at d, its great ones at g, at most n draws done -/
def rDk (d g : Addr) (n : Nat) : Rs := ⟨[d, g], fun ω => ∃ (xs : List Int) (a b : Int) (c : Nat), (0 ≤ b ∧ b ≤ 2 ^ 62 ∧ c ≤ n ∧ xs.length ≤ 63) ∧ (rL d [eR g, eI a, eI b, eI (c : Int)]).r ω ∧ (rL g (xs.map fun i => eI i)).r ω, fun ω ω' ⟨xs, a, b, c, h, h1, h2⟩ m e => ⟨xs, a, b, c, h, (rL d _).st ω ω' h1 m fun x hx => e x (by rw [List.mem_singleton.mp hx]; exact List.mem_cons_self), (rL g _).st ω ω' h2 m fun x hx => e x (by rw [List.mem_singleton.mp hx]; exact List.mem_cons_of_mem _ List.mem_cons_self)⟩⟩
structure Dk where
  xs : List Int
  a : Int
  b : Int
  c : Nat
abbrev Dk.Ok (k : Dk) (n : Nat) : Prop := 0 ≤ k.b ∧ k.b ≤ 2 ^ 62 ∧ k.c ≤ n ∧ k.xs.length ≤ 63
abbrev Dk.rs (d g : Addr) (k : Dk) : List Rs := [rL d [eR g, eI k.a, eI k.b, eI (k.c : Int)], rL g (k.xs.map fun i => eI i)]
section
variable {W : Bs} {C : List Addr} {Γ : List (Option En)} {Δ Δ1 Δ2 Δ3 : List Rs} {D : Ends} {t : TS} {te ta tb to : TE} {K : PySem.W.Frag}
theorem t_deck {d g : Addr} {n : Nat} (hk : ∀ k : Dk, k.Ok n → Tr t (As W Γ (Dk.rs d g k)) D) : Tr t (As W Γ [rDk d g n]) D := fun σ H ⟨ω, h1, h2, hm, h3, h4⟩ => by
  obtain ⟨⟨xs, a, b, c, h, r1, r2⟩, hA, hN⟩ := satD1.mp h4
  refine hk ⟨xs, a, b, c⟩ h σ H ⟨ω, h1, h2, hm, h3, fun ρ hρ => ?_, fun x hx => hA x hx, hN⟩
  rcases List.mem_cons.mp hρ with e | e
  · rw [e]; exact r1
  · rw [List.mem_singleton.mp e]; exact r2
theorem sat_deck {d g : Addr} {n : Nat} {k : Dk} {ω : Wo} (h : k.Ok n) (s : SatD (Dk.rs d g k) ω) : SatD [rDk d g n] ω :=
  satD1.mpr ⟨⟨k.xs, k.a, k.b, k.c, h, s.r _ List.mem_cons_self, s.r _ (List.mem_cons_of_mem _ List.mem_cons_self)⟩, fun x hx => s.a x hx, s.nd⟩
theorem dp_ints {H : Hp} {M : Hp} : ∀ {xs : List Int} {vs : List V}, Args (xs.map fun i => eI i) vs M → DpAll K H vs (xs.map PyData.int)
  | [], [], _ => .nil
  | x :: xs, v :: vs, h => by
    cases (show v = V.int x from h.1)
    exact .cons (.int x) (dp_ints h.2)
  | [], _ :: _, h => h.elim
  | _ :: _, [], h => h.elim
theorem shp_ints (xs : List Int) : SeqAt.shaped (.list (xs.map PyData.int)) = true := by
  have lay : ∀ xs : List Int, PyData.canLayAll0 (xs.map PyData.int) = true := by
    intro xs
    induction xs with
    | nil => rfl
    | cons x xs ih => rw [List.map_cons, PyData.canLayAll0, ih]; rfl
  have dep : ∀ xs : List Int, PyData.depthAll (xs.map PyData.int) = 0 := by
    intro xs
    induction xs with
    | nil => rfl
    | cons x xs ih => rw [List.map_cons, PyData.depthAll, ih]; rfl
  unfold SeqAt.shaped
  rw [PyData.canLay0, lay, PyData.depth, dep]
  rfl
/-- list != [], a list of whole numbers that changes -/
theorem ev_neNilM {p : Addr} {xs : List Int} (ha : Ev C ta Γ Δ (eR p) Δ1) (hb : Ev C tb Γ Δ1 (eLst []) Δ2) (hk : rL p (xs.map fun i => eI i) ∈ Δ2) : Ev C (tOp (rNeD K) ta tb) Γ Δ (eB (!decide (xs = []))) Δ2 := ⟨fun σ ω Q s d q =>
  ha.run σ ω _ s d fun x ω1 l1 d1 hx => hb.run σ ω1 _ (s.mono l1.m) d1 fun y ω2 l2 d2 hy => by
    cases (show x = V.ref p from hx)
    obtain ⟨b, ws, rfl, hb, hw⟩ := hy
    obtain ⟨vs, h1, h2⟩ := d2.r _ hk
    have ew : ws = [] := List.length_eq_zero_iff.mp hw.len
    subst ew
    refine ⟨.list (xs.map PyData.int), .list [], .lst (SqL.of h1) (dp_ints h2), .lst (SqL.of (ω2.sub _ _ hb)) .nil, shp_ints xs, rfl, ?_⟩
    have e : (!PyData.eqv (.list (xs.map PyData.int)) (.list [])) = !decide (xs = []) := by
      cases xs with
      | nil => rfl
      | cons x xs => rfl
    rw [e]
    exact q _ ω2 (l1.trans l2) d2 rfl⟩
/-- list.pop() -/
theorem ev_pop {p : Addr} {k : Nat} {es : List En} {e : En} (ho : Ev C to Γ Δ (eR p) Δ1) (hk : Δ1[k]? = some (rL p (es ++ [e]))) (hC : p ∈ C) (hΔ : Δ1.set k (rL p es) = Δ2) : Ev C (tBM0 K "list" rPop to) Γ Δ e Δ2 := ⟨fun σ ω Q s d q => by
  subst hΔ
  refine ho.run σ ω _ s d fun x ω1 l1 d1 hx => ?_
  cases (show x = V.ref p from hx)
  obtain ⟨vs, h1, h2⟩ := d1.r _ (List.mem_of_getElem? hk)
  have hl := h2.len
  rw [List.length_append, List.length_singleton] at hl
  have hne : vs ≠ [] := fun z => by rw [z] at hl; cases hl
  obtain ⟨ws, y, rfl⟩ : ∃ ws y, vs = ws ++ [y] := ⟨_, _, (List.dropLast_concat_getLast hne).symm⟩
  have hlw : ws.length = es.length := by rw [List.length_append, List.length_singleton] at hl; omega
  have split : ∀ {es : List En} {ws : List V}, ws.length = es.length → Args (es ++ [e]) (ws ++ [y]) ω1.M → Args es ws ω1.M ∧ e.r y ω1.M := by
    intro es
    induction es with
    | nil =>
      intro ws hl h
      match ws, hl with
      | [], _ => exact ⟨trivial, h.1⟩
    | cons a es ih =>
      intro ws hl h
      match ws, hl with
      | v :: ws, hl =>
        obtain ⟨a1, a2⟩ := ih (by simpa using hl) h.2
        exact ⟨⟨h.1, a1⟩, a2⟩
  obtain ⟨s1, s2⟩ := split hlw h2
  have hM : ω1.M p = none := (d1.a p (List.mem_flatMap.mpr ⟨_, List.mem_of_getElem? hk, List.mem_singleton.mpr rfl⟩)).2
  have l3 : LeX [p] ω1 (ω1.mut p (.lst ws) hM) := Wo.set_le hM
  refine ⟨.inl ⟨rfl, _, SqL.of h1⟩, p, ws ++ [y], y, rfl, rfl, h1, ?_, ?_⟩
  · rw [List.length_append, List.length_singleton, Nat.add_sub_cancel, List.getElem?_append_right (Nat.le_refl _), Nat.sub_self]
    rfl
  · rw [List.dropLast_concat]
    exact q y (ω1.mut p (.lst ws) hM) (l1.trans (l3.mono fun a h => by rw [List.mem_singleton.mp h]; exact hC)) (d1.upd hk l3 (fun _ h => h) rfl ⟨ws, upd_same, s1⟩) s2⟩
/-- list.insert(0, e) -/
theorem ev_insert0 {p : Addr} {k : Nat} {es : List En} {e : En} (ho : Ev C to Γ Δ (eR p) Δ1) (hp1 : rL p es ∈ Δ1) (ha : Ev C te Γ Δ1 e Δ2) (hk : Δ2[k]? = some (rL p es)) (hl : es.length < 100000) (hC : p ∈ C) (hΔ : Δ2.set k (rL p (e :: es)) = Δ3) :
    Ev C (tBM K "list" (fun x vs H Q => ∃ (l : Addr) (xs : List V) (i : Int) (y : V), x = .ref l ∧ vs = [.int i, y] ∧ H l = some (.lst xs) ∧ xs.length < sizeLine ∧ 0 ≤ i ∧ i < 2 ^ 63 ∧ Q .non (upd H l (.lst (xs.take i.toNat ++ [y] ++ xs.drop i.toNat)))) to (tCons (tC (.int 0)) (tCons te tNil))) Γ Δ eN Δ3 := ⟨fun σ ω Q s d q => by
  subst hΔ
  refine ho.run σ ω _ s d fun x ω1 l1 d1 hx => ?_
  cases (show x = V.ref p from hx)
  obtain ⟨vs, h1, h2⟩ := d1.r _ hp1
  refine ⟨.inl ⟨rfl, vs, SqL.of h1⟩, ?_⟩
  show te σ ω1.H _
  refine ha.run σ ω1 _ (s.mono l1.m) d1 fun y ω2 l2 d2 hy => ?_
  obtain ⟨ws, h3, h4⟩ := d2.r _ (List.mem_of_getElem? hk)
  have hM : ω2.M p = none := (d2.a p (List.mem_flatMap.mpr ⟨_, List.mem_of_getElem? hk, List.mem_singleton.mpr rfl⟩)).2
  have l3 : LeX [p] ω2 (ω2.mut p (.lst (y :: ws)) hM) := Wo.set_le hM
  refine ⟨p, ws, 0, y, rfl, rfl, h3, Nat.lt_of_lt_of_le (by rw [h4.len]; exact hl) (by decide), Int.le_refl 0, by decide, ?_⟩
  exact q .non (ω2.mut p (.lst (y :: ws)) hM) ((l1.trans l2).trans (l3.mono fun a h => by rw [List.mem_singleton.mp h]; exact hC)) (d2.upd hk l3 (fun _ h => h) rfl ⟨y :: ws, upd_same, hy, h4⟩) rfl⟩
end
/-- some number below n -/
def eDr (n : Nat) : En := eAny Nat (· < n) fun k => eI (k : Int)
theorem fmod_rng {a : Int} {n : Nat} (h : 0 < n) : ∃ k : Nat, k < n ∧ a.fmod (n : Int) = (k : Int) := by
  have h1 := Int.fmod_nonneg_of_pos a (show (0 : Int) < n by omega)
  have h2 := Int.fmod_lt_of_pos a (show (0 : Int) < n by omega)
  exact ⟨(a.fmod n).toNat, by omega, by omega⟩
structure GD where
  d : Addr
  g : Addr
  n : Nat
  lim : Nat
structure GD.Ok (b : GD) : Prop where
  l0 : 0 < b.lim
  l1 : b.lim < 2 ^ 60
  n : b.n ≤ 500000
section
variable {P : Program} {w : World} {K : PySem.W.Frag} {mg : Str → Option Value} {base : Heap}
abbrev s__law_draw : Stmt := topS 45
abbrev n__law_draw : List Str := ["_law_deck_here", "_law_limit", "_law_stir", "_law_found"]
abbrev p__law_draw : List Str := ["_law_deck_here", "_law_limit"]
theorem sc__law_draw : FnScope n__law_draw p__law_draw (defScope s__law_draw) := ⟨rfl, rfl, rfl, by decide +kernel, rfl, by decide +kernel, by decide +kernel⟩
def spLDraw : Sp := spR (β := GD) (fun b => [eR b.d, eI (b.lim : Int)]) GD.Ok (fun b => eDr b.lim) (fun b => [b.d, b.g]) (fun b => rDk b.d b.g b.n) (fun b => rDk b.d b.g (b.n + 1))
theorem draw_call {d g : Addr} {n lim : Nat} (h0 : 0 < lim) (h1 : lim < 2 ^ 60) (hn : n ≤ 500000) : SpR [d, g] spLDraw [eR d, eI (lim : Int)] (eDr lim) (rDk d g n) (rDk d g (n + 1)) := fun vs ω Q E ha hr h1' h2 hk => ⟨GD.mk d g n lim, ω, rfl, ⟨h0, h1, hn⟩, ha, satD1.mpr ⟨hr, h1', h2⟩, fun v ω' l d hv => hk v ω' l (satD1.mp d).1 hv⟩
abbrev LDraw (P : Program) (w : World) (K : PySem.W.Frag) (mg : Str → Option Value) (base : Heap) : Prop := Cal P w K mg base "_law_draw" p__law_draw 1 spLDraw
theorem cal_ldraw (T : Txt K mg) (D : DefAt K mg "_law_draw" s__law_draw) : LDraw P w K mg base := by
  refine cal_of D sc__law_draw (fun _ _ _ _ _ _ us hl => match us, hl with | [_, _], _ => rfl) (len_r fun _ => rfl) fun f cdv A outer s H E hr => ⟨_, (Evl.pss_cut (ps_if (PW.pt (pw_and (pt_cmpR op_eq (pe_ix ix_list (pv 0) pe_int (fun _ _ => rfl)) pe_int (nomark _)) (pw_and1 (pt_cmpR (op_neD hr.units) (pe_ix ix_list (pv 0) pe_int (fun _ _ => rfl)) (pe_lst pa_nil) (nomark _))))) (pss_one (ps_asg (pe_bm0 PySem.F.plainAttrs_list PySem.F.slot_list_pop PySem.F.type_list_pop mt_pop (pe_ix ix_list (pv 0) pe_int (fun _ _ => rfl))) (pg_sub (pv 0) pe_int set_list))) pss_nil)
 (Evl.pss_cut (ps_if (pt_cmpR op_gt (pe_ix ix_list (pv 0) pe_int (fun _ _ => rfl)) pe_int (nomark _)) (pss_cons (ps_set (i := 3) sc__law_draw.nd rfl (Or.inl rfl) (pe_op op_modN (pe_callTy call_int1 (by rfl) T.int (by decide +kernel) (pa_cons (pe_ix ix_list (pv 0) pe_int (fun _ _ => rfl)) pa_nil)) (pv 1)))
 (pss_cons (ps_asg (pe_op op_fdivX (pe_ix ix_list (pv 0) pe_int (fun _ _ => rfl)) (pv 1)) (pg_sub (pv 0) pe_int set_list))
 (pss_one (ps_ret (pv 3))))) pss_nil)
 (pss_cons (ps_asg (pe_op op_add (pe_ix ix_list (pv 0) pe_int (fun _ _ => rfl)) pe_int) (pg_sub (pv 0) pe_int set_list))
 (pss_cons (ps_set (i := 2) sc__law_draw.nd rfl (Or.inl rfl) (pe_op op_modN (pe_callTy call_int1 (by rfl) T.int (by decide +kernel) (pa_cons (pe_op op_pow (pe_op op_add (pe_ix ix_list (pv 0) pe_int (fun _ _ => rfl)) (pe_op op_mulX (pe_op op_mulX pe_int (pe_ix ix_list (pv 0) pe_int (fun _ _ => rfl))) (pe_ix ix_list (pv 0) pe_int (fun _ _ => rfl)))) pe_int) pa_nil)) pe_int))
 (pss_one (ps_ret (pe_op op_modN (pe_op op_fdivX (pe_op op_modN (pe_callTy call_int1 (by rfl) T.int (by decide +kernel) (pa_cons (pe_op op_mulX (pv 2) (pe_op op_add (pv 2) pe_int)) pa_nil)) pe_int) pe_int) (pv 1)))))))), body_r fun b ok ω Q d0 hQ => ?_⟩
  obtain ⟨d, g, n, lim⟩ := b
  obtain ⟨l0, l1, hn⟩ := ok
  have l0 : 0 < lim := l0
  have l1 : lim < 2 ^ 60 := l1
  have hn : n ≤ 500000 := hn
  have hQ : ∀ v ω', LeX [d, g] ω ω' → SatD [rDk d g (n + 1)] ω' → (eDr lim).r v ω'.M → Q v ω'.H := hQ
  have od : Own (bsS ω [d, g]) [d, g] := fun a ha => .inl ha
  have dS : d ∈ (bsS ω [d, g]).S := List.mem_cons_self
  refine t_deck fun k hk => ?_
  have limI : (lim : Int) ≠ 0 := by omega
  have dvl : ∀ x : Int, DivX x (lim : Int) := fun x => divx_small limI (natm (pw_mono l1 (by decide)))
  refine tr_cut (Lp (bsS ω [d, g]) (fun k : Dk => k.Ok n) (fun _ => [some (eR d), some (eI (lim : Int)), none, none]) (fun k => Dk.rs d g k)) ?_ (tr_lp fun k hk => ?_)
  · refine s_if (C := []) (et_and (et_test (ev_op (ev_ixM (es := [eR g, eI k.a, eI k.b, eI (k.c : Int)]) (j := 1) (ev_var rfl) ev_c List.mem_cons_self rfl) ev_c op_eqI)) fun _ => et_test (ev_neNilM (xs := k.xs) (ev_ixM (es := [eR g, eI k.a, eI k.b, eI (k.c : Int)]) (j := 0) (ev_var rfl) ev_c List.mem_cons_self rfl) (ev_lst ea_nil (Nat.zero_le _)) (by simp))) (fun h => ?_) (fun h => s_next (lp_mk k hk rfl ⟨rfl, rfl, trivial⟩))
    have hne : k.xs ≠ [] := by
      have := (Bool.and_eq_true_iff.mp h).2
      simpa using this
    obtain ⟨xs, a, b, c⟩ := k
    obtain ⟨ys, x, rfl⟩ : ∃ ys x, xs = ys ++ [x] := ⟨_, _, (List.dropLast_concat_getLast hne).symm⟩
    refine s_setix (C := [d, g]) (k := 0) (j := 1) (e := eI x) (es := [eR g, eI a, eI b, eI (c : Int)]) (Δ1 := [rL d [eR g, eI a, eI b, eI (c : Int)], rL g (ys.map fun i => eI i)]) (Δ3 := [rL d [eR g, eI a, eI b, eI (c : Int)], rL g (ys.map fun i => eI i)]) (ev_pop (k := 1) (es := ys.map fun i => eI i) (Δ1 := [rL d [eR g, eI a, eI b, eI (c : Int)], rL g ((ys ++ [x]).map fun i => eI i)]) (ev_ixM (es := [eR g, eI a, eI b, eI (c : Int)]) (j := 0) (ev_var rfl) ev_c List.mem_cons_self rfl) (by rw [map_snoc]; rfl) (by simp) rfl) (ev_var rfl) ev_c rfl (show 1 < 4 by decide) (lp_mk ⟨ys, x, b, c⟩ ?_ rfl ⟨rfl, rfl, trivial⟩) (.inr dS) od
    obtain ⟨k1, k2, k3, k4⟩ := hk
    exact ⟨k1, k2, k3, by rw [List.length_append] at k4; show ys.length ≤ 63; omega⟩
  obtain ⟨xs, a, b, c⟩ := k
  obtain ⟨k1, k2, k3, k4⟩ := hk
  have k1 : 0 ≤ b := k1
  have k2 : b ≤ 2 ^ 62 := k2
  have k3 : c ≤ n := k3
  refine tr_cut (As (bsS ω [d, g]) [some (eR d), some (eI (lim : Int)), none, none] (Dk.rs d g ⟨xs, a, b, c⟩)) ?_ ?_
  · refine s_if (C := []) (et_test (ev_op (ev_ixM (es := [eR g, eI a, eI b, eI (c : Int)]) (j := 1) (ev_var rfl) ev_c List.mem_cons_self rfl) ev_c op_I0)) (fun h => ?_) (fun h => s_next fun _ _ h => h)
    refine q_asg (C := []) (Δ1 := Dk.rs d g ⟨xs, a, b, c⟩) (e := eI (a.fmod (lim : Int))) (ev_op (ev_cb (ea_cons (ev_ixM (es := [eR g, eI a, eI b, eI (c : Int)]) (j := 1) (ev_var rfl) ev_c List.mem_cons_self rfl) ea_nil) op_int1) (ev_var rfl) (op_I limI)) ?_
    refine tr_seq (s_setix (C := []) (k := 0) (j := 1) (e := eI (a.fdiv (lim : Int))) (es := [eR g, eI a, eI b, eI (c : Int)]) (Δ1 := Dk.rs d g ⟨xs, a, b, c⟩) (Δ3 := Dk.rs d g ⟨xs, a, b, c⟩) (ev_op (ev_ixM (es := [eR g, eI a, eI b, eI (c : Int)]) (j := 1) (ev_var rfl) ev_c List.mem_cons_self rfl) (ev_var rfl) (op_I (dvl a))) (ev_var rfl) ev_c rfl (show 1 < 4 by decide) ?_ (.inr dS))
    show Tr _ (As _ _ (Dk.rs d g ⟨xs, a.fdiv (lim : Int), b, c⟩)) _
    refine s_ret (C := []) (ev_var rfl) fun v ω' l ds hv => hQ v ω' l (sat_deck (k := ⟨xs, a.fdiv (lim : Int), b, c⟩) ⟨k1, k2, Nat.le_succ_of_le k3, k4⟩ ds) ?_
    obtain ⟨k, hk1, hk2⟩ := fmod_rng (a := a) l0
    rw [hk2] at hv
    exact ⟨k, hk1, hv⟩
  have cb : ((c : Int) + 1).natAbs < 2 ^ 20 := by
    have : c ≤ 500000 := by omega
    have e : ((c : Int) + 1).natAbs = c + 1 := by omega
    rw [e]
    omega
  have c1 : (7907 * ((c : Int) + 1)).natAbs < 2 ^ 33 := by
    rw [Int.natAbs_mul]
    exact Nat.lt_of_lt_of_le (Nat.mul_lt_mul'' (show (7907 : Int).natAbs < 2 ^ 13 by decide) cb) (by decide)
  have c2 : (7907 * ((c : Int) + 1) * ((c : Int) + 1)).natAbs < 2 ^ 53 := by
    rw [Int.natAbs_mul]
    exact Nat.lt_of_lt_of_le (Nat.mul_lt_mul'' c1 cb) (by decide)
  have c3 : (b + 7907 * ((c : Int) + 1) * ((c : Int) + 1)).natAbs < 2 ^ 64 := by omega
  refine tr_seq (s_setix (C := []) (k := 0) (j := 3) (e := eI ((c : Int) + 1)) (es := [eR g, eI a, eI b, eI (c : Int)]) (Δ1 := Dk.rs d g ⟨xs, a, b, c⟩) (Δ3 := Dk.rs d g ⟨xs, a, b, c⟩) (ev_op (ev_ixM (es := [eR g, eI a, eI b, eI (c : Int)]) (j := 3) (ev_var rfl) ev_c List.mem_cons_self rfl) ev_c op_I0) (ev_var rfl) ev_c rfl (show 3 < 4 by decide) ?_ (.inr dS))
  show Tr _ (As _ _ [rL d [eR g, eI a, eI b, eI ((c : Int) + 1)], rL g (xs.map fun i => eI i)]) _
  refine q_asg (C := []) (Δ1 := [rL d [eR g, eI a, eI b, eI ((c : Int) + 1)], rL g (xs.map fun i => eI i)]) (e := eI (((b + 7907 * ((c : Int) + 1) * ((c : Int) + 1)) ^ (2 : Int).toNat).fmod 1000000000000000000000007)) (ev_op (ev_cb (ea_cons (ev_op (ev_op (ev_ixM (es := [eR g, eI a, eI b, eI ((c : Int) + 1)]) (j := 2) (ev_var rfl) ev_c List.mem_cons_self rfl) (ev_op (ev_op ev_c (ev_ixM (es := [eR g, eI a, eI b, eI ((c : Int) + 1)]) (j := 3) (ev_var rfl) ev_c List.mem_cons_self rfl) (op_I (mulx (a := 13) (by decide) cb (by decide)))) (ev_ixM (es := [eR g, eI a, eI b, eI ((c : Int) + 1)]) (j := 3) (ev_var rfl) ev_c List.mem_cons_self rfl) (op_I (mulx c1 cb (by decide)))) op_I0) ev_c (op_I ⟨by decide, by decide, c3⟩)) ea_nil) op_int1) ev_c (op_I (by decide))) ?_
  generalize hst : ((b + 7907 * ((c : Int) + 1) * ((c : Int) + 1)) ^ (2 : Int).toNat).fmod 1000000000000000000000007 = st
  have s1 : 0 ≤ st := by rw [← hst]; exact Int.fmod_nonneg_of_pos _ (by decide)
  have s2 : st < 1000000000000000000000007 := by rw [← hst]; exact Int.fmod_lt_of_pos _ (by decide)
  have s3 : st.natAbs < 2 ^ 81 := by omega
  have s4 : (st + 41).natAbs < 2 ^ 81 := by omega
  refine s_ret (C := []) (ev_op (ev_op (ev_op (ev_cb (ea_cons (ev_op (ev_var rfl) (ev_op (ev_var rfl) ev_c op_I0) (op_I (mulx s3 s4 (by decide)))) ea_nil) op_int1) ev_c (op_I (by decide))) ev_c (op_I (divx_small (by decide) (Nat.lt_of_lt_of_le (show (1009 : Int).natAbs < 2 ^ 11 by decide) (Nat.pow_le_pow_right (by decide) (by decide)))))) (ev_var rfl) (op_I limI)) fun v ω' l ds hv => hQ v ω' l (sat_deck (k := ⟨xs, a, b, c + 1⟩) ⟨k1, k2, Nat.succ_le_succ k3, k4⟩ ds) ?_
  obtain ⟨k, hk1, hk2⟩ := fmod_rng (a := ((st * (st + 41)).fmod 1000000000000000000117).fdiv 1009) l0
  rw [hk2] at hv
  exact ⟨k, hk1, hv⟩
end
end Tw

/-! the law's deck, numbers -/
namespace Tw
open PySem L2 PyProof.Rows

section
variable {W : Bs} {C C' : List Addr} {Γ : List (Option En)} {Δ Δ1 : List Rs} {D : Ends} {te tl : TE} {K : PySem.W.Frag} {sp : Sp} {es : List En} {e e' a : En} {ρ ρ' : Rs}
theorem s_retX {γ : Type} {fr : γ → List Addr} {ef : γ → En} {Δf : γ → List Rs} (h : EvX C te Γ Δ fr ef Δf) (hk : ∀ g v ω, W.le ω → (∀ a ∈ fr g, W.o.H a = none) → SatD (Δf g) ω → (ef g).r v ω.M → D.rt v ω.H) (o : Own W C := by exact Own.nil _) : Tr (tRet te) (As W Γ Δ) D := fun σ H ⟨ω, h1, h2, hm, h3, h4⟩ => by
  subst h1
  exact h.run σ ω _ h3 h4 fun g v ω' l f d hv => hk g v ω' (h2.ch l o) (fun a ha => free_o h2 (f a ha)) d hv
theorem s_retP {γ : Type} {p : γ → Prop} {ef : γ → En} {Δf : γ → List Rs} (h : EvP C te Γ Δ p ef Δf) (hk : ∀ g v ω, p g → W.le ω → SatD (Δf g) ω → (ef g).r v ω.M → D.rt v ω.H) (o : Own W C := by exact Own.nil _) : Tr (tRet te) (As W Γ Δ) D := fun σ H ⟨ω, h1, h2, hm, h3, h4⟩ => by
  subst h1
  exact h.run σ ω _ h3 h4 fun g v ω' pg l d hv => hk g v ω' pg (h2.ch l o) d hv
theorem spok_any1 {α : Type} {P : α → Prop} {f : α → En} (h : ∀ x, P x → SpOk sp (f x :: es) e) : SpOk sp (eAny α P f :: es) e := fun vs ω Q E hv k => by
  match vs, hv with
  | v :: vs, ⟨⟨x, px, hx⟩, hvs⟩ => exact h x px (v :: vs) ω Q E ⟨hx, hvs⟩ k
theorem spok_any2 {α : Type} {P : α → Prop} {f : α → En} (h : ∀ x, P x → SpOk sp (a :: f x :: es) e) : SpOk sp (a :: eAny α P f :: es) e := fun vs ω Q E hv k => by
  match vs, hv with
  | u :: v :: vs, ⟨hu, ⟨x, px, hx⟩, hvs⟩ => exact h x px (u :: v :: vs) ω Q E ⟨hu, hx, hvs⟩ k
theorem spok_le (h : SpOk sp es e) (l : EnLe e e') : SpOk sp es e' := fun vs ω Q E hv k => h vs ω Q E hv fun v ω' l' hv' => k v ω' l' (l v _ hv')
theorem spr_any2 {α : Type} {P : α → Prop} {f : α → En} (h : ∀ x, P x → SpR C sp (a :: f x :: es) e ρ ρ') : SpR C sp (a :: eAny α P f :: es) e ρ ρ' := fun vs ω Q E hv h1 h2 h3 k => by
  match vs, hv with
  | u :: v :: vs, ⟨hu, ⟨x, px, hx⟩, hvs⟩ => exact h x px (u :: v :: vs) ω Q E ⟨hu, hx, hvs⟩ h1 h2 h3 k
theorem spr_le (h : SpR C sp es e ρ ρ') (l : EnLe e e') : SpR C sp es e' ρ ρ' := fun vs ω Q E hv h1 h2 h3 k => h vs ω Q E hv h1 h2 h3 fun v ω' l' r hv' => k v ω' l' r (l v _ hv')
/-- the script's list -/
def eSq (K : PySem.W.Frag) (vs : List V) : En := ⟨fun v M => ∃ a, v = .ref a ∧ ∀ H : Hp, (∀ x o, M x = some o → H x = some o) → SqL K H a vs, fun _ _ _ k ⟨a, e, h⟩ => ⟨a, e, fun H q => h H fun x o z => q x o (k x o z)⟩⟩
theorem it_sq {vs : List V} (h : Ev C tl Γ Δ (eSq K vs) Δ1) : ItOk W C (iList K tl) Γ Δ vs.length (itm (vs.map eLit)) Δ1 := fun σ ω R l0 s d k => by
  refine h.run σ ω _ s d fun v ω1 l d1 hv => ?_
  obtain ⟨a, rfl, ha⟩ := hv
  refine ⟨a, rfl, ⟨vs, ha _ ω1.sub⟩, k _ ω1 l d1 fun ω2 _ m => ?_⟩
  have h2 : SqL K ω2.H a vs := ha _ fun x o z => ω2.sub x o (m x o z)
  refine ⟨fun i hi => ⟨⟨vs, vs[i], h2, List.getElem?_eq_getElem hi⟩, fun x H' y => ?_⟩, ⟨vs, h2, Nat.le_refl _⟩⟩
  obtain ⟨e1, y⟩ := y
  refine ⟨ω2, e1.symm, LeX.refl _ _, ?_⟩
  rw [itm_at (e := eLit x) (by rw [List.getElem?_map, y vs h2]; rfl)]
  rfl
end
section
variable {P : Program} {w : World} {K : PySem.W.Frag} {mg : Str → Option Value} {base : Heap}
abbrev s__law_deck : Stmt := topS 44
abbrev n__law_deck : List Str := ["_law_script", "_law_cell", "_law_mark", "_law_great"]
abbrev p__law_deck : List Str := ["_law_script"]
theorem sc__law_deck : FnScope n__law_deck p__law_deck (defScope s__law_deck) := ⟨rfl, rfl, rfl, by decide +kernel, rfl, by decide +kernel, by decide +kernel⟩
def spLDeck (K : PySem.W.Frag) : Sp := fun vs H Q _ => ∃ (ns : List Int) (ω : Wo), ω.H = H ∧ ns.length ≤ 63 ∧ Args [eSq K (ns.map V.int)] vs ω.M ∧ ∀ d g v ω', LeX [] ω ω' → ω.H d = none → ω.H g = none → SatD [rDk d g 0] ω' → v = .ref d → Q v ω'.H
abbrev LDeck (P : Program) (w : World) (K : PySem.W.Frag) (mg : Str → Option Value) (base : Heap) : Prop := Cal P w K mg base "_law_deck" p__law_deck 1 (spLDeck K)
theorem cal_ldeck (T : Txt K mg) (D : DefAt K mg "_law_deck" s__law_deck) : LDeck P w K mg base := by
  refine cal_of D sc__law_deck (fun _ _ _ _ _ _ us hl => match us, hl with | [_], _ => rfl) (fun vs H Q E ⟨ns, ω, _, _, a, _⟩ => by rw [a.len]; rfl) fun f cdv A outer s H E hr => ⟨_, (pss_cons (ps_par (i := 2) (j := 3) rfl sc__law_deck.nd rfl rfl (by decide) rfl rfl (pa_cons pe_int (pa_cons (pe_lst pa_nil) pa_nil)) rfl)
 (pss_cons (ps_for PassesOwn.never rfl (pi_list (pv 0)) (pg_name (i := 1) sc__law_deck.nd rfl (Or.inl rfl))
 (pss_one (ps_if (pt_cmpR op_ge (pv 1) (pe_op op_pow pe_int pe_int) (nomark _)) (pss_one (ps_expr (pe_bm PySem.F.plainAttrs_list PySem.F.slot_list_insert PySem.F.type_list_insert mt_insert (pv 3) (pa_cons pe_int (pa_cons (pe_op op_sub (pv 1) (pe_op op_pow pe_int pe_int)) pa_nil))))) (pss_one (ps_set (i := 2) sc__law_deck.nd rfl (Or.inl rfl) (pe_op op_add (pe_op op_modN (pe_callTy call_int1 (by rfl) T.int (by decide +kernel) (pa_cons (pe_op op_pow (pe_op op_add (pv 2) (pe_op op_modN (pe_callTy call_int1 (by rfl) T.int (by decide +kernel) (pa_cons (pv 1) pa_nil)) pe_int)) pe_int) pa_nil)) pe_int) pe_int))))))
 (pss_one (ps_ret (pe_lst (pa_cons (pv 3) (pa_cons pe_int (pa_cons (pv 2) (pa_cons pe_int pa_nil))))))))), fun vs H Q E' ⟨ns, ω, e1, hns, ha, hQ⟩ => ?_⟩
  subst e1
  suffices h : Tr _ (As (bs0 ω) (Γ0 n__law_deck [eSq K (ns.map V.int)]) []) (endsOf Q) from h _ _ ⟨ω, rfl, LeX.refl _ _, fun _ _ z => z, sat_start ha, SatD.nil _⟩
  refine q_parEN (C := []) (Δ2 := []) (e := eI 40961) ev_c fun p hp => ?_
  refine q_for (C := []) (β := Int × List Int) (fun i x => 0 ≤ x.1 ∧ x.1 ≤ 2 ^ 62 ∧ x.2.length ≤ i) (fun i x => [some (eSq K (ns.map V.int)), none, some (eI x.1), some (eR p)]) (fun i x => [some (eSq K (ns.map V.int)), some (eI (ns.getD i 0)), some (eI x.1), some (eR p)]) (fun i x => [rL p (x.2.map fun i => eI i)]) (it_sq (ev_var rfl)) ?_ (fun i x hi _ => ?_) (fun mm i x hi hx => ?_) (fun x hx => ?_)
  · exact ⟨(40961, []), ⟨by decide, by decide, Nat.le_refl _⟩, ⟨rfl, rfl, rfl, trivial⟩, rfl⟩
  · rw [List.length_map] at hi
    rw [show itm ((ns.map V.int).map eLit) i = eI (ns.getD i 0) by rw [List.map_map]; exact itm_map 0 hi]
    exact tg_name
  · rw [List.length_map] at hi
    obtain ⟨mk, xs⟩ := x
    obtain ⟨m1, m2, m3⟩ := hx
    have m1 : 0 ≤ mk := m1
    have m2 : mk ≤ 2 ^ 62 := m2
    have m3 : xs.length ≤ i := m3
    generalize ns.getD i 0 = cell
    have pw : CPow 10 18 := ⟨by decide, by decide, by decide⟩
    refine s_if (C := []) (et_test (ev_op (ev_var rfl) (ev_op ev_c ev_c (op_I pw)) op_I0)) (fun _ => ?_) (fun _ => ?_)
    · refine s_drop (C := [p]) (Δ1 := [rL p (((cell - 10 ^ (18 : Int).toNat) :: xs).map fun i => eI i)]) (ev_insert0 (k := 0) (es := xs.map fun i => eI i) (e := eI (cell - 10 ^ (18 : Int).toNat)) (Δ2 := [rL p (xs.map fun i => eI i)]) (ev_var rfl) List.mem_cons_self (ev_op (ev_var rfl) (ev_op ev_c ev_c (op_I pw)) op_I0) rfl (by rw [List.length_map]; omega) List.mem_cons_self rfl) (lp_mk (mk, (cell - 10 ^ (18 : Int).toNat) :: xs) ⟨m1, m2, by show _ + 1 ≤ _; omega⟩ rfl ⟨rfl, rfl, rfl, trivial⟩) (own1 hp)
    · have r1 := Int.fmod_nonneg_of_pos cell (show (0 : Int) < 1000000000039 by decide)
      have r2 := Int.fmod_lt_of_pos cell (show (0 : Int) < 1000000000039 by decide)
      have b1 : (mk + cell.fmod 1000000000039).natAbs < 2 ^ 64 := by omega
      have q1 := Int.fmod_nonneg_of_pos ((mk + cell.fmod 1000000000039) ^ (3 : Int).toNat) (show (0 : Int) < 1000000000000000003 by decide)
      have q2 := Int.fmod_lt_of_pos ((mk + cell.fmod 1000000000039) ^ (3 : Int).toNat) (show (0 : Int) < 1000000000000000003 by decide)
      refine s_asg (C := []) (e := eI (((mk + cell.fmod 1000000000039) ^ (3 : Int).toNat).fmod 1000000000000000003 + 1)) (ev_op (ev_op (ev_cb (ea_cons (ev_op (ev_op (ev_var rfl) (ev_op (ev_cb (ea_cons (ev_var rfl) ea_nil) op_int1) ev_c (op_I (by decide))) op_I0) ev_c (op_I ⟨by decide, by decide, b1⟩)) ea_nil) op_int1) ev_c (op_I (by decide))) ev_c op_I0) (lp_mk (((mk + cell.fmod 1000000000039) ^ (3 : Int).toNat).fmod 1000000000000000003 + 1, xs) ⟨?_, ?_, by show xs.length ≤ i + 1; omega⟩ rfl ⟨rfl, rfl, rfl, trivial⟩)
      · show (0 : Int) ≤ _ + 1
        omega
      · show _ + 1 ≤ (2 : Int) ^ 62
        omega
  · obtain ⟨mk, xs⟩ := x
    obtain ⟨m1, m2, m3⟩ := hx
    rw [List.length_map] at m3
    refine s_retX (γ := Addr) (ex_lst (es := [eR p, eI 0, eI mk, eI 0]) (Δ1 := [rL p (xs.map fun i => eI i)]) (ea_cons (ev_var rfl) (ea_cons ev_c (ea_cons (ev_var rfl) (ea_cons ev_c ea_nil)))) (Nat.le_of_ble_eq_true rfl)) fun d v ω' l f ds hv => ?_
    exact hQ d p v ω' l (f d List.mem_cons_self) hp (sat_deck (k := ⟨xs, 0, mk, 0⟩) ⟨m1, m2, Nat.le_refl _, Nat.le_trans m3 hns⟩ ds) hv

/-! ### numbers -/
def eNm : En := eAny Rat (RB 2520 12600) eQ
structure GN where
  d : Addr
  g : Addr
  n : Nat
  lim : Nat
structure GN.Ok (b : GN) : Prop where
  l0 : 3 ≤ b.lim
  l1 : b.lim ≤ 10
  n : b.n ≤ 400000
abbrev s__law_number : Stmt := topS 50
abbrev n__law_number : List Str := ["_law_deck_here", "_law_great", "_law_above"]
abbrev p__law_number : List Str := ["_law_deck_here", "_law_great"]
theorem sc__law_number : FnScope n__law_number p__law_number (defScope s__law_number) := ⟨rfl, rfl, rfl, by decide +kernel, rfl, by decide +kernel, by decide +kernel⟩
def spLNumber : Sp := spR (β := GN) (fun b => [eR b.d, eI (b.lim : Int)]) GN.Ok (fun _ => eNm) (fun b => [b.d, b.g]) (fun b => rDk b.d b.g b.n) (fun b => rDk b.d b.g (b.n + 3))
theorem number_call {d g : Addr} {n lim : Nat} (h0 : 3 ≤ lim) (h1 : lim ≤ 10) (hn : n ≤ 400000) : SpR [d, g] spLNumber [eR d, eI (lim : Int)] eNm (rDk d g n) (rDk d g (n + 3)) := fun vs ω Q E ha hr h1' h2 hk => ⟨GN.mk d g n lim, ω, rfl, ⟨h0, h1, hn⟩, ha, satD1.mpr ⟨hr, h1', h2⟩, fun v ω' l d hv => hk v ω' l (satD1.mp d).1 hv⟩
abbrev LNumber (P : Program) (w : World) (K : PySem.W.Frag) (mg : Str → Option Value) (base : Heap) : Prop := Cal P w K mg base "_law_number" p__law_number 3 spLNumber
theorem num_rb {a b : Int} (ha : a.natAbs ≤ 5) (hb1 : 1 ≤ b) (hb2 : b ≤ 10) : RB 2520 12600 (Rat.divInt a b) := by
  obtain ⟨c, hc⟩ : ∃ c : Int, 2520 = c * b := by
    have : b = 1 ∨ b = 2 ∨ b = 3 ∨ b = 4 ∨ b = 5 ∨ b = 6 ∨ b = 7 ∨ b = 8 ∨ b = 9 ∨ b = 10 := by omega
    rcases this with h | h | h | h | h | h | h | h | h | h <;> subst h <;> first | exact ⟨2520, rfl⟩ | exact ⟨1260, rfl⟩ | exact ⟨840, rfl⟩ | exact ⟨630, rfl⟩ | exact ⟨504, rfl⟩ | exact ⟨420, rfl⟩ | exact ⟨360, rfl⟩ | exact ⟨315, rfl⟩ | exact ⟨280, rfl⟩ | exact ⟨252, rfl⟩
  have hc1 : c.natAbs ≤ 2520 := by
    have h1 : c.natAbs * b.natAbs = 2520 := by rw [← Int.natAbs_mul, ← hc]; rfl
    have h2 : 1 ≤ b.natAbs := by omega
    have := Nat.le_mul_of_pos_right c.natAbs h2
    omega
  refine ⟨c * a, ?_, by rw [Int.natAbs_mul]; exact Nat.le_trans (Nat.mul_le_mul hc1 ha) (by decide)⟩
  have hb : (b : Rat) ≠ 0 := int_ne (by omega)
  have e : ((2520 : Nat) : Rat) = (c : Rat) * (b : Rat) := by rw [← Rat.intCast_mul, ← hc]; rfl
  rw [div_int, e, Rat.intCast_mul]
  grind
theorem cal_lnumber (T : Txt K mg) (D : DefAt K mg "_law_number" s__law_number) (c__law_draw : LDraw P w K mg base) (c__law_pair : LPair P w K mg base) : LNumber P w K mg base := by
  refine cal_of D sc__law_number (fun _ _ _ _ _ _ us hl => match us, hl with | [_, _], _ => rfl) (len_r fun _ => rfl) fun f cdv A outer s H E hr => ⟨_, (pss_cons (ps_set (i := 2) sc__law_number.nd rfl (Or.inl rfl) (pe_op op_sub (pe_cal c__law_draw hr rfl (pa_cons (pv 0) (pa_cons (pv 1) pa_nil))) (pe_op op_fdivX (pv 1) pe_int)))
 (pss_one (ps_ret (pe_cal c__law_pair hr rfl (pa_cons (pv 2) (pa_cons (pe_op op_add pe_int (pe_cal c__law_draw hr rfl (pa_cons (pv 0) (pa_cons (pe_ix ix_list (pe_lst (pa_cons pe_int (pa_cons (pe_op op_sub (pv 1) pe_int) pa_nil))) (pe_cal c__law_draw hr rfl (pa_cons (pv 0) (pa_cons pe_int pa_nil))) (fun _ _ => rfl)) pa_nil)))) pa_nil)))))), body_r fun b ok ω Q d0 hQ => ?_⟩
  obtain ⟨d, g, n, lim⟩ := b
  obtain ⟨l0, l1, hn⟩ := ok
  have l0 : 3 ≤ lim := l0
  have l1 : lim ≤ 10 := l1
  have hn : n ≤ 400000 := hn
  have hQ : ∀ v ω', LeX [d, g] ω ω' → SatD [rDk d g (n + 3)] ω' → eNm.r v ω'.M → Q v ω'.H := hQ
  have od : Own (bsS ω [d, g]) [d, g] := fun a ha => .inl ha
  have dv2 : DivX (lim : Int) 2 := divx_small (by decide) (Nat.lt_of_lt_of_le (show (2 : Int).natAbs < 2 ^ 2 by decide) (Nat.pow_le_pow_right (by decide) (by decide)))
  refine q_asg (C := [d, g]) (Δ1 := [rDk d g (n + 1)]) (e := eAny Int (fun a => a.natAbs ≤ 5) fun a => eI a) (ev_op (a := eDr lim) (b := eI ((lim : Int).fdiv 2)) (ev_callR (k := 0) (ea_cons (ev_var rfl) (ea_cons (ev_var rfl) ea_nil)) (draw_call (by omega) (by omega) (by omega)) rfl (fun _ h => h) rfl (fun _ h => h) rfl) (ev_op (ev_var rfl) ev_c (op_I dv2)) (op_anyL fun k hk => op_weak op_I0 (le_any (P := fun a : Int => a.natAbs ≤ 5) (f := fun a : Int => eI a) ((k : Int) - (lim : Int).fdiv 2) ?_))) ?_ od
  · rw [Int.fdiv_eq_ediv_of_nonneg _ (by decide)]
    omega
  refine s_ret (C := [d, g]) (Δ1 := [rDk d g (n + 3)]) (ev_call (es := [eAny Int (fun a => a.natAbs ≤ 5) fun a => eI a, eAny Int (fun b => 1 ≤ b ∧ b ≤ 10) fun b => eI b]) (ea_cons (ev_var rfl) (ea_cons (ev_op (a := eI 1) (b := eDr 10) ev_c (ev_callR (k := 0) (Δ1 := [rDk d g (n + 1 + 1)]) (C := [d, g]) (es := [eR d, eAny Nat (fun l => 0 < l ∧ l ≤ 10) fun l => eI (l : Int)]) (ea_cons (ev_var rfl) (ea_cons (ev_op (a := eLst [eI 1, eI ((lim : Int) - 1)]) (b := eDr 2) (ev_lst (ea_cons ev_c (ea_cons (ev_op (ev_var rfl) ev_c op_I0) ea_nil)) (Nat.le_of_ble_eq_true rfl)) (ev_callR (k := 0) (ea_cons (ev_var rfl) (ea_cons ev_c ea_nil)) (draw_call (lim := 2) (by omega) (by omega) (by omega)) rfl (fun _ h => h) rfl (fun _ h => h) rfl) (op_anyR fun k hk => ?_)) ea_nil)) (spr_any2 fun l hl => spr_le (draw_call (by omega) (by omega) (by omega)) fun v M ⟨k, hk, hv⟩ => ⟨k, by omega, hv⟩) rfl (fun _ h => h) rfl (fun _ h => h) rfl) (op_anyR fun k hk => op_weak op_I0 (le_any (P := fun b : Int => 1 ≤ b ∧ b ≤ 10) (f := fun b : Int => eI b) (1 + (k : Int)) ?_))) ea_nil)) (spok_any1 fun a ha => spok_any2 fun b hb => spok_le (ok_lpair (by omega) (Nat.lt_of_lt_of_le (show b.natAbs < 2 ^ 4 by omega) (Nat.pow_le_pow_right (by decide) (by decide)))) (le_any (P := RB 2520 12600) (f := eQ) (Rat.divInt a b) (num_rb ha hb.1 hb.2)))) (fun v ω' l ds hv => hQ v ω' l ds hv) od
  · have : k = 0 ∨ k = 1 := by omega
    rcases this with h | h
    · subst h
      exact op_weak (op_ixL (j := 0) rfl) (le_any (P := fun l : Nat => 0 < l ∧ l ≤ 10) (f := fun l : Nat => eI (l : Int)) 1 ⟨by decide, by decide⟩)
    · subst h
      refine op_weak (op_ixL (j := 1) (e := eI ((lim : Int) - 1)) rfl) fun v M hv => ⟨lim - 1, ⟨by omega, by omega⟩, ?_⟩
      show v = V.int ((lim - 1 : Nat) : Int)
      rw [show v = V.int ((lim : Int) - 1) from hv]
      congr 1
      omega
  · exact ⟨by omega, by omega⟩
end
end Tw

/-! the law's signs -/
namespace Tw
open PySem L2 PyProof.Rows

theorem pe_bmK {X : Cx} (K : PySem.W.Frag) (h : X.K = K) {o e : Expr} {es : List Expr} {to : TE} {t : TA} {name : Str} {apos cpos : Pos} {T id : String} {r : V → List V → Hp → VK → Prop} (pa : PlainAttrs T) (slot : Slot T name id) (hty : typeOf (.builtin id) = pure (.type "method_descriptor")) (hm : MtR X id r) (ho : PE X o to) (ha : PA X (e :: es) t) (hbase : attributeBase o name X.env (eval o X.env) = eval o X.env := by rfl) (hfew : ((backTo cpos (starEach (e :: es) X.env)).all (fun x => !x.1) && (backToKw cpos (keywordEach [] X.env)).all (fun x => x.1.isSome) && decide ((e :: es).length + ([] : List Keyword).length + (if ([] : List Keyword).isEmpty then 0 else 1) < 30)) = true := by rfl) (hline : (apos.endLine == cpos.line) = true := by rfl) (hs : starEach (e :: es) X.env = (false, eval e X.env) :: starEach es X.env := by rfl) (hplain : (backTo cpos (starEach es X.env)).any (·.1) = false := by rfl) : PE X (.Call (.Attribute o name apos) (e :: es) [] cpos) (tBM K T r to t) := by
  subst h
  exact pe_bm pa slot hty hm ho ha hbase hfew hline hs hplain
open PySem.Spec
abbrev e1 (c : Nat) : En := eM [c]
def s1 (c : Nat) : Str := tx [c]
theorem rising_le : ∀ (p : Nat) (qs : List Nat), risingS (s1 p) (qs.map s1) = true → (p :: qs).Pairwise (· ≤ ·)
  | p, [], _ => List.pairwise_singleton _ _
  | p, x :: qs, h => by
    have h : (!ltCps (s1 x).cps.toList (s1 p).cps.toList && risingS (s1 x) (qs.map s1)) = true := h
    obtain ⟨h1, h2⟩ := Bool.and_eq_true_iff.mp h
    have ih := rising_le x qs h2
    have hpx : p ≤ x := by
      have h3 : ltCps (s1 x).cps.toList (s1 p).cps.toList = false := by simpa using h1
      rw [ltCps_eq] at h3
      have h4 : ¬ [x] < [p] := of_decide_eq_false h3
      rcases Nat.lt_or_ge x p with t | t
      · exact absurd (List.cons_lt_cons_iff.mpr (.inl t)) h4
      · exact t
    obtain ⟨i1, i2⟩ := List.pairwise_cons.mp ih
    refine List.pairwise_cons.mpr ⟨fun y hy => ?_, ih⟩
    rcases List.mem_cons.mp hy with e | e
    · rw [e]; exact hpx
    · exact Nat.le_trans hpx (i1 y e)
theorem sorted_le {qs : List Nat} (h : sortedS (qs.map s1) = true) : qs.Pairwise (· ≤ ·) := by
  cases qs with
  | nil => exact .nil
  | cons p qs => exact rising_le p qs h
theorem sorted_lt {qs : List Nat} (h : sortedS (qs.map s1) = true) (hn : qs.Nodup) : qs.Pairwise (· < ·) := by
  have h1 := sorted_le h
  exact List.Pairwise.imp₂ (fun {a b} (h : a ≤ b) (k : a ≠ b) => Nat.lt_of_le_of_ne h k) h1 hn
theorem join_s1 : ∀ qs : List Nat, Txt.join (tx []) (qs.map s1) = tx qs := by
  intro qs
  rw [show Txt.join (tx []) (qs.map s1) = Str.join (tx []) (qs.map s1) from StrLaws.glued_eq_join _ _]
  induction qs with
  | nil => rfl
  | cons c qs ih =>
    cases qs with
    | nil => rfl
    | cons d qs =>
      show s1 c ++ tx [] ++ Str.join (tx []) ((d :: qs).map s1) = _
      rw [ih]
      show Str.mk (((#[c] ++ #[]) : Array Nat) ++ (d :: qs).toArray) = Str.mk (c :: d :: qs).toArray
      simp
/-- one of the list, taken out -/
theorem ep_popAt {C : List Addr} {Γ : List (Option En)} {Δ Δ1 : List Rs} {K : PySem.W.Frag} {to te : TE} {p : Addr} {k : Nat} {ls : List Nat} (ho : Ev C to Γ Δ (eR p) Δ) (hm : rL p (ls.map e1) ∈ Δ) (ha : Ev C te Γ Δ (eDr ls.length) Δ1) (hk : Δ1[k]? = some (rL p (ls.map e1))) (hC : p ∈ C) (hl : ls.length ≤ 1000) :
    EvP (γ := Nat) C (tBM K "list" rPopAt to (tCons te tNil)) Γ Δ (fun i => i < ls.length) (fun i => e1 (ls.getD i 0)) (fun i => Δ1.set k (rL p ((ls.eraseIdx i).map e1))) := ⟨fun σ ω Q s d q => by
  refine ho.run σ ω _ s d fun x ω1 l1 d1 hx => ?_
  cases (show x = V.ref p from hx)
  obtain ⟨vs0, r1, r2⟩ := d1.r _ hm
  refine ⟨.inl ⟨rfl, vs0, SqL.of r1⟩, ha.run σ ω1 _ (s.mono l1.m) d1 fun y ω2 l2 d2 hy => ?_⟩
  obtain ⟨i, hi, hy⟩ := hy
  cases (show y = V.int (i : Int) from hy)
  obtain ⟨vs, h3, h4⟩ := d2.r _ (List.mem_of_getElem? hk)
  have ev : vs = ls.map fun c => V.str (tx [c]) := by
    have h : Args ((ls.map fun c => V.str (tx [c])).map eLit) vs ω2.M := by
      rw [List.map_map]
      exact h4
    exact h.lits
  subst ev
  have hM : ω2.M p = none := (d2.a p (List.mem_flatMap.mpr ⟨_, List.mem_of_getElem? hk, List.mem_singleton.mpr rfl⟩)).2
  have l3 : LeX [p] ω2 (ω2.mut p (.lst ((ls.map fun c => V.str (tx [c])).eraseIdx i)) hM) := Wo.set_le hM
  refine ⟨p, _, (i : Int), i, V.str (tx [ls.getD i 0]), rfl, rfl, h3, by omega, by omega, (ixN_seq (ixN_nat (by rw [List.length_map]; exact hi))).1, ?_, ?_⟩
  · rw [List.getElem?_map, List.getElem?_eq_getElem hi, getD_of_lt 0 hi]
    rfl
  · refine q i _ (ω2.mut p _ hM) hi ((l1.trans l2).trans (l3.mono fun a h => by rw [List.mem_singleton.mp h]; exact hC)) (d2.upd hk l3 (fun _ h => h) rfl ⟨_, upd_same, ?_⟩) rfl
    have em : (ls.map fun c => V.str (tx [c])).eraseIdx i = (ls.eraseIdx i).map fun c => V.str (tx [c]) := by
      rw [List.eraseIdx_eq_take_drop_succ, List.eraseIdx_eq_take_drop_succ, List.map_append, List.map_take, List.map_drop]
    rw [em]
    have := Args.lit ((ls.eraseIdx i).map fun c => V.str (tx [c])) ω2.M
    rw [List.map_map] at this
    exact this⟩
/-- ''.join(sorted(list)) -/
theorem ep_joinSorted {C : List Addr} {Γ : List (Option En)} {Δ : List Rs} {K : PySem.W.Frag} {ta : TE} {pk : List Nat} {r : List V → Hp → VK → Prop} (hr : r = rSortedS K) (ha : Ev C ta Γ Δ (eLst (pk.map e1)) Δ) (h64 : pk.length < 64) :
    EvP (γ := List Nat) C (tM1 (fun x xs H Q => ∃ a p, ∃ ys : List Str, x = .str a ∧ xs = [.ref p] ∧ (SqL K H p (ys.map V.str) ∨ SqT K H p (ys.map V.str)) ∧ (ys.map (·.length)).sum + ys.length * a.length ≤ 16777216 ∧ Q (.str (Txt.join a ys)) H) (tC (.str "")) (tCB r (tCons ta tNil))) Γ Δ (fun qs => qs.Perm pk ∧ sortedS (qs.map s1) = true) (fun qs => eM qs) (fun _ => Δ) := ⟨fun σ ω Q s d q => by
  subst hr
  refine ⟨⟨_, rfl⟩, ha.run σ ω _ s d fun x ω1 l1 d1 hx => ?_⟩
  obtain ⟨a, vs, rfl, h1, h2⟩ := hx
  have ev : vs = (pk.map s1).map V.str := by
    have h : Args ((pk.map fun c => V.str (tx [c])).map eLit) vs ω1.M := by
      rw [List.map_map]
      exact h2
    rw [List.map_map]
    exact h.lits
  subst ev
  refine ⟨a, pk.map s1, rfl, SqL.of (ω1.sub _ _ h1), by rw [List.length_map]; exact h64, fun ys p hp hs hn => ?_⟩
  obtain ⟨qs, hq, rfl⟩ : ∃ qs : List Nat, qs.Perm pk ∧ ys = qs.map s1 := by
    refine ⟨ys.map fun z => z.cps.getD 0 0, ?_, ?_⟩
    · have := hp.map fun z : Str => z.cps.getD 0 0
      rw [List.map_map] at this
      have e : ((fun z : Str => z.cps.getD 0 0) ∘ s1) = id := rfl
      rw [e, List.map_id] at this
      exact this
    · rw [List.map_map]
      conv => lhs; rw [← List.map_id ys]
      refine List.map_congr_left fun z hz => ?_
      obtain ⟨c, _, e⟩ := List.mem_map.mp (hp.mem_iff.mp hz)
      rw [← e]
      rfl
  have hl := hq.length_eq
  have l2 : LeX [] ω1 (ω1.new p (.lst ((qs.map s1).map V.str))) := Wo.new_le hn
  refine ⟨tx [], p, qs.map s1, rfl, rfl, .inl (SqL.of upd_same), ?_, ?_⟩
  · have e : ((qs.map s1).map (·.length)).sum = qs.length := by
      rw [List.map_map]
      have : ∀ l : List Nat, (l.map ((fun x : Str => x.length) ∘ s1)).sum = l.length := by
        intro l
        induction l with
        | nil => rfl
        | cons c l ih => rw [List.map_cons, List.sum_cons, ih, List.length_cons]; show 1 + _ = _; omega
      exact this qs
    rw [e]
    show qs.length + _ * 0 ≤ _
    omega
  · rw [join_s1]
    exact q qs (.str (tx qs)) (ω1.new p (.lst ((qs.map s1).map V.str))) ⟨hq, hs⟩ (l1.trans l2.nil) (d1.le l2) rfl⟩
end Tw

/-! the law's signs, walked -/
namespace Tw
open PySem L2 PyProof.Rows

def lt26 : List Nat := (Str.ofString "abcdefghijklmnopqrstuvwxyz").cps.toList
theorem lt26_nd : lt26.Nodup := by decide +kernel
theorem lt26_len : lt26.length = 26 := by decide +kernel
theorem lt26_lt : ∀ c ∈ lt26, 97 ≤ c ∧ c ≤ 122 := by decide +kernel
theorem rDk_le {d g : Addr} {n m : Nat} (h : n ≤ m) (ω : Wo) (r : (rDk d g n).r ω) : (rDk d g m).r ω := by
  obtain ⟨xs, a, b, c, ⟨h1, h2, h3, h4⟩, r1, r2⟩ := r
  exact ⟨xs, a, b, c, ⟨h1, h2, Nat.le_trans h3 h, h4⟩, r1, r2⟩
theorem sat_dk {d g : Addr} {n m : Nat} {ω : Wo} (h : n ≤ m) (s : SatD [rDk d g n] ω) : SatD [rDk d g m] ω := by
  obtain ⟨h1, h2, h3⟩ := satD1.mp s
  exact satD1.mpr ⟨rDk_le h ω h1, h2, h3⟩
def eSg : En := eAny (List Nat) (fun u => SgOk u ∧ u.length ≤ 3) eM
structure GS where
  d : Addr
  g : Addr
  n : Nat
section
variable {P : Program} {w : World} {K : PySem.W.Frag} {mg : Str → Option Value} {base : Heap}
abbrev s__law_signs : Stmt := topS 49
abbrev n__law_signs : List Str := ["_law_deck_here", "_law_left", "_law_picked", "_law_letter", "_law_k"]
abbrev p__law_signs : List Str := ["_law_deck_here"]
theorem sc__law_signs : FnScope n__law_signs p__law_signs (defScope s__law_signs) := ⟨rfl, rfl, rfl, by decide +kernel, rfl, by decide +kernel, by decide +kernel⟩
def spLSigns : Sp := spR (β := GS) (fun b => [eR b.d]) (fun b => b.n ≤ 300000) (fun _ => eSg) (fun b => [b.d, b.g]) (fun b => rDk b.d b.g b.n) (fun b => rDk b.d b.g (b.n + 5))
theorem signs_call {d g : Addr} {n : Nat} (hn : n ≤ 300000) : SpR [d, g] spLSigns [eR d] eSg (rDk d g n) (rDk d g (n + 5)) := fun vs ω Q E ha hr h1' h2 hk => ⟨GS.mk d g n, ω, rfl, hn, ha, satD1.mpr ⟨hr, h1', h2⟩, fun v ω' l d hv => hk v ω' l (satD1.mp d).1 hv⟩
abbrev LSigns (P : Program) (w : World) (K : PySem.W.Frag) (mg : Str → Option Value) (base : Heap) : Prop := Cal P w K mg base "_law_signs" p__law_signs 2 spLSigns
abbrev PL := List Nat × List Nat
structure PLOk (i : Nat) (x : PL) : Prop where
  nd : (x.1 ++ x.2).Nodup
  lt : ∀ c ∈ x.1 ++ x.2, 97 ≤ c ∧ c ≤ 122
  l1 : x.1.length = i
  l2 : x.2.length = 26 - i
theorem PLOk.next {i : Nat} {pk lf : List Nat} {k : Nat} (h : PLOk i (pk, lf)) (hk : k < lf.length) (hi : i < 26) : PLOk (i + 1) (pk ++ [lf.getD k 0], lf.eraseIdx k) := by
  have hp : (lf.getD k 0 :: lf.eraseIdx k).Perm lf := by
    rw [getD_of_lt 0 hk]
    rw [List.eraseIdx_eq_take_drop_succ]
    refine List.perm_middle.symm.trans (List.Perm.of_eq ?_)
    rw [← List.drop_eq_getElem_cons hk, List.take_append_drop]
  have hp2 : ((pk ++ [lf.getD k 0]) ++ lf.eraseIdx k).Perm (pk ++ lf) := by
    rw [List.append_assoc]
    exact hp.append_left pk
  refine ⟨hp2.nodup_iff.mpr h.nd, fun c hc => h.lt c (hp2.mem_iff.mp hc), ?_, ?_⟩
  · have := h.l1
    show (pk ++ [_]).length = _
    rw [List.length_append, List.length_singleton]
    exact congrArg (· + 1) this
  · have := h.l2
    have e : (lf.eraseIdx k).length = lf.length - 1 := List.length_eraseIdx_of_lt hk
    show (lf.eraseIdx k).length = _
    have h2 : lf.length = 26 - i := this
    omega
theorem cal_lsigns (T : Txt K mg) (D : DefAt K mg "_law_signs" s__law_signs) (c__law_draw : LDraw P w K mg base) : LSigns P w K mg base := by
  refine cal_of D sc__law_signs (fun _ _ _ _ _ _ us hl => match us, hl with | [_], _ => rfl) (len_r fun _ => rfl) fun f cdv A outer s H E hr => ⟨_, (pss_cons (ps_set (i := 1) sc__law_signs.nd rfl (Or.inr rfl) (pe_lc (own := [("_law_letter", 3)]) rfl sc__law_signs.nd (pi_str pe_str) (blkOk_by (N := n__law_signs) (sc := defScope s__law_signs) (by decide +kernel)) (fun _ _ _ _ _ => (pg_name (i := 3) sc__law_signs.nd rfl (Or.inl rfl))) (fun _ _ _ _ _ => pts_nil) (fun _ _ _ _ _ => (pv 3))))
 (pss_cons (ps_setLc (i := 2) (own := [("_law_k", 4)]) rfl sc__law_signs.nd rfl rfl (sw_true rfl rfl rfl (by decide +kernel)) (pi_range1 rfl T.range (pa_cons (pe_op op_add pe_int (pe_cal c__law_draw hr rfl (pa_cons (pv 0) (pa_cons pe_int pa_nil)))) pa_nil)) (blkOk_by (N := n__law_signs) (sc := defScope s__law_signs) (by decide +kernel)) (fun _ _ _ _ _ => (pg_name (i := 4) sc__law_signs.nd rfl (Or.inl rfl))) (fun _ _ _ _ _ => pts_nil) (fun _ _ _ _ _ => (pe_bmK K rfl PySem.F.plainAttrs_list PySem.F.slot_list_pop PySem.F.type_list_pop mt_popAt (pv 1) (pa_cons (pe_cal c__law_draw hr rfl (pa_cons (pv 0) (pa_cons (pe_callB (lenSq K rfl) (by rfl) T.len (by decide +kernel) (pa_cons (pv 1) pa_nil)) pa_nil))) pa_nil))))
 (pss_one (ps_ret (pe_join pe_str (pe_callB cr_sortedS (by rfl) T.sorted (by decide +kernel) (pa_cons (pv 2) pa_nil)) (by rfl)))))), body_r fun b hn ω Q d0 hQ => ?_⟩
  obtain ⟨d, g, n⟩ := b
  have hn : n ≤ 300000 := hn
  have hQ : ∀ v ω', LeX [d, g] ω ω' → SatD [rDk d g (n + 5)] ω' → eSg.r v ω'.M → Q v ω'.H := hQ
  refine q_asgX (γ := Addr) (C := []) (ex_lcM (u := lt26) (ev_is ev_c rfl) (by rw [lt26_len]; decide) fun c _ => ev_var rfl) fun l hl => ?_
  have hl : ω.H l = none := hl l List.mem_cons_self
  have od : Own (bsS ω [d, g]) [l, d, g] := fun a ha => (List.mem_cons.mp ha).elim (fun e => .inr (by rw [e]; exact hl)) .inl
  refine q_asgP (C := [l, d, g]) (ep_lcR (β := PL) (N := fun k => 1 ≤ k ∧ k ≤ 3) PLOk (fun x => x.1.map e1) (fun i x => [rL l (x.2.map e1), rDk d g (n + 1 + i)]) (Δ1 := [rL l (lt26.map e1), rDk d g (n + 1)]) ?_ (fun k hk => by omega) ⟨([], lt26), ⟨lt26_nd, lt26_lt, rfl, lt26_len⟩, rfl, rfl⟩ (fun k i x hk hi hx => ?_) (fun i x hx => by rw [List.length_map, hx.l1]; exact Nat.le_refl _) ?_ ?_) (fun x hx => ?_) od
  · refine ea_cons (ev_op (a := eI 1) (b := eDr 3) ev_c (ev_callR (k := 1) (C' := [d, g]) (ea_cons (ev_var rfl) (ea_cons ev_c ea_nil)) (draw_call (lim := 3) (by omega) (by omega) (by omega)) rfl (fun _ h => h) rfl (fun a h => List.mem_cons_of_mem _ h) rfl) (op_anyR fun k hk => op_weak op_I0 fun v M hv => ⟨k + 1, ⟨by omega, by omega⟩, ?_⟩)) ea_nil
    show v = V.int ((k + 1 : Nat) : Int)
    rw [show v = V.int (1 + (k : Int)) from hv]
    congr 1
    omega
  · obtain ⟨pk, lf⟩ := x
    have l2 : lf.length = 26 - i := hx.l2
    have hp := ep_popAt (K := K) (C := [l, d, g]) (Γ := (((Γ0 n__law_signs [eR d]).set 1 (some (eR l))).set 4 (some (eI (i : Int))))) (Δ := [rL l (lf.map e1), rDk d g (n + 1 + i)]) (Δ1 := [rL l (lf.map e1), rDk d g (n + 1 + i + 1)]) (to := tVar 1) (te := tCall spLDraw [] E0 (tCons (tVar 0) (tCons (tCB (fun xs H Q => ∃ p ys, xs = [.ref p] ∧ (SqL K H p ys ∨ SqT K H p ys) ∧ Q (.int ys.length) H) (tCons (tVar 1) tNil)) tNil))) (p := l) (k := 0) (ls := lf) (ev_var rfl) List.mem_cons_self (ev_callR (k := 1) (C' := [d, g]) (ea_cons (ev_var rfl) (ea_cons (ev_is (ev_lenM (es := lf.map e1) (ev_var rfl) List.mem_cons_self) (by rw [List.length_map])) ea_nil)) (draw_call (lim := lf.length) (by omega) (by omega) (by omega)) rfl (fun _ h => h) rfl (fun a h => List.mem_cons_of_mem _ h) rfl) rfl List.mem_cons_self (by omega)
    exact ⟨fun σ ω' Q' s' d' k' => hp.run σ ω' Q' s' d' fun j v ω2 hj l' ds hv => k' ((pk ++ [lf.getD j 0], lf.eraseIdx j), e1 (lf.getD j 0)) v ω2 ⟨hx.next hj (by omega), by rw [List.map_append]; rfl⟩ l' ds hv⟩
  · intro p hp
    simpa [adr, rL, rDk] using hp
  · intro i x _ a ha
    simpa [adr, rL, rDk] using ha
  · obtain ⟨i, pk, lf⟩ := x
    obtain ⟨⟨i1, i2⟩, hx⟩ := hx
    have hx : PLOk i (pk, lf) := hx
    have hpl : pk.length = i := hx.l1
    refine t_skip ?_
    refine s_retP (C := []) (ep_joinSorted (K := K) (pk := pk) rfl (ev_var rfl) (by omega)) fun qs v ω' hq l' ds hv => hQ v ω' l' (sat_dk (by omega) ds) ⟨qs, ⟨⟨?_, ?_, ?_⟩, ?_⟩, hv⟩
    · intro z
      have := hq.1.length_eq
      rw [z, hpl] at this
      have h0 : (0 : Nat) = i := this
      omega
    · exact sorted_lt hq.2 (hq.1.nodup_iff.mpr (List.nodup_append.mp hx.nd).1)
    · exact fun c hc => hx.lt c (List.mem_append_left _ (hq.1.mem_iff.mp hc))
    · rw [hq.1.length_eq, hpl]
      exact i2
end
end Tw

/-! the law's size, walked -/
namespace Tw
open PySem L2 PyProof.Rows

theorem etx_andE {C : List Addr} {tt tt' : TT} {Γ : List (Option En)} {Δ Δ1 : List Rs} (h : EvT C tt Γ Δ true Δ) (h' : EtX C tt' Γ Δ Δ1) : EtX C (tAnd tt tt') Γ Δ Δ1 := ⟨fun σ ω Q s d k => h.run σ ω _ s d fun ω1 l1 d1 => h'.run σ ω1 Q (s.mono l1.m) d1 fun b ω2 l2 d2 => k b ω2 (l1.trans l2) d2⟩
theorem et_andF {C : List Addr} {tt tt' : TT} {Γ : List (Option En)} {Δ : List Rs} (h : EvT C tt Γ Δ false Δ) : EvT C (tAnd tt tt') Γ Δ false Δ := ⟨fun σ ω Q s d k => h.run σ ω _ s d fun ω1 l1 d1 => k ω1 l1 d1⟩
structure GSz where
  d : Addr
  g : Addr
  n : Nat
  u : List Nat
structure GSz.Ok (b : GSz) : Prop where
  n : b.n ≤ 300000
  l0 : 1 ≤ b.u.length
  l1 : b.u.length ≤ 3
def eSz (u : List Nat) : En := eAny Nat (fun k => k ≤ 6 ∧ (u.length = 3 → k ≤ 4)) fun k => eI (k : Int)
section
variable {P : Program} {w : World} {K : PySem.W.Frag} {mg : Str → Option Value} {base : Heap}
abbrev s__law_size : Stmt := topS 62
abbrev n__law_size : List Str := ["_law_deck_here", "_law_signs_here", "_law_most"]
abbrev p__law_size : List Str := ["_law_deck_here", "_law_signs_here"]
theorem sc__law_size : FnScope n__law_size p__law_size (defScope s__law_size) := ⟨rfl, rfl, rfl, by decide +kernel, rfl, by decide +kernel, by decide +kernel⟩
def spLSize : Sp := spR (β := GSz) (fun b => [eR b.d, eM b.u]) GSz.Ok (fun b => eSz b.u) (fun b => [b.d, b.g]) (fun b => rDk b.d b.g b.n) (fun b => rDk b.d b.g (b.n + 2))
theorem size_call {d g : Addr} {n : Nat} {u : List Nat} (hn : n ≤ 300000) (l0 : 1 ≤ u.length) (l1 : u.length ≤ 3) : SpR [d, g] spLSize [eR d, eM u] (eSz u) (rDk d g n) (rDk d g (n + 2)) := fun vs ω Q E ha hr h1' h2 hk => ⟨GSz.mk d g n u, ω, rfl, ⟨hn, l0, l1⟩, ha, satD1.mpr ⟨hr, h1', h2⟩, fun v ω' l d hv => hk v ω' l (satD1.mp d).1 hv⟩
abbrev LSize (P : Program) (w : World) (K : PySem.W.Frag) (mg : Str → Option Value) (base : Heap) : Prop := Cal P w K mg base "_law_size" p__law_size 2 spLSize
theorem cal_lsize (T : Txt K mg) (D : DefAt K mg "_law_size" s__law_size) (c__law_draw : LDraw P w K mg base) : LSize P w K mg base := by
  refine cal_of D sc__law_size (fun _ _ _ _ _ _ us hl => match us, hl with | [_, _], _ => rfl) (len_r fun _ => rfl) fun f cdv A outer s H E hr => ⟨_, (pss_cons (ps_set (i := 2) sc__law_size.nd rfl (Or.inl rfl) (pe_ix ix_list (pe_lst (pa_cons pe_int (pa_cons pe_int (pa_cons pe_int pa_nil)))) (pe_op op_sub (pe_callB call_len_str (by rfl) T.len (by decide +kernel) (pa_cons (pv 1) pa_nil)) pe_int) (fun _ _ => rfl)))
 (Evl.pss_cut (ps_if (PW.pt (pw_and (pt_cmpR op_eq (pe_callB call_len_str (by rfl) T.len (by decide +kernel) (pa_cons (pv 1) pa_nil)) pe_int (nomark _)) (pw_and1 (pt_cmpR op_eq (pe_cal c__law_draw hr rfl (pa_cons (pv 0) (pa_cons pe_int pa_nil))) pe_int (nomark _))))) (pss_one (ps_set (i := 2) sc__law_size.nd rfl (Or.inl rfl) pe_int)) pss_nil)
 (pss_one (ps_ret (pe_op op_modN (pe_ix ix_list (pe_lst (pa_cons pe_int (pa_cons pe_int (pa_cons pe_int (pa_cons pe_int (pa_cons pe_int (pa_cons pe_int (pa_cons pe_int pa_nil)))))))) (pe_cal c__law_draw hr rfl (pa_cons (pv 0) (pa_cons pe_int pa_nil))) (fun _ _ => rfl)) (pe_op op_add (pv 2) pe_int)))))), body_r fun b ok ω Q d0 hQ => ?_⟩
  obtain ⟨d, g, n, u⟩ := b
  have hn : n ≤ 300000 := ok.n
  have l0 : 1 ≤ u.length := ok.l0
  have l1 : u.length ≤ 3 := ok.l1
  have hQ : ∀ v ω', LeX [d, g] ω ω' → SatD [rDk d g (n + 2)] ω' → (eSz u).r v ω'.M → Q v ω'.H := hQ
  have od : Own (bsS ω [d, g]) [d, g] := fun a ha => .inl ha
  have key : ∀ (m k : Nat), m ≤ 6 → (u.length = 3 → m ≤ 4) → 0 < m → (k : Int).fmod ((m : Int) + 1) = ((k % (m + 1) : Nat) : Int) ∧ k % (m + 1) ≤ 6 ∧ (u.length = 3 → k % (m + 1) ≤ 4) := by
    intro m k h1 h2 h3
    have h4 : k % (m + 1) < m + 1 := Nat.mod_lt _ (by omega)
    refine ⟨?_, by omega, fun z => by have := h2 z; omega⟩
    rw [show ((m : Int) + 1) = ((m + 1 : Nat) : Int) from rfl]
    exact fmod_nat _ _
  have op7 : ∀ (m : Nat), m ≤ 6 → (u.length = 3 → m ≤ 4) → 0 < m → Op2 (rI (fun _ j => j ≠ 0) fun i j => .int (i.fmod j)) (eAny Nat (fun k => k ≤ 6) fun k => eI (k : Int)) (eI ((m : Int) + 1)) (eSz u) := fun m h1 h2 h3 => op_anyL fun k hk => op_weak (op_I (by omega)) fun v M hv => ⟨k % (m + 1), (key m k h1 h2 h3).2, by
    rw [show v = V.int ((k : Int).fmod ((m : Int) + 1)) from hv, (key m k h1 h2 h3).1]
    rfl⟩
  have ix7 : Op2 (rIxL K) (eLst [eI 2, eI 3, eI 4, eI 1, eI 5, eI 0, eI 6]) (eDr 7) (eAny Nat (fun k => k ≤ 6) fun k => eI (k : Int)) := op_anyR fun k hk => by
    match k, hk with
    | 0, _ => exact op_weak (op_ixL (j := 0) rfl) (le_any (P := fun k : Nat => k ≤ 6) (f := fun k : Nat => eI (k : Int)) 2 (by decide))
    | 1, _ => exact op_weak (op_ixL (j := 1) rfl) (le_any (P := fun k : Nat => k ≤ 6) (f := fun k : Nat => eI (k : Int)) 3 (by decide))
    | 2, _ => exact op_weak (op_ixL (j := 2) rfl) (le_any (P := fun k : Nat => k ≤ 6) (f := fun k : Nat => eI (k : Int)) 4 (by decide))
    | 3, _ => exact op_weak (op_ixL (j := 3) rfl) (le_any (P := fun k : Nat => k ≤ 6) (f := fun k : Nat => eI (k : Int)) 1 (by decide))
    | 4, _ => exact op_weak (op_ixL (j := 4) rfl) (le_any (P := fun k : Nat => k ≤ 6) (f := fun k : Nat => eI (k : Int)) 5 (by decide))
    | 5, _ => exact op_weak (op_ixL (j := 5) rfl) (le_any (P := fun k : Nat => k ≤ 6) (f := fun k : Nat => eI (k : Int)) 0 (by decide))
    | 6, _ => exact op_weak (op_ixL (j := 6) rfl) (le_any (P := fun k : Nat => k ≤ 6) (f := fun k : Nat => eI (k : Int)) 6 (by decide))
    | k + 7, h => exact absurd h (by omega)
  have c7 : ∀ (C : List Addr) (Γ : List (Option En)) (Δ : List Rs), Ev C (tLst (tCons (tC (.int 2)) (tCons (tC (.int 3)) (tCons (tC (.int 4)) (tCons (tC (.int 1)) (tCons (tC (.int 5)) (tCons (tC (.int 0)) (tCons (tC (.int 6)) tNil)))))))) Γ Δ (eLst [eI 2, eI 3, eI 4, eI 1, eI 5, eI 0, eI 6]) Δ := fun C Γ Δ => ev_lst (ea_cons ev_c (ea_cons ev_c (ea_cons ev_c (ea_cons ev_c (ea_cons ev_c (ea_cons ev_c (ea_cons ev_c ea_nil))))))) (Nat.le_of_ble_eq_true rfl)
  have l321 : u.length = 1 ∨ u.length = 2 ∨ u.length = 3 := by omega
  have lm : ∀ (L : Nat) (C : List Addr) (Γ : List (Option En)) (Δ : List Rs) (f : En), u.length = L + 1 → L < 3 → [eI 6, eI 5, eI 4][L]? = some f → Γ[1]? = some (some (eM u)) → Ev C (tOp (rIxL K) (tLst (tCons (tC (.int 6)) (tCons (tC (.int 5)) (tCons (tC (.int 4)) tNil)))) (tOp (rI0 fun i j => .int (i - j)) (tCB (fun xs H Q => ∃ z, xs = [.str z] ∧ z.length ≤ sizeLine ∧ Q (.int z.length) H) (tCons (tVar 1) tNil)) (tC (.int 1)))) Γ Δ f Δ := fun L C Γ Δ f hL h3 hf hg => ev_op (a := eLst [eI 6, eI 5, eI 4]) (b := eI (L : Int)) (ev_lst (ea_cons ev_c (ea_cons ev_c (ea_cons ev_c ea_nil))) (Nat.le_of_ble_eq_true rfl)) (ev_is (ev_op (ev_cb (ea_cons (ev_var hg) ea_nil) (op_lenS (by omega))) ev_c op_I0) (by rw [hL]; show eI (((L + 1 : Nat) : Int) - 1) = _; congr 1; omega)) (op_ixL hf)
  have e2 : ∀ (C : List Addr) (Γ : List (Option En)) (Δ : List Rs), Γ[1]? = some (some (eM u)) → Ev C (tOp rEq (tCB (fun xs H Q => ∃ z, xs = [.str z] ∧ z.length ≤ sizeLine ∧ Q (.int z.length) H) (tCons (tVar 1) tNil)) (tC (.int 2))) Γ Δ (eB (decide ((u.length : Int) = 2))) Δ := fun C Γ Δ hg => ev_op (ev_cb (ea_cons (ev_var hg) ea_nil) (op_lenS (by omega))) ev_c op_eqI
  let eMo : En := eAny Nat (fun m => m ≤ 6 ∧ (u.length = 3 → m ≤ 4) ∧ 0 < m) fun m => eI (m : Int)
  have mo : ∀ m : Nat, m ≤ 6 → (u.length = 3 → m ≤ 4) → 0 < m → EnLe (eI (m : Int)) eMo := fun m h1 h2 h3 => le_any (P := fun m => m ≤ 6 ∧ (u.length = 3 → m ≤ 4) ∧ 0 < m) (f := fun m : Nat => eI (m : Int)) m ⟨h1, h2, h3⟩
  obtain ⟨L, f, m, hL, h3, hf, hm, h1, h2, h0⟩ : ∃ (L : Nat) (f : En) (m : Nat), u.length = L + 1 ∧ L < 3 ∧ [eI 6, eI 5, eI 4][L]? = some f ∧ f = eI (m : Int) ∧ m ≤ 6 ∧ (u.length = 3 → m ≤ 4) ∧ 0 < m := by
    rcases l321 with h | h | h
    · exact ⟨0, _, 6, h, by decide, rfl, rfl, by decide, fun z => by omega, by decide⟩
    · exact ⟨1, _, 5, h, by decide, rfl, rfl, by decide, fun z => by omega, by decide⟩
    · exact ⟨2, _, 4, h, by decide, rfl, rfl, by decide, fun z => by decide, by decide⟩
  subst hm
  refine q_asg (C := []) (ev_le (lm L _ _ _ _ hL h3 hf rfl) (mo m h1 h2 h0)) ?_
  refine tr_cut (As (bsS ω [d, g]) [some (eR d), some (eM u), some eMo] [rDk d g (n + 1)]) ?_ (t_any (i := 2) rfl fun m ⟨h1, h2, h0⟩ => ?_)
  · rcases Decidable.em (u.length = 2) with h | h
    · refine s_ifX (C := [d, g]) (Δ1 := [rDk d g (n + 1)]) (etx_andE (et_test (ev_is (e2 _ _ _ rfl) (by rw [h]; rfl))) (etx_test (ev_op (ev_callR (k := 0) (ea_cons (ev_var rfl) (ea_cons ev_c ea_nil)) (draw_call (n := n) (lim := 8) (by omega) (by omega) (by omega)) rfl (fun _ h => h) rfl (fun _ h => h) rfl) ev_c (op_anyL fun k hk => op_weak op_eqI (le_any (P := fun _ : Bool => True) (f := eB) _ trivial))))) ?_ (s_next fun _ _ h => h) od
      exact s_asg (C := []) (ev_le ev_c (mo 6 (by decide) (fun z => by omega) (by decide))) fun _ _ h => h
    · refine s_if (C := []) (Δ1 := [rDk d g n]) (c := false) (et_andF (et_test (ev_is (e2 _ _ _ rfl) (by congr 1; exact decide_eq_false (by omega))))) (fun z => nomatch z) (fun _ => ?_)
      exact t_conv (rDk_le (Nat.le_succ n)) rfl (s_next fun _ _ h => h)
  · refine s_ret (C := [d, g]) (Δ1 := [rDk d g (n + 2)]) (ev_op (ev_op (c7 _ _ _) (ev_callR (k := 0) (ea_cons (ev_var rfl) (ea_cons ev_c ea_nil)) (draw_call (n := n + 1) (lim := 7) (by omega) (by omega) (by omega)) rfl (fun _ h => h) rfl (fun _ h => h) rfl) ix7) (ev_op (ev_var rfl) ev_c op_I0) (op7 m h1 h2 h0)) (fun v ω' l ds hv => hQ v ω' l ds hv) od
end
end Tw

/-! the law's machine -/
namespace Tw
open PySem L2 PyProof.Rows

def pdQ (q : Rat) : PyData := .tuple [.int q.num, .int q.den]
def pdR (r : Road) : PyData := .tuple [.int r.1, .str (tx [r.2.1]), .int r.2.2.1, pdQ r.2.2.2]
theorem dp_q {K : PySem.W.Frag} {ω : Wo} {q : Rat} {v : V} (h : (eQ q).r v ω.M) : Dp K ω.H v (pdQ q) := by
  obtain ⟨p, vs, rfl, hp, hv⟩ := h
  match vs, hv with
  | [x, y], ⟨h1, h2, _⟩ =>
    cases (show x = V.int _ from h1)
    cases (show y = V.int _ from h2)
    exact .tup (SqT.of (ω.sub _ _ hp)) (.cons (.int _) (.cons (.int _) .nil))
theorem dp_rd {K : PySem.W.Frag} {ω : Wo} {r : Road} {v : V} (h : (eRd r).r v ω.M) : Dp K ω.H v (pdR r) := by
  obtain ⟨p, vs, rfl, hp, hv⟩ := h
  match vs, hv with
  | [x, y, z, t], ⟨h1, h2, h3, h4, _⟩ =>
    cases (show x = V.int _ from h1)
    cases (show y = V.str _ from h2)
    cases (show z = V.int _ from h3)
    exact .tup (SqT.of (ω.sub _ _ hp)) (.cons (.int _) (.cons (.str _) (.cons (.int _) (.cons (dp_q h4) .nil))))
theorem dp_rds {K : PySem.W.Frag} {ω : Wo} : ∀ {rs : List Road} {vs : List V}, Args (rs.map eRd) vs ω.M → DpAll K ω.H vs (rs.map pdR)
  | [], [], _ => .nil
  | r :: rs, v :: vs, h => .cons (dp_rd h.1) (dp_rds h.2)
  | [], _ :: _, h => h.elim
  | _ :: _, [], h => h.elim
theorem lay_rd {r : Road} (h : r.2.1 < 200) : (pdR r).canLay0 = true := by
  have : PyData.strOk (tx [r.2.1]) = true := by
    show ([r.2.1].toArray.all fun x => decide (x < 0x110000)) = true
    simp
    omega
  simp [pdR, pdQ, PyData.canLay0, PyData.canLayAll0, this]
theorem dep_rd (r : Road) : (pdR r).depth = 2 := by
  simp [pdR, pdQ, PyData.depth, PyData.depthAll]
theorem shp_rds {rs : List Road} (h : ∀ r ∈ rs, r.2.1 < 200) : SeqAt.shaped (.list (rs.map pdR)) = true := by
  have lay : ∀ rs : List Road, (∀ r ∈ rs, r.2.1 < 200) → PyData.canLayAll0 (rs.map pdR) = true := by
    intro rs
    induction rs with
    | nil => exact fun _ => rfl
    | cons x xs ih => exact fun h => by rw [List.map_cons, PyData.canLayAll0, ih fun r hr => h r (List.mem_cons_of_mem _ hr), lay_rd (h x List.mem_cons_self)]; rfl
  have dep : ∀ rs : List Road, PyData.depthAll (rs.map pdR) ≤ 2 := by
    intro rs
    induction rs with
    | nil => exact Nat.zero_le _
    | cons x xs ih => rw [List.map_cons, PyData.depthAll, dep_rd]; omega
  unfold SeqAt.shaped
  rw [PyData.canLay0, lay rs h, PyData.depth]
  have := dep rs
  exact decide_eq_true (by omega)
theorem ev_neNilT {C : List Addr} {Γ : List (Option En)} {Δ Δ1 Δ2 : List Rs} {K : PySem.W.Frag} {ta tb : TE} {p : Addr} {xs : List Road} (ha : Ev C ta Γ Δ (eR p) Δ1) (hb : Ev C tb Γ Δ1 (eLst []) Δ2) (hk : rL p (xs.map eRd) ∈ Δ2) (hx : ∀ r ∈ xs, r.2.1 < 200) : Ev C (tOp (rNeD K) ta tb) Γ Δ (eB (!decide (xs = []))) Δ2 := ⟨fun σ ω Q s d q =>
  ha.run σ ω _ s d fun x ω1 l1 d1 hx1 => hb.run σ ω1 _ (s.mono l1.m) d1 fun y ω2 l2 d2 hy => by
    cases (show x = V.ref p from hx1)
    obtain ⟨b, ws, rfl, hb, hw⟩ := hy
    obtain ⟨vs, h1, h2⟩ := d2.r _ hk
    have ew : ws = [] := List.length_eq_zero_iff.mp hw.len
    subst ew
    refine ⟨.list (xs.map pdR), .list [], .lst (SqL.of h1) (dp_rds h2), .lst (SqL.of (ω2.sub _ _ hb)) .nil, shp_rds hx, rfl, ?_⟩
    have e : (!PyData.eqv (.list (xs.map pdR)) (.list [])) = !decide (xs = []) := by
      cases xs with
      | nil => rfl
      | cons x xs => simp [PyData.eqv, PyData.eqvAll]
    rw [e]
    exact q _ ω2 (l1.trans l2) d2 rfl⟩
end Tw

/-! the law's machine, walked -/
namespace Tw
open PySem L2 PyProof.Rows

theorem as_dk {W : Bs} {Γ : List (Option En)} {p d g : Addr} {es : List En} {a b : Nat} {σ : L2.St} {H : Hp} (h : a ≤ b) : As W Γ [rL p es, rDk d g a] σ H → As W Γ [rL p es, rDk d g b] σ H := fun ⟨ω, h1, h2, h3, h4, h5⟩ => ⟨ω, h1, h2, h3, h4, ⟨fun ρ hρ => by
  rcases List.mem_cons.mp hρ with e | e
  · rw [e]; exact h5.r _ List.mem_cons_self
  · rw [List.mem_singleton.mp e]; exact rDk_le h ω (h5.r _ (List.mem_cons_of_mem _ List.mem_cons_self)), h5.a, h5.nd⟩⟩
structure MaOk (u : List Nat) (many : Nat) (m : Mach) : Prop where
  sg : m.signs = u
  bl : m.bg.length = many
  el : m.en.length = many
  rl : m.roads.length ≤ 24
  rd : ∀ r ∈ m.roads, r.1 < many ∧ r.2.1 ∈ u ∧ r.2.2.1 < many ∧ RB 2520 12600 r.2.2.2
  b : ∀ q ∈ m.bg, RB 2520 12600 q
  e : ∀ q ∈ m.en, RB 2520 12600 q
def eMP (u : List Nat) (many : Nat) : En := eAny Mach (MaOk u many) eParts
structure GMa where
  d : Addr
  g : Addr
  n : Nat
  u : List Nat
  many : Nat
  great : Nat
structure GMa.Ok (b : GMa) : Prop where
  n : b.n ≤ 200000
  sg : SgOk b.u
  l1 : b.u.length ≤ 3
  my : b.many ≤ 6
  g0 : 3 ≤ b.great
  g1 : b.great ≤ 10
theorem ep_any {α : Type} {C : List Addr} {Γ : List (Option En)} {Δ Δ1 : List Rs} {te : TE} {P : α → Prop} {f : α → En} (h : Ev C te Γ Δ (eAny α P f) Δ1) : EvP C te Γ Δ P f (fun _ => Δ1) := ⟨fun σ ω Q s d k => h.run σ ω _ s d fun v ω' l d' ⟨x, px, hx⟩ => k x v ω' px l d' hx⟩
/-- a list of numbers, each found by a call that moves the deck -/
theorem ep_nums {C : List Addr} {Γ : List (Option En)} {te : TE} {tA : TA} {j n many : Nat} {d g : Addr} {Δ : List Rs} (hA : EvA C tA Γ (rDk d g n :: Δ) [eI (many : Int)] (rDk d g n :: Δ)) (hm : many ≤ 6)
    (he : ∀ i k, k ≤ n + 18 → Ev C te (Γ.set j (some (eI (i : Int)))) (rDk d g k :: Δ) eNm (rDk d g (k + 3) :: Δ)) (hC : ∀ p ∈ C, p = d ∨ p = g) :
    EvP (γ := Nat × List Rat) C (tLc (iRng1 tA) (gName j) tYes te [j]) Γ (rDk d g n :: Δ) (fun x => x.1 = many ∧ x.1 ≤ many ∧ x.2.length = x.1 ∧ ∀ q ∈ x.2, RB 2520 12600 q) (fun x => eLst (x.2.map eQ)) (fun x => rDk d g (n + 3 * x.1) :: Δ) := by
  refine ep_lcR (β := List Rat) (N := fun k => k = many) (fun i qs => i ≤ many ∧ qs.length = i ∧ ∀ q ∈ qs, RB 2520 12600 q) (fun qs => qs.map eQ) (fun i _ => rDk d g (n + 3 * i) :: Δ) ⟨fun σ ω Q s d k => hA.run σ ω Q s d fun vs ω' l d' hv => k vs ω' l d' ?_⟩ (fun k hk => by omega) ⟨[], ⟨Nat.zero_le _, rfl, fun q h => nomatch h⟩, rfl, rfl⟩ (fun k i qs hk hi hp => ?_) (fun i qs hp => by rw [List.length_map, hp.2.1]; exact Nat.le_refl _) (fun p hp => ?_) (fun i qs _ a ha => ?_)
  · match vs, hv with
    | [v], ⟨h1, _⟩ => exact ⟨⟨many, rfl, h1⟩, trivial⟩
  · obtain ⟨h1, h2, h3⟩ := hp
    exact ⟨fun σ ω Q s d q => (he i (n + 3 * i) (by omega)).run σ ω Q s d fun v ω' l d' ⟨x, px, hx⟩ => q (qs ++ [x], eQ x) v ω' ⟨⟨by omega, by rw [List.length_append, h2]; rfl, fun z hz => (List.mem_append.mp hz).elim (h3 z) fun e => by rw [List.mem_singleton.mp e]; exact px⟩, by rw [List.map_append]; rfl⟩ l d' hx⟩
  · rcases hC p hp with e | e <;> simp [adr, rDk, e]
  · simpa [adr, rDk] using ha
theorem ev_ofP {α : Type} {C : List Addr} {Γ : List (Option En)} {Δ Δ1 : List Rs} {te : TE} {P P' : α → Prop} {f : α → En} {Δf : α → List Rs} (h : EvP C te Γ Δ P f Δf) (hp : ∀ x, P x → P' x) (hd : ∀ x ω, P x → SatD (Δf x) ω → SatD Δ1 ω) : Ev C te Γ Δ (eAny α P' f) Δ1 := ⟨fun σ ω Q s d k => h.run σ ω _ s d fun x v ω' px l d' hx => k v ω' l (hd x ω' px d') ⟨x, hp x px, hx⟩⟩
theorem ev_ixMA {C : List Addr} {Γ : List (Option En)} {Δ Δ1 Δ2 : List Rs} {K : PySem.W.Frag} {ta tb : TE} {p : Addr} {es : List En} {e : En} (ha : Ev C ta Γ Δ (eR p) Δ1) (hb : Ev C tb Γ Δ1 (eDr es.length) Δ2) (hk : rL p es ∈ Δ2) (h : ∀ (j : Nat) (f : En), es[j]? = some f → EnLe f e) : Ev C (tOp (rIxL K) ta tb) Γ Δ e Δ2 := ⟨fun σ ω Q s d q => ha.run σ ω _ s d fun x ω1 l1 d1 hx => hb.run σ ω1 _ (s.mono l1.m) d1 fun y ω2 l2 d2 ⟨j, hj, hy⟩ => by
  have hc : Ev [] (tOp (rIxL K) (tC x) (tC y)) [] Δ2 e Δ2 := ev_le (ev_ixM (j := j) (e := es[j]) (p := p) (Δ1 := Δ2) ⟨fun σ ω Q s d k => k x ω (LeX.refl _ _) d hx⟩ ⟨fun σ ω Q s d k => k y ω (LeX.refl _ _) d hy⟩ hk (List.getElem?_eq_getElem hj)) (h j _ (List.getElem?_eq_getElem hj))
  exact hc.run [] ω2 Q ⟨rfl, fun i e z => nomatch z⟩ d2 fun v ω3 l3 d3 hv => q v ω3 ((l1.trans l2).trans l3.nil) d3 hv⟩
def eCh (u : List Nat) : En := eAny Nat (· ∈ u) fun c => eM [c]
structure RdP (u : List Nat) (many : Nat) (r : Road) : Prop where
  a : r.1 < many
  s : r.2.1 ∈ u
  b : r.2.2.1 < many
  q : RB 2520 12600 r.2.2.2
def eRP (u : List Nat) (many : Nat) : En := eAny Road (RdP u many) eRd
theorem le_road {u : List Nat} {many : Nat} : EnLe (eTup [eDr many, eCh u, eDr many, eNm]) (eRP u many) := fun v M ⟨a, vs, h1, h2, h3⟩ => by
  match vs, h3 with
  | [x, y, z, t], ⟨⟨i, hi, e1⟩, ⟨c, hc, e2⟩, ⟨j, hj, e3⟩, ⟨q, hq, e4⟩, _⟩ => exact ⟨(i, c, j, q), ⟨hi, hc, hj, hq⟩, a, _, h1, h2, e1, e2, e3, e4, trivial⟩
section
variable {P : Program} {w : World} {K : PySem.W.Frag} {mg : Str → Option Value} {base : Heap}
abbrev s__law_machine : Stmt := topS 51
abbrev n__law_machine : List Str := ["_law_deck_here", "_law_signs_here", "_law_many", "_law_most", "_law_great", "_law_begin", "_law_roads", "_law_k", "_law_road"]
abbrev p__law_machine : List Str := ["_law_deck_here", "_law_signs_here", "_law_many", "_law_most", "_law_great"]
theorem sc__law_machine : FnScope n__law_machine p__law_machine (defScope s__law_machine) := ⟨rfl, rfl, rfl, by decide +kernel, rfl, by decide +kernel, by decide +kernel⟩
def spLMachine : Sp := spR (β := GMa) (fun b => [eR b.d, eM b.u, eI (b.many : Int), eI 24, eI (b.great : Int)]) GMa.Ok (fun b => eMP b.u b.many) (fun b => [b.d, b.g]) (fun b => rDk b.d b.g b.n) (fun b => rDk b.d b.g (b.n + 300))
theorem machine_call {d g : Addr} {n : Nat} {u : List Nat} {many great : Nat} (ok : GMa.Ok ⟨d, g, n, u, many, great⟩) : SpR [d, g] spLMachine [eR d, eM u, eI (many : Int), eI 24, eI (great : Int)] (eMP u many) (rDk d g n) (rDk d g (n + 300)) := fun vs ω Q E ha hr h1' h2 hk => ⟨GMa.mk d g n u many great, ω, rfl, ok, ha, satD1.mpr ⟨hr, h1', h2⟩, fun v ω' l d hv => hk v ω' l (satD1.mp d).1 hv⟩
abbrev LMachine (P : Program) (w : World) (K : PySem.W.Frag) (mg : Str → Option Value) (base : Heap) : Prop := Cal P w K mg base "_law_machine" p__law_machine 4 spLMachine
theorem cal_lmachine (T : Txt K mg) (D : DefAt K mg "_law_machine" s__law_machine) (c__law_draw : LDraw P w K mg base) (c__law_number : LNumber P w K mg base) : LMachine P w K mg base := by
  refine cal_of D sc__law_machine (fun _ _ _ _ _ _ us hl => match us, hl with | [_, _, _, _, _], _ => rfl) (len_r fun _ => rfl) fun f cdv A outer s H E hr => ⟨_, (pss_cons (ps_setLc (i := 5) (own := [("_law_k", 7)]) rfl sc__law_machine.nd rfl rfl (sw_true rfl rfl rfl (by decide +kernel)) (pi_range1 rfl T.range (pa_cons (pv 2) pa_nil)) (blkOk_by (N := n__law_machine) (sc := defScope s__law_machine) (by decide +kernel)) (fun _ _ _ _ _ => (pg_name (i := 7) sc__law_machine.nd rfl (Or.inl rfl))) (fun _ _ _ _ _ => pts_nil) (fun _ _ _ _ _ => (pe_cal c__law_number hr rfl (pa_cons (pv 0) (pa_cons (pv 4) pa_nil)))))
 (pss_cons (ps_set (i := 6) sc__law_machine.nd rfl (Or.inl rfl) (pe_lst pa_nil))
 (pss_cons (ps_for PassesOwn.never rfl (pi_range1 rfl T.range (pa_cons (pe_cal c__law_draw hr rfl (pa_cons (pv 0) (pa_cons (pe_op op_add pe_int (pe_callB (call_min3Nu rfl) (by rfl) T.min (by decide +kernel) (pa_cons (pv 3) (pa_cons pe_int (pa_cons (pe_op op_mulX pe_int (pv 2)) pa_nil))))) pa_nil))) pa_nil)) (pg_name (i := 7) sc__law_machine.nd rfl (Or.inl rfl))
 (pss_cons (ps_set (i := 8) sc__law_machine.nd rfl (Or.inl rfl) (pe_tup (pa_cons (pe_cal c__law_draw hr rfl (pa_cons (pv 0) (pa_cons (pv 2) pa_nil))) (pa_cons (pe_ix ix_str (pv 1) (pe_cal c__law_draw hr rfl (pa_cons (pv 0) (pa_cons (pe_callB call_len_str (by rfl) T.len (by decide +kernel) (pa_cons (pv 1) pa_nil)) pa_nil))) (fun _ _ => rfl)) (pa_cons (pe_cal c__law_draw hr rfl (pa_cons (pv 0) (pa_cons (pv 2) pa_nil))) pa_nil)))))
 (pss_cons (ps_set (i := 8) sc__law_machine.nd rfl (Or.inl rfl) (pe_op op_catT (pv 8) (pe_tup (pa_cons (pe_cal c__law_number hr rfl (pa_cons (pv 0) (pa_cons (pv 4) pa_nil))) pa_nil))))
 (Evl.pss_cut (ps_if (PW.pt (pw_and (pt_cmpR (op_neD hr.units) (pv 6) (pe_lst pa_nil) (nomark _)) (pw_and1 (pt_cmpR op_eq (pe_cal c__law_draw hr rfl (pa_cons (pv 0) (pa_cons pe_int pa_nil))) pe_int (nomark _))))) (pss_one (ps_set (i := 8) sc__law_machine.nd rfl (Or.inl rfl) (pe_ix ix_list (pv 6) (pe_cal c__law_draw hr rfl (pa_cons (pv 0) (pa_cons (pe_callB call_len_seq (by rfl) T.len (by decide +kernel) (pa_cons (pv 6) pa_nil)) pa_nil))) (fun _ _ => rfl)))) pss_nil)
 (pss_one (ps_expr (pe_bm PySem.F.plainAttrs_list PySem.F.slot_list_append PySem.F.type_list_append mt_append (pv 6) (pa_cons (pv 8) pa_nil))))))))
 (pss_one (ps_ret (pe_lst (pa_cons (pv 1) (pa_cons (pv 5) (pa_cons (pv 6) (pa_cons (pe_lc (own := [("_law_k", 7)]) rfl sc__law_machine.nd (pi_range1 rfl T.range (pa_cons (pv 2) pa_nil)) (blkOk_by (N := n__law_machine) (sc := defScope s__law_machine) (by decide +kernel)) (fun _ _ _ _ _ => (pg_name (i := 7) sc__law_machine.nd rfl (Or.inl rfl))) (fun _ _ _ _ _ => pts_nil) (fun _ _ _ _ _ => (pe_cal c__law_number hr rfl (pa_cons (pv 0) (pa_cons (pv 4) pa_nil))))) pa_nil)))))))))), body_r fun b ok ω Q d0 hQ => ?_⟩
  obtain ⟨d, g, n, u, many, great⟩ := b
  obtain ⟨hn, sg, l1, my, g0, g1⟩ := ok
  have hn : n ≤ 200000 := hn
  have sg : SgOk u := sg
  have l1 : u.length ≤ 3 := l1
  have my : many ≤ 6 := my
  have g0 : 3 ≤ great := g0
  have g1 : great ≤ 10 := g1
  have hQ : ∀ v ω', LeX [d, g] ω ω' → SatD [rDk d g (n + 300)] ω' → (eMP u many).r v ω'.M → Q v ω'.H := hQ
  have od : Own (bsS ω [d, g]) [d, g] := fun a ha => .inl ha
  have num : ∀ (Γ : List (Option En)) (Δ : List Rs) (k : Nat), Γ[0]? = some (some (eR d)) → Γ[4]? = some (some (eI (great : Int))) → k ≤ n + 300 → Ev [d, g] (tCall spLNumber [] E0 (tCons (tVar 0) (tCons (tVar 4) tNil))) Γ (rDk d g k :: Δ) eNm (rDk d g (k + 3) :: Δ) := by
    intro Γ Δ k h0 h4 hk
    exact ev_callR (k := 0) (ea_cons (ev_var h0) (ea_cons (ev_var h4) ea_nil)) (number_call (n := k) g0 g1 (by omega)) rfl (fun _ h => h) rfl (fun _ h => h) rfl
  refine q_asgP (C := [d, g]) (ep_nums (many := many) (n := n) (d := d) (g := g) (Δ := []) (ea_cons (ev_var rfl) ea_nil) (by omega) (fun i k hk => num _ _ _ rfl rfl (by omega)) (fun p hp => by simpa using hp)) (fun x hx => ?_) od
  obtain ⟨my', bg⟩ := x
  obtain ⟨e, _, bl, br⟩ := hx
  have e : many = my' := e.symm
  subst e
  have bl : bg.length = many := bl
  have br : ∀ q ∈ bg, RB 2520 12600 q := br
  refine t_conv (rDk_le (show n + 3 * many ≤ n + 18 by omega)) rfl ?_
  refine q_asgX (γ := Addr) (C := []) (ex_lst (es := []) ea_nil (Nat.zero_le _)) fun p hp => ?_
  have hp : ω.H p = none := hp p List.mem_cons_self
  have op : Own (bsS ω [d, g]) [p, d, g] := fun a ha => (List.mem_cons.mp ha).elim (fun e => .inr (by rw [e]; exact hp)) .inl
  have hlt : ∀ c ∈ u, c < 200 := fun c hc => by have := sg.lt c hc; omega
  have drw : ∀ (Γ : List (Option En)) (Δ : List Rs) (k j lim : Nat) (ta : TE), Γ[0]? = some (some (eR d)) → Δ[j]? = some (rDk d g k) → 0 < lim → lim ≤ 1000 → k ≤ n + 300 → Ev [d, g] ta Γ Δ (eI (lim : Int)) Δ → Ev [d, g] (tCall spLDraw [] E0 (tCons (tVar 0) (tCons ta tNil))) Γ Δ (eDr lim) (Δ.set j (rDk d g (k + 1))) := by
    intro Γ Δ k j lim ta h0 hj l0 l1 hk ht
    exact ev_callR (k := j) (ea_cons (ev_var h0) (ea_cons ht ea_nil)) (draw_call (n := k) l0 (by omega) (by omega)) hj (fun _ h => h) rfl (fun _ h => h) rfl
  have hL : ((1 + min 24 (5 * many) : Nat) : Int) = 1 + min (min 24 24) (5 * (many : Int)) := by omega
  refine q_forX (C := [d, g]) (N := fun k => k < 1 + min 24 (5 * many)) (β := List Road) (fun i rs => rs.length = i ∧ ∀ r ∈ rs, RdP u many r) (fun i rs => [some (eR d), some (eM u), some (eI (many : Int)), some (eI 24), some (eI (great : Int)), some (eLst (bg.map eQ)), some (eR p), none, none]) (fun i rs => [some (eR d), some (eM u), some (eI (many : Int)), some (eI 24), some (eI (great : Int)), some (eLst (bg.map eQ)), some (eR p), some (eI (i : Int)), none]) (fun i rs => [rL p (rs.map eRd), rDk d g (n + 19 + 8 * i)]) (it_rangeX (ea_cons (drw _ _ (n + 18) 1 (1 + min 24 (5 * many)) _ rfl rfl (by omega) (by omega) (by omega) ?_) ea_nil) (fun k hk => by omega)) ?_ (fun _ _ _ _ _ _ => tg_name) (fun mm k i rs hk hi hP => ?_) (fun k rs hk hP => ?_) od
  · exact ev_is (ev_op ev_c (ev_cb (ea_cons (ev_var rfl) (ea_cons ev_c (ea_cons (ev_op ev_c (ev_var rfl) (op_I (mulx (a := 3) (b := 4) (by decide) (by omega) (by decide)))) ea_nil))) opc_min3) op_I0) (by rw [hL])
  · exact ⟨[], ⟨rfl, fun r h => nomatch h⟩, ⟨rfl, rfl, rfl, rfl, rfl, rfl, rfl, trivial⟩, rfl⟩
  · obtain ⟨hl, hR⟩ := hP
    have m1 : 1 ≤ many := by omega
    have i24 : i < 24 := by omega
    have u1 : 1 ≤ u.length := by
      rcases u with _ | _
      · exact absurd rfl sg.ne
      · exact Nat.succ_pos _
    have K0 : n + 19 + 8 * i ≤ n + 250 := by omega
    refine q_asg (C := [d, g]) (Δ1 := [rL p (rs.map eRd), rDk d g (n + 19 + 8 * i + 3)]) (e := eTup [eDr many, eCh u, eDr many]) (ev_tup (ea_cons (drw _ _ (n + 19 + 8 * i) 1 many _ rfl rfl (by omega) (by omega) (by omega) (ev_var rfl)) (ea_cons (ev_op (a := eM u) (b := eDr u.length) (ev_var rfl) (drw _ _ (n + 19 + 8 * i + 1) 1 u.length _ rfl rfl (by omega) (by omega) (by omega) (ev_cb (ea_cons (ev_var rfl) ea_nil) (op_lenS (by omega)))) (op_anyR fun j hj => op_weak (op_ixS (c := u.getD j 0) (by omega) ?_) ?_)) (ea_cons (drw _ _ (n + 19 + 8 * i + 2) 1 many _ rfl rfl (by omega) (by omega) (by omega) (ev_var rfl)) ea_nil)))) ?_ od
    · show (ixN u.length (j : Int)).bind _ = _
      rw [ixN_nat hj]
      show u[j]? = _
      rw [List.getElem?_eq_getElem hj, getD_of_lt 0 hj]
    · exact le_any (P := (· ∈ u)) (f := fun c => eM [c]) _ (getD_mem (d := 0) hj)
    refine q_asg (C := [d, g]) (Δ1 := [rL p (rs.map eRd), rDk d g (n + 19 + 8 * i + 6)]) (e := eRP u many) (ev_le (ev_op (ev_var rfl) (ev_tup (ea_cons (ev_callR (k := 1) (ea_cons (ev_var rfl) (ea_cons (ev_var rfl) ea_nil)) (number_call (n := n + 19 + 8 * i + 3) g0 g1 (by omega)) rfl (fun _ h => h) rfl (fun _ h => h) rfl) ea_nil)) (op_catT4 (fun z => nomatch z) (fun z => nomatch z) (Nat.le_of_ble_eq_true rfl))) le_road) ?_ od
    refine tr_cut (As ((bsS ω [d, g]).at mm) [some (eR d), some (eM u), some (eI (many : Int)), some (eI 24), some (eI (great : Int)), some (eLst (bg.map eQ)), some (eR p), some (eI (i : Int)), some (eRP u many)] [rL p (rs.map eRd), rDk d g (n + 19 + 8 * i + 8)]) ?_ (t_any (i := 8) rfl fun r hr => ?_)
    · rcases Decidable.em (rs = []) with h | h
      · refine s_if (C := []) (c := false) (et_andF (et_test (ev_is (ev_neNilT (xs := rs) (ev_var rfl) (ev_lst ea_nil) List.mem_cons_self fun r hr => hlt _ (hR r hr).s) (by rw [h]; rfl)))) (fun z => nomatch z) (fun _ => s_next fun _ _ h => as_dk (by omega) h)
      · have rl : 0 < rs.length := List.length_pos_iff.mpr h
        refine s_ifX (C := [d, g]) (Δ1 := [rL p (rs.map eRd), rDk d g (n + 19 + 8 * i + 7)]) (etx_andE (et_test (ev_is (ev_neNilT (xs := rs) (ev_var rfl) (ev_lst ea_nil) List.mem_cons_self fun r hr => hlt _ (hR r hr).s) (by rw [decide_eq_false h]; rfl))) (etx_test (ev_op (drw _ _ (n + 19 + 8 * i + 6) 1 8 _ rfl rfl (by omega) (by omega) (by omega) ev_c) ev_c (op_anyL fun k hk => op_weak op_eqI (le_any (P := fun _ : Bool => True) (f := eB) _ trivial))))) ?_ (s_next fun _ _ h => as_dk (by omega) h) od
        · refine s_asg (C := [d, g]) (Δ1 := [rL p (rs.map eRd), rDk d g (n + 19 + 8 * i + 8)]) (ev_ixMA (p := p) (es := rs.map eRd) (ev_var rfl) (drw _ _ (n + 19 + 8 * i + 7) 1 (rs.map eRd).length _ rfl rfl (by rw [List.length_map]; omega) (by rw [List.length_map]; omega) (by omega) (ev_lenM (es := rs.map eRd) (ev_var rfl) List.mem_cons_self)) List.mem_cons_self fun j f hf => ?_) (fun _ _ h => h) od
          rw [List.getElem?_map] at hf
          obtain ⟨r, hr, e⟩ := Option.map_eq_some_iff.mp hf
          rw [← e]
          exact le_any (P := RdP u many) (f := eRd) r (hR r (List.mem_of_getElem? hr))
    · refine s_drop (C := [p]) (Δ1 := [rL p ((rs ++ [r]).map eRd), rDk d g (n + 19 + 8 * i + 8)]) (ev_append (k := 0) (Δ2 := [rL p (rs.map eRd), rDk d g (n + 19 + 8 * i + 8)]) (es := rs.map eRd) (fs := rs.map eRd) (e := eRd r) (ev_var rfl) List.mem_cons_self (ev_var rfl) rfl (by rw [List.length_map]; omega) List.mem_cons_self (by rw [map_snoc eRd rs r]; rfl)) (lp_mk (rs ++ [r]) ⟨by rw [List.length_append, hl]; rfl, fun z hz => (List.mem_append.mp hz).elim (hR z) fun e => by rw [List.mem_singleton.mp e]; exact hr⟩ rfl ⟨rfl, rfl, rfl, rfl, rfl, rfl, rfl, trivial⟩) (own1 hp)
  · obtain ⟨hl, hR⟩ := hP
    refine t_frz (i := 6) hp rfl ?_
    refine t_conv (rDk_le (show n + 19 + 8 * k ≤ n + 250 by omega)) rfl ?_
    refine s_ret (C := [d, g]) (Δ1 := [rDk d g (n + 300)]) (e := eLst [eM u, eQs bg, eLst (rs.map eRd), eAny (Nat × List Rat) (fun x => x.2.length = many ∧ ∀ q ∈ x.2, RB 2520 12600 q) fun x => eLst (x.2.map eQ)]) (ev_lst (ea_cons (ev_var rfl) (ea_cons (ev_var rfl) (ea_cons (ev_var rfl) (ea_cons (ev_ofP (ep_nums (many := many) (n := n + 250) (d := d) (g := g) (Δ := []) (ea_cons (ev_var rfl) ea_nil) (by omega) (fun i k hk => num _ _ _ rfl rfl (by omega)) (fun p hp => by simpa using hp)) (fun x hx => ⟨hx.2.2.1.trans hx.1, hx.2.2.2⟩) fun x ω hx s => sat_dk (show n + 250 + 3 * x.1 ≤ n + 300 by have := hx.2.1; omega) s) ea_nil))))) (fun v ω' l ds hv => hQ v ω' l ds ?_) od
    obtain ⟨a, vs, e, hm, hvs⟩ := hv
    match vs, hvs with
    | [v1, v2, v3, v4], ⟨h1, h2, h3, ⟨x, hx, h4⟩, _⟩ => exact ⟨⟨u, bg, rs, x.2⟩, ⟨rfl, bl, hx.1, by show rs.length ≤ 24; omega, fun r hr => ⟨(hR r hr).a, (hR r hr).s, (hR r hr).b, (hR r hr).q⟩, br, hx.2⟩, a, _, e, hm, h1, h2, h3, h4, trivial⟩
end
end Tw

/-! the law's some machine, walked -/
namespace Tw
open PySem L2 PyProof.Rows

theorem tg_lst {K : PySem.W.Frag} {Γ Γ' : List (Option En)} {gs : TGs} {es : List En} {n : Nat} (hn : es.length = n) (h : TgsOk gs Γ es Γ') : TgOk (gLst K n gs) Γ (eLst es) Γ' := fun x σ ω Q s h' k => by
  obtain ⟨a, vs, rfl, ha, hv⟩ := h'
  exact ⟨a, vs, rfl, SqL.of (ω.sub _ _ ha), by rw [hv.len, hn], h vs σ ω Q s hv k⟩
theorem ev_lcFL {C : List Addr} {Γ : List (Option En)} {Δ : List Rs} {K : PySem.W.Frag} {te tl : TE} {tt : TT} {j : Nat} {α : Type} {xs : List α} {φ ψ : α → En} {c : α → Bool} (d0 : α) (h : Ev [] tl Γ Δ (eLst (xs.map φ)) Δ) (hl : xs.length ≤ 100000) (hc : ∀ x ∈ xs, EvT [] tt (Γ.set j (some (φ x))) Δ (c x) Δ) (he : ∀ x ∈ xs, Ev [] te (Γ.set j (some (φ x))) Δ (ψ x) Δ) :
    Ev C (tLc (iList K tl) (gName j) tt te [j]) Γ Δ (eLst ((xs.filter c).map ψ)) Δ :=
  ev_lcF (d0 := d0) (xs := xs) (it := itm (xs.map φ)) (Γt := fun i => Γ.set j (some (itm (xs.map φ) i))) hl (fun W => by
    have := it_list (W := W) (K := K) h
    rw [List.length_map] at this
    exact this) (fun i hi => by
    have := tv_name (vs := [j]) (Γ := wipeΓ Γ [j]) (e := itm (xs.map φ) i) (i := j) List.mem_cons_self
    rw [show (wipeΓ Γ [j]).set j (some (itm (xs.map φ) i)) = Γ.set j (some (itm (xs.map φ) i)) from List.set_set ..] at this
    exact this) (fun i hi => by rw [itm_map d0 hi]; exact hc _ (getD_mem d0 hi)) (fun i hi _ => by rw [itm_map d0 hi]; exact he _ (getD_mem d0 hi))
theorem ev_take {C : List Addr} {Γ : List (Option En)} {Δ Δ1 Δ2 : List Rs} {K : PySem.W.Frag} {te : TE} {th : TO} {α : Type} {xs : List α} {φ : α → En} {k : Nat} (h : Ev C te Γ Δ (eLst (xs.map φ)) Δ1) (h2 : EvO C th Γ Δ1 (some (k : Int)) Δ2) : Ev C (tSl (rSlL K) te tNoPart th) Γ Δ (eLst ((xs.take k).map φ)) Δ2 :=
  ev_slL h eo_none h2 (by
    rw [HT.sIx_none, HT.sIx_nat, List.length_map, List.drop_zero, Nat.sub_zero, List.map_take]
    rcases Nat.le_total k xs.length with q | q
    · rw [Nat.min_eq_left q]
    · rw [Nat.min_eq_right q, List.take_of_length_le (by rw [List.length_map]; exact Nat.le_refl _), List.take_of_length_le (by rw [List.length_map]; exact q)])
structure GSo where
  d : Addr
  g : Addr
  n : Nat
  u : List Nat
  many : Nat
  great : Nat
structure GSo.Ok (b : GSo) : Prop where
  n : b.n ≤ 200000
  sg : SgOk b.u
  l1 : b.u.length ≤ 3
  my : b.many ≤ 6
  g0 : 3 ≤ b.great
  g1 : b.great ≤ 10
section
variable {P : Program} {w : World} {K : PySem.W.Frag} {mg : Str → Option Value} {base : Heap}
abbrev s__law_some_machine : Stmt := topS 52
abbrev n__law_some_machine : List Str := ["_law_deck_here", "_law_signs_here", "_law_many", "_law_great", "_law_parts", "_law_kind", "_law_last", "_law_begin", "_law_roads", "_law_end", "_law_state", "_law_number_here", "_law_road"]
abbrev p__law_some_machine : List Str := ["_law_deck_here", "_law_signs_here", "_law_many", "_law_great"]
theorem sc__law_some_machine : FnScope n__law_some_machine p__law_some_machine (defScope s__law_some_machine) := ⟨rfl, rfl, rfl, by decide +kernel, rfl, by decide +kernel, by decide +kernel⟩
def spLSome : Sp := spR (β := GSo) (fun b => [eR b.d, eM b.u, eI (b.many : Int), eI (b.great : Int)]) GSo.Ok (fun b => eMP b.u b.many) (fun b => [b.d, b.g]) (fun b => rDk b.d b.g b.n) (fun b => rDk b.d b.g (b.n + 301))
theorem some_call {d g : Addr} {n : Nat} {u : List Nat} {many great : Nat} (ok : GSo.Ok ⟨d, g, n, u, many, great⟩) : SpR [d, g] spLSome [eR d, eM u, eI (many : Int), eI (great : Int)] (eMP u many) (rDk d g n) (rDk d g (n + 301)) := fun vs ω Q E ha hr h1' h2 hk => ⟨GSo.mk d g n u many great, ω, rfl, ok, ha, satD1.mpr ⟨hr, h1', h2⟩, fun v ω' l d hv => hk v ω' l (satD1.mp d).1 hv⟩
abbrev LSome (P : Program) (w : World) (K : PySem.W.Frag) (mg : Str → Option Value) (base : Heap) : Prop := Cal P w K mg base "_law_some_machine" p__law_some_machine 5 spLSome
theorem cal_lsome (T : Txt K mg) (D : DefAt K mg "_law_some_machine" s__law_some_machine) (c__law_draw : LDraw P w K mg base) (c__law_machine : LMachine P w K mg base) : LSome P w K mg base := by
  refine cal_of D sc__law_some_machine (fun _ _ _ _ _ _ us hl => match us, hl with | [_, _, _, _], _ => rfl) (len_r fun _ => rfl) fun f cdv A outer s H E hr => ⟨_, (pss_cons (ps_set (i := 4) sc__law_some_machine.nd rfl (Or.inl rfl) (pe_cal c__law_machine hr rfl (pa_cons (pv 0) (pa_cons (pv 1) (pa_cons (pv 2) (pa_cons pe_int (pa_cons (pv 3) pa_nil)))))))
 (pss_cons (ps_asg (pe_tup (pa_cons (pe_cal c__law_draw hr rfl (pa_cons (pv 0) (pa_cons pe_int pa_nil))) (pa_cons (pe_op op_sub (pv 2) pe_int) pa_nil))) (pg_tup rfl (pgs_cons (pg_name (i := 5) sc__law_some_machine.nd rfl (Or.inl rfl)) (pgs_cons (pg_name (i := 6) sc__law_some_machine.nd rfl (Or.inr rfl)) pgs_nil))))
 (Evl.pss_cut (ps_if (PW.pt (pw_or (pt_cmpR op_lt (pv 2) pe_int (nomark _)) (pw_or1 (pt_cmpR op_lt (pv 5) pe_int (nomark _))))) (pss_one (ps_ret (pv 4))) pss_nil)
 (pss_cons (ps_asg (pv 4) (pg_lst rfl (pgs_cons (pg_name (i := 1) sc__law_some_machine.nd rfl (Or.inl rfl)) (pgs_cons (pg_name (i := 7) sc__law_some_machine.nd rfl (Or.inl rfl)) (pgs_cons (pg_name (i := 8) sc__law_some_machine.nd rfl (Or.inl rfl)) (pgs_cons (pg_name (i := 9) sc__law_some_machine.nd rfl (Or.inl rfl)) pgs_nil))))))
 (Evl.pss_cut (ps_if (pt_cmpR op_eq (pv 5) pe_int (nomark _)) (pss_cons (ps_setLc (i := 7) (own := [("_law_state", 10)]) rfl sc__law_some_machine.nd rfl rfl (sw_true rfl rfl rfl (by decide +kernel)) (pi_range1 rfl T.range (pa_cons (pv 2) pa_nil)) (blkOk_by (N := n__law_some_machine) (sc := defScope s__law_some_machine) (by decide +kernel)) (fun _ _ _ _ _ => (pg_name (i := 10) sc__law_some_machine.nd rfl (Or.inl rfl))) (fun _ _ _ _ _ => pts_nil) (fun _ _ _ _ _ => (pe_tup (pa_cons (pe_callTy call_int1 (by rfl) T.int (by decide +kernel) (pa_cons (pe_cmpR op_eq (pv 10) pe_int (nomark _)) pa_nil)) (pa_cons pe_int pa_nil)))))
 (pss_one (ps_setLc (i := 9) (own := [("_law_state", 10)]) rfl sc__law_some_machine.nd rfl rfl (sw_true rfl rfl rfl (by decide +kernel)) (pi_range1 rfl T.range (pa_cons (pv 2) pa_nil)) (blkOk_by (N := n__law_some_machine) (sc := defScope s__law_some_machine) (by decide +kernel)) (fun _ _ _ _ _ => (pg_name (i := 10) sc__law_some_machine.nd rfl (Or.inl rfl))) (fun _ _ _ _ _ => pts_nil) (fun _ _ _ _ _ => (pe_tup (pa_cons (pe_callTy call_int1 (by rfl) T.int (by decide +kernel) (pa_cons (pe_cmpR op_eq (pv 10) (pv 6) (nomark _)) pa_nil)) (pa_cons pe_int pa_nil))))))) (pss_one (ps_if (pt_cmpR op_eq (pv 5) pe_int (nomark _)) (pss_one (ps_setLc (i := 7) (own := [("_law_number_here", 11)]) rfl sc__law_some_machine.nd rfl rfl (sw_true rfl rfl rfl (by decide +kernel)) (pi_list (pv 7)) (blkOk_by (N := n__law_some_machine) (sc := defScope s__law_some_machine) (by decide +kernel)) (fun _ _ _ _ _ => (pg_name (i := 11) sc__law_some_machine.nd rfl (Or.inl rfl))) (fun _ _ _ _ _ => pts_nil) (fun _ _ _ _ _ => (pe_tup (pa_cons pe_int (pa_cons pe_int pa_nil)))))) (pss_cons (ps_set (i := 8) sc__law_some_machine.nd rfl (Or.inl rfl) (pe_slice sl_list (pe_lc (own := [("_law_road", 12)]) rfl sc__law_some_machine.nd (pi_list (pv 8)) (blkOk_by (N := n__law_some_machine) (sc := defScope s__law_some_machine) (by decide +kernel)) (fun _ _ _ _ _ => (pg_name (i := 12) sc__law_some_machine.nd rfl (Or.inl rfl))) (fun _ _ _ _ _ => (pts_one (pt_cmpR op_ne (pe_ix (ixT K rfl) (pv 12) pe_int (fun _ _ => rfl)) (pv 6) (nomark _)))) (fun _ _ _ _ _ => (pv 12))) po_none (po_some pe_int)))
 (pss_cons (ps_set (i := 8) sc__law_some_machine.nd rfl (Or.inl rfl) (pe_op op_cat (pv 8) (pe_lc (own := [("_law_road", 12)]) rfl sc__law_some_machine.nd (pi_list (pv 8)) (blkOk_by (N := n__law_some_machine) (sc := defScope s__law_some_machine) (by decide +kernel)) (fun _ _ _ _ _ => (pg_name (i := 12) sc__law_some_machine.nd rfl (Or.inl rfl))) (fun _ _ _ _ _ => (pts_one (pt_cmpR op_eq (pe_ix (ixT K rfl) (pv 12) pe_int (fun _ _ => rfl)) pe_int (nomark _)))) (fun _ _ _ _ _ => (pe_tup (pa_cons (pv 6) (pa_cons (pe_ix (ixT K rfl) (pv 12) pe_int (fun _ _ => rfl)) (pa_cons (pe_ix (ixT K rfl) (pv 12) pe_int (fun _ _ => rfl)) (pa_cons (pe_ix (ixT K rfl) (pv 12) pe_int (fun _ _ => rfl)) pa_nil)))))))))
 (pss_cons (ps_set (i := 9) sc__law_some_machine.nd rfl (Or.inl rfl) (pe_op op_cat (pe_slice sl_list (pv 9) po_none (po_some (pv 6))) (pe_lst (pa_cons (pe_ix ix_list (pv 9) pe_int (fun _ _ => rfl)) pa_nil))))
 (pss_one (ps_if (pt_cmpR op_eq (pv 5) pe_int (nomark _)) (pss_one (ps_set (i := 7) sc__law_some_machine.nd rfl (Or.inl rfl) (pe_op op_cat (pe_slice sl_list (pv 7) po_none (po_some (pv 6))) (pe_lst (pa_cons (pe_tup (pa_cons (pe_op op_sub pe_int (pe_ix ix_tup (pe_ix ix_list (pv 7) pe_int (fun _ _ => rfl)) pe_int (fun _ _ => rfl))) (pa_cons (pe_ix ix_tup (pe_ix ix_list (pv 7) pe_int (fun _ _ => rfl)) pe_int (fun _ _ => rfl)) pa_nil))) pa_nil))))) pss_nil))))))))
 (pss_one (ps_ret (pe_lst (pa_cons (pv 1) (pa_cons (pv 7) (pa_cons (pv 8) (pa_cons (pv 9) pa_nil)))))))))))), body_r fun b ok ω Q d0 hQ => ?_⟩
  obtain ⟨d, g, n, u, many, great⟩ := b
  obtain ⟨hn, sg, l1, my, g0, g1⟩ := ok
  have hn : n ≤ 200000 := hn
  have sg : SgOk u := sg
  have l1 : u.length ≤ 3 := l1
  have my : many ≤ 6 := my
  have hQ : ∀ v ω', LeX [d, g] ω ω' → SatD [rDk d g (n + 301)] ω' → (eMP u many).r v ω'.M → Q v ω'.H := hQ
  have od : Own (bsS ω [d, g]) [d, g] := fun a ha => .inl ha
  refine q_asg (C := [d, g]) (ev_callR (k := 0) (ea_cons (ev_var rfl) (ea_cons (ev_var rfl) (ea_cons (ev_var rfl) (ea_cons ev_c (ea_cons (ev_var rfl) ea_nil))))) (machine_call (n := n) (d := d) (g := g) (u := u) (many := many) (great := great) ⟨hn, sg, l1, my, g0, g1⟩) rfl (fun _ h => h) rfl (fun _ h => h) rfl) ?_ od
  refine t_any (i := 4) rfl fun m hm => ?_
  refine q_asgT (C := [d, g]) (Δ1 := [rDk d g (n + 301)]) (e := eTup [eDr 8, eI ((many : Int) - 1)]) (ev_tup (ea_cons (ev_callR (k := 0) (ea_cons (ev_var rfl) (ea_cons ev_c ea_nil)) (draw_call (n := n + 300) (lim := 8) (by omega) (by omega) (by omega)) rfl (fun _ h => h) rfl (fun _ h => h) rfl) (ea_cons (ev_op (ev_var rfl) ev_c op_I0) ea_nil)) (Nat.le_of_ble_eq_true rfl)) (tg_tup rfl (tgs_cons tg_name (tgs_cons tg_name tgs_nil))) ?_ od
  refine t_any (i := 5) rfl fun k hk => ?_
  obtain ⟨sgn, bg, rs, en⟩ := m
  obtain ⟨e1, bl, el, rl, rd, br, er⟩ := hm
  have e1 : u = sgn := e1.symm
  subst e1
  have bl : bg.length = many := bl
  have el : en.length = many := el
  have rl : rs.length ≤ 24 := rl
  have rd : ∀ r ∈ rs, r.1 < many ∧ r.2.1 ∈ u ∧ r.2.2.1 < many ∧ RB 2520 12600 r.2.2.2 := rd
  have br : ∀ q ∈ bg, RB 2520 12600 q := br
  have er : ∀ q ∈ en, RB 2520 12600 q := er
  have rb0 : RB 2520 12600 0 := RB.zero _ _
  have rb1 : RB 2520 12600 1 := ⟨2520, by show (2520 : Rat) = _; grind, by decide⟩
  have lm2 : ((many : Int) - 1).toNat = many - 1 := by omega
  refine tr_cutP (2 ≤ many ∧ 4 ≤ k) (As (bsS ω [d, g]) (((((Γ0 n__law_some_machine [eR d, eM u, eI (many : Int), eI (great : Int)]).set 4 (some (eParts ⟨u, bg, rs, en⟩))).set 5 (some (eI (k : Int)))).set 6 (some (eI ((many : Int) - 1))))) [rDk d g (n + 301)]) ?_ (fun hmk => ?_)
  · refine s_if (C := []) (c := decide ((many : Int) < 2) || decide ((k : Int) < 4)) (et_or (et_test (ev_op (ev_var rfl) ev_c op_I0)) fun _ => et_test (ev_op (ev_var rfl) ev_c op_I0)) (fun h => ?_) (fun h => s_next fun _ _ z => ⟨?_, z⟩)
    · exact s_ret (C := []) (ev_var rfl) fun v ω' l ds hv => hQ v ω' l ds ⟨⟨u, bg, rs, en⟩, ⟨rfl, bl, el, rl, rd, br, er⟩, hv⟩
    · have h1 := (Bool.or_eq_false_iff.mp h).1
      have h2 := (Bool.or_eq_false_iff.mp h).2
      have h1 := of_decide_eq_false h1
      have h2 := of_decide_eq_false h2
      exact ⟨by omega, by omega⟩
  refine q_asgT (C := []) (ev_var rfl) (tg_lst rfl (tgs_cons tg_name (tgs_cons tg_name (tgs_cons tg_name (tgs_cons tg_name tgs_nil))))) ?_
  refine tr_cut (Lp (bsS ω [d, g]) (MaOk u many) (fun m => [none, some (eM u), none, none, none, none, none, some (eQs m.bg), some (eLst (m.roads.map eRd)), some (eQs m.en), none, none, none]) (fun _ => [rDk d g (n + 301)])) ?_ (tr_lp fun m hm => ?_)
  · refine s_if (C := []) (et_test (ev_op (ev_var rfl) ev_c op_eqI)) (fun h => ?_) (fun h => ?_)
    · refine q_asg (C := []) (Δ1 := [rDk d g (n + 301)]) (e := eQs ((List.range many).map fun i => if i = 0 then 1 else 0)) ?_ ?_
      · exact ev_is (ev_lcR (n := many) (f := fun i => eQ (if i = 0 then 1 else 0)) (ea_cons (ev_var rfl) ea_nil) (by omega) fun i hi => ev_is (ev_tup (ea_cons (ev_cb (ea_cons (ev_op (ev_var rfl) ev_c op_eqI) ea_nil) op_intB) (ea_cons ev_c ea_nil))) (by
          by_cases h : i = 0
          · rw [if_pos h, h]; rfl
          · rw [if_neg h, decide_eq_false (by omega)]; rfl)) (by show _ = eLst _; rw [List.map_map]; rfl)
      · refine s_asg (C := []) (Δ1 := [rDk d g (n + 301)]) (e := eQs ((List.range many).map fun i => if i = many - 1 then 1 else 0)) ?_ (lp_mk ⟨u, (List.range many).map fun i => if i = 0 then 1 else 0, rs, (List.range many).map fun i => if i = many - 1 then 1 else 0⟩ ⟨rfl, by simp, by simp, rl, rd, fun q hq => ?_, fun q hq => ?_⟩ rfl ?_)
        · exact ev_is (ev_lcR (n := many) (f := fun i => eQ (if i = many - 1 then 1 else 0)) (ea_cons (ev_var rfl) ea_nil) (by omega) fun i hi => ev_is (ev_tup (ea_cons (ev_cb (ea_cons (ev_op (ev_var rfl) (ev_var rfl) op_eqI) ea_nil) op_intB) (ea_cons ev_c ea_nil))) (by
            by_cases h : i = many - 1
            · rw [if_pos h, decide_eq_true (by omega)]; rfl
            · rw [if_neg h, decide_eq_false (by omega)]; rfl)) (by show _ = eLst _; rw [List.map_map]; rfl)
        · obtain ⟨i, _, e⟩ := List.mem_map.mp hq
          rw [← e]
          split
          · exact rb1
          · exact rb0
        · obtain ⟨i, _, e⟩ := List.mem_map.mp hq
          rw [← e]
          split
          · exact rb1
          · exact rb0
        · exact ⟨rfl, rfl, rfl, rfl, trivial⟩
    · refine s_if (C := []) (et_test (ev_op (ev_var rfl) ev_c op_eqI)) (fun h => ?_) (fun h => ?_)
      · refine s_asg (C := []) (Δ1 := [rDk d g (n + 301)]) (e := eQs (bg.map fun _ => 0)) (ev_is (ev_lcL (xs := bg) (φ := eQ) (ψ := fun _ => eQ 0) (ev_var rfl) (by omega) fun q _ => ev_tup (ea_cons ev_c (ea_cons ev_c ea_nil))) (by show _ = eLst _; rw [List.map_map]; rfl)) (lp_mk ⟨u, bg.map fun _ => 0, rs, en⟩ ⟨rfl, by rw [List.length_map]; exact bl, el, rl, rd, fun q hq => ?_, er⟩ rfl ?_)
        · obtain ⟨i, _, e⟩ := List.mem_map.mp hq
          rw [← e]
          exact rb0
        · exact ⟨rfl, rfl, rfl, rfl, trivial⟩
      · have hlast : ((many : Int) - 1) = ((many - 1 : Nat) : Int) := by omega
        obtain ⟨e0, et, rfl⟩ : ∃ e0 et, en = e0 :: et := by
          cases en with
          | nil => exact absurd el (by simp; omega)
          | cons a b => exact ⟨a, b, rfl⟩
        obtain ⟨b0, bt, rfl⟩ : ∃ b0 bt, bg = b0 :: bt := by
          cases bg with
          | nil => exact absurd bl (by simp; omega)
          | cons a b => exact ⟨a, b, rfl⟩
        refine q_asg (C := []) (Δ1 := [rDk d g (n + 301)]) (e := eLst (((rs.filter fun r => !decide ((r.1 : Int) = (many : Int) - 1)).take 12).map eRd)) (ev_take (φ := eRd) (ev_lcFL (xs := rs) (φ := eRd) (ψ := eRd) (0, 0, 0, 0) (ev_var rfl) (by omega) (fun r _ => et_test (ev_op (ev_op (ev_is (ev_var rfl) (show eRd r = _ from rfl)) ev_c op_t0) (ev_var rfl) op_neI)) (fun r _ => ev_var rfl)) (eo_some ev_c)) ?_
        have h1l : ((rs.filter fun r => !decide ((r.1 : Int) = (many : Int) - 1)).take 12).length ≤ 12 := List.length_take_le _ _
        have h1m : ∀ r ∈ (rs.filter fun r => !decide ((r.1 : Int) = (many : Int) - 1)).take 12, r ∈ rs := fun r hr => (List.mem_filter.mp (List.mem_of_mem_take hr)).1
        generalize (rs.filter fun r => !decide ((r.1 : Int) = (many : Int) - 1)).take 12 = r1 at h1l h1m
        have h2l : (r1.filter fun r => decide ((r.1 : Int) = 0)).length ≤ 12 := Nat.le_trans (List.length_filter_le _ _) h1l
        refine q_asg (C := []) (Δ1 := [rDk d g (n + 301)]) (e := eLst ((r1 ++ (r1.filter fun r => decide ((r.1 : Int) = 0)).map fun r => (many - 1, r.2)).map eRd)) (ev_is (ev_op (ev_var rfl) (ev_lcFL (xs := r1) (φ := eRd) (ψ := fun r => eRd (many - 1, r.2)) (c := fun r => decide ((r.1 : Int) = 0)) (0, 0, 0, 0) (ev_var rfl) (by omega) (fun r _ => et_test (ev_op (ev_op (ev_is (ev_var rfl) (show eRd r = _ from rfl)) ev_c op_t0) ev_c op_eqI)) (fun r _ => ?_)) (op_cat' (by rw [List.length_map, List.length_map]; omega))) (by rw [List.map_append, List.map_map]; rfl)) ?_
        · exact ev_tup (ea_cons (ev_is (ev_var rfl) (by rw [hlast])) (ea_cons (ev_op (ev_is (ev_var rfl) (show eRd r = _ from rfl)) ev_c op_t1) (ea_cons (ev_op (ev_is (ev_var rfl) (show eRd r = _ from rfl)) ev_c op_t2) (ea_cons (ev_op (ev_is (ev_var rfl) (show eRd r = _ from rfl)) ev_c op_t3) ea_nil)))) (Nat.le_of_ble_eq_true rfl)
        have h3l : (r1 ++ (r1.filter fun r => decide ((r.1 : Int) = 0)).map fun r => (many - 1, r.2)).length ≤ 24 := by rw [List.length_append, List.length_map]; omega
        have h3m : ∀ r ∈ (r1 ++ (r1.filter fun r => decide ((r.1 : Int) = 0)).map fun r => (many - 1, r.2)), r.1 < many ∧ r.2.1 ∈ u ∧ r.2.2.1 < many ∧ RB 2520 12600 r.2.2.2 := fun r hr => by
          rcases List.mem_append.mp hr with hr | hr
          · exact rd r (h1m r hr)
          · obtain ⟨r0, hr0, rfl⟩ := List.mem_map.mp hr
            have := rd r0 (h1m r0 (List.mem_filter.mp hr0).1)
            exact ⟨by show many - 1 < many; omega, this.2⟩
        generalize (r1 ++ (r1.filter fun r => decide ((r.1 : Int) = 0)).map fun r => (many - 1, r.2)) = r2 at h3l h3m
        refine q_asg (C := []) (Δ1 := [rDk d g (n + 301)]) (e := eQs ((e0 :: et).take (many - 1) ++ [e0])) (ev_is (ev_op (ev_take (xs := e0 :: et) (φ := eQ) (k := many - 1) (ev_var rfl) (eo_some (ev_is (ev_var rfl) (by rw [hlast])))) (ev_lst (ea_cons (ev_op (ev_is (ev_var rfl) (show eQs (e0 :: et) = eLst (eQ e0 :: et.map eQ) from rfl)) ev_c op_l0) ea_nil) (Nat.le_of_ble_eq_true rfl)) (op_cat' (by rw [List.length_map, List.length_take]; show _ + 1 ≤ _; omega))) (by show _ = eLst _; rw [List.map_append]; rfl)) ?_
        have el2 : ((e0 :: et).take (many - 1) ++ [e0]).length = many := by rw [List.length_append, List.length_take, el, List.length_singleton]; omega
        have er2 : ∀ q ∈ ((e0 :: et).take (many - 1) ++ [e0]), RB 2520 12600 q := fun q hq => by
          rcases List.mem_append.mp hq with hq | hq
          · exact er q (List.mem_of_mem_take hq)
          · rw [List.mem_singleton.mp hq]; exact er _ List.mem_cons_self
        refine s_if (C := []) (et_test (ev_op (ev_var rfl) ev_c op_eqI)) (fun h => ?_) (fun h => s_next (lp_mk ⟨u, b0 :: bt, r2, (e0 :: et).take (many - 1) ++ [e0]⟩ ⟨rfl, bl, el2, h3l, h3m, br, er2⟩ rfl ⟨rfl, rfl, rfl, rfl, trivial⟩))
        have eneg : eTup [eI (0 - b0.num), eI (b0.den : Int)] = eQ (-b0) := by
          unfold eQ
          rw [Rat.neg_num, Rat.neg_den, Int.zero_sub]
        have rneg : RB 2520 12600 (-b0) := by
          obtain ⟨z, h1, h2⟩ := br b0 List.mem_cons_self
          exact ⟨-z, by rw [Rat.intCast_neg, h1]; grind, by rw [Int.natAbs_neg]; exact h2⟩
        refine s_asg (C := []) (Δ1 := [rDk d g (n + 301)]) (e := eQs ((b0 :: bt).take (many - 1) ++ [-b0])) (ev_is (ev_op (ev_take (xs := b0 :: bt) (φ := eQ) (k := many - 1) (ev_var rfl) (eo_some (ev_is (ev_var rfl) (by rw [hlast])))) (ev_lst (ea_cons (ev_is (ev_tup (ea_cons (ev_op ev_c (ev_op (ev_op (ev_is (ev_var rfl) (show eQs (b0 :: bt) = eLst (eQ b0 :: bt.map eQ) from rfl)) ev_c op_l0) ev_c op_t0) op_I0) (ea_cons (ev_op (ev_op (ev_is (ev_var rfl) (show eQs (b0 :: bt) = eLst (eQ b0 :: bt.map eQ) from rfl)) ev_c op_l0) ev_c op_t1) ea_nil)) (Nat.le_of_ble_eq_true rfl)) eneg) ea_nil) (Nat.le_of_ble_eq_true rfl)) (op_cat' (by rw [List.length_map, List.length_take]; show _ + 1 ≤ _; omega))) (by show _ = eLst _; rw [List.map_append]; rfl)) (lp_mk ⟨u, (b0 :: bt).take (many - 1) ++ [-b0], r2, (e0 :: et).take (many - 1) ++ [e0]⟩ ⟨rfl, ?_, el2, h3l, h3m, fun q hq => ?_, er2⟩ rfl ⟨rfl, rfl, rfl, rfl, trivial⟩)
        · show ((b0 :: bt).take (many - 1) ++ [-b0]).length = many
          rw [List.length_append, List.length_take, bl, List.length_singleton]; omega
        · rcases List.mem_append.mp hq with hq | hq
          · exact br q (List.mem_of_mem_take hq)
          · rw [List.mem_singleton.mp hq]; exact rneg
  · refine s_ret (C := []) (ev_lst (ea_cons (ev_var rfl) (ea_cons (ev_var rfl) (ea_cons (ev_var rfl) (ea_cons (ev_var rfl) ea_nil))))) fun v ω' l ds hv => hQ v ω' l ds ⟨m, hm, ?_⟩
    have := hm.sg
    obtain ⟨s0, b0, r0, e0⟩ := m
    subst this
    exact hv
end
end Tw

/-! len of an object with its own __len__; Tariff.__len__ -/
namespace Tw
open PySem L2 PyProof.Rows

/-- len(x), x an instance of the class at C with the def of __len__ of promise sp -/
def rLenO (C : Addr) (sp : Sp) : List V → Hp → VK → Prop := fun xs H Q => ∃ a dx fs, xs = [V.ref a] ∧ H a = some (.ins C dx fs) ∧ sp [.ref a] H (fun v H' => ∃ n : Int, v = .int n ∧ 0 ≤ n ∧ n < 1000000 ∧ Q (.int n) H') E0
theorem call_lenO {X : Cx} {C : Addr} {ps : List Str} {j k : Nat} {sp : Sp} (c : CalM X.prog X.w X.K X.mg X.base C "__len__" ps j sp) (hr : Room k X.A) (hj : j + 1 ≤ k := by decide) : CallR X (.builtin "len") (rLenO C sp) := by
  obtain ⟨f, fd, F, hm, hb⟩ := c.ex
  intro pins s σ H xs us Q I r h
  obtain ⟨a, dx, fs, rfl, ea, q⟩ := h
  obtain ⟨u, rfl, ru⟩ := r.one
  cases (show u = Value.ref a from ru)
  obtain ⟨mA, O, _, _, _, _⟩ := ins_get I.hok ea
  obtain ⟨od, J, _⟩ := O.look
  obtain ⟨m, hF⟩ := I.fr
  have hr2 : Room j X.A.in1 := (hr.mono hj).in1
  have hl : ([Value.ref a] ++ []).length = ps.length := F.len [.ref a] _ _ _ q
  refine PySem.W.len_K hF I.ok.mod.kin J hm.at_ hm.fn ?_
  refine wpAny_call (codeAny_mono (F.run X.A.in1 X.stack s H ⟨[.ref a], []⟩ [.ref a] [.ref a] _ E0 hr2 I.env0.in1 (hb s [.ref a] I.kIn hl) (.cons rfl .nil) q) fun r s' hq => ?_)
  cases r with
  | error e => exact hq.elim
  | ok fl =>
    cases fl with
    | ret u =>
      obtain ⟨v, H', I2, rv, n, ev, h0, h1, qn⟩ := I.after hq
      subst ev
      obtain ⟨t, rfl⟩ := rv
      exact ⟨⟨h0, by omega⟩, .int n, H', I2.tok _, ⟨_, rfl⟩, qn⟩
    | next => exact False.elim hq
    | brk => exact False.elim hq
    | cont => exact False.elim hq
theorem ev_lenO {C : List Addr} {Γ : List (Option En)} {Δ Δ1 : List Rs} {ta : TE} {Cl : Addr} {fn : List Str} {ls : List En} {sp : Sp} {n : Int} (ho : Ev C ta Γ Δ (eObj Cl fn ls) Δ1) (hs : SpOk sp [eObj Cl fn ls] (eI n)) (h0 : 0 ≤ n) (h1 : n < 1000000) : Ev C (tCB (rLenO Cl sp) (tCons ta tNil)) Γ Δ (eI n) Δ1 := ⟨fun σ ω Q s d q => ho.run σ ω _ s d fun x ω1 l1 d1 hx => by
  have hx0 := hx
  obtain ⟨a, dx, vs, rfl, e1, e2, e3, e4⟩ := hx
  exact ⟨a, dx, fn.zip vs, rfl, ω1.sub _ _ e1, hs _ ω1 _ E0 ⟨hx0, trivial⟩ fun v ω3 l3 hv => ⟨n, hv, h0, h1, q _ ω3 (l1.trans l3.nil) (d1.le l3) rfl⟩⟩⟩
section
variable {P : Program} {w : World} {K : PySem.W.Frag} {mg : Str → Option Value} {base : Heap} {CM CT : Addr}
abbrev s_Tariff___len__ : Stmt := inClass (topS 41) 7
abbrev n_Tariff___len__ : List Str := ["self"]
abbrev p_Tariff___len__ : List Str := ["self"]
theorem sc_Tariff___len__ : FnScope n_Tariff___len__ p_Tariff___len__ (defScope s_Tariff___len__) := ⟨rfl, rfl, rfl, by decide +kernel, rfl, by decide +kernel, by decide +kernel⟩
def spTLen (CT CM : Addr) : Sp := spFn (β := G3) (fun b => [eTar CT CM b]) (fun _ => True) (fun b => eI (b.hs.length : Int))
theorem ok_tlen {b : G3} : SpOk (spTLen CT CM) [eTar CT CM b] (eI (b.hs.length : Int)) := spFn_ok (β := G3) b trivial
abbrev TLen (P : Program) (w : World) (K : PySem.W.Frag) (mg : Str → Option Value) (base : Heap) (CT CM : Addr) : Prop := CalM P w K mg base CT "__len__" p_Tariff___len__ 1 (spTLen CT CM)
theorem cal_tlen (T : Txt K mg) (cT : Cls K CT) (nT : NoT K CT) (D : DefM K CT "__len__" "Tariff.__len__" s_Tariff___len__) : TLen P w K mg base CT CM := by
  refine calM_of D sc_Tariff___len__ (fun _ _ _ _ _ _ us hl => match us, hl with | [_], _ => rfl) (len_fn fun _ => rfl) fun f cdv A outer s H E hr => ⟨_, (pss_one (ps_ret (pe_callB call_len_seq (by rfl) T.len (by decide +kernel) (pa_cons (pe_fld (pv 0) rfl) pa_nil)))), body_fn fun b _ ω Q hQ => ?_⟩
  exact s_ret (C := []) (ev_is (ev_cb (ea_cons (ev_fld (i := 2) (ev_var rfl) cT nT.heads fT_nd rfl rfl) ea_nil) op_lenL) (by rw [List.length_map])) fun v ω' l _ hv => hQ v ω' l hv
end
end Tw

/-! the law, walked -/
namespace Tw
open PySem L2 PyProof.Rows

theorem msgs_len {sg : List Nat} (h3 : sg.length ≤ 3) {k : Nat} (hk : k ≤ 6) : (msgs sg k).length ≤ 5000 := by
  have lv : ∀ k, (lvl sg k).length = sg.length ^ k := by
    intro k
    induction k with
    | zero => rfl
    | succ k ih =>
      rw [show lvl sg (k + 1) = (lvl sg k).flatMap (fun u => sg.map fun s => u ++ [s]) from rfl, flat_len, ih, Nat.pow_succ]
  have key : ∀ k, (msgs sg k).length ≤ k * 3 ^ k := by
    intro k
    induction k with
    | zero => exact Nat.le_refl _
    | succ k ih =>
      rw [show msgs sg (k + 1) = msgs sg k ++ lvl sg k from rfl, List.length_append, lv]
      have h1 : sg.length ^ k ≤ 3 ^ k := Nat.pow_le_pow_left h3 k
      have h2 : (k + 1) * 3 ^ (k + 1) = k * 3 ^ k * 3 + 3 ^ k * 3 := by rw [Nat.pow_succ, Nat.add_mul, Nat.one_mul, Nat.mul_assoc]
      omega
  refine Nat.le_trans (key k) ?_
  have h1 : 3 ^ k ≤ 3 ^ 6 := Nat.pow_le_pow_right (by decide) hk
  exact Nat.le_trans (Nat.mul_le_mul hk h1) (by decide)
theorem MaOk.fm {u : List Nat} {many : Nat} {m : Mach} (h : MaOk u many m) (sg : SgOk u) (hm : many ≤ 6) : FmOk m where
  fit :=
    { ok := ⟨by show m.en.length = m.bg.length; rw [h.el, h.bl], fun r hr => by
        obtain ⟨a, b, c, _⟩ := h.rd r hr
        exact ⟨by show r.1 < m.bg.length; rw [h.bl]; exact a, by rw [h.sg]; exact b, by show r.2.2.1 < m.bg.length; rw [h.bl]; exact c⟩⟩
      sg := by rw [h.sg]; exact sg
      n100 := by show m.bg.length ≤ 100; rw [h.bl]; omega
      rl := by have := h.rl; omega
      q4 := fun r hr => rb_q4 (h.rd r hr).2.2.2 (by decide) (Nat.lt_of_lt_of_le (show 2520 < 2 ^ 20 by decide) (Nat.pow_le_pow_right (by decide) (by decide))) (Nat.lt_of_lt_of_le (show 12600 < 2 ^ 20 by decide) (Nat.pow_le_pow_right (by decide) (by decide)))
      x := fun s => ⟨2520, by decide, Nat.lt_of_lt_of_le (show 2520 < 2 ^ 20 by decide) (Nat.pow_le_pow_right (by decide) (by decide)), fun e he => (h.rd _ (mem_eds he)).2.2.2.den⟩ }
  sm :=
    { n6 := by show m.bg.length ≤ 6; rw [h.bl]; exact hm
      r24 := h.rl
      b := h.b
      e := h.e
      r := fun x hx => (h.rd x hx).2.2.2 }
theorem spr_any4 {C : List Addr} {sp : Sp} {a b c e : En} {ρ ρ' : Rs} {α : Type} {P : α → Prop} {f : α → En} (h : ∀ x, P x → SpR C sp [a, b, c, f x] e ρ ρ') : SpR C sp [a, b, c, eAny α P f] e ρ ρ' := fun vs ω Q E hv h1 h2 h3 k => by
  match vs, hv with
  | [v1, v2, v3, v4], ⟨q1, q2, q3, ⟨x, px, hx⟩, _⟩ => exact h x px [v1, v2, v3, v4] ω Q E ⟨q1, q2, q3, hx, trivial⟩ h1 h2 h3 k
def eGr : En := eAny Nat (fun g => 3 ≤ g ∧ g ≤ 10) fun g => eI (g : Int)
theorem ix_great {K : PySem.W.Frag} : Op2 (rIxL K) (eLst [eI 8, eI 4, eI 3, eI 10]) (eDr 4) eGr := op_anyR fun k hk => by
  match k, hk with
  | 0, _ => exact op_weak (op_ixL (j := 0) rfl) (le_any (P := fun g : Nat => 3 ≤ g ∧ g ≤ 10) (f := fun g : Nat => eI (g : Int)) 8 (by decide))
  | 1, _ => exact op_weak (op_ixL (j := 1) rfl) (le_any (P := fun g : Nat => 3 ≤ g ∧ g ≤ 10) (f := fun g : Nat => eI (g : Int)) 4 (by decide))
  | 2, _ => exact op_weak (op_ixL (j := 2) rfl) (le_any (P := fun g : Nat => 3 ≤ g ∧ g ≤ 10) (f := fun g : Nat => eI (g : Int)) 3 (by decide))
  | 3, _ => exact op_weak (op_ixL (j := 3) rfl) (le_any (P := fun g : Nat => 3 ≤ g ∧ g ≤ 10) (f := fun g : Nat => eI (g : Int)) 10 (by decide))
  | k + 4, h => exact absurd h (by omega)
theorem op_isC {K : PySem.W.Frag} {Cl : Addr} {fn : List Str} {ls : List En} : OpC (fun xs H Q => ∃ a dx fs, xs = [V.ref a, V.ref Cl] ∧ H a = some (.ins Cl dx fs) ∧ Q (.bl true) H) [eObj Cl fn ls, eLit (.ref Cl)] (eB true) := fun vs ω Q hv q => by
  match vs, hv with
  | [x, c], ⟨⟨a, dx, us, ex, h1, h2, h3, h4⟩, hc, _⟩ =>
    subst ex
    cases (show c = V.ref Cl from hc)
    exact ⟨a, dx, fn.zip us, rfl, ω.sub _ _ h1, q _ ω (LeX.refl _ _) rfl⟩
theorem ex_deck {C : List Addr} {Γ : List (Option En)} {K : PySem.W.Frag} {te : TE} {ns : List Int} (h : Ev C te Γ [] (eSq K (ns.map V.int)) []) (hl : ns.length ≤ 63) : EvX (γ := Addr × Addr) C (tCall (spLDeck K) [] E0 (tCons te tNil)) Γ [] (fun x => [x.1, x.2]) (fun x => eR x.1) (fun x => [rDk x.1 x.2 0]) := ⟨fun σ ω Q s d k => h.run σ ω _ s d fun v ω1 l1 d1 hv => by
  show spLDeck K ([v] ++ []) ω1.H Q E0
  refine ⟨ns, ω1, rfl, hl, ⟨hv, trivial⟩, fun d g v' ω2 l2 hd hg ds ev => k (d, g) v' ω2 (l1.trans l2.nil) (fun a ha => ?_) ds ev⟩
  rcases List.mem_cons.mp ha with e | e
  · rw [e]; exact fresh_le l1 hd
  · rw [List.mem_singleton.mp e]; exact fresh_le l1 hg⟩
def eHe (CT CM : Addr) (b : G3) : En := eTup [eTar CT CM b, eM b.m.signs, eMs b.hs]
section
variable {P : Program} {w : World} {K : PySem.W.Frag} {mg : Str → Option Value} {base : Heap} {CM CT : Addr}
abbrev s_law : Stmt := topS 64
abbrev n_law : List Str := ["_law_script", "_law_deck_here", "_law_held", "_law_turn", "_law_signs_here", "_law_many", "_law_parts", "_law_tariff", "_law_due"]
abbrev p_law : List Str := ["_law_script"]
theorem sc_law : FnScope n_law p_law (defScope s_law) := ⟨rfl, rfl, rfl, by decide +kernel, rfl, by decide +kernel, by decide +kernel⟩
def spLaw0 (K : PySem.W.Frag) : Sp := fun vs H Q _ => ∃ (a : Addr) (ns : List Int), vs = [.ref a] ∧ SqL K H a (ns.map V.int) ∧ ns.length ≤ 63 ∧ ∀ H', Q (.bl true) H'
theorem fnL_of {x qual : Str} {st : Stmt} {f : Addr} {fd : FuncData} {N ps : List Str} {k : Nat} {sp : Sp} (F : Fun K x qual st f fd) (S : FnScope N ps (defScope st)) (hb : bnd x qual st ps) (hl : ∀ vs H Q E, sp vs H Q E → vs.length = ps.length) (body : bdy P w K mg base N qual st k sp) : FnOk P w K mg base CX0 (k + 1) f fd ps sp := ok_of F S hl body
theorem body_law (T : Txt K mg) (hT : mg "Tariff" = some (.ref CT)) (cT : Cls K CT) (nT : C8.InsC K CT) (c__law_deck : LDeck P w K mg base) (c__law_signs : LSigns P w K mg base) (c__law_size : LSize P w K mg base) (c__law_some_machine : LSome P w K mg base) (c__law_draw : LDraw P w K mg base)
    (c_tariff_of : TariffOf P w K mg base CT CM) (k_Machine : MMake P w K mg base CM) (c__law_heads : LHeads P w K mg base) (c__law_messages : LMessages P w K mg base) (c__law_alike : LAlike P w K mg base 3 3) (c_Tariff_signs : TSigns P w K mg base CT CM) (c_Tariff_heads : THeads P w K mg base CT CM) (c_Tariff___len__ : TLen P w K mg base CT CM)
    {fa : Addr} {fd : FuncData} (D : Fun K "law" "law" s_law fa fd) : FnOk P w K mg base CX0 11 fa fd p_law (spLaw0 K) := by
  refine fnL_of D sc_law (fun _ _ _ _ _ _ us hl => match us, hl with | [_], _ => rfl) (fun vs H Q E ⟨a, ns, e, _⟩ => by rw [e]; rfl) fun f cdv A outer s H E hr => ⟨_, (pss_cons (ps_set (i := 1) sc_law.nd rfl (Or.inl rfl) (pe_cal c__law_deck hr rfl (pa_cons (pv 0) pa_nil)))
 (pss_cons (ps_set (i := 2) sc_law.nd rfl (Or.inl rfl) (pe_lst pa_nil))
 (pss_cons (ps_for PassesOwn.never rfl (pi_range1 rfl T.range (pa_cons pe_int pa_nil)) (pg_name (i := 3) sc_law.nd rfl (Or.inl rfl))
 (pss_cons (ps_set (i := 4) sc_law.nd rfl (Or.inl rfl) (pe_cal c__law_signs hr rfl (pa_cons (pv 1) pa_nil)))
 (pss_cons (ps_set (i := 5) sc_law.nd rfl (Or.inl rfl) (pe_cal c__law_size hr rfl (pa_cons (pv 1) (pa_cons (pv 4) pa_nil))))
 (pss_cons (ps_set (i := 6) sc_law.nd rfl (Or.inl rfl) (pe_cal c__law_some_machine hr rfl (pa_cons (pv 1) (pa_cons (pv 4) (pa_cons (pv 5) (pa_cons (pe_ix ix_list (pe_lst (pa_cons pe_int (pa_cons pe_int (pa_cons pe_int (pa_cons pe_int pa_nil))))) (pe_cal c__law_draw hr rfl (pa_cons (pv 1) (pa_cons pe_int pa_nil))) (fun _ _ => rfl)) pa_nil))))))
 (pss_cons (ps_set (i := 7) sc_law.nd rfl (Or.inl rfl) (pe_cal c_tariff_of hr rfl (pa_cons (pe_calC k_Machine hr rfl (pa_cons (pv 4) (pa_cons (pe_callTy call_list_of (by rfl) T.list (by decide +kernel) (pa_cons (pe_ix ix_list (pv 6) pe_int (fun _ _ => rfl)) pa_nil)) (pa_cons (pe_callTy call_list_of (by rfl) T.list (by decide +kernel) (pa_cons (pe_ix ix_list (pv 6) pe_int (fun _ _ => rfl)) pa_nil)) (pa_cons (pe_callTy call_list_of (by rfl) T.list (by decide +kernel) (pa_cons (pe_ix ix_list (pv 6) pe_int (fun _ _ => rfl)) pa_nil)) pa_nil))))) pa_nil)))
 (pss_cons (ps_set (i := 8) sc_law.nd rfl (Or.inl rfl) (pe_cal c__law_heads hr rfl (pa_cons (pv 6) (pa_cons (pe_cal c__law_messages hr rfl (pa_cons (pv 4) (pa_cons (pv 5) pa_nil))) pa_nil))))
 (pss_one (ps_expr (pe_bm PySem.F.plainAttrs_list PySem.F.slot_list_append PySem.F.type_list_append mt_append (pv 2) (pa_cons (pe_tup (pa_cons (pv 7) (pa_cons (pv 4) (pa_cons (pv 8) pa_nil)))) pa_nil))))))))))
 (pss_cons (ps_for PassesOwn.never rfl (pi_list (pv 2)) (pg_tup rfl (pgs_cons (pg_name (i := 7) sc_law.nd rfl (Or.inl rfl)) (pgs_cons (pg_name (i := 4) sc_law.nd rfl (Or.inl rfl)) (pgs_cons (pg_name (i := 8) sc_law.nd rfl (Or.inl rfl)) pgs_nil))))
 (Evl.pss_cut (ps_if (PW.pt (pw_or (pt_not (pt_val (pe_callB (C8.call_isC nT) (by rfl) T.isinstance (by decide +kernel) (pa_cons (pv 7) (pa_cons (pe_glob (v := .ref CT) rfl hT rfl) pa_nil))))) (pw_or1 (pt_not (pt_val (pe_cal c__law_alike hr rfl (pa_cons (pe_lst (pa_cons (pe_calP c_Tariff_signs cT hr (pv 7)) (pa_cons (pe_calP c_Tariff_heads cT hr (pv 7)) pa_nil))) (pa_cons (pe_lst (pa_cons (pv 4) (pa_cons (pv 8) pa_nil))) pa_nil)))))))) (pss_one (ps_ret pe_bl)) pss_nil)
 (pss_one (ps_if (pt_not (pt_val (pe_cal c__law_alike hr rfl (pa_cons (pe_callB (call_lenO c_Tariff___len__ hr) (by rfl) T.len (by decide +kernel) (pa_cons (pv 7) pa_nil)) (pa_cons (pe_callB call_len_seq (by rfl) T.len (by decide +kernel) (pa_cons (pv 8) pa_nil)) pa_nil))))) (pss_one (ps_ret pe_bl)) pss_nil))))
 (pss_one (ps_ret pe_bl)))))), fun vs H Q E' ⟨a, ns, e1, hS, hns, hQ⟩ => ?_⟩
  subst e1
  suffices h : ∀ ω : Wo, ω.H = H → Tr _ (As (bs0 ω) (Γ0 n_law [eSq K (ns.map V.int)]) []) (endsOf Q) from h ⟨H, H, fun _ _ h => h⟩ rfl _ _ ⟨⟨H, H, fun _ _ h => h⟩, rfl, LeX.refl _ _, fun _ _ z => z, sat_start ⟨⟨a, rfl, fun H' hx => hS.elim (fun h => .inl (h.elim (fun h => .inl (hx _ _ h)) fun ⟨o, h⟩ => .inr ⟨o, hx _ _ h⟩)) fun h => .inr h⟩, trivial⟩, SatD.nil _⟩
  intro ω _
  refine q_asgX (γ := Addr × Addr) (C := []) (ex_deck (ns := ns) (ev_var rfl) hns) fun x hf => ?_
  obtain ⟨d, g⟩ := x
  have hd : ω.H d = none := hf d List.mem_cons_self
  have hg : ω.H g = none := hf g (List.mem_cons_of_mem _ List.mem_cons_self)
  refine q_asgX (γ := Addr) (C := []) (ex_lst (es := []) ea_nil (Nat.zero_le _)) fun p hp => ?_
  have hp : ω.H p = none := hp p List.mem_cons_self
  have od : Own (bs0 ω) [d, g] := own1 hd (own1 hg (Own.nil _))
  refine q_for (C := []) (β := List G3) (fun i bs => bs.length = i ∧ ∀ b ∈ bs, b.Ok) (fun i bs => [none, some (eR d), some (eR p), none, none, none, none, none, none]) (fun i bs => [none, some (eR d), some (eR p), some (eI (i : Int)), none, none, none, none, none]) (fun i bs => [rL p (bs.map (eHe CT CM)), rDk d g (400 * i)]) (it_range (n := 3) (ea_cons ev_c ea_nil) (by omega)) ?_ (fun _ _ _ _ => tg_name) (fun mm i bs hi hP => ?_) (fun bs hP => ?_) (Own.nil _)
  · exact ⟨[], ⟨rfl, fun b h => nomatch h⟩, ⟨rfl, rfl, trivial⟩, rfl⟩
  · obtain ⟨hl, hO⟩ := hP
    have odm : Own ((bs0 ω).at mm) [d, g] := od
    refine q_asg (C := [d, g]) (Δ1 := [rL p (bs.map (eHe CT CM)), rDk d g (400 * i + 5)]) (ev_callR (k := 1) (ea_cons (ev_var rfl) ea_nil) (signs_call (n := 400 * i) (d := d) (g := g) (by omega)) rfl (fun _ h => h) rfl (fun _ h => h) rfl) ?_ odm
    refine t_any (i := 4) rfl fun u hu => ?_
    obtain ⟨sg, l3⟩ := hu
    have u1 : 1 ≤ u.length := by
      rcases u with _ | _
      · exact absurd rfl sg.ne
      · exact Nat.succ_pos _
    refine q_asg (C := [d, g]) (Δ1 := [rL p (bs.map (eHe CT CM)), rDk d g (400 * i + 5 + 2)]) (ev_callR (k := 1) (ea_cons (ev_var rfl) (ea_cons (ev_var rfl) ea_nil)) (size_call (n := 400 * i + 5) (d := d) (g := g) (u := u) (by omega) u1 l3) rfl (fun _ h => h) rfl (fun _ h => h) rfl) ?_ odm
    refine t_any (i := 5) rfl fun many hmany => ?_
    have my : many ≤ 6 := hmany.1
    refine q_asg (C := [d, g]) (Δ1 := [rL p (bs.map (eHe CT CM)), rDk d g (400 * i + 5 + 2 + 1 + 301)]) (ev_callR (k := 1) (Δ1 := [rL p (bs.map (eHe CT CM)), rDk d g (400 * i + 5 + 2 + 1)]) (es := [eR d, eM u, eI (many : Int), eGr]) (ea_cons (ev_var rfl) (ea_cons (ev_var rfl) (ea_cons (ev_var rfl) (ea_cons (ev_op (ev_lst (ea_cons ev_c (ea_cons ev_c (ea_cons ev_c (ea_cons ev_c ea_nil)))) (Nat.le_of_ble_eq_true rfl)) (ev_callR (k := 1) (ea_cons (ev_var rfl) (ea_cons ev_c ea_nil)) (draw_call (n := 400 * i + 5 + 2) (lim := 4) (by omega) (by omega) (by omega)) rfl (fun _ h => h) rfl (fun _ h => h) rfl) ix_great) ea_nil)))) (spr_any4 fun gr hgr => some_call (n := 400 * i + 5 + 2 + 1) (d := d) (g := g) (u := u) (many := many) (great := gr) ⟨by show 400 * i + 5 + 2 + 1 ≤ 200000; omega, sg, l3, my, hgr.1, hgr.2⟩) rfl (fun _ h => h) rfl (fun _ h => h) rfl) ?_ odm
    refine t_any (i := 6) rfl fun m hm => ?_
    have F : FmOk m := hm.fm sg my
    have hu : u = m.signs := hm.sg.symm
    have hn : many = m.n := hm.bl.symm
    subst hu hn
    refine q_asg (C := []) (Δ1 := [rL p (bs.map (eHe CT CM)), rDk d g (400 * i + 5 + 2 + 1 + 301)]) (ev_call (ea_cons (ev_make (ea_cons (ev_var rfl) (ea_cons (ev_cb (ea_cons (ev_op (ev_var rfl) ev_c op_l1) ea_nil) op_listOf) (ea_cons (ev_cb (ea_cons (ev_op (ev_var rfl) ev_c op_l2) ea_nil) op_listOf) (ea_cons (ev_cb (ea_cons (ev_op (ev_var rfl) ev_c op_l3) ea_nil) op_listOf) ea_nil)))) (ok_mmake F.fit)) ea_nil) (ok_tariff_of F)) ?_
    refine t_any (i := 7) rfl fun b hb => ?_
    obtain ⟨m', hs, tb⟩ := b
    obtain ⟨em, G⟩ := hb
    have em : m' = m := em
    subst em
    have G : TfOk m' hs tb := G
    have lim : ∀ k, k ≤ m'.n → (msgs m'.signs k).length ≤ 5000 := fun k hk => msgs_len l3 (Nat.le_trans hk my)
    have gh : GH.Ok ⟨m', hs, tb⟩ := ⟨F, G.H, G.le, G.fc, lim _ (Nat.le_refl _), (msgs_up F.fit.sg.up m'.n).nodup⟩
    refine q_asg (C := []) (Δ1 := [rL p (bs.map (eHe CT CM)), rDk d g (400 * i + 5 + 2 + 1 + 301)]) (e := eMs hs) (ev_call (ea_cons (ev_var rfl) (ea_cons (ev_call (ea_cons (ev_var rfl) (ea_cons (ev_var rfl) ea_nil)) (ok_lmessages (sg := m'.signs) (n := m'.n) ⟨by show m'.signs.length ≤ 10; omega, my, lim⟩)) ea_nil)) (ok_lheads gh)) ?_
    refine s_drop (C := [p]) (Δ1 := [rL p ((bs ++ [(⟨m', hs, tb⟩ : G3)]).map (eHe CT CM)), rDk d g (400 * i + 5 + 2 + 1 + 301)]) (ev_append (k := 0) (Δ2 := [rL p (bs.map (eHe CT CM)), rDk d g (400 * i + 5 + 2 + 1 + 301)]) (es := bs.map (eHe CT CM)) (fs := bs.map (eHe CT CM)) (e := eHe CT CM ⟨m', hs, tb⟩) (ev_var rfl) List.mem_cons_self (ev_tup (ea_cons (ev_var rfl) (ea_cons (ev_var rfl) (ea_cons (ev_var rfl) ea_nil))) (Nat.le_of_ble_eq_true rfl)) rfl (by rw [List.length_map]; omega) List.mem_cons_self (by rw [map_snoc (eHe CT CM)]; rfl)) (fun σ H a => ?_) (own1 hp)
    have a2 := as_dk (show 400 * i + 5 + 2 + 1 + 301 ≤ 400 * (i + 1) by omega) a
    refine lp_mk (β := List G3) (P := fun bs => bs.length = i + 1 ∧ ∀ b ∈ bs, b.Ok) (bs ++ [(⟨m', hs, tb⟩ : G3)]) ⟨by rw [List.length_append, hl]; rfl, fun z hz => (List.mem_append.mp hz).elim (hO z) fun e => by rw [List.mem_singleton.mp e]; exact G⟩ rfl ?_ σ H a2
    exact ⟨rfl, rfl, trivial⟩
  · obtain ⟨hl, hO⟩ := hP
    refine t_frz (i := 2) hp rfl ?_
    refine q_for (C := []) (β := Unit) (fun _ _ => True) (fun _ _ => [none, none, none, none, none, none, none, none, none]) (fun i _ => [none, none, none, none, some (eM (bs.getD i ⟨⟨[], [], [], []⟩, [], []⟩).m.signs), none, none, some (eTar CT CM (bs.getD i ⟨⟨[], [], [], []⟩, [], []⟩)), some (eMs (bs.getD i ⟨⟨[], [], [], []⟩, [], []⟩).hs)]) (fun _ _ => [rDk d g (400 * 3)]) (it_list (es := bs.map (eHe CT CM)) (ev_var rfl)) ?_ (fun i _ hi _ => ?_) (fun mm i _ hi _ => ?_) (fun _ _ => ?_) (Own.nil _)
    · exact ⟨(), trivial, trivial, rfl⟩
    · rw [List.length_map] at hi
      rw [itm_map ⟨⟨[], [], [], []⟩, [], []⟩ hi]
      exact tg_tup rfl (tgs_cons tg_name (tgs_cons tg_name (tgs_cons tg_name tgs_nil)))
    · rw [List.length_map] at hi
      have G := hO _ (getD_mem (⟨⟨[], [], [], []⟩, [], []⟩ : G3) hi)
      generalize bs.getD i ⟨⟨[], [], [], []⟩, [], []⟩ = b at G
      have h6 : b.hs.length ≤ 6 := TfOk.h6 G
      refine tr_cut (As ((bs0 ω).at mm) [none, none, none, none, some (eM b.m.signs), none, none, some (eTar CT CM b), some (eMs b.hs)] [rDk d g (400 * 3)]) ?_ ?_
      · exact s_if (C := []) (c := false) (et_or (c := false) (c' := false) (et_not (c := true) (et_B (ev_cb (ea_cons (ev_var rfl) (ea_cons ev_c ea_nil)) (op_isC (K := K))))) fun _ => et_not (c := true) (et_B (ev_call (ea_cons (ev_lst (ea_cons (ev_prop (ev_var rfl) ok_tsigns) (ea_cons (ev_prop (ev_var rfl) ok_theads) ea_nil)) (Nat.le_of_ble_eq_true rfl)) (ea_cons (ev_lst (ea_cons (ev_var rfl) (ea_cons (ev_var rfl) ea_nil)) (Nat.le_of_ble_eq_true rfl)) ea_nil)) (ok_lalike (k := 3) (d := .p b.m.signs b.hs) (by show 2 < 3; decide))))) (fun h => nomatch h) (fun _ => s_next fun _ _ h => h)
      · exact s_if (C := []) (c := false) (et_not (c := true) (et_B (ev_call (ea_cons (ev_lenO (ev_var rfl) ok_tlen (by omega) (by omega)) (ea_cons (ev_is (ev_cb (ea_cons (ev_var rfl) ea_nil) op_lenL) (by rw [List.length_map]; rfl)) ea_nil)) (ok_lalike (k := 3) (d := .i (b.hs.length : Int)) (by show 0 < 3; decide))))) (fun h => nomatch h) (fun _ => s_next (lp_mk () trivial rfl trivial))
    · exact s_ret (C := []) ev_c fun v ω' l ds hv => by
        rw [show v = V.bl true from hv]
        exact hQ _
end
end Tw

/-! all put together -/
namespace Tw
open PySem L2 PyProof.Rows

section
variable {K : PySem.W.Frag} {h : Heap} {mg : Str → Option Value} {x qual : Str} {st : Stmt} {C f p : Addr} {od an : Option Addr} {sl : Array (Option Value)} {oc kV dc pm cd ct : Value} {rest : List Value}
theorem defAt_mk (X : K.In h) (G : h.Ns mainGlobals mg) (a : PySem.W.nsIn K mainGlobals x = some (some (.ref f))) (l : K.lookup f = some ⟨oc, od, .func (PySem.W.fnOf x x (defArgs st) (defBody st) (defScope st) .none kV dc pm an cd ct), sl⟩) (c : PySem.W.codeIn K cd x = true) (k : PySem.W.keepIn K (.ref f) = true) : DefAt K mg x st := ⟨f, _, fun_mk l c k, PySem.W.mg_of X G a⟩
theorem defM_mk (a : PySem.W.findIn K (.ref C) x = some (some (.ref f))) (i : PySem.W.isFn K (.ref f) = true) (l : K.lookup f = some ⟨oc, od, .func (PySem.W.fnOf x qual (defArgs st) (defBody st) (defScope st) .none kV dc pm an cd ct), sl⟩) (c : PySem.W.codeIn K cd qual = true) (k : PySem.W.keepIn K (.ref f) = true) : DefM K C x qual st := ⟨f, _, fun_mk l c k, a, i, k⟩
theorem defP_mk (a : PySem.W.findIn K (.ref C) x = some (some (.ref p))) (g : PySem.W.specialIn K (.ref p) "__get__" = some (some (.builtin "property.__get__"))) (t : PySem.W.takesIn K (.ref p) = some true) (r : PySem.W.recIn K p "property" = some (.ref f :: rest)) (l : K.lookup f = some ⟨oc, od, .func (PySem.W.fnOf x qual (defArgs st) (defBody st) (defScope st) .none kV dc pm an cd ct), sl⟩) (c : PySem.W.codeIn K cd qual = true) (k : PySem.W.keepIn K (.ref f) = true) : DefP K C x qual st := ⟨p, f, _, fun_mk l c k, ⟨a, g, t, rest, r⟩⟩
theorem defC_mk (X : K.In h) (G : h.Ns mainGlobals mg) (n : PySem.W.nsIn K mainGlobals x = some (some (.ref C))) (a : PySem.W.findIn K (.ref C) "__init__" = some (some (.ref f))) (i : PySem.W.isFn K (.ref f) = true) (m : PySem.W.makesIn K C = true) (kc : PySem.W.keepIn K (.ref C) = true) (l : K.lookup f = some ⟨oc, od, .func (PySem.W.fnOf "__init__" qual (defArgs st) (defBody st) (defScope st) .none kV dc pm an cd ct), sl⟩) (c : PySem.W.codeIn K cd qual = true) (k : PySem.W.keepIn K (.ref f) = true) : DefC K mg x qual C st := ⟨f, _, fun_mk l c k, ⟨m, a, i, kc⟩, PySem.W.mg_of X G n⟩
theorem insC_mk (cl : Cls K C) (ha : PySem.W.findIn K (.ref C) "__class__" = some (some (.builtin "object.__class__"))) (hn : PySem.W.specialIn K (.builtin "object.__class__") "__get__" = some (some (.builtin "getset_descriptor.__get__"))) (htk : PySem.W.takesIn K (.builtin "object.__class__") = some true) (hm : PySem.W.mroIn K C (.type "object") = some true) : C8.InsC K C := ⟨cl, ha, hn, htk, hm, by
  unfold PySem.W.kitOne
  rw [if_pos (beq_self_eq_true _)]⟩
end

theorem txt_mk {K : PySem.W.Frag} {h : Heap} {mg : Str → Option Value} {t : Tok} (X : K.In h) (G : h.Ns mainGlobals mg) (g : PySem.W.nsIn K mainGlobals "gcd" = some (some (.builtin "math.gcd"))) (l : PySem.W.nsIn K mainGlobals "lcm" = some (some (.builtin "math.lcm"))) (z0 : PySem.W.nsIn K mainGlobals "len" = some none) (z1 : PySem.W.nsIn K mainGlobals "abs" = some none) (z2 : PySem.W.nsIn K mainGlobals "int" = some none) (z3 : PySem.W.nsIn K mainGlobals "list" = some none) (z4 : PySem.W.nsIn K mainGlobals "tuple" = some none) (z5 : PySem.W.nsIn K mainGlobals "str" = some none) (z6 : PySem.W.nsIn K mainGlobals "bool" = some none) (z7 : PySem.W.nsIn K mainGlobals "sum" = some none) (z8 : PySem.W.nsIn K mainGlobals "any" = some none) (z9 : PySem.W.nsIn K mainGlobals "all" = some none) (z10 : PySem.W.nsIn K mainGlobals "sorted" = some none) (z11 : PySem.W.nsIn K mainGlobals "min" = some none) (z12 : PySem.W.nsIn K mainGlobals "isinstance" = some none) (z13 : PySem.W.nsIn K mainGlobals "range" = some none) (z14 : PySem.W.nsIn K mainGlobals "zip" = some none) (z15 : PySem.W.nsIn K mainGlobals "enumerate" = some none) (L : PySem.W.nsIn K mainGlobals "LETTERS" = some (some (.str "abcdefghijklmnopqrstuvwxyz" t))) : Txt K mg :=
  ⟨PySem.W.mg_of X G g, PySem.W.mg_of X G l, PySem.W.mg_none_of X G z0, PySem.W.mg_none_of X G z1, PySem.W.mg_none_of X G z2, PySem.W.mg_none_of X G z3, PySem.W.mg_none_of X G z4, PySem.W.mg_none_of X G z5, PySem.W.mg_none_of X G z6, PySem.W.mg_none_of X G z7, PySem.W.mg_none_of X G z8, PySem.W.mg_none_of X G z9, PySem.W.mg_none_of X G z10, PySem.W.mg_none_of X G z11, PySem.W.mg_none_of X G z12, PySem.W.mg_none_of X G z13, PySem.W.mg_none_of X G z14, PySem.W.mg_none_of X G z15, t, PySem.W.mg_of X G L⟩
theorem law_fn {P : Program} {w : World} {K : PySem.W.Frag} {mg : Str → Option Value} {base : Heap} {CB CM CT : Addr} (T : Txt K mg) (hT : mg "Tariff" = some (.ref CT)) (cB : Cls K CB) (cM : Cls K CM) (cT : Cls K CT) (nB : NoAttr K CB "_kept") (nM : NoM K CM) (nT : NoT K CT) (iT : C8.InsC K CT)
    (D_lowest : DefAt K mg "lowest" s_lowest) (D_is_number : DefAt K mg "is_number" s_is_number) (D_checked : DefAt K mg "checked" s_checked) (D_sum_of : DefAt K mg "sum_of" s_sum_of) (D_product_of : DefAt K mg "product_of" s_product_of) (D_integers_of : DefAt K mg "integers_of" s_integers_of) (D_numbers_of : DefAt K mg "numbers_of" s_numbers_of) (D_dot : DefAt K mg "dot" s_dot) (D_divided : DefAt K mg "divided" s_divided) (D_Basis_left : DefM K CB "left" "Basis.left" s_Basis_left) (D_Basis_put : DefM K CB "put" "Basis.put" s_Basis_put) (D_Basis_told : DefM K CB "told" "Basis.told" s_Basis_told) (D_Basis___init__ : DefC K mg "Basis" "Basis.__init__" CB s_Basis___init__) (D_checked_signs : DefAt K mg "checked_signs" s_checked_signs) (D_checked_sign : DefAt K mg "checked_sign" s_checked_sign) (D_checked_machine : DefAt K mg "checked_machine" s_checked_machine) (D_steps_of : DefAt K mg "steps_of" s_steps_of) (D_integers_behind : DefAt K mg "integers_behind" s_integers_behind) (D_Machine___init__ : DefC K mg "Machine" "Machine.__init__" CM s_Machine___init__) (D_Machine_signs : DefP K CM "signs" "Machine.signs" s_Machine_signs) (D_Machine_begin : DefP K CM "begin" "Machine.begin" s_Machine_begin) (D_Machine_end : DefP K CM "end" "Machine.end" s_Machine_end) (D_Machine_steps : DefM K CM "steps" "Machine.steps" s_Machine_steps) (D_stepped : DefAt K mg "stepped" s_stepped) (D_stepped_back : DefAt K mg "stepped_back" s_stepped_back) (D_free_columns : DefAt K mg "free_columns" s_free_columns) (D_form_of : DefAt K mg "form_of" s_form_of) (D_machine_by : DefAt K mg "machine_by" s_machine_by) (D_is_shaped : DefAt K mg "is_shaped" s_is_shaped) (D_order_key : DefAt K mg "order_key" s_order_key) (D_are_heads : DefAt K mg "are_heads" s_are_heads) (D_is_row : DefAt K mg "is_row" s_is_row) (D_checked_form : DefAt K mg "checked_form" s_checked_form) (D_Tariff___init__ : DefC K mg "Tariff" "Tariff.__init__" CT s_Tariff___init__) (D_Tariff_signs : DefP K CT "signs" "Tariff.signs" s_Tariff_signs) (D_Tariff_heads : DefP K CT "heads" "Tariff.heads" s_Tariff_heads) (D_tariff_of : DefAt K mg "tariff_of" s_tariff_of) (D__law_gcd : DefAt K mg "_law_gcd" s__law_gcd) (D__law_pair : DefAt K mg "_law_pair" s__law_pair) (D__law_over : DefAt K mg "_law_over" s__law_over) (D__law_scaled : DefAt K mg "_law_scaled" s__law_scaled) (D__law_stepped : DefAt K mg "_law_stepped" s__law_stepped) (D__law_messages : DefAt K mg "_law_messages" s__law_messages) (D__law_dot : DefAt K mg "_law_dot" s__law_dot) (D__law_rows : DefAt K mg "_law_rows" s__law_rows) (D__law_columns : DefAt K mg "_law_columns" s__law_columns) (D__law_rest : DefAt K mg "_law_rest" s__law_rest) (D__law_keep : DefAt K mg "_law_keep" s__law_keep) (D__law_heads : DefAt K mg "_law_heads" s__law_heads) (D__law_alike : DefAt K mg "_law_alike" s__law_alike) (D__law_draw : DefAt K mg "_law_draw" s__law_draw) (D__law_deck : DefAt K mg "_law_deck" s__law_deck) (D__law_number : DefAt K mg "_law_number" s__law_number) (D__law_signs : DefAt K mg "_law_signs" s__law_signs) (D__law_size : DefAt K mg "_law_size" s__law_size) (D__law_machine : DefAt K mg "_law_machine" s__law_machine) (D__law_some_machine : DefAt K mg "_law_some_machine" s__law_some_machine) (D_Tariff___len__ : DefM K CT "__len__" "Tariff.__len__" s_Tariff___len__)
    {fa : Addr} {fd : FuncData} (D : Fun K "law" "law" s_law fa fd) : FnOk P w K mg base CX0 11 fa fd p_law (spLaw0 K) := by
  have c_lowest := cal_lowest (P := P) (w := w) (base := base) T D_lowest
  have c_is_number := cal_is_number (P := P) (w := w) (base := base) T D_is_number
  have c_checked := cal_checked (P := P) (w := w) (base := base) T D_checked c_is_number
  have c_sum_of := cal_sum_of (P := P) (w := w) (base := base) T D_sum_of c_lowest
  have c_product_of := cal_product_of (P := P) (w := w) (base := base) T D_product_of c_lowest
  have c_integers_of := cal_integers_of (P := P) (w := w) (base := base) T D_integers_of
  have c_numbers_of := cal_numbers_of (P := P) (w := w) (base := base) T D_numbers_of c_lowest
  have c_dot := cal_dot (P := P) (w := w) (base := base) T D_dot c_sum_of c_product_of
  have c_divided := cal_divided (P := P) (w := w) (base := base) T D_divided
  have c_Basis_left := cal_left (P := P) (w := w) (base := base) T cB nB D_Basis_left c_integers_of c_divided
  have c_Basis_put := cal_put (P := P) (w := w) (base := base) T cB nB D_Basis_put c_Basis_left
  have c_Basis_told := cal_told (P := P) (w := w) (base := base) T cB nB D_Basis_told c_Basis_left c_lowest
  have k_Basis := cal_basis (P := P) (w := w) (base := base) T cB nB D_Basis___init__
  have c_checked_signs := cal_checked_signs (P := P) (w := w) (base := base) T D_checked_signs
  have c_checked_sign := cal_checked_sign (P := P) (w := w) (base := base) T D_checked_sign
  have c_checked_machine := cal_checked_machine (P := P) (w := w) (base := base) T D_checked_machine c_checked_signs c_checked c_checked_sign
  have c_steps_of := cal_steps_of (P := P) (w := w) (base := base) T D_steps_of
  have c_integers_behind := cal_integers_behind (P := P) (w := w) (base := base) T D_integers_behind
  have k_Machine := cal_mmake (P := P) (w := w) (base := base) T cM nM D_Machine___init__ c_checked_machine c_steps_of
  have c_Machine_signs := cal_msigns (P := P) (w := w) (base := base) T cM nM D_Machine_signs
  have c_Machine_begin := cal_mbegin (P := P) (w := w) (base := base) T cM nM D_Machine_begin
  have c_Machine_end := cal_mend (P := P) (w := w) (base := base) T cM nM D_Machine_end
  have c_Machine_steps := cal_msteps (P := P) (w := w) (base := base) T cM nM D_Machine_steps
  have c_stepped := cal_stepped (P := P) (w := w) (base := base) T cM D_stepped c_integers_of c_Machine_steps c_numbers_of c_integers_behind
  have c_stepped_back := cal_stepped_back (P := P) (w := w) (base := base) T cM D_stepped_back c_integers_of c_Machine_steps c_numbers_of c_integers_behind
  have c_free_columns := cal_free_columns (P := P) (w := w) (base := base) T cB cM D_free_columns k_Basis c_Basis_put c_Machine_end c_Machine_signs c_stepped_back
  have c_form_of := cal_form_of (P := P) (w := w) (base := base) T cB cM D_form_of c_free_columns k_Basis c_Basis_put c_Basis_told c_Machine_begin c_Machine_end c_Machine_signs c_stepped c_dot
  have c_machine_by := cal_machine_by (P := P) (w := w) (base := base) T D_machine_by k_Machine
  have c_is_shaped := cal_is_shaped (P := P) (w := w) (base := base) T D_is_shaped
  have c_order_key := cal_order_key (P := P) (w := w) (base := base) T D_order_key
  have c_are_heads := cal_are_heads (P := P) (w := w) (base := base) T D_are_heads c_order_key
  have c_is_row := cal_is_row (P := P) (w := w) (base := base) T D_is_row c_order_key
  have c_checked_form := cal_checked_form (P := P) (w := w) (base := base) T D_checked_form c_checked_signs c_checked c_is_shaped c_are_heads c_is_row c_machine_by c_free_columns
  have k_Tariff := cal_tmake (P := P) (w := w) (base := base) T cT nT D_Tariff___init__ c_checked_form
  have c_Tariff_signs := cal_tsigns (P := P) (w := w) (base := base) (CM := CM) T cT nT D_Tariff_signs
  have c_Tariff_heads := cal_theads (P := P) (w := w) (base := base) (CM := CM) T cT nT D_Tariff_heads
  have c_tariff_of := cal_tariff_of (P := P) (w := w) (base := base) T cM D_tariff_of c_form_of k_Tariff c_Machine_signs
  have c__law_gcd := cal_lgcd (P := P) (w := w) (base := base) T D__law_gcd
  have c__law_pair := cal_lpair (P := P) (w := w) (base := base) T D__law_pair c__law_gcd
  have c__law_over := cal_lover (P := P) (w := w) (base := base) T D__law_over c__law_gcd
  have c__law_scaled := cal_lscaled (P := P) (w := w) (base := base) T D__law_scaled c__law_over
  have c__law_stepped := cal_lstepped (P := P) (w := w) (base := base) T D__law_stepped
  have c__law_messages := cal_lmessages (P := P) (w := w) (base := base) T D__law_messages
  have c__law_dot := cal_ldot (P := P) (w := w) (base := base) T D__law_dot
  have c__law_rows := cal_lrows (P := P) (w := w) (base := base) T D__law_rows c__law_stepped
  have c__law_columns := cal_lcols (P := P) (w := w) (base := base) T D__law_columns c__law_stepped
  have c__law_rest := cal_lrest (P := P) (w := w) (base := base) T D__law_rest c__law_gcd
  have c__law_keep := cal_lkeep (P := P) (w := w) (base := base) T D__law_keep c__law_rest
  have c__law_heads := cal_lheads (P := P) (w := w) (base := base) T D__law_heads c__law_scaled c__law_rows c__law_columns c__law_keep c__law_dot
  have a0 := cal_lalike0 (P := P) (w := w) (base := base) D__law_alike
  have a1 := cal_lalike (P := P) (w := w) (base := base) T D__law_alike a0
  have a2 := cal_lalike (P := P) (w := w) (base := base) T D__law_alike a1
  have a3 := cal_lalike (P := P) (w := w) (base := base) T D__law_alike a2
  have c__law_alike := a3
  have c__law_draw := cal_ldraw (P := P) (w := w) (base := base) T D__law_draw
  have c__law_deck := cal_ldeck (P := P) (w := w) (base := base) T D__law_deck
  have c__law_number := cal_lnumber (P := P) (w := w) (base := base) T D__law_number c__law_draw c__law_pair
  have c__law_signs := cal_lsigns (P := P) (w := w) (base := base) T D__law_signs c__law_draw
  have c__law_size := cal_lsize (P := P) (w := w) (base := base) T D__law_size c__law_draw
  have c__law_machine := cal_lmachine (P := P) (w := w) (base := base) T D__law_machine c__law_draw c__law_number
  have c__law_some_machine := cal_lsome (P := P) (w := w) (base := base) T D__law_some_machine c__law_draw c__law_machine
  have c_Tariff___len__ := cal_tlen (P := P) (w := w) (base := base) (CM := CM) T cT nT D_Tariff___len__
  exact body_law T hT cT iT c__law_deck c__law_signs c__law_size c__law_some_machine c__law_draw c_tariff_of k_Machine c__law_heads c__law_messages c__law_alike c_Tariff_signs c_Tariff_heads c_Tariff___len__ D
theorem law_all {P : Program} {w : World} {K : PySem.W.Frag} {h : Heap} {mg : Str → Option Value} {fa CB CM CT : Addr} (X : K.In h) (G : h.Ns mainGlobals mg) (hfa : mg "law" = some (.ref fa))
    (gB : PySem.W.nsIn K mainGlobals "Basis" = some (some (.ref CB))) (gM : PySem.W.nsIn K mainGlobals "Machine" = some (some (.ref CM))) (gT : PySem.W.nsIn K mainGlobals "Tariff" = some (some (.ref CT)))
    (T : Txt K mg) (cB : Cls K CB) (cM : Cls K CM) (cT : Cls K CT) (nB : NoAttr K CB "_kept") (nM : NoM K CM) (nT : NoT K CT) (iT : C8.InsC K CT)
    (D_lowest : DefAt K mg "lowest" s_lowest) (D_is_number : DefAt K mg "is_number" s_is_number) (D_checked : DefAt K mg "checked" s_checked) (D_sum_of : DefAt K mg "sum_of" s_sum_of) (D_product_of : DefAt K mg "product_of" s_product_of) (D_integers_of : DefAt K mg "integers_of" s_integers_of) (D_numbers_of : DefAt K mg "numbers_of" s_numbers_of) (D_dot : DefAt K mg "dot" s_dot) (D_divided : DefAt K mg "divided" s_divided) (D_Basis_left : DefM K CB "left" "Basis.left" s_Basis_left) (D_Basis_put : DefM K CB "put" "Basis.put" s_Basis_put) (D_Basis_told : DefM K CB "told" "Basis.told" s_Basis_told) (D_Basis___init__ : DefC K mg "Basis" "Basis.__init__" CB s_Basis___init__) (D_checked_signs : DefAt K mg "checked_signs" s_checked_signs) (D_checked_sign : DefAt K mg "checked_sign" s_checked_sign) (D_checked_machine : DefAt K mg "checked_machine" s_checked_machine) (D_steps_of : DefAt K mg "steps_of" s_steps_of) (D_integers_behind : DefAt K mg "integers_behind" s_integers_behind) (D_Machine___init__ : DefC K mg "Machine" "Machine.__init__" CM s_Machine___init__) (D_Machine_signs : DefP K CM "signs" "Machine.signs" s_Machine_signs) (D_Machine_begin : DefP K CM "begin" "Machine.begin" s_Machine_begin) (D_Machine_end : DefP K CM "end" "Machine.end" s_Machine_end) (D_Machine_steps : DefM K CM "steps" "Machine.steps" s_Machine_steps) (D_stepped : DefAt K mg "stepped" s_stepped) (D_stepped_back : DefAt K mg "stepped_back" s_stepped_back) (D_free_columns : DefAt K mg "free_columns" s_free_columns) (D_form_of : DefAt K mg "form_of" s_form_of) (D_machine_by : DefAt K mg "machine_by" s_machine_by) (D_is_shaped : DefAt K mg "is_shaped" s_is_shaped) (D_order_key : DefAt K mg "order_key" s_order_key) (D_are_heads : DefAt K mg "are_heads" s_are_heads) (D_is_row : DefAt K mg "is_row" s_is_row) (D_checked_form : DefAt K mg "checked_form" s_checked_form) (D_Tariff___init__ : DefC K mg "Tariff" "Tariff.__init__" CT s_Tariff___init__) (D_Tariff_signs : DefP K CT "signs" "Tariff.signs" s_Tariff_signs) (D_Tariff_heads : DefP K CT "heads" "Tariff.heads" s_Tariff_heads) (D_tariff_of : DefAt K mg "tariff_of" s_tariff_of) (D__law_gcd : DefAt K mg "_law_gcd" s__law_gcd) (D__law_pair : DefAt K mg "_law_pair" s__law_pair) (D__law_over : DefAt K mg "_law_over" s__law_over) (D__law_scaled : DefAt K mg "_law_scaled" s__law_scaled) (D__law_stepped : DefAt K mg "_law_stepped" s__law_stepped) (D__law_messages : DefAt K mg "_law_messages" s__law_messages) (D__law_dot : DefAt K mg "_law_dot" s__law_dot) (D__law_rows : DefAt K mg "_law_rows" s__law_rows) (D__law_columns : DefAt K mg "_law_columns" s__law_columns) (D__law_rest : DefAt K mg "_law_rest" s__law_rest) (D__law_keep : DefAt K mg "_law_keep" s__law_keep) (D__law_heads : DefAt K mg "_law_heads" s__law_heads) (D__law_alike : DefAt K mg "_law_alike" s__law_alike) (D__law_draw : DefAt K mg "_law_draw" s__law_draw) (D__law_deck : DefAt K mg "_law_deck" s__law_deck) (D__law_number : DefAt K mg "_law_number" s__law_number) (D__law_signs : DefAt K mg "_law_signs" s__law_signs) (D__law_size : DefAt K mg "_law_size" s__law_size) (D__law_machine : DefAt K mg "_law_machine" s__law_machine) (D__law_some_machine : DefAt K mg "_law_some_machine" s__law_some_machine) (D_Tariff___len__ : DefM K CT "__len__" "Tariff.__len__" s_Tariff___len__)
    (DL : DefAt K mg "law" s_law) : ∃ fd : FuncData, (∀ (s : Shared) (v : Value), BindsTo s fd ⟨[v], []⟩ [("_law_script", v)]) ∧ ∀ base : Heap, K.In base → base.Ns mainGlobals mg → FnOk P w K mg base CX0 11 fa fd ["_law_script"] (spLaw0 K) := by
  obtain ⟨f, fd, D, m⟩ := DL.ex
  have e := hfa.symm.trans m
  cases e
  refine ⟨fd, ?_, fun base _ _ => law_fn T (PySem.W.mg_of X G gT) cB cM cT nB nM nT iT D_lowest D_is_number D_checked D_sum_of D_product_of D_integers_of D_numbers_of D_dot D_divided D_Basis_left D_Basis_put D_Basis_told D_Basis___init__ D_checked_signs D_checked_sign D_checked_machine D_steps_of D_integers_behind D_Machine___init__ D_Machine_signs D_Machine_begin D_Machine_end D_Machine_steps D_stepped D_stepped_back D_free_columns D_form_of D_machine_by D_is_shaped D_order_key D_are_heads D_is_row D_checked_form D_Tariff___init__ D_Tariff_signs D_Tariff_heads D_tariff_of D__law_gcd D__law_pair D__law_over D__law_scaled D__law_stepped D__law_messages D__law_dot D__law_rows D__law_columns D__law_rest D__law_keep D__law_heads D__law_alike D__law_draw D__law_deck D__law_number D__law_signs D__law_size D__law_machine D__law_some_machine D_Tariff___len__ D⟩
  obtain ⟨oc, od, kV, doc, pm, an, cdv, ct, osl, rfl, l, c⟩ := D.ex
  exact fun s v => .of_eq rfl
end Tw

open PySem PySem.W PyProof.Rows
set_option maxRecDepth 100000 in
set_option maxHeartbeats 0 in
theorem PySem.Challenge.cw_textworths_k08_whole_heads_are_first_fre_holds : PySem.Challenge.rw_textworths_k08_whole_heads_are_first_fre.Holds := by
  w_on; o_law; k_head; (case hw => w_witness2)
  k_fill
  refine L2.walk_of (l := PySem.Challenge.rw_textworths_k08_whole_heads_are_first_fre) (n := 63) (k := 11) (x := "_law_script") (CX := fun _ => L2.CX0) (sp := fun w => Tw.spLaw0 _) rfl (by decide) rfl ⟨rfl, by decide, by decide⟩ (fun w h Y => PySem.W.kIn_of Y) ?F (fun _ _ a ns hl _ hS => ⟨a, ns, rfl, hS, hl, fun _ => rfl⟩) (fun _ _ _ _ _ h => h)
  case F =>
    intro w mg fa h KX G hmg
    refine' Tw.law_all KX G hmg ?gB ?gM ?gT ?T ?cB ?cM ?cT ?nB ?nM ?nT ?iT ?D_lowest ?D_is_number ?D_checked ?D_sum_of ?D_product_of ?D_integers_of ?D_numbers_of ?D_dot ?D_divided ?D_Basis_left ?D_Basis_put ?D_Basis_told ?D_Basis___init__ ?D_checked_signs ?D_checked_sign ?D_checked_machine ?D_steps_of ?D_integers_behind ?D_Machine___init__ ?D_Machine_signs ?D_Machine_begin ?D_Machine_end ?D_Machine_steps ?D_stepped ?D_stepped_back ?D_free_columns ?D_form_of ?D_machine_by ?D_is_shaped ?D_order_key ?D_are_heads ?D_is_row ?D_checked_form ?D_Tariff___init__ ?D_Tariff_signs ?D_Tariff_heads ?D_tariff_of ?D__law_gcd ?D__law_pair ?D__law_over ?D__law_scaled ?D__law_stepped ?D__law_messages ?D__law_dot ?D__law_rows ?D__law_columns ?D__law_rest ?D__law_keep ?D__law_heads ?D__law_alike ?D__law_draw ?D__law_deck ?D__law_number ?D__law_signs ?D__law_size ?D__law_machine ?D__law_some_machine ?D_Tariff___len__ ?DL
    case gB => k_is
    case gM => k_is
    case gT => k_is
    case T => (refine' Tw.txt_mk KX G ?g_3 ?l_3 ?z0_3 ?z1_3 ?z2_3 ?z3_3 ?z4_3 ?z5_3 ?z6_3 ?z7_3 ?z8_3 ?z9_3 ?z10_3 ?z11_3 ?z12_3 ?z13_3 ?z14_3 ?z15_3 ?L_3; (case g_3 => k_is); (case l_3 => k_is); (case z0_3 => k_is); (case z1_3 => k_is); (case z2_3 => k_is); (case z3_3 => k_is); (case z4_3 => k_is); (case z5_3 => k_is); (case z6_3 => k_is); (case z7_3 => k_is); (case z8_3 => k_is); (case z9_3 => k_is); (case z10_3 => k_is); (case z11_3 => k_is); (case z12_3 => k_is); (case z13_3 => k_is); (case z14_3 => k_is); (case z15_3 => k_is); (case L_3 => k_is))
    case cB => (refine' ⟨?pg_4, ?hd_4, ?po_4, ?sa_4⟩; (case pg_4 => k_is); (case hd_4 => k_is); (case po_4 => k_is); (case sa_4 => k_is))
    case cM => (refine' ⟨?pg_5, ?hd_5, ?po_5, ?sa_5⟩; (case pg_5 => k_is); (case hd_5 => k_is); (case po_5 => k_is); (case sa_5 => k_is))
    case cT => (refine' ⟨?pg_6, ?hd_6, ?po_6, ?sa_6⟩; (case pg_6 => k_is); (case hd_6 => k_is); (case po_6 => k_is); (case sa_6 => k_is))
    case nB => (unfold L2.NoAttr; k_is)
    case nM => (refine' ⟨?a_8, ?b_8, ?c_8, ?d_8, ?e_8⟩ <;> (unfold L2.NoAttr; k_is))
    case nT => (refine' ⟨?a_9, ?b_9, ?c_9, ?d_9, ?e_9⟩ <;> (unfold L2.NoAttr; k_is))
    case iT => (refine' Tw.insC_mk ⟨?pg_10, ?hd_10, ?po_10, ?sa_10⟩ ?ha_10 ?hn_10 ?htk_10 ?hm_10; (case pg_10 => k_is); (case hd_10 => k_is); (case po_10 => k_is); (case sa_10 => k_is); (case ha_10 => k_is); (case hn_10 => k_is); (case htk_10 => k_is); (case hm_10 => k_is))
    case D_lowest => (refine' Tw.defAt_mk KX G ?a_11 ?l_11 ?c_11 ?k_11; (case a_11 => k_is); (case l_11 => k_is); (case c_11 => k_is); (case k_11 => k_is))
    case D_is_number => (refine' Tw.defAt_mk KX G ?a_12 ?l_12 ?c_12 ?k_12; (case a_12 => k_is); (case l_12 => k_is); (case c_12 => k_is); (case k_12 => k_is))
    case D_checked => (refine' Tw.defAt_mk KX G ?a_13 ?l_13 ?c_13 ?k_13; (case a_13 => k_is); (case l_13 => k_is); (case c_13 => k_is); (case k_13 => k_is))
    case D_sum_of => (refine' Tw.defAt_mk KX G ?a_14 ?l_14 ?c_14 ?k_14; (case a_14 => k_is); (case l_14 => k_is); (case c_14 => k_is); (case k_14 => k_is))
    case D_product_of => (refine' Tw.defAt_mk KX G ?a_15 ?l_15 ?c_15 ?k_15; (case a_15 => k_is); (case l_15 => k_is); (case c_15 => k_is); (case k_15 => k_is))
    case D_integers_of => (refine' Tw.defAt_mk KX G ?a_16 ?l_16 ?c_16 ?k_16; (case a_16 => k_is); (case l_16 => k_is); (case c_16 => k_is); (case k_16 => k_is))
    case D_numbers_of => (refine' Tw.defAt_mk KX G ?a_17 ?l_17 ?c_17 ?k_17; (case a_17 => k_is); (case l_17 => k_is); (case c_17 => k_is); (case k_17 => k_is))
    case D_dot => (refine' Tw.defAt_mk KX G ?a_18 ?l_18 ?c_18 ?k_18; (case a_18 => k_is); (case l_18 => k_is); (case c_18 => k_is); (case k_18 => k_is))
    case D_divided => (refine' Tw.defAt_mk KX G ?a_19 ?l_19 ?c_19 ?k_19; (case a_19 => k_is); (case l_19 => k_is); (case c_19 => k_is); (case k_19 => k_is))
    case D_Basis_left => (refine' Tw.defM_mk ?a_20 ?i_20 ?l_20 ?c_20 ?k_20; (case a_20 => k_is); (case i_20 => k_is); (case l_20 => k_is); (case c_20 => k_is); (case k_20 => k_is))
    case D_Basis_put => (refine' Tw.defM_mk ?a_21 ?i_21 ?l_21 ?c_21 ?k_21; (case a_21 => k_is); (case i_21 => k_is); (case l_21 => k_is); (case c_21 => k_is); (case k_21 => k_is))
    case D_Basis_told => (refine' Tw.defM_mk ?a_22 ?i_22 ?l_22 ?c_22 ?k_22; (case a_22 => k_is); (case i_22 => k_is); (case l_22 => k_is); (case c_22 => k_is); (case k_22 => k_is))
    case D_Basis___init__ => (refine' Tw.defC_mk KX G ?n_23 ?a_23 ?i_23 ?m_23 ?kc_23 ?l_23 ?c_23 ?k_23; (case n_23 => k_is); (case a_23 => k_is); (case i_23 => k_is); (case m_23 => k_is); (case kc_23 => k_is); (case l_23 => k_is); (case c_23 => k_is); (case k_23 => k_is))
    case D_checked_signs => (refine' Tw.defAt_mk KX G ?a_24 ?l_24 ?c_24 ?k_24; (case a_24 => k_is); (case l_24 => k_is); (case c_24 => k_is); (case k_24 => k_is))
    case D_checked_sign => (refine' Tw.defAt_mk KX G ?a_25 ?l_25 ?c_25 ?k_25; (case a_25 => k_is); (case l_25 => k_is); (case c_25 => k_is); (case k_25 => k_is))
    case D_checked_machine => (refine' Tw.defAt_mk KX G ?a_26 ?l_26 ?c_26 ?k_26; (case a_26 => k_is); (case l_26 => k_is); (case c_26 => k_is); (case k_26 => k_is))
    case D_steps_of => (refine' Tw.defAt_mk KX G ?a_27 ?l_27 ?c_27 ?k_27; (case a_27 => k_is); (case l_27 => k_is); (case c_27 => k_is); (case k_27 => k_is))
    case D_integers_behind => (refine' Tw.defAt_mk KX G ?a_28 ?l_28 ?c_28 ?k_28; (case a_28 => k_is); (case l_28 => k_is); (case c_28 => k_is); (case k_28 => k_is))
    case D_Machine___init__ => (refine' Tw.defC_mk KX G ?n_29 ?a_29 ?i_29 ?m_29 ?kc_29 ?l_29 ?c_29 ?k_29; (case n_29 => k_is); (case a_29 => k_is); (case i_29 => k_is); (case m_29 => k_is); (case kc_29 => k_is); (case l_29 => k_is); (case c_29 => k_is); (case k_29 => k_is))
    case D_Machine_signs => (refine' Tw.defP_mk ?a_30 ?g_30 ?t_30 ?r_30 ?l_30 ?c_30 ?k_30; (case a_30 => k_is); (case g_30 => k_is); (case t_30 => k_is); (case r_30 => k_is); (case l_30 => k_is); (case c_30 => k_is); (case k_30 => k_is))
    case D_Machine_begin => (refine' Tw.defP_mk ?a_31 ?g_31 ?t_31 ?r_31 ?l_31 ?c_31 ?k_31; (case a_31 => k_is); (case g_31 => k_is); (case t_31 => k_is); (case r_31 => k_is); (case l_31 => k_is); (case c_31 => k_is); (case k_31 => k_is))
    case D_Machine_end => (refine' Tw.defP_mk ?a_32 ?g_32 ?t_32 ?r_32 ?l_32 ?c_32 ?k_32; (case a_32 => k_is); (case g_32 => k_is); (case t_32 => k_is); (case r_32 => k_is); (case l_32 => k_is); (case c_32 => k_is); (case k_32 => k_is))
    case D_Machine_steps => (refine' Tw.defM_mk ?a_33 ?i_33 ?l_33 ?c_33 ?k_33; (case a_33 => k_is); (case i_33 => k_is); (case l_33 => k_is); (case c_33 => k_is); (case k_33 => k_is))
    case D_stepped => (refine' Tw.defAt_mk KX G ?a_34 ?l_34 ?c_34 ?k_34; (case a_34 => k_is); (case l_34 => k_is); (case c_34 => k_is); (case k_34 => k_is))
    case D_stepped_back => (refine' Tw.defAt_mk KX G ?a_35 ?l_35 ?c_35 ?k_35; (case a_35 => k_is); (case l_35 => k_is); (case c_35 => k_is); (case k_35 => k_is))
    case D_free_columns => (refine' Tw.defAt_mk KX G ?a_36 ?l_36 ?c_36 ?k_36; (case a_36 => k_is); (case l_36 => k_is); (case c_36 => k_is); (case k_36 => k_is))
    case D_form_of => (refine' Tw.defAt_mk KX G ?a_37 ?l_37 ?c_37 ?k_37; (case a_37 => k_is); (case l_37 => k_is); (case c_37 => k_is); (case k_37 => k_is))
    case D_machine_by => (refine' Tw.defAt_mk KX G ?a_38 ?l_38 ?c_38 ?k_38; (case a_38 => k_is); (case l_38 => k_is); (case c_38 => k_is); (case k_38 => k_is))
    case D_is_shaped => (refine' Tw.defAt_mk KX G ?a_39 ?l_39 ?c_39 ?k_39; (case a_39 => k_is); (case l_39 => k_is); (case c_39 => k_is); (case k_39 => k_is))
    case D_order_key => (refine' Tw.defAt_mk KX G ?a_40 ?l_40 ?c_40 ?k_40; (case a_40 => k_is); (case l_40 => k_is); (case c_40 => k_is); (case k_40 => k_is))
    case D_are_heads => (refine' Tw.defAt_mk KX G ?a_41 ?l_41 ?c_41 ?k_41; (case a_41 => k_is); (case l_41 => k_is); (case c_41 => k_is); (case k_41 => k_is))
    case D_is_row => (refine' Tw.defAt_mk KX G ?a_42 ?l_42 ?c_42 ?k_42; (case a_42 => k_is); (case l_42 => k_is); (case c_42 => k_is); (case k_42 => k_is))
    case D_checked_form => (refine' Tw.defAt_mk KX G ?a_43 ?l_43 ?c_43 ?k_43; (case a_43 => k_is); (case l_43 => k_is); (case c_43 => k_is); (case k_43 => k_is))
    case D_Tariff___init__ => (refine' Tw.defC_mk KX G ?n_44 ?a_44 ?i_44 ?m_44 ?kc_44 ?l_44 ?c_44 ?k_44; (case n_44 => k_is); (case a_44 => k_is); (case i_44 => k_is); (case m_44 => k_is); (case kc_44 => k_is); (case l_44 => k_is); (case c_44 => k_is); (case k_44 => k_is))
    case D_Tariff_signs => (refine' Tw.defP_mk ?a_45 ?g_45 ?t_45 ?r_45 ?l_45 ?c_45 ?k_45; (case a_45 => k_is); (case g_45 => k_is); (case t_45 => k_is); (case r_45 => k_is); (case l_45 => k_is); (case c_45 => k_is); (case k_45 => k_is))
    case D_Tariff_heads => (refine' Tw.defP_mk ?a_46 ?g_46 ?t_46 ?r_46 ?l_46 ?c_46 ?k_46; (case a_46 => k_is); (case g_46 => k_is); (case t_46 => k_is); (case r_46 => k_is); (case l_46 => k_is); (case c_46 => k_is); (case k_46 => k_is))
    case D_tariff_of => (refine' Tw.defAt_mk KX G ?a_47 ?l_47 ?c_47 ?k_47; (case a_47 => k_is); (case l_47 => k_is); (case c_47 => k_is); (case k_47 => k_is))
    case D__law_gcd => (refine' Tw.defAt_mk KX G ?a_48 ?l_48 ?c_48 ?k_48; (case a_48 => k_is); (case l_48 => k_is); (case c_48 => k_is); (case k_48 => k_is))
    case D__law_pair => (refine' Tw.defAt_mk KX G ?a_49 ?l_49 ?c_49 ?k_49; (case a_49 => k_is); (case l_49 => k_is); (case c_49 => k_is); (case k_49 => k_is))
    case D__law_over => (refine' Tw.defAt_mk KX G ?a_50 ?l_50 ?c_50 ?k_50; (case a_50 => k_is); (case l_50 => k_is); (case c_50 => k_is); (case k_50 => k_is))
    case D__law_scaled => (refine' Tw.defAt_mk KX G ?a_51 ?l_51 ?c_51 ?k_51; (case a_51 => k_is); (case l_51 => k_is); (case c_51 => k_is); (case k_51 => k_is))
    case D__law_stepped => (refine' Tw.defAt_mk KX G ?a_52 ?l_52 ?c_52 ?k_52; (case a_52 => k_is); (case l_52 => k_is); (case c_52 => k_is); (case k_52 => k_is))
    case D__law_messages => (refine' Tw.defAt_mk KX G ?a_53 ?l_53 ?c_53 ?k_53; (case a_53 => k_is); (case l_53 => k_is); (case c_53 => k_is); (case k_53 => k_is))
    case D__law_dot => (refine' Tw.defAt_mk KX G ?a_54 ?l_54 ?c_54 ?k_54; (case a_54 => k_is); (case l_54 => k_is); (case c_54 => k_is); (case k_54 => k_is))
    case D__law_rows => (refine' Tw.defAt_mk KX G ?a_55 ?l_55 ?c_55 ?k_55; (case a_55 => k_is); (case l_55 => k_is); (case c_55 => k_is); (case k_55 => k_is))
    case D__law_columns => (refine' Tw.defAt_mk KX G ?a_56 ?l_56 ?c_56 ?k_56; (case a_56 => k_is); (case l_56 => k_is); (case c_56 => k_is); (case k_56 => k_is))
    case D__law_rest => (refine' Tw.defAt_mk KX G ?a_57 ?l_57 ?c_57 ?k_57; (case a_57 => k_is); (case l_57 => k_is); (case c_57 => k_is); (case k_57 => k_is))
    case D__law_keep => (refine' Tw.defAt_mk KX G ?a_58 ?l_58 ?c_58 ?k_58; (case a_58 => k_is); (case l_58 => k_is); (case c_58 => k_is); (case k_58 => k_is))
    case D__law_heads => (refine' Tw.defAt_mk KX G ?a_59 ?l_59 ?c_59 ?k_59; (case a_59 => k_is); (case l_59 => k_is); (case c_59 => k_is); (case k_59 => k_is))
    case D__law_alike => (refine' Tw.defAt_mk KX G ?a_60 ?l_60 ?c_60 ?k_60; (case a_60 => k_is); (case l_60 => k_is); (case c_60 => k_is); (case k_60 => k_is))
    case D__law_draw => (refine' Tw.defAt_mk KX G ?a_61 ?l_61 ?c_61 ?k_61; (case a_61 => k_is); (case l_61 => k_is); (case c_61 => k_is); (case k_61 => k_is))
    case D__law_deck => (refine' Tw.defAt_mk KX G ?a_62 ?l_62 ?c_62 ?k_62; (case a_62 => k_is); (case l_62 => k_is); (case c_62 => k_is); (case k_62 => k_is))
    case D__law_number => (refine' Tw.defAt_mk KX G ?a_63 ?l_63 ?c_63 ?k_63; (case a_63 => k_is); (case l_63 => k_is); (case c_63 => k_is); (case k_63 => k_is))
    case D__law_signs => (refine' Tw.defAt_mk KX G ?a_64 ?l_64 ?c_64 ?k_64; (case a_64 => k_is); (case l_64 => k_is); (case c_64 => k_is); (case k_64 => k_is))
    case D__law_size => (refine' Tw.defAt_mk KX G ?a_65 ?l_65 ?c_65 ?k_65; (case a_65 => k_is); (case l_65 => k_is); (case c_65 => k_is); (case k_65 => k_is))
    case D__law_machine => (refine' Tw.defAt_mk KX G ?a_66 ?l_66 ?c_66 ?k_66; (case a_66 => k_is); (case l_66 => k_is); (case c_66 => k_is); (case k_66 => k_is))
    case D__law_some_machine => (refine' Tw.defAt_mk KX G ?a_67 ?l_67 ?c_67 ?k_67; (case a_67 => k_is); (case l_67 => k_is); (case c_67 => k_is); (case k_67 => k_is))
    case D_Tariff___len__ => (refine' Tw.defM_mk ?a_68 ?i_68 ?l_68 ?c_68 ?k_68; (case a_68 => k_is); (case i_68 => k_is); (case l_68 => k_is); (case c_68 => k_is); (case k_68 => k_is))
    case DL => (refine' Tw.defAt_mk KX G ?a_69 ?l_69 ?c_69 ?k_69; (case a_69 => k_is); (case l_69 => k_is); (case c_69 => k_is); (case k_69 => k_is))
