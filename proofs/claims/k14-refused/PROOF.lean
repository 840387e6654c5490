import PyProof.Rows.All
import Wide.All
import OpenK.AllK
import Wide.FinOn
import HandS.ForMost
import HandS.Evl
import HandS.Wide
import HandS.IsInst
import HandS.RevRange
import HandS.SortKw
import HandS.Style
import KE.DataMinMax
import HandS.Exc
import HandS.ExcOwn
import HandS.ExcIs
import HandS.WordsExc
import HandS.HotCalls
import PyProof.Rows.CountFlat
import PySem.Challenge.RW_choicefigures_k14_refused
set_option Elab.async false
set_option linter.all false
set_option maxRecDepth 100000
set_option maxHeartbeats 4000000
namespace Ch
/-! ### choices -/
def C : Nat → Nat → Nat
  | _, 0 => 1
  | 0, _ + 1 => 0
  | n + 1, k + 1 => C n k + C n (k + 1)
theorem C_0r (n : Nat) : C n 0 = 1 := by cases n <;> rfl
theorem C_0s (k : Nat) : C 0 (k + 1) = 0 := rfl
theorem C_ss (n k : Nat) : C (n + 1) (k + 1) = C n k + C n (k + 1) := rfl
theorem C_gt : ∀ {n k : Nat}, n < k → C n k = 0
  | 0, k + 1, _ => rfl
  | n + 1, k + 1, h => by rw [C_ss, C_gt (show n < k by omega), C_gt (show n < k + 1 by omega)]
theorem C_self : ∀ n : Nat, C n n = 1
  | 0 => rfl
  | n + 1 => by rw [C_ss, C_self n, C_gt (Nat.lt_succ_self n)]
theorem C_pos : ∀ {n k : Nat}, k ≤ n → 0 < C n k
  | n, 0, _ => by rw [C_0r]; exact Nat.one_pos
  | n + 1, k + 1, h => by
    rw [C_ss]
    have := C_pos (show k ≤ n by omega)
    omega
/-- so many times the choices of one thing more, of one chosen more -/
theorem C_abs : ∀ n k : Nat, (k + 1) * C (n + 1) (k + 1) = (n + 1) * C n k
  | 0, 0 => rfl
  | 0, k + 1 => by rw [C_ss, C_0s, C_0s]; simp
  | n + 1, 0 => by
    have h := C_abs n 0
    rw [C_0r] at h
    rw [C_ss (n + 1) 0, C_0r]
    omega
  | n + 1, k + 1 => by
    have h1 := C_abs n k
    have h2 := C_abs n (k + 1)
    rw [C_ss (n + 1) (k + 1)]
    have h3 := C_ss n k
    grind
theorem C_step (n k : Nat) (h : k ≤ n) : (k + 1) * C n (k + 1) = (n - k) * C n k := by
  have h1 := C_abs n k
  rw [C_ss] at h1
  obtain ⟨d, rfl⟩ : ∃ d, n = k + d := ⟨n - k, by omega⟩
  rw [Nat.add_sub_cancel_left]
  grind
theorem C_symm : ∀ n k : Nat, k ≤ n → C n (n - k) = C n k
  | 0, 0, _ => rfl
  | n + 1, 0, _ => by rw [C_0r, Nat.sub_zero, C_self]
  | n + 1, k + 1, h => by
    rw [Nat.add_sub_add_right]
    by_cases e : k = n
    · subst e
      rw [Nat.sub_self, C_0r, C_self]
    · obtain ⟨d, hd⟩ : ∃ d, n - k = d + 1 := ⟨n - k - 1, by omega⟩
      have a1 := C_symm n k (by omega)
      have a2 := C_symm n (k + 1) (by omega)
      rw [show n - (k + 1) = d by omega] at a2
      rw [hd] at a1
      rw [hd, C_ss, C_ss, a1, a2]
      omega
/-! ### the primes -/
def ps : List Nat := [2, 3, 5, 7, 11, 13, 17, 19, 23, 29, 31, 37, 41, 43, 47, 53, 59, 61, 67, 71, 73, 79, 83, 89, 97]
def IsP (p : Nat) : Prop := p ∈ ps
theorem IsP.ge {p : Nat} (h : IsP p) : 2 ≤ p := (show ∀ p ∈ ps, 2 ≤ p by decide) p h
theorem IsP.le {p : Nat} (h : IsP p) : p ≤ 97 := (show ∀ p ∈ ps, p ≤ 97 by decide) p h
theorem IsP.dvd {p : Nat} (h : IsP p) {d : Nat} (hd : d ∣ p) : d = 1 ∨ d = p := by
  have hp := h.ge
  have hl := h.le
  have hle := Nat.le_of_dvd (by omega) hd
  exact (show ∀ p ∈ ps, ∀ d, d < 98 → d ∣ p → d = 1 ∨ d = p by decide +kernel) p h d (by omega) hd
theorem IsP.cop {p : Nat} (h : IsP p) {a : Nat} (ha : a % p ≠ 0) : Nat.Coprime p a := by
  rcases h.dvd (Nat.gcd_dvd_left p a) with e | e
  · exact e
  · exact absurd (Nat.mod_eq_zero_of_dvd (e ▸ Nat.gcd_dvd_right p a)) ha
theorem IsP.mul {p : Nat} (h : IsP p) {a b : Nat} (ha : a % p ≠ 0) (hb : b % p ≠ 0) : a * b % p ≠ 0 := fun e =>
  hb (Nat.mod_eq_zero_of_dvd ((h.cop ha).dvd_of_dvd_mul_left (Nat.dvd_of_mod_eq_zero e)))
/-- a factor that the prime does not go into may be dropped -/
theorem IsP.cancel {p : Nat} (h : IsP p) {a b c : Nat} (hc : c % p ≠ 0) (e : a * c % p = b * c % p) : a % p = b % p := by
  have key : ∀ a b : Nat, a ≤ b → a * c % p = b * c % p → a % p = b % p := fun a b hab e => by
    have d : p ∣ (b - a) * c := by
      rw [Nat.sub_mul]
      exact Nat.dvd_of_mod_eq_zero (Nat.sub_mod_eq_zero_of_mod_eq e.symm)
    obtain ⟨t, ht⟩ := (h.cop hc).dvd_of_dvd_mul_right d
    have hb : b = a + p * t := by omega
    rw [hb, Nat.add_mul_mod_self_left]
  rcases Nat.le_total a b with hab | hab
  · exact key a b hab e
  · exact (key b a hab e.symm).symm
end Ch

namespace Ch
/-! ### the same by p -/
def Eqm (p a b : Nat) : Prop := a % p = b % p
section
variable {p a b c d : Nat}
theorem Eqm.rfl' : Eqm p a a := rfl
theorem Eqm.of (h : a = b) : Eqm p a b := by rw [h]; exact rfl
theorem Eqm.symm (h : Eqm p a b) : Eqm p b a := Eq.symm h
theorem Eqm.trans (h : Eqm p a b) (k : Eqm p b c) : Eqm p a c := Eq.trans h k
theorem Eqm.add (h : Eqm p a b) (k : Eqm p c d) : Eqm p (a + c) (b + d) := by
  unfold Eqm at *
  rw [Nat.add_mod, h, k, ← Nat.add_mod]
theorem Eqm.mul (h : Eqm p a b) (k : Eqm p c d) : Eqm p (a * c) (b * d) := by
  unfold Eqm at *
  rw [Nat.mul_mod, h, k, ← Nat.mul_mod]
theorem Eqm.mod : Eqm p (a % p) a := Nat.mod_mod a p
theorem Eqm.pow (h : Eqm p a b) (n : Nat) : Eqm p (a ^ n) (b ^ n) := by
  induction n with
  | zero => exact rfl
  | succ n ih => rw [Nat.pow_succ, Nat.pow_succ]; exact ih.mul h
end
theorem div_cases (p n : Nat) (hp : 2 ≤ p) : ∃ N a, n = p * N + a ∧ a < p ∧ n / p = N ∧ n % p = a := ⟨n / p, n % p, (Nat.div_add_mod n p).symm, Nat.mod_lt _ (by omega), rfl, rfl⟩
theorem dm_of {p N a : Nat} (h : a < p) : (p * N + a) / p = N ∧ (p * N + a) % p = a := by
  constructor
  · rw [Nat.mul_add_div (by omega), Nat.div_eq_of_lt h, Nat.add_zero]
  · rw [Nat.mul_add_mod, Nat.mod_eq_of_lt h]
/-- a row's inner places are the prime's -/
theorem C_prime {p k : Nat} (h : IsP p) (h1 : 0 < k) (h2 : k < p) : C p k % p = 0 := by
  obtain ⟨q, rfl⟩ : ∃ q, p = q + 1 := ⟨p - 1, by have := h.ge; omega⟩
  obtain ⟨j, rfl⟩ : ∃ j, k = j + 1 := ⟨k - 1, by omega⟩
  have e := C_abs q j
  have d : (q + 1) ∣ (j + 1) * C (q + 1) (j + 1) := ⟨_, e⟩
  have c : Nat.Coprime (q + 1) (j + 1) := h.cop (by rw [Nat.mod_eq_of_lt h2]; omega)
  exact Nat.mod_eq_zero_of_dvd (c.dvd_of_dvd_mul_left d)
theorem lucas {p : Nat} (h : IsP p) : ∀ n k : Nat, Eqm p (C n k) (C (n % p) (k % p) * C (n / p) (k / p))
  | 0, k => by
    have hp := h.ge
    by_cases k0 : k = 0
    · subst k0
      rw [Nat.zero_mod, Nat.zero_div, C_0r]
      exact rfl
    · rw [C_gt (show 0 < k by omega), Nat.zero_mod, Nat.zero_div]
      by_cases r0 : k % p = 0
      · have : 0 < k / p := by
          have := Nat.div_add_mod k p
          rcases Nat.eq_zero_or_pos (k / p) with e | e
          · rw [e] at this; omega
          · exact e
        rw [C_gt this, Nat.mul_zero]
        exact rfl
      · rw [C_gt (show 0 < k % p by omega), Nat.zero_mul]
        exact rfl
  | n + 1, 0 => by
    rw [Nat.zero_mod, Nat.zero_div, C_0r, C_0r, C_0r]
    exact rfl
  | n + 1, k + 1 => by
    have hp := h.ge
    have i1 := lucas h n k
    have i2 := lucas h n (k + 1)
    rw [C_ss]
    refine (i1.add i2).trans ?_
    obtain ⟨N, a, en, ha, e1, e2⟩ := div_cases p n hp
    obtain ⟨K, b, ek, hb, e3, e4⟩ := div_cases p k hp
    rw [e1, e2, e3, e4]
    by_cases ca : a + 1 = p
    · have f := dm_of (p := p) (N := N + 1) (a := 0) (by omega)
      have g : n + 1 = p * (N + 1) + 0 := by rw [Nat.mul_add]; omega
      rw [g, f.1, f.2]
      by_cases cb : b + 1 = p
      · have f' := dm_of (p := p) (N := K + 1) (a := 0) (by omega)
        have g' : k + 1 = p * (K + 1) + 0 := by rw [Nat.mul_add]; omega
        rw [g', f'.1, f'.2, C_ss, C_0r, C_0r, show b = a by omega, C_self]
        exact Eqm.of (by omega)
      · have f' := dm_of (p := p) (N := K) (a := b + 1) (by omega)
        have g' : k + 1 = p * K + (b + 1) := by omega
        rw [g', f'.1, f'.2, C_0s, Nat.zero_mul, ← Nat.add_mul, ← C_ss, ca]
        have z := C_prime h (show 0 < b + 1 by omega) (show b + 1 < p by omega)
        exact (Eqm.mul (show Eqm p _ 0 from z.trans (Nat.zero_mod p).symm) Eqm.rfl').trans (Eqm.of (Nat.zero_mul _))
    · have f := dm_of (p := p) (N := N) (a := a + 1) (by omega)
      have g : n + 1 = p * N + (a + 1) := by omega
      rw [g, f.1, f.2]
      by_cases cb : b + 1 = p
      · have f' := dm_of (p := p) (N := K + 1) (a := 0) (by omega)
        have g' : k + 1 = p * (K + 1) + 0 := by rw [Nat.mul_add]; omega
        rw [g', f'.1, f'.2, C_0r, C_0r, C_gt (show a < b by omega)]
        exact Eqm.of (by omega)
      · have f' := dm_of (p := p) (N := K) (a := b + 1) (by omega)
        have g' : k + 1 = p * K + (b + 1) := by omega
        rw [g', f'.1, f'.2, C_ss, Nat.add_mul]
        exact rfl
/-- below the prime a choice is not the prime's -/
theorem C_small {p : Nat} (h : IsP p) {a : Nat} (ha : a < p) : ∀ b, b ≤ a → C a b % p ≠ 0
  | 0, _ => by
    rw [C_0r, Nat.mod_eq_of_lt (by have := h.ge; omega)]
    decide
  | b + 1, hb => fun z => by
    have ih := C_small h ha b (by omega)
    have e := C_step a b (by omega)
    have x : (a - b) * C a b % p ≠ 0 := h.mul (by rw [Nat.mod_eq_of_lt (by omega)]; omega) ih
    apply x
    rw [← e, Nat.mul_mod, z, Nat.mul_zero, Nat.zero_mod]
/-! ### Lucas's product, as the program goes -/
def lp (p : Nat) (n k : Nat) : Nat := if h : n = 0 ∨ p < 2 then 1 else C (n % p) (k % p) * lp p (n / p) (k / p)
termination_by n
decreasing_by exact Nat.div_lt_self (by omega) (by omega)
theorem lp_0 (p k : Nat) : lp p 0 k = 1 := by rw [lp]; simp
theorem lp_s {p n : Nat} (hp : 2 ≤ p) (hn : 0 < n) (k : Nat) : lp p n k = C (n % p) (k % p) * lp p (n / p) (k / p) := by
  rw [lp]
  rw [dif_neg (by omega)]
theorem lp_C {p : Nat} (h : IsP p) (n : Nat) : ∀ k, k ≤ n → Eqm p (lp p n k) (C n k) := by
  induction n using Nat.strongRecOn with
  | _ n ih =>
    intro k hk
    have hp := h.ge
    by_cases n0 : n = 0
    · subst n0
      rw [lp_0, show k = 0 by omega, C_0r]
      exact rfl
    · rw [lp_s hp (by omega)]
      have lt := Nat.div_lt_self (show 0 < n by omega) (show 1 < p by omega)
      exact (Eqm.mul Eqm.rfl' (ih _ lt _ (Nat.div_le_div_right hk))).trans (lucas h n k).symm
end Ch

namespace Ch
/-! ### figures -/
def digs (p n : Nat) : List Nat := if h : n = 0 ∨ p < 2 then [] else n % p :: digs p (n / p)
termination_by n
decreasing_by exact Nat.div_lt_self (by omega) (by omega)
theorem digs_0 (p : Nat) : digs p 0 = [] := by rw [digs]; simp
theorem digs_s {p n : Nat} (hp : 2 ≤ p) (hn : 0 < n) : digs p n = n % p :: digs p (n / p) := by
  rw [digs]
  rw [dif_neg (by omega)]
theorem div_lt {p n : Nat} (hp : 2 ≤ p) (hn : 0 < n) : n / p < n := Nat.div_lt_self hn (by omega)
theorem digs_lt {p : Nat} (hp : 2 ≤ p) (n : Nat) : ∀ d ∈ digs p n, d < p := by
  induction n using Nat.strongRecOn with
  | _ n ih =>
    by_cases n0 : n = 0
    · subst n0; rw [digs_0]; intro d hd; cases hd
    · rw [digs_s hp (by omega)]
      intro d hd
      rcases List.mem_cons.mp hd with e | e
      · rw [e]; exact Nat.mod_lt _ (by omega)
      · exact ih _ (div_lt hp (by omega)) d e
/-- the number of the figures -/
def val (p : Nat) : List Nat → Nat
  | [] => 0
  | d :: r => d + p * val p r
theorem val_digs {p : Nat} (hp : 2 ≤ p) (n : Nat) : val p (digs p n) = n := by
  induction n using Nat.strongRecOn with
  | _ n ih =>
    by_cases n0 : n = 0
    · subst n0; rw [digs_0]; rfl
    · rw [digs_s hp (by omega)]
      show n % p + p * val p (digs p (n / p)) = n
      rw [ih _ (div_lt hp (by omega))]
      exact Nat.mod_add_div n p
theorem digs_last {p : Nat} (hp : 2 ≤ p) (n : Nat) : ∀ d, (digs p n).getLast? = some d → d ≠ 0 := by
  induction n using Nat.strongRecOn with
  | _ n ih =>
    by_cases n0 : n = 0
    · subst n0; rw [digs_0]; intro d hd; cases hd
    · rw [digs_s hp (by omega)]
      intro d hd
      by_cases q0 : n / p = 0
      · rw [q0, digs_0] at hd
        have e : n % p = d := Option.some.inj hd
        have := Nat.mod_add_div n p
        rw [q0] at this
        omega
      · have hl := digs_s hp (Nat.pos_of_ne_zero q0)
        rw [hl] at hd
        rw [List.getLast?_cons_cons, ← hl] at hd
        exact ih _ (div_lt hp (by omega)) d hd
/-- how many: below a power -/
theorem digs_len {p : Nat} (hp : 2 ≤ p) : ∀ (k n : Nat), n < 2 ^ k → (digs p n).length ≤ k
  | k, 0, _ => by rw [digs_0]; exact Nat.zero_le _
  | 0, n + 1, h => by simp at h
  | k + 1, n + 1, h => by
    rw [digs_s hp (by omega)]
    have : (n + 1) / p < 2 ^ k := by
      rw [Nat.div_lt_iff_lt_mul (by omega)]
      have : 2 ^ k * 2 ≤ 2 ^ k * p := Nat.mul_le_mul_left _ hp
      rw [Nat.pow_succ] at h
      omega
    have := digs_len hp k ((n + 1) / p) this
    rw [List.length_cons]
    omega
/-! ### the figures together, the carries, the order's power -/
def ssum (p n : Nat) : Nat := (digs p n).sum
theorem ssum_0 (p : Nat) : ssum p 0 = 0 := by unfold ssum; rw [digs_0]; rfl
theorem ssum_s {p n : Nat} (hp : 2 ≤ p) (hn : 0 < n) : ssum p n = n % p + ssum p (n / p) := by
  unfold ssum
  rw [digs_s hp hn, List.sum_cons]
/-- the same at nought -/
theorem ssum_u {p : Nat} (hp : 2 ≤ p) (n : Nat) : ssum p n = n % p + ssum p (n / p) := by
  by_cases n0 : n = 0
  · subst n0; rw [Nat.zero_mod, Nat.zero_div, ssum_0]
  · exact ssum_s hp (by omega)
def cin (p a b c : Nat) : Nat := if p ≤ a % p + b % p + c then 1 else 0
def car (p a b c : Nat) : Nat := if h : (a = 0 ∧ b = 0) ∨ p < 2 then 0 else cin p a b c + car p (a / p) (b / p) (cin p a b c)
termination_by a + b
decreasing_by
  have h1 := Nat.div_le_self a p
  have h2 := Nat.div_le_self b p
  by_cases a0 : a = 0
  · have := div_lt (p := p) (n := b) (by omega) (by omega)
    omega
  · have := div_lt (p := p) (n := a) (by omega) (by omega)
    omega
theorem car_0 (p c : Nat) : car p 0 0 c = 0 := by rw [car]; simp
theorem car_s {p a b : Nat} (hp : 2 ≤ p) (h : 0 < a ∨ 0 < b) (c : Nat) : car p a b c = cin p a b c + car p (a / p) (b / p) (cin p a b c) := by
  rw [car]
  rw [dif_neg (by omega)]
theorem cin_le (p a b c : Nat) : cin p a b c ≤ 1 := by unfold cin; split <;> omega
theorem cin_comm (p a b c : Nat) : cin p a b c = cin p b a c := by unfold cin; rw [Nat.add_comm (a % p)]
theorem ab_lt {p a b : Nat} (hp : 2 ≤ p) (h : 0 < a ∨ 0 < b) : a / p + b / p < a + b := by
  have h1 := Nat.div_le_self a p
  have h2 := Nat.div_le_self b p
  by_cases a0 : a = 0
  · have := div_lt (p := p) (n := b) (by omega) (by omega)
    omega
  · have := div_lt (p := p) (n := a) (by omega) (by omega)
    omega
theorem car_comm {p : Nat} (hp : 2 ≤ p) : ∀ (s a b c : Nat), a + b = s → car p a b c = car p b a c := by
  intro s
  induction s using Nat.strongRecOn with
  | _ s ih =>
    intro a b c hs
    by_cases h : 0 < a ∨ 0 < b
    · rw [car_s (a := a) (b := b) hp h c, car_s (a := b) (b := a) hp (by omega) c, cin_comm p b a, ih _ (by have := ab_lt hp h; omega) _ _ _ rfl]
    · rw [show a = 0 by omega, show b = 0 by omega]
/-- one step of an addition -/
theorem add_step {p : Nat} (hp : 2 ≤ p) (a b c : Nat) (hc : c ≤ 1) : (a + b + c) / p = a / p + b / p + cin p a b c ∧ (a + b + c) % p + p * cin p a b c = a % p + b % p + c := by
  obtain ⟨A, x, ea, hx, e1, e2⟩ := div_cases p a hp
  obtain ⟨B, y, eb, hy, e3, e4⟩ := div_cases p b hp
  rw [e1, e3]
  unfold cin
  rw [e2, e4]
  by_cases h : p ≤ x + y + c
  · rw [if_pos h]
    have e : a + b + c = p * (A + B + 1) + (x + y + c - p) := by rw [ea, eb, Nat.mul_add, Nat.mul_add]; omega
    have f := dm_of (p := p) (N := A + B + 1) (a := x + y + c - p) (by omega)
    rw [e, f.1, f.2]
    exact ⟨rfl, by omega⟩
  · rw [if_neg h]
    have e : a + b + c = p * (A + B) + (x + y + c) := by rw [ea, eb, Nat.mul_add]; omega
    have f := dm_of (p := p) (N := A + B) (a := x + y + c) (by omega)
    rw [e, f.1, f.2]
    exact ⟨rfl, by omega⟩
/-- the figures of both, less those of the sum -/
theorem car_sum {p : Nat} (hp : 2 ≤ p) : ∀ (s a b c : Nat), a + b = s → c ≤ 1 → ssum p a + ssum p b + c = ssum p (a + b + c) + (p - 1) * car p a b c := by
  intro s
  induction s using Nat.strongRecOn with
  | _ s ih =>
    intro a b c hs hc
    by_cases h : 0 < a ∨ 0 < b
    · have i := ih _ (by have := ab_lt hp h; omega) (a / p) (b / p) (cin p a b c) rfl (cin_le ..)
      have st := add_step hp a b c hc
      rw [car_s hp h, ssum_u hp a, ssum_u hp b, ssum_u hp (a + b + c), st.1]
      have e2 := st.2
      obtain ⟨q, rfl⟩ : ∃ q, p = q + 1 := ⟨p - 1, by omega⟩
      rw [Nat.add_sub_cancel] at *
      rw [Nat.mul_add]
      rw [Nat.add_mul] at e2
      omega
    · rw [show a = 0 by omega, show b = 0 by omega, car_0, ssum_0]
      by_cases c0 : c = 0
      · rw [c0, ssum_0]; rfl
      · rw [show c = 1 by omega, ssum_s hp (by omega), Nat.mod_eq_of_lt (by omega), Nat.div_eq_of_lt (by omega), ssum_0]
        rfl
def op (p n : Nat) : Nat := if h : n = 0 ∨ p < 2 then 0 else n / p + op p (n / p)
termination_by n
decreasing_by exact Nat.div_lt_self (by omega) (by omega)
theorem op_0 (p : Nat) : op p 0 = 0 := by rw [op]; simp
theorem op_s {p n : Nat} (hp : 2 ≤ p) (hn : 0 < n) : op p n = n / p + op p (n / p) := by
  rw [op]
  rw [dif_neg (by omega)]
theorem op_sum {p : Nat} (hp : 2 ≤ p) (n : Nat) : (p - 1) * op p n + ssum p n = n := by
  induction n using Nat.strongRecOn with
  | _ n ih =>
    by_cases n0 : n = 0
    · subst n0; rw [op_0, ssum_0]; rfl
    · have i := ih _ (div_lt hp (by omega))
      rw [op_s hp (by omega), ssum_s hp (by omega)]
      have e := Nat.mod_add_div n p
      obtain ⟨q, rfl⟩ : ∃ q, p = q + 1 := ⟨p - 1, by omega⟩
      rw [Nat.add_sub_cancel] at *
      rw [Nat.mul_add]
      rw [Nat.add_mul] at e
      omega
/-- Kummer, by the orders' powers -/
theorem car_op {p : Nat} (hp : 2 ≤ p) (a b : Nat) : car p a b 0 + op p a + op p b = op p (a + b) := by
  have h := car_sum hp _ a b 0 rfl (by omega)
  have ha := op_sum hp a
  have hb := op_sum hp b
  have hs := op_sum hp (a + b)
  rw [Nat.add_zero, Nat.add_zero] at h
  have e : (p - 1) * (car p a b 0 + op p a + op p b) = (p - 1) * op p (a + b) := by
    rw [Nat.mul_add, Nat.mul_add]
    omega
  exact Nat.eq_of_mul_eq_mul_left (by omega) e
end Ch

namespace Ch
/-- the figure at a place -/
theorem digs_at {p : Nat} (hp : 2 ≤ p) : ∀ (k n : Nat), (digs p n)[k]? = if n / p ^ k = 0 then none else some (n / p ^ k % p)
  | k, 0 => by rw [digs_0, Nat.zero_div, if_pos rfl]; rfl
  | 0, n + 1 => by rw [digs_s hp (by omega), Nat.pow_zero, Nat.div_one, if_neg (by omega)]; rfl
  | k + 1, n + 1 => by
    rw [digs_s hp (by omega), List.getElem?_cons_succ, digs_at hp k, Nat.div_div_eq_div_mul, Nat.pow_succ, Nat.mul_comm p]
theorem digs_len_iff {p : Nat} (hp : 2 ≤ p) (k n : Nat) : k < (digs p n).length ↔ n / p ^ k ≠ 0 := by
  have h := digs_at hp k n
  constructor
  · intro hk z
    rw [if_pos z, List.getElem?_eq_none_iff] at h
    omega
  · intro hz
    rw [if_neg hz] at h
    exact (List.getElem?_eq_some_iff.mp h).1
theorem div_pow_succ (p n k : Nat) : n / p ^ k / p = n / p ^ (k + 1) := by rw [Nat.div_div_eq_div_mul, Nat.pow_succ]
theorem car_turn {p a b : Nat} (hp : 2 ≤ p) (k c : Nat) (h : 0 < a / p ^ k ∨ 0 < b / p ^ k) (hc : c ≤ 1) :
    car p (a / p ^ k) (b / p ^ k) c = (c + a / p ^ k % p + b / p ^ k % p) / p + car p (a / p ^ (k + 1)) (b / p ^ (k + 1)) ((c + a / p ^ k % p + b / p ^ k % p) / p) ∧ (c + a / p ^ k % p + b / p ^ k % p) / p ≤ 1 := by
  have e : (c + a / p ^ k % p + b / p ^ k % p) / p = cin p (a / p ^ k) (b / p ^ k) c := by
    have h1 := Nat.mod_lt (a / p ^ k) (show 0 < p by omega)
    have h2 := Nat.mod_lt (b / p ^ k) (show 0 < p by omega)
    unfold cin
    split
    · next h3 =>
      rw [show c + a / p ^ k % p + b / p ^ k % p = p * 1 + (c + a / p ^ k % p + b / p ^ k % p - p) by omega, (dm_of (by omega)).1]
    · next h3 => exact Nat.div_eq_of_lt (by omega)
  rw [e]
  refine ⟨?_, cin_le ..⟩
  rw [car_s hp h, div_pow_succ, div_pow_succ]
end Ch

namespace Ch
/-! ### how often the prime goes into a number, and what is left -/
def vp (p n : Nat) : Nat := if h : n = 0 ∨ p < 2 ∨ n % p ≠ 0 then 0 else 1 + vp p (n / p)
termination_by n
decreasing_by exact Nat.div_lt_self (by omega) (by omega)
def un (p n : Nat) : Nat := if h : n = 0 ∨ p < 2 ∨ n % p ≠ 0 then n else un p (n / p)
termination_by n
decreasing_by exact Nat.div_lt_self (by omega) (by omega)
theorem vp_no {p n : Nat} (h : n % p ≠ 0) : vp p n = 0 := by rw [vp]; rw [dif_pos (.inr (.inr h))]
theorem un_no {p n : Nat} (h : n % p ≠ 0) : un p n = n := by rw [un]; rw [dif_pos (.inr (.inr h))]
theorem vp_yes {p n : Nat} (hp : 2 ≤ p) (hn : 0 < n) (h : n % p = 0) : vp p n = 1 + vp p (n / p) := by rw [vp]; rw [dif_neg (by omega)]
theorem un_yes {p n : Nat} (hp : 2 ≤ p) (hn : 0 < n) (h : n % p = 0) : un p n = un p (n / p) := by rw [un]; rw [dif_neg (by omega)]
theorem div_pos_of {p n : Nat} (hp : 2 ≤ p) (hn : 0 < n) (h : n % p = 0) : 0 < n / p := by
  have e := Nat.mod_add_div n p
  rcases Nat.eq_zero_or_pos (n / p) with z | z
  · rw [z] at e; omega
  · exact z
theorem vp_un {p : Nat} (hp : 2 ≤ p) (n : Nat) : 0 < n → n = p ^ vp p n * un p n ∧ un p n % p ≠ 0 ∧ 0 < un p n := by
  induction n using Nat.strongRecOn with
  | _ n ih =>
    intro hn
    by_cases h : n % p = 0
    · have hq := div_pos_of hp hn h
      obtain ⟨i1, i2, i3⟩ := ih _ (div_lt hp hn) hq
      rw [vp_yes hp hn h, un_yes hp hn h]
      refine ⟨?_, i2, i3⟩
      have e := Nat.mod_add_div n p
      rw [Nat.pow_add, Nat.pow_one, Nat.mul_assoc, ← i1]
      omega
    · rw [vp_no h, un_no h]
      exact ⟨by rw [Nat.pow_zero, Nat.one_mul], h, hn⟩
theorem op_u {p : Nat} (hp : 2 ≤ p) (n : Nat) : op p n = n / p + op p (n / p) := by
  by_cases n0 : n = 0
  · subst n0; rw [Nat.zero_div, op_0]
  · exact op_s hp (by omega)
/-- one number more -/
theorem succ_step {p : Nat} (hp : 2 ≤ p) (n : Nat) : ((n + 1) % p ≠ 0 ∧ (n + 1) / p = n / p ∧ (n + 1) % p = n % p + 1) ∨ ((n + 1) % p = 0 ∧ (n + 1) / p = n / p + 1 ∧ n % p = p - 1) := by
  obtain ⟨N, a, en, ha, e1, e2⟩ := div_cases p n hp
  rw [e1, e2]
  by_cases ca : a + 1 = p
  · have f := dm_of (p := p) (N := N + 1) (a := 0) (by omega)
    have g : n + 1 = p * (N + 1) + 0 := by rw [Nat.mul_add]; omega
    rw [g, f.1, f.2]
    exact .inr ⟨rfl, rfl, by omega⟩
  · have f := dm_of (p := p) (N := N) (a := a + 1) (by omega)
    have g : n + 1 = p * N + (a + 1) := by omega
    rw [g, f.1, f.2]
    exact .inl ⟨by omega, rfl, rfl⟩
theorem op_succ {p : Nat} (hp : 2 ≤ p) (n : Nat) : op p (n + 1) = op p n + vp p (n + 1) := by
  induction n using Nat.strongRecOn with
  | _ n ih =>
    rcases succ_step hp n with ⟨h1, h2, h3⟩ | ⟨h1, h2, h3⟩
    · rw [vp_no h1, op_u hp (n + 1), h2, ← op_u hp n]
      rfl
    · have hle := Nat.mod_le n p
      rw [vp_yes hp (by omega) h1, op_u hp (n + 1), h2, op_u hp n, ih (n / p) (div_lt hp (by omega))]
      omega
end Ch

namespace Ch
/-! ### all numbers to one, multiplied, without the prime -/
def Fc : Nat → Nat
  | 0 => 1
  | n + 1 => (n + 1) * Fc n
theorem wilson {p : Nat} (h : IsP p) : Eqm p (Fc (p - 1)) (p - 1) := (show ∀ p ∈ ps, Fc (p - 1) % p = (p - 1) % p by decide +kernel) p h
theorem F_no {p : Nat} (h : IsP p) : ∀ a, a < p → Fc a % p ≠ 0
  | 0, ha => by
    show 1 % p ≠ 0
    rw [Nat.mod_eq_of_lt (by have := h.ge; omega)]
    decide
  | a + 1, ha => h.mul (by rw [Nat.mod_eq_of_lt ha]; omega) (F_no h a (by omega))
def Lf (p n : Nat) : Nat := if h : n = 0 ∨ p < 2 then 1 else Fc (n % p) * (p - 1) ^ (n / p) * Lf p (n / p)
termination_by n
decreasing_by exact Nat.div_lt_self (by omega) (by omega)
theorem Lf_0 (p : Nat) : Lf p 0 = 1 := by rw [Lf]; simp
theorem Lf_u {p : Nat} (hp : 2 ≤ p) (n : Nat) : Lf p n = Fc (n % p) * (p - 1) ^ (n / p) * Lf p (n / p) := by
  by_cases n0 : n = 0
  · subst n0
    rw [Nat.zero_mod, Nat.zero_div, Lf_0]
    rfl
  · rw [Lf]
    rw [dif_neg (by omega)]
theorem un_pos_mod {p : Nat} (n : Nat) (hp : 2 ≤ p) (hn : 0 < n) : un p n % p ≠ 0 := (vp_un hp n hn).2.1
theorem Lf_succ {p : Nat} (h : IsP p) (n : Nat) : Eqm p (Lf p (n + 1)) (Lf p n * un p (n + 1)) := by
  induction n using Nat.strongRecOn with
  | _ n ih =>
    have hp := h.ge
    rcases succ_step hp n with ⟨h1, h2, h3⟩ | ⟨h1, h2, h3⟩
    · rw [un_no h1, Lf_u hp (n + 1), h2, h3, Lf_u hp n]
      have e : Fc (n % p + 1) * (p - 1) ^ (n / p) * Lf p (n / p) = Fc (n % p) * (p - 1) ^ (n / p) * Lf p (n / p) * (n % p + 1) := by
        show (n % p + 1) * Fc (n % p) * (p - 1) ^ (n / p) * Lf p (n / p) = _
        grind
      rw [e, ← h3]
      exact Eqm.rfl'.mul Eqm.mod
    · have hle := Nat.mod_le n p
      have hq : n / p < n := div_lt hp (by omega)
      rw [un_yes hp (by omega) h1, Lf_u hp (n + 1), h1, h2, Lf_u hp n, h3]
      have i := ih (n / p) hq
      have w := wilson h
      have e1 : Eqm p (Fc 0 * (p - 1) ^ (n / p + 1) * Lf p (n / p + 1)) ((p - 1) ^ (n / p + 1) * (Lf p (n / p) * un p (n / p + 1))) := by
        show Eqm p (1 * (p - 1) ^ (n / p + 1) * Lf p (n / p + 1)) _
        rw [Nat.one_mul]
        exact Eqm.rfl'.mul i
      refine e1.trans (Eqm.symm ?_)
      have e2 : Eqm p (Fc (p - 1) * (p - 1) ^ (n / p) * Lf p (n / p) * un p (n / p + 1)) ((p - 1) * (p - 1) ^ (n / p) * Lf p (n / p) * un p (n / p + 1)) := ((w.mul Eqm.rfl').mul Eqm.rfl').mul Eqm.rfl'
      refine e2.trans (Eqm.of ?_)
      rw [Nat.pow_succ]
      grind
theorem Lf_no {p : Nat} (h : IsP p) : ∀ n, Lf p n % p ≠ 0
  | 0 => by
    rw [Lf_0, Nat.mod_eq_of_lt (by have := h.ge; omega)]
    decide
  | n + 1 => by
    rw [Lf_succ h n]
    exact h.mul (Lf_no h n) (un_pos_mod _ h.ge (by omega))
theorem cop_pow {p x : Nat} (h : IsP p) (hx : x % p ≠ 0) (e : Nat) : Nat.Coprime (p ^ e) x := Nat.Coprime.pow_left e (h.cop hx)
/-- how often the prime goes into the choices, and what is left -/
theorem C_vp {p : Nat} (h : IsP p) (n : Nat) : ∀ k, k ≤ n → ∃ u, C n k = p ^ car p k (n - k) 0 * u ∧ u % p ≠ 0 ∧ Eqm p (u * (Lf p k * Lf p (n - k))) (Lf p n)
  | 0, _ => by
    have hp := h.ge
    have c := car_op hp 0 n
    rw [op_0, Nat.zero_add] at c
    rw [Nat.sub_zero, show car p 0 n 0 = 0 by omega, C_0r, Lf_0]
    refine ⟨1, rfl, ?_, Eqm.of (by omega)⟩
    rw [Nat.mod_eq_of_lt (by omega)]
    decide
  | k + 1, hk => by
    have hp := h.ge
    obtain ⟨u, h1, h2, h3⟩ := C_vp h n k (by omega)
    have st := C_step n k (by omega)
    obtain ⟨m, hm⟩ : ∃ m, n - k = m + 1 := ⟨n - k - 1, by omega⟩
    have hm' : n - (k + 1) = m := by omega
    rw [hm'] at *
    rw [hm] at st h1 h3
    have c1 := car_op hp k (m + 1)
    have c2 := car_op hp (k + 1) m
    have o1 := op_succ hp k
    have o2 := op_succ hp m
    rw [show k + 1 + m = k + (m + 1) by omega] at c2
    have ce : car p (k + 1) m 0 + vp p (k + 1) = car p k (m + 1) 0 + vp p (m + 1) := by omega
    obtain ⟨x1, x2, x3⟩ := vp_un hp (k + 1) (by omega)
    obtain ⟨y1, y2, y3⟩ := vp_un hp (m + 1) (by omega)
    have e1 : p ^ vp p (k + 1) * (un p (k + 1) * C n (k + 1)) = p ^ vp p (k + 1) * (p ^ car p (k + 1) m 0 * (un p (m + 1) * u)) := by
      have a1 : p ^ vp p (k + 1) * (un p (k + 1) * C n (k + 1)) = (k + 1) * C n (k + 1) := by rw [← Nat.mul_assoc, ← x1]
      have a2 : (m + 1) * C n k = p ^ (vp p (m + 1) + car p k (m + 1) 0) * (un p (m + 1) * u) := by
        rw [Nat.pow_add]
        have b1 : (m + 1) * C n k = (p ^ vp p (m + 1) * un p (m + 1)) * (p ^ car p k (m + 1) 0 * u) := by rw [← y1, ← h1]
        rw [b1]
        grind
      rw [a1, st, a2, show vp p (m + 1) + car p k (m + 1) 0 = vp p (k + 1) + car p (k + 1) m 0 by omega, Nat.pow_add, Nat.mul_assoc]
    have e2 : un p (k + 1) * C n (k + 1) = p ^ car p (k + 1) m 0 * (un p (m + 1) * u) := Nat.eq_of_mul_eq_mul_left (Nat.pow_pos (by omega)) e1
    have d : p ^ car p (k + 1) m 0 ∣ un p (k + 1) * C n (k + 1) := ⟨_, e2⟩
    obtain ⟨u', hu'⟩ := (cop_pow h x2 _).dvd_of_dvd_mul_left d
    have e3 : un p (k + 1) * u' = un p (m + 1) * u := by
      rw [hu'] at e2
      refine Nat.eq_of_mul_eq_mul_left (Nat.pow_pos (n := car p (k + 1) m 0) (show 0 < p by omega)) ?_
      rw [← e2]
      grind
    refine ⟨u', hu', fun z => ?_, ?_⟩
    · apply h.mul y2 h2
      rw [← e3, Nat.mul_mod, z, Nat.mul_zero, Nat.zero_mod]
    · have s1 := Lf_succ h k
      have s2 := Lf_succ h m
      have t1 : Eqm p (u' * (Lf p (k + 1) * Lf p m)) (u' * (Lf p k * un p (k + 1) * Lf p m)) := Eqm.rfl'.mul (s1.mul Eqm.rfl')
      have t2 : u' * (Lf p k * un p (k + 1) * Lf p m) = u * (Lf p k * (Lf p m * un p (m + 1))) := by
        have : u' * (Lf p k * un p (k + 1) * Lf p m) = un p (k + 1) * u' * (Lf p k * Lf p m) := by grind
        rw [this, e3]
        grind
      rw [t2] at t1
      have t3 : Eqm p (u * (Lf p k * (Lf p m * un p (m + 1)))) (u * (Lf p k * Lf p (m + 1))) := Eqm.rfl'.mul (Eqm.rfl'.mul s2.symm)
      exact (t1.trans t3).trans h3
/-- what is left of the choices -/
def uu (p n k : Nat) : Nat := C n k / p ^ car p k (n - k) 0
theorem uu_ok {p : Nat} (h : IsP p) {n k : Nat} (hk : k ≤ n) : C n k = p ^ car p k (n - k) 0 * uu p n k ∧ uu p n k % p ≠ 0 ∧ Eqm p (uu p n k * (Lf p k * Lf p (n - k))) (Lf p n) := by
  obtain ⟨u, h1, h2, h3⟩ := C_vp h n k hk
  have e : uu p n k = u := by
    unfold uu
    rw [h1, Nat.mul_div_cancel_left _ (Nat.pow_pos (by have := h.ge; omega))]
  rw [e]
  exact ⟨h1, h2, h3⟩
theorem C_zero_iff {p : Nat} (h : IsP p) {n k : Nat} (hk : k ≤ n) : C n k % p = 0 ↔ 0 < car p k (n - k) 0 := by
  obtain ⟨h1, h2, _⟩ := uu_ok h hk
  cases hc : car p k (n - k) 0 with
  | zero =>
    rw [hc, Nat.pow_zero, Nat.one_mul] at h1
    rw [h1]
    exact ⟨fun z => absurd z h2, fun z => absurd z (by decide)⟩
  | succ c =>
    rw [hc] at h1
    refine ⟨fun _ => by omega, fun _ => ?_⟩
    rw [h1, Nat.pow_succ, Nat.mul_comm (p ^ c) p, Nat.mul_assoc, Nat.mul_mod_right]
/-- the two parts are the only ones -/
theorem parts {p : Nat} (hp : 2 ≤ p) : ∀ (a u : Nat), u % p ≠ 0 → vp p (p ^ a * u) = a ∧ un p (p ^ a * u) = u
  | 0, u, hu => by rw [Nat.pow_zero, Nat.one_mul]; exact ⟨vp_no hu, un_no hu⟩
  | a + 1, u, hu => by
    have e : p ^ (a + 1) * u = p * (p ^ a * u) + 0 := by rw [Nat.pow_succ, Nat.mul_comm (p ^ a) p, Nat.mul_assoc]; rfl
    have u0 : 0 < u := Nat.pos_of_ne_zero fun z => hu (by rw [z]; exact Nat.zero_mod p)
    have pos : 0 < p ^ (a + 1) * u := Nat.mul_pos (Nat.pow_pos (by omega)) u0
    have f := dm_of (p := p) (N := p ^ a * u) (a := 0) (by omega)
    have i := parts hp a u hu
    rw [e] at *
    rw [vp_yes hp pos f.2, un_yes hp pos f.2, f.1, i.1, i.2]
    exact ⟨by omega, rfl⟩
/-! ### the figures' own -/
def G (p n : Nat) : Nat := if h : n = 0 ∨ p < 2 then 1 else Fc (n % p) * G p (n / p)
termination_by n
decreasing_by exact Nat.div_lt_self (by omega) (by omega)
theorem G_0 (p : Nat) : G p 0 = 1 := by rw [G]; simp
theorem G_u {p : Nat} (hp : 2 ≤ p) (n : Nat) : G p n = Fc (n % p) * G p (n / p) := by
  by_cases n0 : n = 0
  · subst n0
    rw [Nat.zero_mod, Nat.zero_div, G_0]
    rfl
  · rw [G]
    rw [dif_neg (by omega)]
theorem Lf_G {p : Nat} (hp : 2 ≤ p) (n : Nat) : Lf p n = G p n * (p - 1) ^ op p n := by
  induction n using Nat.strongRecOn with
  | _ n ih =>
    by_cases n0 : n = 0
    · subst n0; rw [Lf_0, G_0, op_0]
      rfl
    · rw [Lf_u hp, G_u hp, op_u hp, ih _ (div_lt hp (by omega)), Nat.pow_add]
      grind
theorem sq_one {p : Nat} (hp : 2 ≤ p) : Eqm p ((p - 1) * (p - 1)) 1 := by
  obtain ⟨q, rfl⟩ : ∃ q, p = q + 2 := ⟨p - 2, by omega⟩
  have e : (q + 2 - 1) * (q + 2 - 1) = (q + 2) * q + 1 := by
    rw [show q + 2 - 1 = q + 1 by omega]
    grind
  rw [e]
  unfold Eqm
  rw [Nat.mul_add_mod]
/-- the sign by the carries' number -/
theorem sign {p : Nat} (hp : 2 ≤ p) : ∀ c, Eqm p ((p - 1) ^ c) (if c % 2 = 1 then p - 1 else 1)
  | 0 => Eqm.of rfl
  | 1 => by rw [Nat.pow_one]; exact Eqm.of rfl
  | c + 2 => by
    have i := sign hp c
    rw [Nat.add_mod_right, Nat.pow_succ, Nat.pow_succ, Nat.mul_assoc]
    have z := i.mul (sq_one hp)
    rw [Nat.mul_one] at z
    exact z
/-- what the last tells -/
theorem last_end {p : Nat} (h : IsP p) {n k f : Nat} (hk : k ≤ n) (hf : f < p) (e : Eqm p (f * (G p k * G p (n - k))) ((if car p k (n - k) 0 % 2 = 1 then p - 1 else 1) * G p n)) : f = uu p n k % p := by
  have hp := h.ge
  obtain ⟨_, h2, h3⟩ := uu_ok h hk
  have c := car_op hp k (n - k)
  rw [show k + (n - k) = n by omega] at c
  have e1 : Eqm p (f * (Lf p k * Lf p (n - k))) (Lf p n) := by
    rw [Lf_G hp k, Lf_G hp (n - k), Lf_G hp n, ← c]
    have a : f * (G p k * (p - 1) ^ op p k * (G p (n - k) * (p - 1) ^ op p (n - k))) = f * (G p k * G p (n - k)) * ((p - 1) ^ op p k * (p - 1) ^ op p (n - k)) := by grind
    have b : G p n * (p - 1) ^ (car p k (n - k) 0 + op p k + op p (n - k)) = (p - 1) ^ car p k (n - k) 0 * G p n * ((p - 1) ^ op p k * (p - 1) ^ op p (n - k)) := by
      rw [Nat.pow_add, Nat.pow_add]
      grind
    rw [a, b]
    exact (e.trans ((sign hp _).symm.mul Eqm.rfl')).mul Eqm.rfl'
  have z : f % p = uu p n k % p := h.cancel (h.mul (Lf_no h k) (Lf_no h (n - k))) (e1.trans h3.symm)
  rw [Nat.mod_eq_of_lt hf] at z
  exact z
/-! ### the contrary number -/
theorem inv_ex {p : Nat} (h : IsP p) {x : Nat} (h0 : 0 < x) (hx : x < p) : x ^ (p - 2) % p * x % p = 1 :=
  (show ∀ p ∈ ps, ∀ x, x < p → 0 < x → x ^ (p - 2) % p * x % p = 1 by decide +kernel) p h x hx h0
end Ch

namespace Ch
/-! ### the next choices -/
theorem next_pow {p : Nat} (h : IsP p) {n j : Nat} (hj : j < n) : car p (j + 1) (n - (j + 1)) 0 + vp p (j + 1) = car p j (n - j) 0 + vp p (n - j) := by
  have hp := h.ge
  obtain ⟨m, hm⟩ : ∃ m, n - j = m + 1 := ⟨n - j - 1, by omega⟩
  have c1 := car_op hp j (n - j)
  have c2 := car_op hp (j + 1) (n - (j + 1))
  have o1 := op_succ hp j
  have o2 := op_succ hp m
  rw [show j + (n - j) = n by omega] at c1
  rw [show j + 1 + (n - (j + 1)) = n by omega] at c2
  rw [show n - (j + 1) = m by omega] at *
  rw [hm] at *
  omega
theorem next_last {p : Nat} (h : IsP p) {n j : Nat} (hj : j < n) : Eqm p (uu p n (j + 1) % p * (un p (j + 1) % p)) (uu p n j % p * (un p (n - j) % p)) := by
  have hp := h.ge
  obtain ⟨m, hm⟩ : ∃ m, n - j = m + 1 := ⟨n - j - 1, by omega⟩
  obtain ⟨_, _, a⟩ := uu_ok h (show j ≤ n by omega)
  obtain ⟨_, _, b⟩ := uu_ok h (show j + 1 ≤ n by omega)
  rw [show n - (j + 1) = m by omega] at b
  rw [hm] at a ⊢
  have s1 := Lf_succ h j
  have s2 := Lf_succ h m
  have w : Lf p j * Lf p m % p ≠ 0 := h.mul (Lf_no h j) (Lf_no h m)
  refine (Eqm.mod.mul Eqm.mod).trans (Eqm.trans ?_ (Eqm.mod.mul Eqm.mod).symm)
  refine h.cancel w ?_
  have x : Eqm p (uu p n (j + 1) * un p (j + 1) * (Lf p j * Lf p m)) (Lf p n) := by
    refine Eqm.trans (Eqm.trans (Eqm.of ?_) (Eqm.rfl'.mul (s1.symm.mul Eqm.rfl'))) b
    grind
  have y : Eqm p (uu p n j * un p (m + 1) * (Lf p j * Lf p m)) (Lf p n) := by
    refine Eqm.trans (Eqm.trans (Eqm.of ?_) (Eqm.rfl'.mul (Eqm.rfl'.mul s2.symm))) a
    grind
  exact x.trans y.symm
theorem last_under {p : Nat} (h : IsP p) {n j : Nat} (hj : j ≤ n) : Eqm p (uu p n j % p * (Lf p j % p * (Lf p (n - j) % p))) (Lf p n % p) := by
  obtain ⟨_, _, a⟩ := uu_ok h hj
  exact ((Eqm.mod.mul (Eqm.mod.mul Eqm.mod)).trans a).trans Eqm.mod.symm
theorem uu_one {p : Nat} (h : IsP p) {n k : Nat} (hk : k ≤ n) (e : C n k = 1) : uu p n k % p = 1 := by
  obtain ⟨a, _, _⟩ := uu_ok h hk
  rw [e] at a
  have z := Nat.eq_one_of_mul_eq_one_left a.symm
  rw [z]
  exact Nat.mod_eq_of_lt (by have := h.ge; omega)
theorem neg_eq {p f : Nat} (h0 : 0 < f) (hf : f ≤ p) : Eqm p (p - f) ((p - 1) * f) := by
  obtain ⟨g, rfl⟩ : ∃ g, f = g + 1 := ⟨f - 1, by omega⟩
  obtain ⟨d, rfl⟩ : ∃ d, p = g + 1 + d := ⟨p - (g + 1), by omega⟩
  have e : (g + 1 + d - 1) * (g + 1) = (g + 1 + d) * g + (g + 1 + d - (g + 1)) := by
    rw [show g + 1 + d - 1 = g + d by omega, Nat.add_sub_cancel_left]
    grind
  rw [e]
  unfold Eqm
  rw [Nat.mul_add_mod]
/-- one figure of all numbers to one, multiplied -/
theorem left_turn {p : Nat} (h : IsP p) {x f n : Nat} (e : Eqm p (f * Lf p x) (Lf p n)) (hf : f < p) :
    f * Fc (x % p) % p < p ∧ (x / p % 2 = 1 → p - f * Fc (x % p) % p < p ∧ Eqm p ((p - f * Fc (x % p) % p) * Lf p (x / p)) (Lf p n)) ∧ (x / p % 2 ≠ 1 → Eqm p (f * Fc (x % p) % p * Lf p (x / p)) (Lf p n)) := by
  have hp := h.ge
  have l := Nat.mod_lt (f * Fc (x % p)) (show 0 < p by omega)
  have e2 : Eqm p (f * Fc (x % p) % p * (p - 1) ^ (x / p) * Lf p (x / p)) (Lf p n) := by
    refine Eqm.trans ((Eqm.mod.mul Eqm.rfl').mul Eqm.rfl') (Eqm.trans (Eqm.of ?_) e)
    rw [Lf_u hp x]
    grind
  have ne : f * Fc (x % p) % p ≠ 0 := fun z => by
    rw [z, Nat.zero_mul, Nat.zero_mul] at e2
    unfold Eqm at e2
    rw [Nat.zero_mod] at e2
    exact Lf_no h n e2.symm
  have s := sign hp (x / p)
  refine ⟨l, fun h1 => ⟨by omega, ?_⟩, fun h1 => ?_⟩
  · rw [if_pos h1] at s
    refine Eqm.trans ?_ e2
    refine Eqm.mul ?_ Eqm.rfl'
    refine (neg_eq (Nat.pos_of_ne_zero ne) (by omega)).trans ?_
    rw [Nat.mul_comm]
    exact Eqm.rfl'.mul s.symm
  · rw [if_neg h1] at s
    refine Eqm.trans ?_ e2
    refine Eqm.mul ?_ Eqm.rfl'
    have z := (Eqm.rfl' (p := p) (a := f * Fc (x % p) % p)).mul s.symm
    rw [Nat.mul_one] at z
    exact z
theorem sub_zero_of {p a b : Nat} (h : Eqm p a b) : ((a : Int) - (b : Int)) % (p : Int) = 0 := by
  have z : ((a % p : Nat) : Int) = ((b % p : Nat) : Int) := congrArg _ h
  rw [Int.natCast_emod, Int.natCast_emod] at z
  exact Int.emod_eq_emod_iff_emod_sub_eq_zero.mp z
end Ch

namespace Ch
/-! ### free places -/
def fr (p n k : Nat) : Bool := if h : n = 0 ∨ p < 2 then decide (k = 0) else decide (k % p ≤ n % p) && fr p (n / p) (k / p)
termination_by n
decreasing_by exact Nat.div_lt_self (by omega) (by omega)
theorem fr_0 (p k : Nat) : fr p 0 k = decide (k = 0) := by rw [fr]; simp
theorem fr_u {p : Nat} (hp : 2 ≤ p) (n k : Nat) : fr p n k = (decide (k % p ≤ n % p) && fr p (n / p) (k / p)) := by
  by_cases n0 : n = 0
  · subst n0
    rw [Nat.zero_mod, Nat.zero_div, fr_0, fr_0]
    have e := Nat.mod_add_div k p
    by_cases k0 : k = 0
    · subst k0
      rw [Nat.zero_mod, Nat.zero_div]
      rfl
    · rw [decide_eq_false k0]
      by_cases q0 : k / p = 0
      · rw [q0, Nat.mul_zero, Nat.add_zero] at e
        rw [decide_eq_false (show ¬ k % p ≤ 0 by omega), Bool.false_and]
      · rw [decide_eq_false q0, Bool.and_false]
  · rw [fr]
    rw [dif_neg (by omega)]
theorem fr_C {p : Nat} (h : IsP p) (n : Nat) : ∀ k, fr p n k = true ↔ C n k % p ≠ 0 := by
  have hp := h.ge
  induction n using Nat.strongRecOn with
  | _ n ih =>
    intro k
    by_cases n0 : n = 0
    · subst n0
      rw [fr_0, decide_eq_true_eq]
      cases k with
      | zero =>
        rw [C_0r, Nat.mod_eq_of_lt (by omega)]
        simp
      | succ k =>
        rw [C_0s, Nat.zero_mod]
        simp
    · rw [fr_u hp, Bool.and_eq_true, decide_eq_true_eq, ih _ (div_lt hp (by omega))]
      have l := lucas h n k
      unfold Eqm at l
      rw [l]
      have lt := Nat.mod_lt n (show 0 < p by omega)
      constructor
      · rintro ⟨a, b⟩
        exact h.mul (C_small h lt _ a) b
      · intro z
        have a : k % p ≤ n % p := Decidable.byContradiction fun a => z (by rw [C_gt (show n % p < k % p by omega), Nat.zero_mul, Nat.zero_mod])
        refine ⟨a, fun b => z ?_⟩
        rw [Nat.mul_mod, b, Nat.mul_zero, Nat.zero_mod]
theorem fr_le {p : Nat} (hp : 2 ≤ p) (n : Nat) : ∀ k, fr p n k = true → k ≤ n := by
  induction n using Nat.strongRecOn with
  | _ n ih =>
    intro k hk
    by_cases n0 : n = 0
    · subst n0
      rw [fr_0, decide_eq_true_eq] at hk
      omega
    · rw [fr_u hp, Bool.and_eq_true, decide_eq_true_eq] at hk
      have i := ih _ (div_lt hp (by omega)) _ hk.2
      have a := Nat.mod_add_div n p
      have b := Nat.mod_add_div k p
      have c := Nat.mul_le_mul_left p i
      omega
theorem fr_gt {p : Nat} (hp : 2 ≤ p) {n k : Nat} (hk : n < k) : fr p n k = false := by
  cases e : fr p n k with
  | false => rfl
  | true => exact absurd (fr_le hp n k e) (by omega)
theorem fr_self {p : Nat} (hp : 2 ≤ p) (n : Nat) : fr p n n = true := by
  induction n using Nat.strongRecOn with
  | _ n ih =>
    by_cases n0 : n = 0
    · subst n0; rw [fr_0]; rfl
    · rw [fr_u hp, ih _ (div_lt hp (by omega)), Bool.and_true, decide_eq_true_eq]
      exact Nat.le_refl _
theorem fr_z {p : Nat} (hp : 2 ≤ p) (n : Nat) : fr p n 0 = true := by
  induction n using Nat.strongRecOn with
  | _ n ih =>
    by_cases n0 : n = 0
    · subst n0; rw [fr_0]; rfl
    · rw [fr_u hp, Nat.zero_mod, Nat.zero_div, ih _ (div_lt hp (by omega)), Bool.and_true, decide_eq_true_eq]
      exact Nat.zero_le _
/-! ### how many are ahead -/
def tot (p n : Nat) : Nat := if h : n = 0 ∨ p < 2 then 1 else (n % p + 1) * tot p (n / p)
termination_by n
decreasing_by exact Nat.div_lt_self (by omega) (by omega)
theorem tot_0 (p : Nat) : tot p 0 = 1 := by rw [tot]; simp
theorem tot_u {p : Nat} (hp : 2 ≤ p) (n : Nat) : tot p n = (n % p + 1) * tot p (n / p) := by
  by_cases n0 : n = 0
  · subst n0; rw [Nat.zero_mod, Nat.zero_div, tot_0]
  · rw [tot]
    rw [dif_neg (by omega)]
def rk (p n k : Nat) : Nat := if h : n = 0 ∨ p < 2 then (if k = 0 then 0 else 1) else rk p (n / p) (k / p) * (n % p + 1) + (if fr p (n / p) (k / p) then min (k % p) (n % p + 1) else 0)
termination_by n
decreasing_by exact Nat.div_lt_self (by omega) (by omega)
theorem rk_00 (p k : Nat) : rk p 0 k = if k = 0 then 0 else 1 := by rw [rk]; simp
theorem rk_u {p : Nat} (hp : 2 ≤ p) (n k : Nat) : rk p n k = rk p (n / p) (k / p) * (n % p + 1) + (if fr p (n / p) (k / p) then min (k % p) (n % p + 1) else 0) := by
  by_cases n0 : n = 0
  · subst n0
    rw [Nat.zero_mod, Nat.zero_div, rk_00, rk_00, fr_0]
    have e := Nat.mod_add_div k p
    by_cases k0 : k = 0
    · subst k0
      rw [Nat.zero_mod, Nat.zero_div]
      rfl
    · rw [if_neg k0]
      by_cases q0 : k / p = 0
      · rw [q0, Nat.mul_zero, Nat.add_zero] at e
        rw [if_pos q0, decide_eq_true q0, if_pos rfl]
        omega
      · rw [if_neg q0, decide_eq_false q0]
        rfl
  · rw [rk]
    rw [dif_neg (by omega)]
theorem rk_z {p : Nat} (hp : 2 ≤ p) (n : Nat) : rk p n 0 = 0 := by
  induction n using Nat.strongRecOn with
  | _ n ih =>
    by_cases n0 : n = 0
    · subst n0; rw [rk_00]; rfl
    · rw [rk_u hp, Nat.zero_mod, Nat.zero_div, ih _ (div_lt hp (by omega)), Nat.zero_mul, Nat.zero_add]
      split <;> omega
theorem rk_succ {p : Nat} (hp : 2 ≤ p) (n : Nat) : ∀ k, rk p n (k + 1) = rk p n k + (if fr p n k then 1 else 0) := by
  induction n using Nat.strongRecOn with
  | _ n ih =>
    intro k
    by_cases n0 : n = 0
    · subst n0
      rw [rk_00, rk_00, fr_0]
      by_cases k0 : k = 0
      · subst k0; rfl
      · rw [if_neg (by omega), if_neg k0, decide_eq_false k0]; rfl
    · have i := ih _ (div_lt hp (by omega))
      rw [rk_u hp n (k + 1), rk_u hp n k, fr_u hp n k]
      have lt := Nat.mod_lt n (show 0 < p by omega)
      rcases succ_step hp k with ⟨h1, h2, h3⟩ | ⟨h1, h2, h3⟩
      · rw [h2, h3]
        by_cases f : fr p (n / p) (k / p) = true
        · rw [f, if_pos rfl, if_pos rfl, Bool.and_true]
          by_cases c : k % p ≤ n % p
          · rw [if_pos (decide_eq_true c)]
            omega
          · rw [if_neg (by rw [decide_eq_true_eq]; exact c)]
            omega
        · rw [Bool.not_eq_true] at f
          rw [f, Bool.and_false]
          rfl
      · rw [h1, h2, h3, i (k / p)]
        have z : (if fr p (n / p) (k / p + 1) = true then min 0 (n % p + 1) else 0) = 0 := by split <;> simp
        rw [z, Nat.add_zero]
        by_cases f : fr p (n / p) (k / p) = true
        · rw [f, if_pos rfl, if_pos rfl, Bool.and_true, Nat.add_mul]
          by_cases c : p - 1 ≤ n % p
          · rw [if_pos (decide_eq_true c)]
            omega
          · rw [if_neg (fun y => c (of_decide_eq_true y))]
            omega
        · rw [Bool.not_eq_true] at f
          rw [f, Bool.and_false]
          rfl
theorem rk_tot1 {p : Nat} (hp : 2 ≤ p) (n : Nat) : rk p n (n + 1) = tot p n := by
  induction n using Nat.strongRecOn with
  | _ n ih =>
    by_cases n0 : n = 0
    · subst n0; rw [rk_00, tot_0]; rfl
    · have i := ih _ (div_lt hp (by omega))
      rw [rk_succ hp] at i
      rw [fr_self hp, if_pos rfl] at i
      rw [rk_succ hp, fr_self hp, if_pos rfl, rk_u hp, fr_self hp, if_pos rfl, tot_u hp, ← i]
      rw [show min (n % p) (n % p + 1) = n % p by omega]
      grind
theorem rk_tot {p : Nat} (hp : 2 ≤ p) (n : Nat) : ∀ d, rk p n (n + 1 + d) = tot p n
  | 0 => rk_tot1 hp n
  | d + 1 => by rw [← Nat.add_assoc, rk_succ hp, rk_tot hp n d, fr_gt hp (by omega)]; rfl
theorem rk_gt {p : Nat} (hp : 2 ≤ p) {n k : Nat} (h : n < k) : rk p n k = tot p n := by
  obtain ⟨d, rfl⟩ : ∃ d, k = n + 1 + d := ⟨k - (n + 1), by omega⟩
  exact rk_tot hp n d
theorem rk_mono {p : Nat} (hp : 2 ≤ p) (n : Nat) {a b : Nat} (h : a ≤ b) : rk p n a ≤ rk p n b := by
  induction b with
  | zero => rw [show a = 0 by omega]; exact Nat.le_refl _
  | succ b ih =>
    by_cases e : a = b + 1
    · rw [e]; exact Nat.le_refl _
    · have := ih (by omega)
      rw [rk_succ hp]
      omega
theorem rk_le {p : Nat} (hp : 2 ≤ p) (n k : Nat) : rk p n k ≤ tot p n := by
  have a := rk_mono hp n (show k ≤ n + 1 + k by omega)
  rw [rk_tot hp] at a
  exact a
/-- a free place has fewer ahead than any behind it -/
theorem rk_free {p : Nat} (hp : 2 ≤ p) {n a b : Nat} (f : fr p n a = true) (h : a < b) : rk p n a < rk p n b := by
  have x := rk_mono hp n (show a + 1 ≤ b from h)
  rw [rk_succ hp, f, if_pos rfl] at x
  omega
theorem rk_inj {p : Nat} (hp : 2 ≤ p) {n a b : Nat} (fa : fr p n a = true) (fb : fr p n b = true) (e : rk p n a = rk p n b) : a = b := by
  rcases Nat.lt_trichotomy a b with h | h | h
  · have := rk_free hp fa h; omega
  · exact h
  · have := rk_free hp fb h; omega
theorem rk_none {p : Nat} (hp : 2 ≤ p) {n a b : Nat} (h : a ≤ b) (no : ∀ x, a ≤ x → x < b → fr p n x = false) : rk p n a = rk p n b := by
  induction b with
  | zero => rw [show a = 0 by omega]
  | succ b ih =>
    by_cases e : a = b + 1
    · rw [e]
    · rw [rk_succ hp, no b (by omega) (by omega), ← ih (by omega) fun x h1 h2 => no x h1 (by omega)]
      rfl
theorem rk_cnt {p : Nat} (hp : 2 ≤ p) (n : Nat) : ∀ k, ((List.range k).filter (fr p n)).length = rk p n k
  | 0 => by rw [rk_z hp]; rfl
  | k + 1 => by
    rw [List.range_succ, List.filter_append, List.length_append, rk_cnt hp n k, rk_succ hp]
    congr 1
    cases h : fr p n k <;> simp [h]
/-! ### the place with a number -/
def rowl : List Nat → Nat → List Nat
  | [], _ => []
  | d :: r, i => i % (d + 1) :: rowl r (i / (d + 1))
def fa (p n i : Nat) : Nat := val p (rowl (digs p n) i)
theorem fa_0 (p i : Nat) : fa p 0 i = 0 := by unfold fa; rw [digs_0]; rfl
theorem fa_s {p n : Nat} (hp : 2 ≤ p) (hn : 0 < n) (i : Nat) : fa p n i = i % (n % p + 1) + p * fa p (n / p) (i / (n % p + 1)) := by
  unfold fa
  rw [digs_s hp hn]
  rfl
theorem fa_ok {p : Nat} (hp : 2 ≤ p) (n : Nat) : ∀ i, i < tot p n → fr p n (fa p n i) = true ∧ rk p n (fa p n i) = i := by
  induction n using Nat.strongRecOn with
  | _ n ih =>
    intro i hi
    by_cases n0 : n = 0
    · subst n0
      rw [tot_0] at hi
      rw [fa_0, fr_0, rk_00]
      exact ⟨rfl, by rw [if_pos rfl]; omega⟩
    · have hn : 0 < n := by omega
      rw [tot_u hp] at hi
      have lt := Nat.mod_lt n (show 0 < p by omega)
      have r := Nat.mod_lt i (show 0 < n % p + 1 by omega)
      have q : i / (n % p + 1) < tot p (n / p) := by
        rw [Nat.div_lt_iff_lt_mul (by omega), Nat.mul_comm]
        exact hi
      obtain ⟨a, b⟩ := ih _ (div_lt hp hn) _ q
      have e : fa p n i = p * fa p (n / p) (i / (n % p + 1)) + i % (n % p + 1) := by rw [fa_s hp hn, Nat.add_comm]
      have f := dm_of (p := p) (N := fa p (n / p) (i / (n % p + 1))) (a := i % (n % p + 1)) (by omega)
      rw [← e] at f
      rw [fr_u hp, rk_u hp, f.1, f.2, a, b]
      refine ⟨by rw [Bool.and_true, decide_eq_true_eq]; omega, ?_⟩
      rw [if_pos rfl, show min (i % (n % p + 1)) (n % p + 1) = i % (n % p + 1) by omega]
      exact Nat.div_add_mod' i (n % p + 1)
theorem fa_le {p : Nat} (hp : 2 ≤ p) {n i : Nat} (h : i < tot p n) : fa p n i ≤ n := fr_le hp n _ (fa_ok hp n i h).1
theorem tot_pos {p : Nat} (hp : 2 ≤ p) (n : Nat) : 0 < tot p n := by
  have a := rk_succ hp n n
  rw [rk_tot1 hp, fr_self hp, if_pos rfl] at a
  omega
end Ch

namespace Ch
def prodl : List Nat → Nat
  | [] => 1
  | a :: r => a * prodl r
theorem prodl_snoc : ∀ (l : List Nat) (a : Nat), prodl (l ++ [a]) = prodl l * a
  | [], a => by show a * 1 = 1 * a; omega
  | b :: r, a => by
    show b * prodl (r ++ [a]) = b * prodl r * a
    rw [prodl_snoc r a, Nat.mul_assoc]
theorem prodl_take {l : List Nat} {i a : Nat} (h : l[i]? = some a) : prodl (l.take (i + 1)) = prodl (l.take i) * a := by
  rw [List.take_add_one, h]
  exact prodl_snoc _ _
theorem tot_prodl {p : Nat} (hp : 2 ≤ p) (n : Nat) : prodl ((digs p n).map (· + 1)) = tot p n := by
  induction n using Nat.strongRecOn with
  | _ n ih =>
    by_cases n0 : n = 0
    · subst n0; rw [digs_0, tot_0]; rfl
    · rw [digs_s hp (by omega), tot_u hp]
      show (n % p + 1) * prodl ((digs p (n / p)).map (· + 1)) = _
      rw [ih _ (div_lt hp (by omega))]
/-- figures with noughts behind -/
def padl (p : Nat) : Nat → Nat → List Nat
  | _, 0 => []
  | k, m + 1 => k % p :: padl p (k / p) m
theorem padl_len (p : Nat) : ∀ m k, (padl p k m).length = m
  | 0, _ => rfl
  | m + 1, k => by show (padl p (k / p) m).length + 1 = m + 1; rw [padl_len p m]
theorem padl_zero {p : Nat} (hp : 2 ≤ p) : ∀ m, padl p 0 m = List.replicate m 0
  | 0 => rfl
  | m + 1 => by
    show 0 % p :: padl p (0 / p) m = 0 :: List.replicate m 0
    rw [Nat.zero_mod, Nat.zero_div, padl_zero hp m]
theorem padl_eq {p : Nat} (hp : 2 ≤ p) : ∀ (m k : Nat), (digs p k).length ≤ m → digs p k ++ List.replicate (m - (digs p k).length) 0 = padl p k m
  | m, 0, _ => by rw [digs_0, padl_zero hp]; rfl
  | 0, k + 1, h => by rw [digs_s hp (by omega)] at h; simp at h
  | m + 1, k + 1, h => by
    rw [digs_s hp (by omega)] at h ⊢
    rw [List.length_cons] at h ⊢
    show _ = (k + 1) % p :: padl p ((k + 1) / p) m
    rw [List.cons_append, ← padl_eq hp m ((k + 1) / p) (by omega), show m + 1 - ((digs p ((k + 1) / p)).length + 1) = m - (digs p ((k + 1) / p)).length by omega]
theorem padl_val {p : Nat} (hp : 2 ≤ p) : ∀ (m k : Nat), (digs p k).length ≤ m → val p (padl p k m) = k
  | 0, 0, _ => rfl
  | 0, k + 1, h => by rw [digs_s hp (by omega)] at h; simp at h
  | m + 1, k, h => by
    show k % p + p * val p (padl p (k / p) m) = k
    rw [padl_val hp m (k / p) ?_]
    · exact Nat.mod_add_div k p
    · by_cases k0 : k = 0
      · subst k0; rw [Nat.zero_div, digs_0]; exact Nat.zero_le _
      · rw [digs_s hp (by omega), List.length_cons] at h
        omega
theorem digs_mono {p : Nat} (hp : 2 ≤ p) (n : Nat) : ∀ k, k ≤ n → (digs p k).length ≤ (digs p n).length := by
  induction n using Nat.strongRecOn with
  | _ n ih =>
    intro k hk
    by_cases k0 : k = 0
    · subst k0; rw [digs_0]; exact Nat.zero_le _
    · rw [digs_s hp (show 0 < k by omega), digs_s hp (show 0 < n by omega), List.length_cons, List.length_cons]
      have := ih _ (div_lt hp (show 0 < n by omega)) (k / p) (Nat.div_le_div_right hk)
      omega
theorem padl_lt {p : Nat} (hp : 2 ≤ p) : ∀ (m k : Nat), ∀ d ∈ padl p k m, d < p
  | 0, _, d, h => by cases h
  | m + 1, k, d, h => by
    rcases List.mem_cons.mp h with e | e
    · rw [e]; exact Nat.mod_lt _ (by omega)
    · exact padl_lt hp m _ d e
/-! ### two rows of figures -/
def frl : List Nat → List Nat → Bool
  | d :: ns, r :: ks => decide (r ≤ d) && frl ns ks
  | _, _ => true
/-- the same, of a row and a number -/
def frn (p : Nat) : List Nat → Nat → Bool
  | [], x => decide (x = 0)
  | d :: ns, x => decide (x % p ≤ d) && frn p ns (x / p)
theorem frn_digs {p : Nat} (hp : 2 ≤ p) (n : Nat) : ∀ x, frn p (digs p n) x = fr p n x := by
  induction n using Nat.strongRecOn with
  | _ n ih =>
    intro x
    by_cases n0 : n = 0
    · subst n0; rw [digs_0, fr_0]; rfl
    · rw [digs_s hp (by omega), fr_u hp, ← ih _ (div_lt hp (by omega))]
      rfl
theorem cons_dm {p r : Nat} {ks : List Nat} (h : r < p) : val p (r :: ks) % p = r ∧ val p (r :: ks) / p = val p ks := by
  have e : val p (r :: ks) = p * val p ks + r := Nat.add_comm _ _
  have f := dm_of (p := p) (N := val p ks) (a := r) h
  rw [e]
  exact ⟨f.2, f.1⟩
theorem frl_frn {p : Nat} : ∀ (ns ks : List Nat), ns.length = ks.length → (∀ r ∈ ks, r < p) → frn p ns (val p ks) = frl ns ks
  | [], [], _, _ => rfl
  | d :: ns, r :: ks, hl, hk => by
    have c := cons_dm (p := p) (r := r) (ks := ks) (hk r List.mem_cons_self)
    show (decide (val p (r :: ks) % p ≤ d) && frn p ns (val p (r :: ks) / p)) = (decide (r ≤ d) && frl ns ks)
    rw [c.1, c.2, frl_frn ns ks (by simpa using hl) fun r h => hk r (List.mem_cons_of_mem _ h)]
  | [], _ :: _, hl, _ => by simp at hl
  | _ :: _, [], hl, _ => by simp at hl
/-! ### the next free place -/
def inc : List Nat → List Nat → Option (List Nat)
  | d :: ns, r :: ks => if r < d then some ((r + 1) :: ks) else (inc ns ks).map (0 :: ·)
  | _, _ => none
def nxl : List Nat → List Nat → Option (List Nat)
  | d :: ns, r :: ks => if frl ns ks then (if r ≤ d then some (r :: ks) else (inc ns ks).map (0 :: ·)) else (nxl ns ks).map (0 :: ·)
  | _, _ => some []
def Nx (p : Nat) (ns : List Nat) (lo : Nat) (o : Option (List Nat)) : Prop :=
  match o with
  | some L => lo ≤ val p L ∧ frn p ns (val p L) = true ∧ ∀ x, lo ≤ x → x < val p L → frn p ns x = false
  | none => ∀ x, lo ≤ x → frn p ns x = false
theorem nx_cons {p : Nat} (hp : 2 ≤ p) {d : Nat} {ns : List Nat} {lo m : Nat} {o : Option (List Nat)} (h : Nx p ns m o) (h1 : lo ≤ p * m) (h2 : ∀ x, lo ≤ x → x / p < m → frn p (d :: ns) x = false) : Nx p (d :: ns) lo (o.map (0 :: ·)) := by
  cases o with
  | none =>
    intro x hx
    by_cases c : x / p < m
    · exact h2 x hx c
    · show (decide (x % p ≤ d) && frn p ns (x / p)) = false
      rw [h (x / p) (by omega), Bool.and_false]
  | some L =>
    obtain ⟨a, b, c⟩ := h
    have e : val p (0 :: L) = p * val p L := Nat.zero_add _
    have cd := cons_dm (p := p) (r := 0) (ks := L) (by omega)
    refine ⟨?_, ?_, fun x hx hlt => ?_⟩
    · show lo ≤ val p (0 :: L)
      rw [e]
      exact Nat.le_trans h1 (Nat.mul_le_mul_left p a)
    · show (decide (val p (0 :: L) % p ≤ d) && frn p ns (val p (0 :: L) / p)) = true
      rw [cd.1, cd.2, b]
      rfl
    · replace hlt : x < val p (0 :: L) := hlt
      rw [e] at hlt
      by_cases cc : x / p < m
      · exact h2 x hx cc
      · show (decide (x % p ≤ d) && frn p ns (x / p)) = false
        rw [c (x / p) (by omega) (by rw [Nat.div_lt_iff_lt_mul (by omega), Nat.mul_comm]; exact hlt), Bool.and_false]
theorem inc_ok {p : Nat} (hp : 2 ≤ p) : ∀ (ns ks : List Nat), ns.length = ks.length → (∀ r ∈ ks, r < p) → (∀ d ∈ ns, d < p) → frl ns ks = true → Nx p ns (val p ks + 1) (inc ns ks)
  | [], [], _, _, _, _ => fun x hx => by
    show decide (x = 0) = false
    exact decide_eq_false (by omega)
  | d :: ns, r :: ks, hl, hk, hn, hf => by
    have hr := hk r List.mem_cons_self
    have hd := hn d List.mem_cons_self
    have hl' : ns.length = ks.length := by simpa using hl
    have hk' : ∀ r ∈ ks, r < p := fun r h => hk r (List.mem_cons_of_mem _ h)
    have hn' : ∀ d ∈ ns, d < p := fun r h => hn r (List.mem_cons_of_mem _ h)
    have c := cons_dm (p := p) (r := r) (ks := ks) hr
    have hv : val p (r :: ks) = r + p * val p ks := rfl
    replace hf : (decide (r ≤ d) && frl ns ks) = true := hf
    rw [Bool.and_eq_true, decide_eq_true_eq] at hf
    have fK : frn p ns (val p ks) = true := by rw [frl_frn ns ks hl' hk']; exact hf.2
    show Nx p (d :: ns) (val p (r :: ks) + 1) (if r < d then some ((r + 1) :: ks) else (inc ns ks).map (0 :: ·))
    by_cases h : r < d
    · rw [if_pos h]
      have c2 := cons_dm (p := p) (r := r + 1) (ks := ks) (by omega)
      have hv2 : val p ((r + 1) :: ks) = r + 1 + p * val p ks := rfl
      refine ⟨by rw [hv, hv2]; omega, ?_, fun x h1 h2 => by rw [hv] at h1; rw [hv2] at h2; omega⟩
      show (decide (val p ((r + 1) :: ks) % p ≤ d) && frn p ns (val p ((r + 1) :: ks) / p)) = true
      rw [c2.1, c2.2, fK, decide_eq_true (show r + 1 ≤ d from h)]
      rfl
    · rw [if_neg h]
      refine nx_cons hp (inc_ok hp ns ks hl' hk' hn' hf.2) (by rw [hv, Nat.mul_add]; omega) fun x h1 h2 => ?_
      have e := Nat.mod_add_div x p
      have q : x / p = val p ks := by
        have : val p ks ≤ x / p := by
          rw [Nat.le_div_iff_mul_le (by omega), Nat.mul_comm]
          omega
        omega
      rw [q] at e
      show (decide (x % p ≤ d) && frn p ns (x / p)) = false
      rw [decide_eq_false (show ¬ x % p ≤ d by omega), Bool.false_and]
  | [], _ :: _, hl, _, _, _ => by simp at hl
  | _ :: _, [], hl, _, _, _ => by simp at hl
theorem nxl_ok {p : Nat} (hp : 2 ≤ p) : ∀ (ns ks : List Nat), ns.length = ks.length → (∀ r ∈ ks, r < p) → (∀ d ∈ ns, d < p) → Nx p ns (val p ks) (nxl ns ks)
  | [], [], _, _, _ => ⟨Nat.le_refl _, rfl, fun x h1 h2 => absurd h2 (by omega)⟩
  | d :: ns, r :: ks, hl, hk, hn => by
    have hr := hk r List.mem_cons_self
    have hd := hn d List.mem_cons_self
    have hl' : ns.length = ks.length := by simpa using hl
    have hk' : ∀ r ∈ ks, r < p := fun r h => hk r (List.mem_cons_of_mem _ h)
    have hn' : ∀ d ∈ ns, d < p := fun r h => hn r (List.mem_cons_of_mem _ h)
    have c := cons_dm (p := p) (r := r) (ks := ks) hr
    have hv : val p (r :: ks) = r + p * val p ks := rfl
    have fK : frn p ns (val p ks) = frl ns ks := frl_frn ns ks hl' hk'
    show Nx p (d :: ns) (val p (r :: ks)) (if frl ns ks then (if r ≤ d then some (r :: ks) else (inc ns ks).map (0 :: ·)) else (nxl ns ks).map (0 :: ·))
    cases hf : frl ns ks with
    | true =>
      rw [if_pos rfl]
      by_cases h : r ≤ d
      · rw [if_pos h]
        refine ⟨Nat.le_refl _, ?_, fun x h1 h2 => absurd h2 (by omega)⟩
        show (decide (val p (r :: ks) % p ≤ d) && frn p ns (val p (r :: ks) / p)) = true
        rw [c.1, c.2, fK, hf, decide_eq_true h]
        rfl
      · rw [if_neg h]
        refine nx_cons hp (inc_ok hp ns ks hl' hk' hn' hf) (by rw [hv, Nat.mul_add]; omega) fun x h1 h2 => ?_
        have e := Nat.mod_add_div x p
        have q : x / p = val p ks := by
          have : val p ks ≤ x / p := by
            rw [Nat.le_div_iff_mul_le (by omega), Nat.mul_comm]
            omega
          omega
        rw [q] at e
        show (decide (x % p ≤ d) && frn p ns (x / p)) = false
        rw [decide_eq_false (show ¬ x % p ≤ d by omega), Bool.false_and]
    | false =>
      rw [if_neg (by decide)]
      have i := nxl_ok hp ns ks hl' hk' hn'
      have i2 : Nx p ns (val p ks + 1) (nxl ns ks) := by
        cases hq : nxl ns ks with
        | none =>
          rw [hq] at i
          exact fun x hx => i x (by omega)
        | some L =>
          rw [hq] at i
          obtain ⟨a, b, cc⟩ := i
          have ne : val p L ≠ val p ks := fun z => by
            rw [z, fK, hf] at b
            cases b
          exact ⟨by omega, b, fun x h1 h2 => cc x (by omega) h2⟩
      refine nx_cons hp i2 (by rw [hv, Nat.mul_add]; omega) fun x h1 h2 => ?_
      have q : x / p = val p ks := by
        have : val p ks ≤ x / p := by
          rw [Nat.le_div_iff_mul_le (by omega), Nat.mul_comm]
          omega
        omega
      show (decide (x % p ≤ d) && frn p ns (x / p)) = false
      rw [q, fK, hf, Bool.and_false]
  | [], _ :: _, hl, _, _ => by simp at hl
  | _ :: _, [], hl, _, _ => by simp at hl
/-! ### the same by places, as the program goes -/
def ovr (ns ks : List Nat) : List Nat := (List.range ns.length).filter fun i => decide (ns.getD i 0 < ks.getD i 0)
def und (ns ks : List Nat) (lo : Nat) : List Nat := ((List.range (ns.length - lo)).filter fun a => decide (ks.getD (lo + a) 0 < ns.getD (lo + a) 0)).map (lo + ·)
def bld (ks : List Nat) (at' : Nat) : List Nat := List.replicate at' 0 ++ [ks.getD at' 0 + 1] ++ ks.drop (at' + 1)
theorem ovr_cons (d r : Nat) (ns ks : List Nat) : ovr (d :: ns) (r :: ks) = (if d < r then [0] else []) ++ (ovr ns ks).map (· + 1) := by
  unfold ovr
  rw [List.length_cons, List.range_succ_eq_map, List.filter_cons, List.filter_map]
  show (if decide (d < r) = true then _ else _) = _
  by_cases h : d < r
  · rw [if_pos (decide_eq_true h), if_pos h]
    rfl
  · rw [if_neg (by rw [decide_eq_true_eq]; exact h), if_neg h]
    rfl
theorem ovr_frl : ∀ (ns ks : List Nat), ns.length = ks.length → (ovr ns ks = [] ↔ frl ns ks = true)
  | [], [], _ => ⟨fun _ => rfl, fun _ => rfl⟩
  | d :: ns, r :: ks, hl => by
    rw [ovr_cons]
    show _ ↔ (decide (r ≤ d) && frl ns ks) = true
    rw [Bool.and_eq_true, decide_eq_true_eq, ← ovr_frl ns ks (by simpa using hl), List.append_eq_nil_iff, List.map_eq_nil_iff]
    constructor
    · rintro ⟨a, b⟩
      refine ⟨?_, b⟩
      split at a
      · cases a
      · omega
    · rintro ⟨a, b⟩
      exact ⟨if_neg (by omega), b⟩
  | [], _ :: _, hl => by simp at hl
  | _ :: _, [], hl => by simp at hl
theorem und_s (d r : Nat) (ns ks : List Nat) (lo : Nat) : und (d :: ns) (r :: ks) (lo + 1) = (und ns ks lo).map (· + 1) := by
  unfold und
  rw [List.length_cons, Nat.add_sub_add_right, List.map_map]
  have e1 : (fun a => decide ((r :: ks).getD (lo + 1 + a) 0 < (d :: ns).getD (lo + 1 + a) 0)) = fun a => decide (ks.getD (lo + a) 0 < ns.getD (lo + a) 0) := by
    funext a
    rw [show lo + 1 + a = (lo + a) + 1 by omega]
    rfl
  rw [e1]
  congr 1
  funext a
  show lo + 1 + a = lo + a + 1
  omega
theorem und_0 (d r : Nat) (ns ks : List Nat) : und (d :: ns) (r :: ks) 0 = (if r < d then [0] else []) ++ (und ns ks 0).map (· + 1) := by
  unfold und
  rw [List.length_cons, Nat.sub_zero, Nat.sub_zero, List.range_succ_eq_map, List.filter_cons, List.filter_map]
  simp only [Nat.zero_add]
  show List.map _ (if decide (r < d) = true then _ else _) = _
  by_cases h : r < d
  · rw [if_pos (decide_eq_true h), if_pos h]
    simp [Function.comp_def]
  · rw [if_neg (by rw [decide_eq_true_eq]; exact h), if_neg h]
    simp [Function.comp_def]
theorem bld_s (r : Nat) (ks : List Nat) (a : Nat) : bld (r :: ks) (a + 1) = 0 :: bld ks a := by
  unfold bld
  rw [List.replicate_succ]
  rfl
theorem inc_und : ∀ (ns ks : List Nat), ns.length = ks.length → inc ns ks = ((und ns ks 0).head?).map (bld ks)
  | [], [], _ => rfl
  | d :: ns, r :: ks, hl => by
    rw [und_0]
    show (if r < d then some ((r + 1) :: ks) else (inc ns ks).map (0 :: ·)) = _
    by_cases h : r < d
    · rw [if_pos h, if_pos h]
      rfl
    · rw [if_neg h, if_neg h, inc_und ns ks (by simpa using hl), List.nil_append]
      cases hu : und ns ks 0 with
      | nil => rfl
      | cons a l =>
        show some (0 :: bld ks a) = some (bld (r :: ks) (a + 1))
        rw [bld_s]
  | [], _ :: _, hl => by simp at hl
  | _ :: _, [], hl => by simp at hl
/-- what the program reckons -/
def nxp (ns ks : List Nat) : Option (List Nat) := if ovr ns ks = [] then some ks else ((und ns ks ((ovr ns ks).getLastD 0 + 1)).head?).map (bld ks)
theorem nxl_nxp : ∀ (ns ks : List Nat), ns.length = ks.length → nxl ns ks = nxp ns ks
  | [], [], _ => rfl
  | d :: ns, r :: ks, hl => by
    have hl' : ns.length = ks.length := by simpa using hl
    have i := nxl_nxp ns ks hl'
    have fo := ovr_frl ns ks hl'
    unfold nxp
    rw [ovr_cons]
    show (if frl ns ks then (if r ≤ d then some (r :: ks) else (inc ns ks).map (0 :: ·)) else (nxl ns ks).map (0 :: ·)) = _
    cases hf : frl ns ks with
    | true =>
      rw [fo.mpr hf, if_pos rfl, List.map_nil, List.append_nil]
      by_cases h : r ≤ d
      · rw [if_pos h, if_neg (show ¬ d < r by omega), if_pos rfl]
      · rw [if_neg h, if_pos (show d < r by omega), if_neg (by simp)]
        show _ = ((und (d :: ns) (r :: ks) (0 + 1)).head?).map (bld (r :: ks))
        rw [und_s, inc_und ns ks hl']
        cases hu : und ns ks 0 with
        | nil => rfl
        | cons a l =>
          show some (0 :: bld ks a) = some (bld (r :: ks) (a + 1))
          rw [bld_s]
    | false =>
      have ne : ovr ns ks ≠ [] := fun z => by
        rw [fo.mp z] at hf
        cases hf
      rw [if_neg (by decide)]
      have ne2 : (if d < r then [0] else []) ++ (ovr ns ks).map (· + 1) ≠ [] := by simp [ne]
      rw [if_neg ne2]
      have el : ((if d < r then [0] else []) ++ (ovr ns ks).map (· + 1)).getLastD 0 = (ovr ns ks).getLastD 0 + 1 := by
        rw [List.getLastD_eq_getLast?, List.getLastD_eq_getLast?, List.getLast?_append, List.getLast?_map]
        cases hg : (ovr ns ks).getLast? with
        | none => exact absurd (List.getLast?_eq_none_iff.mp hg) ne
        | some z => rfl
      rw [el, und_s, i]
      unfold nxp
      rw [if_neg ne]
      cases hu : und ns ks ((ovr ns ks).getLastD 0 + 1) with
      | nil => rfl
      | cons a l =>
        show some (0 :: bld ks a) = some (bld (r :: ks) (a + 1))
        rw [bld_s]
  | [], _ :: _, hl => by simp at hl
  | _ :: _, [], hl => by simp at hl
/-! ### how many are ahead, by the rows -/
def rkl : List Nat → List Nat → Nat
  | d :: ns, r :: ks => rkl ns ks * (d + 1) + (if frl ns ks then min r (d + 1) else 0)
  | _, _ => 0
theorem rkl_rk {p : Nat} (hp : 2 ≤ p) (n : Nat) : ∀ k, k ≤ n → rkl (digs p n) (padl p k (digs p n).length) = rk p n k := by
  induction n using Nat.strongRecOn with
  | _ n ih =>
    intro k hk
    by_cases n0 : n = 0
    · subst n0
      rw [digs_0, rk_00, if_pos (by omega)]
      rfl
    · have hd := digs_s hp (show 0 < n by omega)
      have hk' : k / p ≤ n / p := Nat.div_le_div_right hk
      rw [hd, List.length_cons, rk_u hp, ← ih _ (div_lt hp (by omega)) _ hk']
      show rkl (digs p (n / p)) (padl p (k / p) (digs p (n / p)).length) * (n % p + 1) + (if frl (digs p (n / p)) (padl p (k / p) (digs p (n / p)).length) then min (k % p) (n % p + 1) else 0) = _
      have e : frl (digs p (n / p)) (padl p (k / p) (digs p (n / p)).length) = fr p (n / p) (k / p) := by
        rw [← frn_digs hp, ← frl_frn (p := p) _ _ (padl_len ..).symm (padl_lt hp _ _), padl_val hp _ _ (digs_mono hp _ _ hk')]
      rw [e]
theorem rkl_drop : ∀ (j : Nat) (ns ks : List Nat), ns.length = ks.length → frl (ns.drop j) (ks.drop j) = false → rkl ns ks = rkl (ns.drop j) (ks.drop j) * prodl ((ns.map (· + 1)).take j)
  | 0, ns, ks, _, _ => by
    rw [List.drop_zero, List.drop_zero, List.take_zero]
    show _ = _ * 1
    rw [Nat.mul_one]
  | j + 1, [], [], _, h => by cases h
  | j + 1, d :: ns, r :: ks, hl, h => by
    have hl' : ns.length = ks.length := by simpa using hl
    replace h : frl (ns.drop j) (ks.drop j) = false := h
    have i := rkl_drop j ns ks hl' h
    have f : frl ns ks = false := frl_drop j ns ks hl' h
    show rkl ns ks * (d + 1) + (if frl ns ks then min r (d + 1) else 0) = rkl (ns.drop j) (ks.drop j) * ((d + 1) * prodl ((ns.map (· + 1)).take j))
    rw [f, i]
    show _ + 0 = _
    rw [Nat.add_zero, Nat.mul_comm (d + 1), Nat.mul_assoc]
  | j + 1, [], _ :: _, hl, _ => by simp at hl
  | j + 1, _ :: _, [], hl, _ => by simp at hl
where
  frl_drop : ∀ (j : Nat) (ns ks : List Nat), ns.length = ks.length → frl (ns.drop j) (ks.drop j) = false → frl ns ks = false
  | 0, _, _, _, h => h
  | j + 1, [], [], _, h => by cases h
  | j + 1, d :: ns, r :: ks, hl, h => by
    show (decide (r ≤ d) && frl ns ks) = false
    rw [frl_drop j ns ks (by simpa using hl) h, Bool.and_false]
  | j + 1, [], _ :: _, hl, _ => by simp at hl
  | j + 1, _ :: _, [], hl, _ => by simp at hl
end Ch

namespace Ch
/-! ### bare and full rows -/
theorem tot_le {p : Nat} (hp : 2 ≤ p) (n : Nat) : tot p n ≤ n + 1 := by
  have h := rk_cnt hp n (n + 1)
  rw [rk_tot1 hp] at h
  rw [← h]
  have := List.length_filter_le (fr p n) (List.range (n + 1))
  rw [List.length_range] at this
  exact this
theorem tot_two {p : Nat} (hp : 2 ≤ p) {n : Nat} (hn : 0 < n) : 2 ≤ tot p n := by
  have a := rk_free hp (fr_z hp n) (show 0 < n from hn)
  have b := rk_free hp (fr_self hp n) (Nat.lt_succ_self n)
  rw [rk_tot1 hp] at b
  omega
def bareB (p n : Nat) : Bool := (digs p n).dropLast.all fun d => decide (d = p - 1)
theorem bare_small {p n : Nat} (hp : 2 ≤ p) (h : n < p) : bareB p n = true := by
  unfold bareB
  by_cases n0 : n = 0
  · subst n0; rw [digs_0]; rfl
  · rw [digs_s hp (by omega), Nat.div_eq_of_lt h, digs_0]
    rfl
theorem bare_big {p n : Nat} (hp : 2 ≤ p) (h : p ≤ n) : bareB p n = (decide (n % p = p - 1) && bareB p (n / p)) := by
  have q : 0 < n / p := Nat.div_pos h (by omega)
  unfold bareB
  rw [digs_s hp (show 0 < n by omega)]
  have e := digs_s hp q
  rw [e, List.dropLast_cons₂, ← e]
  rfl
theorem bare_iff {p : Nat} (hp : 2 ≤ p) (n : Nat) : (bareB p n = true ↔ tot p n = n + 1) ∧ (bareB p n = true ↔ un p (n + 1) < p) := by
  induction n using Nat.strongRecOn with
  | _ n ih =>
    by_cases h : n < p
    · rw [bare_small hp h, tot_u hp, Nat.mod_eq_of_lt h, Nat.div_eq_of_lt h, tot_0]
      refine ⟨⟨fun _ => by omega, fun _ => rfl⟩, ⟨fun _ => ?_, fun _ => rfl⟩⟩
      by_cases c : n + 1 = p
      · have hz : (n + 1) % p = 0 := by rw [c, Nat.mod_self]
        rw [un_yes hp (by omega) hz, c, Nat.div_self (by omega), un_no (by rw [Nat.mod_eq_of_lt (by omega)]; decide)]
        omega
      · have hz : (n + 1) % p ≠ 0 := by rw [Nat.mod_eq_of_lt (by omega)]; omega
        rw [un_no hz]
        omega
    · have q : 0 < n / p := Nat.div_pos (by omega) (by omega)
      obtain ⟨i1, i2⟩ := ih _ (div_lt hp (by omega))
      have e := Nat.mod_add_div n p
      have lt := Nat.mod_lt n (show 0 < p by omega)
      have tl := tot_le hp (n / p)
      rw [bare_big hp (by omega), tot_u hp, Bool.and_eq_true, decide_eq_true_eq]
      rcases succ_step hp n with ⟨h1, h2, h3⟩ | ⟨h1, h2, h3⟩
      · have c : n % p ≠ p - 1 := fun z => by
          rw [z] at h3
          have := Nat.mod_lt (n + 1) (show 0 < p by omega)
          omega
        refine ⟨⟨fun z => absurd z.1 c, fun z => ?_⟩, ⟨fun z => absurd z.1 c, fun z => ?_⟩⟩
        · exfalso
          have a : (n % p + 1) * tot p (n / p) ≤ (n % p + 1) * (n / p + 1) := Nat.mul_le_mul_left _ tl
          have lt2 := Nat.mod_lt (n + 1) (show 0 < p by omega)
          have b : (n % p + 2) * (n / p) ≤ p * (n / p) := Nat.mul_le_mul_right _ (by omega)
          have c1 : (n % p + 1) * (n / p + 1) = (n % p + 1) * (n / p) + (n % p + 1) := by grind
          have c2 : (n % p + 2) * (n / p) = (n % p + 1) * (n / p) + n / p := by grind
          omega
        · rw [un_no h1] at z
          omega
      · rw [h3]
        have e3 : n + 1 = p * (n / p + 1) := by rw [Nat.mul_add]; omega
        rw [show p - 1 + 1 = p by omega, un_yes hp (by omega) h1, h2, ← i2, e3]
        refine ⟨⟨fun z => by rw [i1.mp z.2], fun z => ⟨rfl, i1.mpr (Nat.eq_of_mul_eq_mul_left (by omega) z)⟩⟩, ⟨fun z => z.2, fun z => ⟨rfl, z⟩⟩⟩
theorem full_iff {p : Nat} (hp : 2 ≤ p) (n : Nat) : 0 < n → (tot p n = 2 ↔ un p n = 1) := by
  induction n using Nat.strongRecOn with
  | _ n ih =>
    intro hn
    have e := Nat.mod_add_div n p
    by_cases h : n % p = 0
    · have q := div_pos_of hp hn h
      rw [tot_u hp, h, un_yes hp hn h, Nat.zero_add, Nat.one_mul]
      exact ih _ (div_lt hp hn) q
    · rw [un_no h, tot_u hp]
      by_cases q0 : n / p = 0
      · rw [q0, tot_0]
        rw [q0, Nat.mul_zero] at e
        omega
      · have t := tot_two hp (Nat.pos_of_ne_zero q0)
        have m : 2 * 2 ≤ (n % p + 1) * tot p (n / p) := Nat.mul_le_mul (by omega) t
        have b : p * 1 ≤ p * (n / p) := Nat.mul_le_mul_left p (Nat.pos_of_ne_zero q0)
        refine ⟨fun z => by omega, fun z => ?_⟩
        omega
/-! ### the next free place -/
theorem nx_of {p : Nat} (hp : 2 ≤ p) {n k : Nat} (hk : k ≤ n) : Nx p (digs p n) k (nxl (digs p n) (padl p k (digs p n).length)) := by
  have h := nxl_ok hp (digs p n) (padl p k (digs p n).length) (padl_len ..).symm (padl_lt hp _ _) (digs_lt hp n)
  rw [padl_val hp _ _ (digs_mono hp n k hk)] at h
  exact h
theorem nx_some {p : Nat} (hp : 2 ≤ p) {n k x : Nat} (hk : k ≤ n) (h1 : k ≤ x) (h2 : fr p n x = true) (h3 : ∀ y, k ≤ y → y < x → fr p n y = false) : (nxl (digs p n) (padl p k (digs p n).length)).map (val p) = some x := by
  have h := nx_of hp hk
  cases e : nxl (digs p n) (padl p k (digs p n).length) with
  | none =>
    rw [e] at h
    have z := h x h1
    rw [frn_digs hp, h2] at z
    cases z
  | some L =>
    rw [e] at h
    obtain ⟨a, b, c⟩ := h
    rw [frn_digs hp] at b
    show some (val p L) = some x
    congr 1
    rcases Nat.lt_trichotomy (val p L) x with l | l | l
    · rw [h3 _ a l] at b
      cases b
    · exact l
    · have z := c x h1 l
      rw [frn_digs hp, h2] at z
      cases z
theorem nx_none {p : Nat} (hp : 2 ≤ p) {n k : Nat} (hk : k ≤ n) (h3 : ∀ y, k ≤ y → fr p n y = false) : (nxl (digs p n) (padl p k (digs p n).length)).map (val p) = none := by
  have h := nx_of hp hk
  cases e : nxl (digs p n) (padl p k (digs p n).length) with
  | none => rfl
  | some L =>
    rw [e] at h
    obtain ⟨a, b, c⟩ := h
    rw [frn_digs hp, h3 _ a] at b
    cases b
theorem nx_cases {p : Nat} (hp : 2 ≤ p) {n k : Nat} (hk : k ≤ n) : ((nxl (digs p n) (padl p k (digs p n).length)).map (val p) = none ∧ ∀ y, k ≤ y → fr p n y = false) ∨
    ∃ x, (nxl (digs p n) (padl p k (digs p n).length)).map (val p) = some x ∧ k ≤ x ∧ fr p n x = true ∧ ∀ y, k ≤ y → y < x → fr p n y = false := by
  have h := nx_of hp hk
  cases e : nxl (digs p n) (padl p k (digs p n).length) with
  | none =>
    rw [e] at h
    refine .inl ⟨rfl, fun y hy => ?_⟩
    rw [← frn_digs hp]
    exact h y hy
  | some L =>
    rw [e] at h
    obtain ⟨a, b, c⟩ := h
    rw [frn_digs hp] at b
    refine .inr ⟨val p L, rfl, a, b, fun y h1 h2 => ?_⟩
    rw [← frn_digs hp]
    exact c y h1 h2
/-! ### numbered -/
theorem fa_first {p : Nat} (hp : 2 ≤ p) (n : Nat) : fa p n 0 = 0 := by
  obtain ⟨a, b⟩ := fa_ok hp n 0 (tot_pos hp n)
  exact rk_inj hp a (fr_z hp n) (by rw [b, rk_z hp])
theorem rk_last {p : Nat} (hp : 2 ≤ p) (n : Nat) : rk p n n = tot p n - 1 := by
  have a := rk_succ hp n n
  rw [rk_tot1 hp, fr_self hp, if_pos rfl] at a
  omega
theorem fa_last {p : Nat} (hp : 2 ≤ p) (n : Nat) : fa p n (tot p n - 1) = n := by
  have t := tot_pos hp n
  obtain ⟨a, b⟩ := fa_ok hp n (tot p n - 1) (by omega)
  exact rk_inj hp a (fr_self hp n) (by rw [b, rk_last hp])
theorem fa_next {p : Nat} (hp : 2 ≤ p) {n i : Nat} (h : i + 1 < tot p n) : fa p n i < fa p n (i + 1) ∧ ∀ y, fa p n i + 1 ≤ y → y < fa p n (i + 1) → fr p n y = false := by
  obtain ⟨a1, b1⟩ := fa_ok hp n i (by omega)
  obtain ⟨a2, b2⟩ := fa_ok hp n (i + 1) h
  refine ⟨Decidable.byContradiction fun z => ?_, fun y h1 h2 => ?_⟩
  · have := rk_mono hp n (show fa p n (i + 1) ≤ fa p n i by omega)
    omega
  · cases e : fr p n y with
    | false => rfl
    | true =>
      have x1 := rk_free hp a1 (show fa p n i < y by omega)
      have x2 := rk_free hp e h2
      omega
end Ch

namespace Ch
open PySem L2 Evl
/-! ### a def that stands and keeps its promise -/
structure Def (P : Program) (w : World) (K : PySem.W.Frag) (mg : Str → Option Value) (base : Heap) (CX : CXT) (k : Nat) (x : Str) (ps : List Str) (sp : Sp) (f : Addr) (fd : FuncData) : Prop where
  ok : FnOk P w K mg base CX k f fd ps sp
  g : mg x = some (.ref f)
  kp : PySem.W.keepIn K (.ref f) = true
  b : Binds K fd ps []
/-! ### what evaluates to what: some value with a property; a list that stands -/
def EvP (te : TE) (σ : L2.St) (H : Hp) (P : V → Prop) : Prop := ∀ H1, Ex H H1 → ∀ Q : VK, (∀ v H2, P v → Ex H1 H2 → Q v H2) → te σ H1 Q
def EvK (te : TE) (σ : L2.St) (H : Hp) (xs : List V) : Prop := ∀ H1, Ex H H1 → ∀ Q : VK, (∀ p H2, Ex H1 H2 → H2 p = some (.lst xs) → Q (.ref p) H2) → te σ H1 Q
def SpP (sp : Sp) (vs : List V) (H : Hp) (P : V → Prop) : Prop := ∀ H1, Ex H H1 → ∀ Q : VK, (∀ v H2, P v → Ex H1 H2 → Q v H2) → ∀ E : XK, sp vs H1 Q E
section
variable {K : PySem.W.Frag} {σ : L2.St} {H H' : Hp} {ta tb te tx : TE} {t u : TT} {x y z v : V} {r : R2} {P : V → Prop} {D : Ends} {tz tu tw : TS}
theorem EvP.of (h : Ev te σ H v) (p : P v) : EvP te σ H P := fun H1 e Q q => h H1 e Q fun H2 e2 => q v H2 p e2
theorem evp_call {sp : Sp} {dvs vs : List V} {E : XK} {ta : TA} (h : EvA ta σ H vs) (hs : SpP sp (vs ++ dvs) H P) : EvP (tCall sp dvs E ta) σ H P := fun H1 e Q q =>
  h H1 e _ fun H2 e2 => hs H2 (e.trans e2) Q (fun v H3 p e3 => q v H3 p (e2.trans e3)) E
theorem s_asgP {i : Nat} (h : EvP te σ H P) (k : ∀ v H1, P v → Ex H H1 → D.nx (σ.set i (some v)) H1) : tAsg te (gName i) D σ H := h H (Ex.refl H) _ fun v H1 p e => k v H1 p e
theorem q_asgP {i : Nat} (h : EvP te σ H P) (k : ∀ v H1, P v → Ex H H1 → tz D (σ.set i (some v)) H1) : tSeq (tAsg te (gName i)) tz D σ H := s_asgP (D := { D with nx := tz D }) h k
/-- a step on values behind a part of which a property is known -/
theorem evp_bind {f : TE} (h : EvP ta σ H P) {P2 : V → Prop} {r : V → Hp → VK → Prop} (hr : ∀ v H1, P v → Ex H H1 → ∀ Q : VK, (∀ w H2, P2 w → Ex H1 H2 → Q w H2) → r v H1 Q) : EvP (fun σ H Q => ta σ H fun v H1 => r v H1 Q) σ H P2 := fun H1 e Q q =>
  h H1 e _ fun v H2 p e2 => hr v H2 p (e.trans e2) Q fun w H3 p2 e3 => q w H3 p2 (e2.trans e3)
theorem EvK.of (h : EvL te σ H xs) : EvK te σ H xs := fun H1 e Q q => h H1 e Q fun p H2 _ e2 hp => q p H2 e2 hp
theorem ek_var {p : Addr} {xs : List V} (h : Ev te σ H (.ref p)) (hp : H p = some (.lst xs)) : EvK te σ H xs := fun H1 e Q q => h H1 e Q fun H2 e2 => q p H2 e2 (e2 p _ (e p _ hp))
theorem EvK.mono {xs : List V} (e : Ex H H') (h : EvK te σ H xs) : EvK te σ H' xs := fun H1 a Q q => h H1 (e.trans a) Q q
/-- xs + ys -/
theorem el_cat {xs ys : List V} (ha : EvK ta σ H xs) (hb : EvK tb σ H ys) (hz : xs.length + ys.length ≤ 100000) : EvL (tOp rCat ta tb) σ H (xs ++ ys) := fun H1 e Q k =>
  ha H1 e _ fun p H2 e2 hp => hb H2 (e.trans e2) _ fun q H3 e3 hq => ⟨p, q, xs, ys, rfl, rfl, e3 p _ hp, hq, sz_of hz, fun l hl => k l _ (fresh_back (e2.trans e3) hl) ((e2.trans e3).trans (Ex.new hl)) upd_same⟩
/-- len, sum, all, min, max of a list; int(bool) -/
theorem ev_lenK {xs : List V} (ha : EvK ta σ H xs) : Ev (tCB (rLenS K) (tCons ta tNil)) σ H (.int (xs.length : Int)) := fun H1 e Q q =>
  ha H1 e _ fun p H2 e2 h2 => ⟨p, xs, rfl, Or.inl (sq_of h2), q H2 e2⟩
theorem ev_sumK {ns : List Int} (ha : EvK ta σ H (ns.map V.int)) : Ev (tCB (rSum K) (tCons ta tNil)) σ H (.int ns.sum) := fun H1 e Q q =>
  ha H1 e _ fun p H2 e2 h2 => ⟨p, ns, rfl, sq_of h2, q H2 e2⟩
theorem ev_allK {bs : List Bool} (ha : EvK ta σ H (bs.map V.bl)) : Ev (tCB (rAll K) (tCons ta tNil)) σ H (.bl (bs.all id)) := fun H1 e Q q =>
  ha H1 e _ fun p H2 e2 h2 => ⟨p, bs, rfl, sq_of h2, q H2 e2⟩
def rMin2 : List V → Hp → VK → Prop := fun xs H Q => ∃ i j, xs = [.int i, .int j] ∧ Q (.int (if j < i then j else i)) H
theorem ev_min2 {i j : Int} (ha : Ev ta σ H (.int i)) (hb : Ev tb σ H (.int j)) : Ev (tCB rMin2 (tCons ta (tCons tb tNil))) σ H (.int (if j < i then j else i)) := fun H1 e Q q =>
  ha H1 e _ fun H2 e2 => hb H2 (e.trans e2) _ fun H3 e3 => ⟨i, j, rfl, q H3 (e2.trans e3)⟩
def rInt1 : List V → Hp → VK → Prop := fun xs H Q => (∃ i, xs = [.int i] ∧ Q (.int i) H) ∨ ∃ k, xs = [.bl k] ∧ Q (.int (if k then 1 else 0)) H
theorem ev_intB {b : Bool} (ha : Ev ta σ H (.bl b)) : Ev (tCB rInt1 (tCons ta tNil)) σ H (.int (if b then 1 else 0)) := fun H1 e Q q =>
  ha H1 e _ fun H2 e2 => Or.inr ⟨b, rfl, q H2 e2⟩
/-- isinstance(n, int), of an int | of a bool; isinstance(n, bool) -/
theorem ev_isi {x : V} {T : String} {t : Value} {b : Bool} (ha : Ev ta σ H x) (hb : Ev tb σ H (.ty T)) (ht : ∀ H1, TyX K H1 x t) (hk : PySem.W.kitOne K t (.type T) = some b) : Ev (tCB (rIsi K) (tCons ta (tCons tb tNil))) σ H (.bl b) := fun H1 e Q q =>
  ha H1 e _ fun H2 e2 => hb H2 (e.trans e2) _ fun H3 e3 => ⟨x, .ty T, t, .type T, b, rfl, .ty T, ht H3, hk, q H3 (e2.trans e3)⟩
/-- a < b < c -/
theorem ev_chain {r r' : R2} {z : V} {a b : Bool} (ha : Ev ta σ H x) (hb : Ev tb σ H y) (hr : RV r x y H (.bl a)) (hc : a = true → Ev tx σ H z) (hr' : a = true → RV r' y z H (.bl b)) : Ev (tChain r r' ta tb tx) σ H (.bl (a && b)) := fun H1 e Q q =>
  ha H1 e _ fun H2 e2 => hb H2 (e.trans e2) _ fun H3 e3 => hr H3 ((e.trans e2).trans e3) _ fun H4 e4 => ⟨a, rfl, by
    have E4 := ((e.trans e2).trans e3).trans e4
    have E1 := (e2.trans e3).trans e4
    cases a with
    | true =>
      show tx σ H4 fun w' H5 => r' y w' H5 Q
      exact hc rfl H4 E4 _ fun H5 e5 => hr' rfl H5 (E4.trans e5) Q fun H6 e6 => q H6 ((E1.trans e5).trans e6)
    | false =>
      show Q (.bl false) H4
      exact q H4 E1⟩
theorem el_eq {xs ys : List V} (h : EvL te σ H xs) (e : xs = ys) : EvL te σ H ys := by
  rw [← e]
  exact h
theorem ev_pow {b e r : Int} (hc : CPow b e) (h : b ^ e.toNat = r) : Ev (tOp (rI CPow fun i j => .int (i ^ j.toNat)) (tC (.int b)) (tC (.int e))) σ H (.int r) := by
  rw [← h]
  exact ev_op ev_c ev_c (rv_I hc)
theorem EvK.eq {xs ys : List V} (h : EvK te σ H xs) (e : xs = ys) : EvK te σ H ys := by
  rw [← e]
  exact h
/-- two lists of whole numbers compared -/
theorem dp_ints {H : Hp} : ∀ ns : List Int, DpAll K H (ns.map V.int) (ns.map PyData.int)
  | [] => .nil
  | _ :: r => .cons (.int _) (dp_ints r)
theorem eqv_ints : ∀ ns ms : List Int, PyData.eqvAll (ns.map PyData.int) (ms.map PyData.int) = decide (ns = ms)
  | [], [] => rfl
  | [], _ :: _ => rfl
  | _ :: _, [] => rfl
  | a :: r, b :: s => by
    show (PyData.eqv (.int a) (.int b) && PyData.eqvAll (r.map PyData.int) (s.map PyData.int)) = _
    rw [eqv_ints r s]
    show ((a == b) && decide (r = s)) = _
    by_cases h : a = b <;> by_cases h2 : r = s <;> simp [h, h2]
theorem rv_eqI {ns ms : List Int} {p q : Addr} (hp : H p = some (.lst (ns.map V.int))) (hq : H q = some (.lst (ms.map V.int))) : RV (rEqD K) (.ref p) (.ref q) H (.bl (decide (ns = ms))) := fun H1 e _ k =>
  ⟨_, _, .lst (sq_of (e p _ hp)) (dp_ints ns), .lst (sq_of (e q _ hq)) (dp_ints ms), PySem.W.shaped_ints ns, PySem.W.shaped_ints ms, by
    show _
    have z := k H1 (Ex.refl H1)
    rw [← eqv_ints] at z
    exact z⟩
theorem rv_neI {ns ms : List Int} {p q : Addr} (hp : H p = some (.lst (ns.map V.int))) (hq : H q = some (.lst (ms.map V.int))) : RV (rNeD K) (.ref p) (.ref q) H (.bl (!decide (ns = ms))) := fun H1 e _ k =>
  ⟨_, _, .lst (sq_of (e p _ hp)) (dp_ints ns), .lst (sq_of (e q _ hq)) (dp_ints ms), PySem.W.shaped_ints ns, PySem.W.shaped_ints ms, by
    show _
    have z := k H1 (Ex.refl H1)
    rw [← eqv_ints] at z
    exact z⟩
theorem ev_eqI {ns ms : List Int} (ha : EvK ta σ H (ns.map V.int)) (hb : EvK tb σ H (ms.map V.int)) : Ev (tOp (rEqD K) ta tb) σ H (.bl (decide (ns = ms))) := fun H1 e Q k =>
  ha H1 e _ fun p H2 e2 hp => hb H2 (e.trans e2) _ fun q H3 e3 hq => rv_eqI (e3 p _ hp) hq H3 (Ex.refl H3) Q fun H4 e4 => k H4 ((e2.trans e3).trans e4)
theorem ev_neI {ns ms : List Int} (ha : EvK ta σ H (ns.map V.int)) (hb : EvK tb σ H (ms.map V.int)) : Ev (tOp (rNeD K) ta tb) σ H (.bl (!decide (ns = ms))) := fun H1 e Q k =>
  ha H1 e _ fun p H2 e2 hp => hb H2 (e.trans e2) _ fun q H3 e3 hq => rv_neI (e3 p _ hp) hq H3 (Ex.refl H3) Q fun H4 e4 => k H4 ((e2.trans e3).trans e4)
/-- isinstance(xs, list) -/
theorem ev_isiL {xs : List V} {T : String} {b : Bool} (ha : EvK ta σ H xs) (hb : Ev tb σ H (.ty T)) (hk : PySem.W.kitOne K (.type "list") (.type T) = some b) : Ev (tCB (rIsi K) (tCons ta (tCons tb tNil))) σ H (.bl b) := fun H1 e Q q =>
  ha H1 e _ fun p H2 e2 hp => hb H2 (e.trans e2) _ fun H3 e3 => ⟨.ref p, .ty T, .type "list", .type T, b, rfl, .ty T, .base (.lst (e3 p _ hp)), hk, q H3 (e2.trans e3)⟩
/-- whole numbers from nought as values -/
abbrev nv (d : Nat) : V := .int (d : Int)
theorem nv_iv (l : List Nat) : l.map nv = (l.map fun (d : Nat) => (d : Int)).map V.int := by rw [List.map_map] <;> rfl
theorem sum_cast : ∀ l : List Nat, (l.map fun (d : Nat) => (d : Int)).sum = ((l.sum : Nat) : Int)
  | [] => rfl
  | a :: r => by rw [List.map_cons, List.sum_cons, List.sum_cons, sum_cast r, Int.natCast_add]
theorem ev_sumN {l : List Nat} (ha : EvK ta σ H (l.map nv)) : Ev (tCB (rSum K) (tCons ta tNil)) σ H (.int ((l.sum : Nat) : Int)) := by
  rw [← sum_cast]
  exact ev_sumK (ha.eq (nv_iv l))
theorem et_yes : EvT tYes σ H true := fun H1 _ _ q => q H1 (Ex.refl H1)
/-- None -/
theorem rv_isN {x : V} : RV (fun x y H Q => y = .non ∧ Q (.bl (decide (x = .non))) H) x .non H (.bl (decide (x = .non))) := fun H1 _ _ q => ⟨rfl, q H1 (Ex.refl H1)⟩
/-- x is True -/
theorem rv_isB {a b : Bool} : RV rIsB (.bl a) (.bl b) H (.bl (decide (a = b))) := fun H1 _ _ q => ⟨a, b, rfl, rfl, q H1 (Ex.refl H1)⟩
/-! ### comprehensions -/
def Cl (H : Hp) (xs : List V) (Dl : Addr) (H' : Hp) : Prop := H Dl = none ∧ Ex H H' ∧ H' Dl = some (.lst xs)
theorem cl_turn {H H' : Hp} {xs : List V} {b : Bool} {w : V} {Dl : Addr} {σ2 : L2.St} (p : Cl H xs Dl H') (hi : xs.length < 50000) (ht : EvT t σ2 H b) (he : b = true → Ev te σ2 H w) :
    t σ2 H' fun b' H3 => if b' = true then te σ2 H3 fun y H4 => ∃ acc, H4 Dl = some (.lst acc) ∧ acc.length < sizeLine ∧ Cl H (xs ++ (if b = true then [w] else [])) Dl (upd H4 Dl (.lst (acc ++ [y]))) else Cl H (xs ++ (if b = true then [w] else [])) Dl H3 := by
  obtain ⟨p1, p2, p3⟩ := p
  refine ht H' p2 _ fun H3 e3 => ?_
  cases b with
  | true =>
    refine he rfl H3 (p2.trans e3) _ fun H4 e4 => ⟨xs, e4 Dl _ (e3 Dl _ p3), sz_lt (by omega), p1, Ex.mut ((p2.trans e3).trans e4) p1, ?_⟩
    exact upd_same
  | false =>
    refine ⟨p1, p2.trans e3, ?_⟩
    show H3 Dl = some (.lst (xs ++ []))
    rw [List.append_nil]
    exact e3 Dl _ p3
theorem fm_more {α : Type} {l : List α} {b : α → Bool} {ψ : α → V} {i : Nat} {a : α} (h : l[i]? = some a) : ((l.take i).filter b).map ψ ++ (if b a = true then [ψ a] else []) = ((l.take (i + 1)).filter b).map ψ := by
  rw [List.take_add_one, h, List.filter_append, List.map_append]
  cases hb : b a <;> simp [hb]
theorem fm_len {α : Type} {l : List α} {b : α → Bool} {ψ : α → V} (i : Nat) : (((l.take i).filter b).map ψ).length ≤ l.length := by
  rw [List.length_map]
  have h := List.length_filter_le b (l.take i)
  rw [List.length_take] at h
  omega
/-- over a list whose items are φ of l's -/
theorem el_fm {α : Type} {l : List α} {φ : α → V} {tl : TE} {j : Nat} {vs : List Nat} (b : α → Bool) (ψ : α → V) (h : EvK tl σ H (l.map φ)) (hz : l.length ≤ 40000) (hw : ∀ x, wipe ((wipe σ vs).set j (some x)) vs = wipe σ vs)
    (ht : ∀ a H1, Ex H H1 → a ∈ l → EvT t ((wipe σ vs).set j (some (φ a))) H1 (b a)) (he : ∀ a H1, Ex H H1 → a ∈ l → b a = true → Ev te ((wipe σ vs).set j (some (φ a))) H1 (ψ a)) :
    EvL (tLc (iList K tl) (gName j) t te vs) σ H ((l.filter b).map ψ) := fun H0 e Q q => h H0 e _ fun a H1 e1 hx => ⟨a, rfl, ⟨l.map φ, sq_of hx⟩, fun Dl hD =>
  lc_list (xs := l.map φ) (fun i H' => Cl H1 (((l.take i).filter b).map ψ) Dl H') ⟨hD, Ex.new hD, upd_same⟩ (fun i H' _ p => sq_of (p.2.1 a _ hx)) (fun i x H' hi p => by
    rw [List.getElem?_map] at hi
    cases hl : l[i]? with
    | none =>
      rw [hl] at hi
      cases hi
    | some c =>
      rw [hl] at hi
      have ex : φ c = x := Option.some.inj hi
      subst ex
      have hm : c ∈ l := List.mem_of_getElem? hl
      refine ⟨hw _, ?_⟩
      rw [← fm_more hl]
      exact cl_turn p (by have := fm_len (l := l) (b := b) (ψ := ψ) i; omega) (ht c H1 (e.trans e1) hm) (fun hf => he c H1 (e.trans e1) hm hf)) (fun H' p => by
        rw [List.length_map, List.take_length] at p
        exact q Dl H' (fresh_back e1 p.1) (e1.trans p.2.1) p.2.2)⟩
/-- over a range -/
theorem el_fmR1 {n : Nat} {ta : TA} {j : Nat} {vs : List Nat} (b : Nat → Bool) (ψ : Nat → V) (h : EvA ta σ H [.int (n : Int)]) (hz : n ≤ 40000) (hw : ∀ x, wipe ((wipe σ vs).set j (some x)) vs = wipe σ vs)
    (ht : ∀ (a : Nat) H1, Ex H H1 → a < n → EvT t ((wipe σ vs).set j (some (.int (a : Int)))) H1 (b a)) (he : ∀ (a : Nat) H1, Ex H H1 → a < n → b a = true → Ev te ((wipe σ vs).set j (some (.int (a : Int)))) H1 (ψ a)) :
    EvL (tLc (iRng1 ta) (gName j) t te vs) σ H (((List.range n).filter b).map ψ) := fun H0 e Q q => h H0 e _ fun H1 e1 => ⟨(n : Int), rfl, by omega, by omega, fun Dl hD => by
  rw [Int.toNat_natCast]
  exact lc_range (lo := 0) (n := n) (fun i H' => Cl H1 ((((List.range n).take i).filter b).map ψ) Dl H') ⟨hD, Ex.new hD, upd_same⟩ (fun i H' hi p => by
    have hl : (List.range n)[i]? = some i := by simp [hi]
    have e0 : (0 : Int) + (i : Int) = (i : Int) := Int.zero_add _
    rw [e0]
    refine ⟨hw _, ?_⟩
    rw [← fm_more hl]
    exact cl_turn p (by have := fm_len (l := List.range n) (b := b) (ψ := ψ) i; rw [List.length_range] at this; omega) (ht i H1 (e.trans e1) hi) (fun hf => he i H1 (e.trans e1) hi hf)) (fun H' p => by
      have ee : (List.range n).take n = List.range n := List.take_of_length_le (by simp)
      rw [ee] at p
      exact q Dl H' (fresh_back e1 p.1) (e1.trans p.2.1) p.2.2)⟩
theorem el_fmR2 {lo hi : Int} {n : Nat} {ta : TA} {j : Nat} {vs : List Nat} (b : Nat → Bool) (ψ : Nat → V) (h : EvA ta σ H [.int lo, .int hi]) (hn : n = (hi - lo).toNat) (hz : n ≤ 40000) (hb : -1000000 ≤ lo ∧ lo ≤ 1000000 ∧ -1000000 ≤ hi ∧ hi ≤ 1000000) (hw : ∀ x, wipe ((wipe σ vs).set j (some x)) vs = wipe σ vs)
    (ht : ∀ (a : Nat) H1, Ex H H1 → a < n → EvT t ((wipe σ vs).set j (some (.int (lo + (a : Int))))) H1 (b a)) (he : ∀ (a : Nat) H1, Ex H H1 → a < n → b a = true → Ev te ((wipe σ vs).set j (some (.int (lo + (a : Int))))) H1 (ψ a)) :
    EvL (tLc (iRng2 ta) (gName j) t te vs) σ H (((List.range n).filter b).map ψ) := fun H0 e Q q => h H0 e _ fun H1 e1 => ⟨lo, hi, rfl, ⟨by omega, by omega, by omega, by omega⟩, fun Dl hD => by
  subst hn
  exact lc_range (lo := lo) (n := (hi - lo).toNat) (fun i H' => Cl H1 ((((List.range (hi - lo).toNat).take i).filter b).map ψ) Dl H') ⟨hD, Ex.new hD, upd_same⟩ (fun i H' hi' p => by
    have hl : (List.range (hi - lo).toNat)[i]? = some i := by simp [hi']
    refine ⟨hw _, ?_⟩
    rw [← fm_more hl]
    exact cl_turn p (by have := fm_len (l := List.range (hi - lo).toNat) (b := b) (ψ := ψ) i; rw [List.length_range] at this; omega) (ht i H1 (e.trans e1) hi') (fun hf => he i H1 (e.trans e1) hi' hf)) (fun H' p => by
      have ee : (List.range (hi - lo).toNat).take (hi - lo).toNat = List.range (hi - lo).toNat := List.take_of_length_le (by simp)
      rw [ee] at p
      exact q Dl H' (fresh_back e1 p.1) (e1.trans p.2.1) p.2.2)⟩
theorem fl_true {α : Type} (l : List α) : l.filter (fun _ => true) = l := List.filter_eq_self.mpr fun _ _ => rfl
/-- without a test -/
theorem el_mp {α : Type} {l : List α} {φ : α → V} {tl : TE} {j : Nat} {vs : List Nat} (ψ : α → V) (h : EvK tl σ H (l.map φ)) (hz : l.length ≤ 40000) (hw : ∀ x, wipe ((wipe σ vs).set j (some x)) vs = wipe σ vs)
    (he : ∀ a H1, Ex H H1 → a ∈ l → Ev te ((wipe σ vs).set j (some (φ a))) H1 (ψ a)) : EvL (tLc (iList K tl) (gName j) tYes te vs) σ H (l.map ψ) := by
  have z := el_fm (t := tYes) (te := te) (K := K) (fun _ => true) ψ h hz hw (fun _ _ _ _ => et_yes) (fun a H1 e hm _ => he a H1 e hm)
  rw [fl_true] at z
  exact z
theorem el_mpR1 {n : Nat} {ta : TA} {j : Nat} {vs : List Nat} (ψ : Nat → V) (h : EvA ta σ H [.int (n : Int)]) (hz : n ≤ 40000) (hw : ∀ x, wipe ((wipe σ vs).set j (some x)) vs = wipe σ vs)
    (he : ∀ (a : Nat) H1, Ex H H1 → a < n → Ev te ((wipe σ vs).set j (some (.int (a : Int)))) H1 (ψ a)) : EvL (tLc (iRng1 ta) (gName j) tYes te vs) σ H ((List.range n).map ψ) := by
  have z := el_fmR1 (t := tYes) (te := te) (fun _ => true) ψ h hz hw (fun _ _ _ _ => et_yes) (fun a H1 e hm _ => he a H1 e hm)
  rw [fl_true] at z
  exact z
theorem el_mpR2 {lo hi : Int} {n : Nat} {ta : TA} {j : Nat} {vs : List Nat} (ψ : Nat → V) (h : EvA ta σ H [.int lo, .int hi]) (hn : n = (hi - lo).toNat) (hz : n ≤ 40000) (hb : -1000000 ≤ lo ∧ lo ≤ 1000000 ∧ -1000000 ≤ hi ∧ hi ≤ 1000000) (hw : ∀ x, wipe ((wipe σ vs).set j (some x)) vs = wipe σ vs)
    (he : ∀ (a : Nat) H1, Ex H H1 → a < n → Ev te ((wipe σ vs).set j (some (.int (lo + (a : Int))))) H1 (ψ a)) : EvL (tLc (iRng2 ta) (gName j) tYes te vs) σ H ((List.range n).map ψ) := by
  have z := el_fmR2 (t := tYes) (te := te) (fun _ => true) ψ h hn hz hb hw (fun _ _ _ _ => et_yes) (fun a H1 e hm _ => he a H1 e hm)
  rw [fl_true] at z
  exact z
/-! ### items -/
theorem atI_map {α : Type} {l : List α} {φ : α → V} {i : Nat} {a : α} {z : Int} (e : z = (i : Int)) (h : l[i]? = some a) : atI (l.map φ) z = some (φ a) := by
  subst e
  exact atI_nat (by rw [List.getElem?_map, h] <;> rfl)
theorem ev_ixK {xs : List V} {i : Int} (ha : EvK ta σ H xs) (hb : Ev tb σ H (.int i)) (h : atI xs i = some v) : Ev (tOp (rIxL K) ta tb) σ H v := fun H1 e Q q =>
  ha H1 e _ fun p H2 e2 hp => hb H2 (e.trans e2) _ fun H3 e3 => ⟨p, xs, i, v, rfl, rfl, sq_of (e3 p _ hp), h, q H3 (e2.trans e3)⟩
theorem el_slK {tl th : TO} {xs : List V} {lo hi : Option Int} (h : EvK te σ H xs) (h1 : EvO tl σ H lo) (h2 : EvO th σ H hi) : EvL (tSl (rSlL K) te tl th) σ H (cutV xs lo hi) := fun H1 e _ q =>
  h H1 e _ fun a H2 e2 hp => h1 H2 (e.trans e2) _ fun H3 e3 => h2 H3 ((e.trans e2).trans e3) _ fun H4 e4 =>
    ⟨a, xs, rfl, sq_of (e4 a _ (e3 a _ hp)), fun p hp => q p _ (fresh_back ((e2.trans e3).trans e4) hp) (((e2.trans e3).trans e4).trans (Ex.new hp)) upd_same⟩
theorem ek_list {xs : List V} (ha : EvK ta σ H xs) : EvL (tCB (rListS K) (tCons ta tNil)) σ H xs := fun H1 e Q q =>
  ha H1 e _ fun p H2 e2 h2 => ⟨p, xs, rfl, Or.inl (sq_of h2), fun l hl => q l _ (fresh_back e2 hl) (e2.trans (Ex.new hl)) upd_same⟩
theorem el_callL {sp : Sp} {dvs vs xs : List V} {E : XK} {ta : TA} (h : EvA ta σ H vs) (hs : SpL sp (vs ++ dvs) H xs) : EvL (tCall sp dvs E ta) σ H xs := el_call h hs
/-- a call one of whose arguments is a list that is made on the way -/
theorem ev_callL1 {sp : Sp} {E : XK} {xs : List V} (h : EvK te σ H xs) (hs : ∀ p H1, H1 p = some (.lst xs) → Ex H H1 → SpV sp [.ref p] H1 z) : Ev (tCall sp [] E (tCons te tNil)) σ H z := fun H1 e Q q =>
  h H1 e _ fun p H2 e2 hp => hs p H2 hp (e.trans e2) H2 (Ex.refl H2) Q (fun H3 e3 => q H3 (e2.trans e3)) E
theorem ev_callL2 {sp : Sp} {E : XK} {xs : List V} (h : EvK te σ H xs) (hx : Ev tx σ H x) (hs : ∀ p H1, H1 p = some (.lst xs) → Ex H H1 → SpV sp [.ref p, x] H1 z) : Ev (tCall sp [] E (tCons te (tCons tx tNil))) σ H z := fun H1 e Q q =>
  h H1 e _ fun p H2 e2 hp => hx H2 (e.trans e2) _ fun H3 e3 => hs p H3 (e3 p _ hp) ((e.trans e2).trans e3) H3 (Ex.refl H3) Q (fun H4 e4 => q H4 ((e2.trans e3).trans e4)) E
/-- a list's own name as an argument -/
theorem ea_list {ns : List V} {p : Addr} (h : Ev te σ H (.ref p)) : Ev te σ H (.ref p) := h
/-- name = [xs, ys], two new lists -/
theorem q_lst2 {i : Nat} {xs ys : List V} (ha : EvL ta σ H xs) (hb : EvL tb σ H ys) (k : ∀ p q r H1, Ex H H1 → H1 p = some (.lst xs) → H1 q = some (.lst ys) → H1 r = some (.lst [.ref p, .ref q]) → tz D (σ.set i (some (.ref r))) H1) :
    tSeq (tAsg (tLst (tCons ta (tCons tb tNil))) (gName i)) tz D σ H := ha H (Ex.refl H) _ fun p H1 _ e1 hp => hb H1 e1 _ fun q H2 _ e2 hq =>
  ⟨by show 2 ≤ sizeLine; decide, fun r hr => k p q r _ ((e1.trans e2).trans (Ex.new hr)) (Ex.new hr p _ (e2 p _ hp)) (Ex.new hr q _ hq) upd_same⟩
/-- max(1, m) -/
theorem evp_max1 {N : Nat} (hN : 1 ≤ N) (h : EvP tb σ H (fun v => ∃ m : Nat, v = .int (m : Int) ∧ m ≤ N)) : EvP (tCB rMax2 (tCons (tC (.int 1)) (tCons tb tNil))) σ H (fun v => ∃ m : Nat, v = .int (m : Int) ∧ 1 ≤ m ∧ m ≤ N) := fun H1 e Q q =>
  h H1 e _ fun v H2 hm e2 => by
    obtain ⟨m, rfl, hm⟩ := hm
    refine ⟨1, (m : Int), rfl, ?_⟩
    by_cases c : (m : Int) > 1
    · rw [if_pos c]
      exact q _ H2 ⟨m, rfl, by omega, hm⟩ e2
    · rw [if_neg c]
      exact q _ H2 ⟨1, rfl, by omega, hN⟩ e2
/-- min(max(k, 0), N) -/
theorem evp_clamp {N : Nat} (h : EvP ta σ H (fun v => ∃ k : Int, v = .int k)) (hb : Ev tb σ H (.int (N : Int))) : EvP (tCB rMin2 (tCons (tCB rMax2 (tCons ta (tCons (tC (.int 0)) tNil))) (tCons tb tNil))) σ H (fun v => ∃ j : Nat, v = .int (j : Int) ∧ j ≤ N) := fun H1 e Q q =>
  h H1 e _ fun v H2 hk e2 => by
    obtain ⟨k, rfl⟩ := hk
    refine ⟨k, 0, rfl, ?_⟩
    refine hb H2 (e.trans e2) _ fun H3 e3 => ⟨(if (0 : Int) > k then 0 else k), N, rfl, ?_⟩
    refine q _ H3 ⟨((if (N : Int) < (if (0 : Int) > k then 0 else k) then (N : Int) else (if (0 : Int) > k then 0 else k))).toNat, ?_, ?_⟩ (e2.trans e3)
    · congr 1
      split <;> split <;> omega
    · split <;> split <;> omega
/-- min, max of a list of two -/
theorem ev_minL {x y : Int} (ha : EvK ta σ H [.int x, .int y]) : Ev (tCB (rMin K) (tCons ta tNil)) σ H (.int (min x y)) := fun H1 e Q q =>
  ha H1 e _ fun p H2 e2 h2 => ⟨p, [x, y], rfl, sq_of h2, Nat.succ_pos _, fun m hm hle => by
    have h1 := hle x (by simp)
    have h2 := hle y (by simp)
    have e3 : m = min x y := by
      rcases List.mem_cons.mp hm with z | z
      · omega
      · have := List.mem_singleton.mp z
        omega
    rw [e3]
    exact q H2 e2⟩
theorem ev_maxL {x y : Int} (ha : EvK ta σ H [.int x, .int y]) : Ev (tCB (rMax K) (tCons ta tNil)) σ H (.int (max x y)) := fun H1 e Q q =>
  ha H1 e _ fun p H2 e2 h2 => ⟨p, [x, y], rfl, sq_of h2, Nat.succ_pos _, fun m hm hle => by
    have h1 := hle x (by simp)
    have h2 := hle y (by simp)
    have e3 : m = max x y := by
      rcases List.mem_cons.mp hm with z | z
      · omega
      · have := List.mem_singleton.mp z
        omega
    rw [e3]
    exact q H2 e2⟩
/-- slices of a list -/
theorem cut_take {α : Type} (l : List α) (φ : α → V) (k : Nat) : cutV (l.map φ) none (some (k : Int)) = (l.take k).map φ := by
  unfold cutV
  rw [HT.sIx_none, HT.sIx_nat, List.drop_zero, Nat.sub_zero, List.map_take, List.length_map]
  by_cases h : k ≤ l.length
  · rw [Nat.min_eq_left h]
  · rw [Nat.min_eq_right (by omega), List.take_of_length_le (by simp), List.take_of_length_le (by rw [List.length_map]; omega)]
theorem cut_drop {α : Type} (l : List α) (φ : α → V) (k : Nat) : cutV (l.map φ) (some (k : Int)) none = (l.drop k).map φ := by
  unfold cutV
  rw [HT.sIx_none, HT.sIx_nat, List.length_map, List.map_drop]
  by_cases h : k ≤ l.length
  · rw [Nat.min_eq_left h]
    exact List.take_of_length_le (by simp)
  · rw [Nat.min_eq_right (by omega), Nat.sub_self, List.take_zero, List.drop_of_length_le (by simp; omega)]
theorem cut_last {α : Type} (l : List α) (φ : α → V) : cutV (l.map φ) none (some (-1)) = l.dropLast.map φ := by
  unfold cutV
  have e : HT.sIx (l.map φ).length (l.map φ).length (some (-1)) = l.length - 1 := by
    show (if (-1 : Int) < 0 then ((-1 : Int) + ((l.map φ).length : Int)).toNat else min (-1 : Int).toNat (l.map φ).length) = _
    rw [if_pos (by decide), List.length_map]
    omega
  rw [HT.sIx_none, e, List.drop_zero, Nat.sub_zero, List.dropLast_eq_take, List.map_take]
theorem getD_at {l : List Nat} {i : Nat} (h : i < l.length) : l[i]? = some (l.getD i 0) := by
  rw [List.getD_eq_getElem?_getD, List.getElem?_eq_getElem h]
  rfl
theorem at_last {l : List Nat} (h : l ≠ []) : atI (l.map nv) (-1) = some (nv (l.getLastD 0)) := by
  have e : l.map nv = (l.dropLast.map nv) ++ [nv (l.getLastD 0)] := by
    have e2 : l.getLastD 0 = l.getLast h := by rw [List.getLastD_eq_getLast?, List.getLast?_eq_getLast h]; rfl
    rw [e2, ← List.map_singleton, ← List.map_append, List.dropLast_concat_getLast]
  rw [e]
  exact atI_last _ _
/-- None or a whole number -/
def ov : Option Int → V
  | none => .non
  | some i => .int i
theorem at0 {v : V} {r : List V} : atI (v :: r) 0 = some v := atI_nat (j := 0) rfl
theorem at1 {v w : V} {r : List V} : atI (v :: w :: r) 1 = some w := atI_nat (j := 1) rfl
/-! ### loops that leave what stood as it was -/
/-- over a list -/
theorem s_forK {α : Type} {l : List α} {φ : α → V} {tl : TE} {j : Nat} (h : EvK tl σ H (l.map φ)) (Pv : Nat → L2.St → Prop) (h0 : Pv 0 σ)
    (hs : ∀ H1 i a σ' H', Ex H H1 → Ex H1 H' → l[i]? = some a → Pv i σ' → tu { D with nx := fun σ2 H2 => Ex H1 H2 ∧ Pv (i + 1) σ2, ct := fun σ2 H2 => Ex H1 H2 ∧ Pv (i + 1) σ2, bk := D.nx } (σ'.set j (some (φ a))) H')
    (hd : ∀ σ' H', Ex H H' → Pv l.length σ' → D.nx σ' H') : tFor (iList K tl) (gName j) tu D σ H :=
  h H (Ex.refl H) _ fun p H1 e hx => ⟨p, rfl, ⟨l.map φ, sq_of hx⟩, for_list (fun i σ' H' => Ex H1 H' ∧ Pv i σ') ⟨Ex.refl H1, h0⟩ (fun i σ' H' _ q => sq_of (q.1 p _ hx)) (fun i x σ' H' hi q => by
    rw [List.getElem?_map] at hi
    cases hl : l[i]? with
    | none =>
      rw [hl] at hi
      cases hi
    | some c =>
      rw [hl] at hi
      have ex : φ c = x := Option.some.inj hi
      subst ex
      exact hs H1 i c σ' H' e q.1 hl q.2) (fun σ' H' q => hd σ' H' (e.trans q.1) (by
        have q2 := q.2
        rw [List.length_map] at q2
        exact q2))⟩
/-- over a list from its end: Pv by how many are left -/
theorem s_forRev {α : Type} {l : List α} {φ : α → V} {tl : TE} {j : Nat} (h : EvK tl σ H (l.map φ)) (Pv : Nat → L2.St → Prop) (h0 : Pv l.length σ)
    (hs : ∀ H1 i a σ' H', Ex H H1 → Ex H1 H' → l[i]? = some a → Pv (i + 1) σ' → tu { D with nx := fun σ2 H2 => Ex H1 H2 ∧ Pv i σ2, ct := fun σ2 H2 => Ex H1 H2 ∧ Pv i σ2, bk := D.nx } (σ'.set j (some (φ a))) H')
    (hd : ∀ σ' H', Ex H H' → Pv 0 σ' → D.nx σ' H') : tFor (iRev K (tCons tl tNil)) (gName j) tu D σ H :=
  h H (Ex.refl H) _ fun p H1 e hx => by
    refine ⟨p, l.map φ, rfl, sq_of hx, fun i m σ' H' => m + i = l.length ∧ Pv m σ' ∧ Ex H1 H', ⟨l.length, rfl, h0, Ex.refl H1⟩, fun i m σ' H' hw => ?_⟩
    obtain ⟨hm, hp, hE⟩ := hw
    have hq : SqL K H' p (l.map φ) := sq_of (hE p _ hx)
    cases m with
    | zero => exact .inl ⟨by show (l.map φ).length ≤ i; rw [List.length_map]; omega, hd σ' H' (e.trans hE) hp⟩
    | succ m =>
      have hlt : m < l.length := by omega
      have hl : l[m]? = some l[m] := List.getElem?_eq_getElem hlt
      have hix : (l.map φ).length - 1 - i = m := by rw [List.length_map]; omega
      have hg : (l.map φ)[(l.map φ).length - 1 - i]? = some (φ l[m]) := by
        rw [hix, List.getElem?_map, hl]
        rfl
      refine .inr ⟨⟨by show i < (l.map φ).length; rw [List.length_map]; omega, l.map φ, φ l[m], hq, hg⟩, fun σ2 H2 => Ex H1 H2 ∧ Pv m σ2, fun σ2 H2 hN => ⟨m, Nat.lt_succ_self m, by omega, hN.2, hN.1⟩, fun x H2 hy => ?_⟩
      obtain ⟨rfl, fy⟩ := hy
      have ex : φ l[m] = x := Option.some.inj (hg.symm.trans (fy _ hq))
      subst ex
      exact hs H1 m l[m] σ' H2 e hE hl hp
/-- over reversed(range(n)): Pv by how many are left -/
theorem s_forRevR {n : Nat} {ta : TE} {j : Nat} (h : Ev ta σ H (.int (n : Int))) (hn : n ≤ 100000) (Pv : Nat → L2.St → Prop) (h0 : Pv n σ)
    (hs : ∀ H1 (i : Nat) σ' H', Ex H H1 → Ex H1 H' → i < n → Pv (i + 1) σ' → tu { D with nx := fun σ2 H2 => Ex H1 H2 ∧ Pv i σ2, ct := fun σ2 H2 => Ex H1 H2 ∧ Pv i σ2, bk := D.nx } (σ'.set j (some (.int (i : Int)))) H')
    (hd : ∀ σ' H', Ex H H' → Pv 0 σ' → D.nx σ' H') : tFor (iRevR (tRg1 ta)) (gName j) tu D σ H :=
  h H (Ex.refl H) _ fun H1 e => by
    refine ⟨(n : Int), rfl, by omega, by omega, by omega, by omega, fun i m σ' H' => m + i = n ∧ Pv m σ' ∧ Ex H1 H', ⟨n, rfl, h0, Ex.refl H1⟩, fun i m σ' H' hw => ?_⟩
    obtain ⟨hm, hp, hE⟩ := hw
    cases m with
    | zero => exact .inl ⟨by show ((n : Int) - 0).toNat ≤ i; omega, hd σ' H' (e.trans hE) hp⟩
    | succ m =>
      refine .inr ⟨by show i < ((n : Int) - 0).toNat; omega, fun σ2 H2 => Ex H1 H2 ∧ Pv m σ2, fun σ2 H2 hN => ⟨m, Nat.lt_succ_self m, by omega, hN.2, hN.1⟩, fun x H2 hy => ?_⟩
      obtain ⟨rfl, rfl⟩ := hy
      have ei : (0 : Int) + (((((n : Int) - 0).toNat : Nat) : Int)) - 1 + (i : Nat) * (-1) = (m : Int) := by omega
      show tu _ (σ'.set j (some (.int ((0 : Int) + (((((n : Int) - 0).toNat : Nat) : Int)) - 1 + (i : Nat) * (-1))))) H2
      rw [ei]
      exact hs H1 m σ' H2 e hE (by omega) hp
/-- over range(n) | range(lo, hi) -/
theorem s_forN1 {n : Nat} {ta : TA} {j : Nat} (h : EvA ta σ H [.int (n : Int)]) (hn : n ≤ 100000) (Pv : Nat → L2.St → Prop) (h0 : Pv 0 σ)
    (hs : ∀ H1 (i : Nat) σ' H', Ex H H1 → Ex H1 H' → i < n → Pv i σ' → tu { D with nx := fun σ2 H2 => Ex H1 H2 ∧ Pv (i + 1) σ2, ct := fun σ2 H2 => Ex H1 H2 ∧ Pv (i + 1) σ2, bk := D.nx } (σ'.set j (some (.int (i : Int)))) H')
    (hd : ∀ σ' H', Ex H H' → Pv n σ' → D.nx σ' H') : tFor (iRng1 ta) (gName j) tu D σ H :=
  h H (Ex.refl H) _ fun H1 e => ⟨(n : Int), rfl, by omega, by omega, by
    rw [Int.toNat_natCast]
    exact for_range (lo := 0) (n := n) (fun i σ' H' => Ex H1 H' ∧ Pv i σ') ⟨Ex.refl H1, h0⟩ (fun i σ' H' hi q => by
      have e0 : (0 : Int) + (i : Int) = (i : Int) := Int.zero_add _
      show tu _ (σ'.set j (some (.int ((0 : Int) + (i : Int))))) H'
      rw [e0]
      exact hs H1 i σ' H' e q.1 hi q.2) (fun σ' H' q => hd σ' H' (e.trans q.1) q.2)⟩
theorem s_forN2 {lo hi : Int} {n : Nat} {ta : TA} {j : Nat} (h : EvA ta σ H [.int lo, .int hi]) (hn : n = (hi - lo).toNat) (hb : -1000000 ≤ lo ∧ lo ≤ 1000000 ∧ -1000000 ≤ hi ∧ hi ≤ 1000000) (Pv : Nat → L2.St → Prop) (h0 : Pv 0 σ)
    (hs : ∀ H1 (i : Nat) σ' H', Ex H H1 → Ex H1 H' → i < n → Pv i σ' → tu { D with nx := fun σ2 H2 => Ex H1 H2 ∧ Pv (i + 1) σ2, ct := fun σ2 H2 => Ex H1 H2 ∧ Pv (i + 1) σ2, bk := D.nx } (σ'.set j (some (.int (lo + (i : Int))))) H')
    (hd : ∀ σ' H', Ex H H' → Pv n σ' → D.nx σ' H') : tFor (iRng2 ta) (gName j) tu D σ H :=
  h H (Ex.refl H) _ fun H1 e => ⟨lo, hi, rfl, ⟨by omega, by omega, by omega, by omega⟩, by
    subst hn
    exact for_range (lo := lo) (n := (hi - lo).toNat) (fun i σ' H' => Ex H1 H' ∧ Pv i σ') ⟨Ex.refl H1, h0⟩ (fun i σ' H' hi' q => hs H1 i σ' H' e q.1 hi' q.2) (fun σ' H' q => hd σ' H' (e.trans q.1) q.2)⟩
/-- while -/
theorem s_whileK (W : Nat → L2.St → Prop) (m0 : Nat) (h0 : W m0 σ)
    (hs : ∀ m σ' H', Ex H H' → W m σ' → ∃ b, EvT t σ' H' b ∧ (b = true → ∀ H1, Ex H' H1 → tu { D with nx := fun σ2 H2 => Ex H1 H2 ∧ ∃ m', m' < m ∧ W m' σ2, ct := fun σ2 H2 => Ex H1 H2 ∧ ∃ m', m' < m ∧ W m' σ2, bk := D.nx } σ' H1) ∧ (b = false → ∀ H1, Ex H H1 → D.nx σ' H1)) : tWhile t tu D σ H :=
  s_while (fun m σ' H' => Ex H H' ∧ W m σ') m0 ⟨Ex.refl H, h0⟩ fun m σ' H' hw => by
    obtain ⟨hE, hw⟩ := hw
    obtain ⟨b, hb, h1, h2⟩ := hs m σ' H' hE hw
    exact ⟨b, hb, fun hb H1 e => ⟨_, fun σ2 H2 hN => by
      obtain ⟨e2, m', hm, hW⟩ := hN
      exact ⟨m', hm, (hE.trans e).trans e2, hW⟩, h1 hb H1 e⟩, fun hb H1 e => h2 hb H1 (hE.trans e)⟩
theorem q_forK {α : Type} {l : List α} {φ : α → V} {tl : TE} {j : Nat} (h : EvK tl σ H (l.map φ)) (Pv : Nat → L2.St → Prop) (h0 : Pv 0 σ)
    (hs : ∀ H1 i a σ' H', Ex H H1 → Ex H1 H' → l[i]? = some a → Pv i σ' → tu { D with nx := fun σ2 H2 => Ex H1 H2 ∧ Pv (i + 1) σ2, ct := fun σ2 H2 => Ex H1 H2 ∧ Pv (i + 1) σ2, bk := tz D } (σ'.set j (some (φ a))) H')
    (hd : ∀ σ' H', Ex H H' → Pv l.length σ' → tz D σ' H') : tSeq (tFor (iList K tl) (gName j) tu) tz D σ H := s_forK (D := { D with nx := tz D }) h Pv h0 hs hd
theorem q_forRev {α : Type} {l : List α} {φ : α → V} {tl : TE} {j : Nat} (h : EvK tl σ H (l.map φ)) (Pv : Nat → L2.St → Prop) (h0 : Pv l.length σ)
    (hs : ∀ H1 i a σ' H', Ex H H1 → Ex H1 H' → l[i]? = some a → Pv (i + 1) σ' → tu { D with nx := fun σ2 H2 => Ex H1 H2 ∧ Pv i σ2, ct := fun σ2 H2 => Ex H1 H2 ∧ Pv i σ2, bk := tz D } (σ'.set j (some (φ a))) H')
    (hd : ∀ σ' H', Ex H H' → Pv 0 σ' → tz D σ' H') : tSeq (tFor (iRev K (tCons tl tNil)) (gName j) tu) tz D σ H := s_forRev (D := { D with nx := tz D }) h Pv h0 hs hd
theorem q_forRevR {n : Nat} {ta : TE} {j : Nat} (h : Ev ta σ H (.int (n : Int))) (hn : n ≤ 100000) (Pv : Nat → L2.St → Prop) (h0 : Pv n σ)
    (hs : ∀ H1 (i : Nat) σ' H', Ex H H1 → Ex H1 H' → i < n → Pv (i + 1) σ' → tu { D with nx := fun σ2 H2 => Ex H1 H2 ∧ Pv i σ2, ct := fun σ2 H2 => Ex H1 H2 ∧ Pv i σ2, bk := tz D } (σ'.set j (some (.int (i : Int)))) H')
    (hd : ∀ σ' H', Ex H H' → Pv 0 σ' → tz D σ' H') : tSeq (tFor (iRevR (tRg1 ta)) (gName j) tu) tz D σ H := s_forRevR (D := { D with nx := tz D }) h hn Pv h0 hs hd
theorem q_forN1 {n : Nat} {ta : TA} {j : Nat} (h : EvA ta σ H [.int (n : Int)]) (hn : n ≤ 100000) (Pv : Nat → L2.St → Prop) (h0 : Pv 0 σ)
    (hs : ∀ H1 (i : Nat) σ' H', Ex H H1 → Ex H1 H' → i < n → Pv i σ' → tu { D with nx := fun σ2 H2 => Ex H1 H2 ∧ Pv (i + 1) σ2, ct := fun σ2 H2 => Ex H1 H2 ∧ Pv (i + 1) σ2, bk := tz D } (σ'.set j (some (.int (i : Int)))) H')
    (hd : ∀ σ' H', Ex H H' → Pv n σ' → tz D σ' H') : tSeq (tFor (iRng1 ta) (gName j) tu) tz D σ H := s_forN1 (D := { D with nx := tz D }) h hn Pv h0 hs hd
theorem q_forN2 {lo hi : Int} {n : Nat} {ta : TA} {j : Nat} (h : EvA ta σ H [.int lo, .int hi]) (hn : n = (hi - lo).toNat) (hb : -1000000 ≤ lo ∧ lo ≤ 1000000 ∧ -1000000 ≤ hi ∧ hi ≤ 1000000) (Pv : Nat → L2.St → Prop) (h0 : Pv 0 σ)
    (hs : ∀ H1 (i : Nat) σ' H', Ex H H1 → Ex H1 H' → i < n → Pv i σ' → tu { D with nx := fun σ2 H2 => Ex H1 H2 ∧ Pv (i + 1) σ2, ct := fun σ2 H2 => Ex H1 H2 ∧ Pv (i + 1) σ2, bk := tz D } (σ'.set j (some (.int (lo + (i : Int))))) H')
    (hd : ∀ σ' H', Ex H H' → Pv n σ' → tz D σ' H') : tSeq (tFor (iRng2 ta) (gName j) tu) tz D σ H := s_forN2 (D := { D with nx := tz D }) h hn hb Pv h0 hs hd
theorem q_whileK (W : Nat → L2.St → Prop) (m0 : Nat) (h0 : W m0 σ)
    (hs : ∀ m σ' H', Ex H H' → W m σ' → ∃ b, EvT t σ' H' b ∧ (b = true → ∀ H1, Ex H' H1 → tu { D with nx := fun σ2 H2 => Ex H1 H2 ∧ ∃ m', m' < m ∧ W m' σ2, ct := fun σ2 H2 => Ex H1 H2 ∧ ∃ m', m' < m ∧ W m' σ2, bk := tz D } σ' H1) ∧ (b = false → ∀ H1, Ex H H1 → tz D σ' H1)) : tSeq (tWhile t tu) tz D σ H :=
  s_whileK (D := { D with nx := tz D }) W m0 h0 hs
end
theorem drawn {x m : Int} (h : 0 < m) : ∃ k, 0 ≤ k ∧ k < m ∧ x % m = k := ⟨x % m, Int.emod_nonneg _ (by omega), Int.emod_lt_of_pos _ h, rfl⟩
theorem cmul_l {i j : Int} (h : -18446744073709551616 < i ∧ i < 18446744073709551616) : CMul i j := .inl h
theorem cmul_r {i j : Int} (h : -18446744073709551616 < j ∧ j < 18446744073709551616) : CMul i j := .inr h
theorem cdiv_of {i j : Int} (h : 0 < j) (h2 : j < 1073741824) : CDiv i j := ⟨h, h2⟩
theorem ex_at {H H' : Hp} {p : Addr} {o : HO} (e : Ex H H') (h : H p = some o) : H' p = some o := e p o h
end Ch

namespace Ch
open PySem L2 Evl
/-! ### two promises of one def; one that lets nothing out where something may leave -/
section
variable {P : Program} {w : World} {K : PySem.W.Frag} {mg : Str → Option Value} {base : Heap} {k : Nat} {f : Addr} {fd : FuncData} {ps : List Str}
theorem FnOk.lift {sp : Sp} {CX : CXT} (F : FnOk P w K mg base CX0 k f fd ps sp) : FnOk P w K mg base CX k f fd ps sp :=
  ⟨F.len, fun A outer s H args us vs Q E hr e0 hb r h => codeAny_mono (F.run A outer s H args us vs Q E hr e0 hb r h) fun res s' hq => by
    cases res with
    | error e => exact False.elim hq
    | ok fl => cases fl <;> exact hq⟩
theorem FnOk.both {sp sp' : Sp} {CX : CXT} (F : FnOk P w K mg base CX k f fd ps sp) (G : FnOk P w K mg base CX k f fd ps sp') : FnOk P w K mg base CX k f fd ps (fun vs H Q E => sp vs H Q E ∨ sp' vs H Q E) :=
  ⟨fun vs H Q E h => h.elim (F.len vs H Q E) (G.len vs H Q E), fun A outer s H args us vs Q E hr e0 hb r h => h.elim (F.run A outer s H args us vs Q E hr e0 hb r) (G.run A outer s H args us vs Q E hr e0 hb r)⟩
end
/-- an error of the class c leaves, all that stood as it was -/
def RE (c : Addr) (H : Hp) (E : XK) : Prop := ∀ H', Ex H H' → E (.ref c) none H'
theorem RE.go {c : Addr} {H H1 : Hp} {E : XK} (h : RE c H E) (e : Ex H H1) : RE c H1 E := fun H' e' => h H' (e.trans e')
/-- asked_prime, asked_many where they may refuse -/
def sxP (good : Int → Bool) (c : Addr) : Sp := fun vs H Q E => ∃ n : Int, vs = [.int n] ∧ (good n = true → RetV .non H Q) ∧ (good n = false → RE c H E)
section
variable {K : PySem.W.Frag} {σ : L2.St} {H : Hp} {D : Ends} {tz tu : TS} {i : Nat} {n : Int} {good : Int → Bool} {c : Addr} {E : XK}
theorem q_ask (hx : σ[i]? = some (some (.int n))) (h1 : good n = true → ∀ H1, Ex H H1 → tz D σ H1) (h2 : good n = false → RE c H E) : tSeq (tDrop (tCall (sxP good c) [] E (tCons (tVar i) tNil))) tz D σ H :=
  ⟨.int n, hx, n, rfl, fun hg H1 e => h1 hg H1 e, h2⟩
/-- if which == j: .. -/
theorem q_skip {w j : Int} (hx : σ[i]? = some (some (.int w))) (h : w ≠ j) (k : tz D σ H) : tSeq (tIfS (tTest (tOp rEq (tVar i) (tC (.int j)))) tu tNext) tz D σ H := by
  refine ⟨.int w, hx, rfl, _, rfl, ?_⟩
  rw [decide_eq_false (fun z => h (V.int.inj z))]
  exact k
theorem s_skip {w j : Int} (hx : σ[i]? = some (some (.int w))) (h : w ≠ j) (k : D.nx σ H) : tIfS (tTest (tOp rEq (tVar i) (tC (.int j)))) tu tNext D σ H := by
  refine ⟨.int w, hx, rfl, _, rfl, ?_⟩
  rw [decide_eq_false (fun z => h (V.int.inj z))]
  exact k
theorem q_take {j : Int} (hx : σ[i]? = some (some (.int j))) (k : tu { D with nx := tz D } σ H) : tSeq (tIfS (tTest (tOp rEq (tVar i) (tC (.int j)))) tu tNext) tz D σ H := by
  refine ⟨.int j, hx, rfl, _, rfl, ?_⟩
  rw [decide_eq_true rfl]
  exact k
theorem s_take {j : Int} (hx : σ[i]? = some (some (.int j))) (k : tu D σ H) : tIfS (tTest (tOp rEq (tVar i) (tC (.int j)))) tu tNext D σ H := by
  refine ⟨.int j, hx, rfl, _, rfl, ?_⟩
  rw [decide_eq_true rfl]
  exact k
/-- a call whose value is thrown away -/
theorem s_dropX {sp : Sp} {ta : TA} {vs : List V} (h : EvA ta σ H vs) (k : ∀ H1, Ex H H1 → sp vs H1 (fun _ H2 => D.nx σ H2) E) : tDrop (tCall sp [] E ta) D σ H := h H (Ex.refl H) _ fun H1 e => by
  show sp (vs ++ []) H1 _ E
  rw [List.append_nil]
  exact k H1 e
end
/-! ### a def that is called with the error that a suite holds -/
structure FnE (P : Program) (w : World) (K : PySem.W.Frag) (mg : Str → Option Value) (base : Heap) (k : Nat) (f : Addr) (fd : FuncData) (ps : List Str) (sp : Addr → Value → Option Addr → Sp) : Prop where
  len : ∀ a c d vs H Q E, sp a c d vs H Q E → vs.length = ps.length
  run : ∀ (A : Around) (outer : List Env) (s : Shared) (H : Hp) (args : Args) (us : List Value) (vs : List V) (Q : VK) (E : XK) (p : Addr × Obj) (c : Value) (d : Option Addr),
    L2H.RoomH k A → L2H.PinOk outer H s p → Zc c d p.2 → (∃ z, p.2.data = .fields z) → Env0 P w K mg base A outer s H → BindsTo s fd args (ps.zip us) → Vals vs us → sp p.1 c d vs H Q E →
    codeAny (model P w) A (.call (.ref f) args) (CR CX0 outer P w H s Q E) s
section
variable {P : Program} {w : World} {K : PySem.W.Frag} {mg : Str → Option Value} {base : Heap} {k : Nat} {f : Addr}
theorem fnE_of {st : Stmt} {nm q : Str} {dV kV doc pm cdv ct oc : Value} {an od : Option Addr} {osl : Array (Option Value)} {N ps : List Str} {sp : Addr → Value → Option Addr → Sp}
    (lk : K.lookup f = some ⟨oc, od, .func (PySem.W.fnOf nm q (defArgs st) (defBody st) (defScope st) dV kV doc pm an cdv ct), osl⟩) (hcd : PySem.W.codeIn K cdv q = true) (S : FnScope N ps (defScope st))
    (len : ∀ a c d vs H Q E, sp a c d vs H Q E → vs.length = ps.length)
    (hbody : ∀ (A : Around) (outer : List Env) (s : Shared) (H : Hp) (vs : List V) (Q : VK) (E : XK) (p : Addr × Obj) (c : Value) (d : Option Addr), Zc c d p.2 → (∃ z, p.2.data = .fields z) → sp p.1 c d vs H Q E →
      ∃ t, PSs (L2H.cxH CX0 P w K mg base N q (defScope st) f cdv A outer s H E p) (defBody st) t ∧ t { nx := fun _ H' => Q .non H', rt := Q } (L2.start N vs) H) :
    FnE P w K mg base (k + 1) f (PySem.W.fnOf nm q (defArgs st) (defBody st) (defScope st) dV kV doc pm an cdv ct) ps sp := by
  constructor
  · exact len
  intro A outer s H args us vs Q E p c d room pin zc fld e0 binds vals hsp
  have kin : K.In s.heap := e0.mod.kin.keeps fun b o z => (e0.bs b o z).1
  have nolim : s.heap.NoLimit := e0.mod.nolimit.keeps fun b o z => (e0.bs b o z).1
  have kinds : ∀ y ∈ ps.zip us, (defScope st).names.lookup y.1 = some .local ∨ ((defScope st).names.lookup y.1 = some .cell ∧ ((cellsFrom (s.heap.objs.size + 1) (defScope st).names []).lookup y.1).isSome = true) := by
    intro y hy
    obtain ⟨y1, y2⟩ := y
    rcases S.par y1 (List.of_mem_zip hy).1 with z | z
    · exact Or.inl z
    · exact Or.inr ⟨z, PySem.W.cellsFrom_some _ _ _ (Or.inl z)⟩
  refine codeAny_call_function room.depth (kin _ _ lk) rfl S.co S.gen rfl (PySem.W.codeRec_of kin hcd) (binds _ _ _ _ ?_)
  refine wpAny_newFunctionEnv_cells S.kind kinds fun env henv s1 inc => ?_
  subst henv
  refine ⟨nolim.keeps inc.toInCall.keep, codeAny_func ?_⟩
  obtain ⟨t, der, rd⟩ := hbody A outer s H vs Q E p c d zc fld hsp
  have J0 := L2H.inv_startH (CX := CX0) (E := E) (qual := q) (f := f) (cd := cdv) S pin e0 (len _ _ _ _ _ _ _ hsp) vals inc
  refine wpAny_mono (der.run [] s1 (L2.start N vs) H _ J0 rd) (fun fl s' hs => ?_) fun _ _ z => z
  match fl, hs with
  | .ret u, ⟨v, _, H', J, rv, hq⟩ => exact ⟨v, H', J.os, J.bare, J.base, J.hok, rv, hq⟩
  | .next, ⟨_, H', J, hq⟩ => exact ⟨V.non, H', J.os, J.bare, J.base, J.hok, rfl, hq⟩
  | .brk, ⟨_, _, _, z⟩ => exact z.elim
  | .cont, ⟨_, _, _, z⟩ => exact z.elim
end
section
variable {X : Cx} {k : Nat} {f a : Addr} {fd : FuncData} {ps : List Str} {sp : Addr → Value → Option Addr → Sp} {x : Str} {q pos : Pos} {e : Expr} {es : List Expr} {t : TA} {oe : Obj} {pn : List (Addr × Obj)} {c : Value} {d : Option Addr}
def tCallE (sp : Addr → Value → Option Addr → Sp) (a : Addr) (c : Value) (d : Option Addr) (t : TA) : TE := fun σ H Q => t σ H fun vs H1 => sp a c d vs H1 Q E0
theorem pe_callE (F : FnE X.prog X.w X.K X.mg X.base k f fd ps sp) (hr : Room k X.A) (hz : Zc c d oe) (hf : ∃ z, oe.data = .fields z) (hg : Gl X x) (hm : X.mg x = some (.ref f)) (hk : PySem.W.keepIn X.K (.ref f) = true) (hb : Binds X.K fd ps [])
    (ha : PA (X.suite a ((a, oe) :: pn)) (e :: es) t) (hdb : (x == ("__debug__" : Str)) = false := by decide) (he : starEach (e :: es) X.env = (false, eval e X.env) :: starEach es X.env := by rfl) (hpl : (backTo pos (starEach es X.env)).any (·.1) = false := by rfl) :
    PE (X.suite a ((a, oe) :: pn)) (.Call (.Name x q) (e :: es) [] pos) (tCallE sp a c d t) := by
  constructor
  intro pins s σ H Q I h
  refine wpAny_Call_Name_kw (ld_glob I hg hm ?_ hdb)
  refine PySem.W.callWith_K (h₀ := X.base) I.ok.mod.kin hk (thn (ha.run pos pins s σ H _ I h) fun us s1 hx => ?_) he hpl
  obtain ⟨vs, H1, J, r, hsp⟩ := hx
  refine ⟨J.kIn, ?_⟩
  have hl : us.length = ps.length := r.length ▸ F.len _ _ _ _ _ _ _ hsp
  have bt := hb s1 us J.kIn (by rw [List.append_nil]; exact hl)
  rw [List.append_nil] at bt
  obtain ⟨g1, g2, g3, g4, g5⟩ := J.pin (a, oe) (List.mem_append_left _ List.mem_cons_self)
  have stk : a ∉ frs (X.suite a ((a, oe) :: pn)).stack := fun z => (List.mem_cons.mp (J.stkSub a z)).elim g3 g4
  refine wpAny_call (codeAny_mono (F.run _ _ s1 H1 ⟨us, []⟩ us vs Q E0 (a, oe) c d ⟨hr.dp, hr.un⟩ ⟨g1, g2, stk, g5⟩ hz hf J.env0 bt r hsp) fun res s' hq => ?_)
  match res, hq with
  | .error _, z => exact False.elim z
  | .ok (.ret _), z => exact J.after z
  | .ok .next, z => exact False.elim z
  | .ok .brk, z => exact False.elim z
  | .ok .cont, z => exact False.elim z
end
/-- isinstance(e, c), e the error that is borne -/
theorem call_isP {X : Cx} {p : Addr × Obj} {D : Addr} (C : ExcC X.K D) (hp : p ∈ X.pn) (hz : Zc (.ref D) none p.2) (hf : ∃ z, p.2.data = .fields z) : CallR X (.builtin "isinstance") (rIsE X.K D p.1) := by
  rintro pins s σ H xs us Q I r ⟨c, cv, b, rfl, hcv, hk, hq⟩
  obtain ⟨u1, u2, rfl, r1, r2⟩ := vals2 r
  obtain rfl : u1 = .ref p.1 := r1
  obtain rfl := hcv _ r2
  have g := (I.pin p (List.mem_append_left _ hp)).1
  obtain ⟨z, hd⟩ := hf
  have J : PySem.W.InstAt s.heap p.1 p.2 D none := by
    obtain ⟨p1, oc, od, oda, osl⟩ := p
    obtain ⟨z1, z2⟩ := hz
    simp only at z1 z2 hd
    subst z1 z2 hd
    exact ⟨g, rfl, rfl, trivial⟩
  exact PySem.W.kia_one (PySem.W.handS_kitx_exc C.hg C.hk C.hs C.hd C.ha C.hn C.ht C.hm) I.kIn J hk (fun y => nomatch y) fun tk => ⟨.bl b, H, I.kept (t' := tk) fun _ _ y => y, rfl, hq⟩
/-- xs.count(True), of truth values -/
def rCntB (K : PySem.W.Frag) : V → List V → Hp → VK → Prop := fun x xs H Q => ∃ (p : Addr) (bs : List Bool) (k : Bool), x = .ref p ∧ xs = [.bl k] ∧ SqL K H p (bs.map V.bl) ∧ Q (.int (PySem.Spec.countIn (.bool k) (bs.map PyData.bool))) H
theorem reads_bools {h : Heap} : ∀ bs : List Bool, ReadsAll h (bs.map Value.bool) (bs.map PyData.bool) []
  | [] => .nil
  | b :: r => .cons (Reads.bool b) (reads_bools r)
theorem mt_bcount {X : Cx} : MtR X "list.count" (rCntB X.K) := by
  rintro pins s σ H x xs v us Q I rx rxs ⟨p, bs, k, rfl, rfl, hs, hq⟩
  cases rx
  obtain ⟨u, rfl, ru⟩ := rxs.one
  cases ru
  obtain ⟨its, rv, hl, _⟩ := I.list hs
  have hb := rv.bls
  subst hb
  refine PyProof.Rows.count_list_bools hl.isList (reads_bools (h := s.heap) bs) ?_ ⟨.int _, H, I.tok _, ⟨_, rfl⟩, hq⟩
  rw [List.all_eq_true]
  intro y hy
  obtain ⟨b, _, rfl⟩ := List.mem_map.mp hy
  rfl
end Ch
namespace Ch
open PySem L2 Evl
local macro_rules | `(tactic| walk_at "side") => `(tactic| first | omega | (with_reducible assumption) | decide | (constructor <;> first | omega | (with_reducible assumption)))
local macro_rules | `(tactic| walk_at "list") => `(tactic| first | assumption | (refine ex_at (by assumption) ?_; walk_at "list"))
local macro_rules | `(tactic| walk_at "sq") => `(tactic| first | assumption | (refine sq_of ?_; assumption) | (refine ex_l (by assumption) ?_; walk_at "sq"))
local macro_rules | `(tactic| walk_at "op_mod") => `(tactic| first | omega | (with_reducible assumption))
local macro_rules | `(tactic| walk_at "op_fdiv") => `(tactic| exact cdiv_of (by omega) (by omega))
local macro_rules | `(tactic| walk_at "op_mul") => `(tactic| first | exact cmul_l (by omega) | exact cmul_r (by omega))
local macro_rules | `(tactic| walk_at "op_pow") => `(tactic| decide)
local macro_rules | `(tactic| walk_at "sv__law_cell_at") => `(tactic| exact ⟨by walk_at "sq", by first | decide | omega⟩)
local macro_rules | `(tactic| walk_at "ix") => `(tactic| first | exact at0 | exact at1)
local macro_rules | `(tactic| walk_at "len") => `(tactic| (simp only [List.length_append, List.length_map, List.length_cons, List.length_nil, List.length_range, List.length_take]; omega))

def topS (i : Nat) : Stmt := PySem.Challenge.pw_choicefigures_k14_refused.main.body.getD i (.Pass ⟨0, 0, 0, 0⟩)
/-! ### is_prime -/
abbrev s_is_prime : Stmt := topS 9
theorem sc_is_prime : FnScope ["number", "part"] ["number"] (defScope s_is_prime) := ⟨rfl, rfl, rfl, by decide +kernel, rfl, by decide +kernel, by decide +kernel⟩
/-- what is_prime says of any whole number -/
def isPb (n : Int) : Bool := !(decide (n < 2) || decide (97 < n)) && ((List.range (n - 2).toNat).map fun (a : Nat) => decide (0 < n % (2 + (a : Int)))).all id
theorem isPb_of {p : Nat} (h : IsP p) : isPb p = true := (show ∀ p ∈ ps, isPb ((p : Nat) : Int) = true by decide +kernel) p h
def sp_is_prime (K : PySem.W.Frag) : Sp := fun vs H Q _ => ∃ n : Int, vs = [.int n] ∧ RetV (.bl (isPb n)) H Q
theorem sv_is_prime {K : PySem.W.Frag} {H : Hp} {n : Int} : SpV (sp_is_prime K) [.int n] H (.bl (isPb n)) := fun H1 _ Q q _ => ⟨n, rfl, q⟩
theorem ok_is_prime {P : Program} {w : World} {K : PySem.W.Frag} {mg : Str → Option Value} {base : Heap} {f : Addr} {fd : FuncData} {t_GREATEST_PRIME : Tok} (F : Fun K "is_prime" "is_prime" s_is_prime f fd) (z_all : mg "all" = none) (z_range : mg "range" = none) (g_GREATEST_PRIME : mg "GREATEST_PRIME" = some (.int 97 t_GREATEST_PRIME)) :
    FnOk P w K mg base CX0 1 f fd ["number"] (sp_is_prime K) := by
  refine F.ok sc_is_prime (fun vs H Q E h => ?_) (fun cdv A outer s H vs Q E hr h => ?_)
  · obtain ⟨n, rfl, q⟩ := h
    rfl
  · obtain ⟨n, rfl, q⟩ := h
    refine ⟨_, (pss_cons (ps_if (PW.pt (pw_or (pt_cmpR op_lt (pv 0) pe_int (nomark _)) (pw_or1 (pt_cmpR op_gt (pv 0) (pe_glob (v := .int 97) rfl g_GREATEST_PRIME ⟨_, rfl⟩) (nomark _))))) (pss_one (ps_ret pe_bl)) pss_nil)
      (pss_one (ps_ret (pe_callB (cr_all rfl) (by rfl) z_all (by decide +kernel) (pa_cons (pe_lc (own := [("part", 1)]) (g := gName 1) (tt := tYes) (te := (tOp (rI0 fun i j => .bl (decide (j < i))) (tOp (rI (fun _ j => 0 < j) fun i j => .int (i % j)) (tVar 0) (tVar 1)) (tC (.int 0)))) rfl sc_is_prime.nd (pi_range2 (by rfl) z_range (pa_cons pe_int (pa_cons (pv 0) pa_nil))) (blkOk_by (own := [("part", 1)]) (N := ["number", "part"]) (sc := defScope s_is_prime) (by decide +kernel)) (fun _ _ _ _ _ => pg_name (i := 1) sc_is_prime.nd rfl (Or.inl rfl)) (fun _ _ _ _ _ => pts_nil) (fun _ _ _ _ _ => (pe_cmpR op_gt (pe_op op_mod (pv 0) (pv 1)) pe_int (nomark _)))) pa_nil))))), ?_⟩
    refine q_when (et_or (et_test (ev_op (ev_var rfl) ev_c rv_I0)) (fun _ => (et_test (ev_op (ev_var rfl) ev_c rv_I0)))) (fun hb H1 e1 => ?_) (fun hb H1 e1 => ?_)
    · refine s_ret ev_c fun H2 e2 => ?_
      have z := q H2 (e1.trans e2)
      unfold isPb at z
      rw [hb] at z
      exact z
    · have hb' := hb
      rw [Bool.or_eq_false_iff, decide_eq_false_iff_not, decide_eq_false_iff_not] at hb'
      refine s_ret (ev_allK (bs := (List.range (n - 2).toNat).map fun (a : Nat) => decide (0 < n % (2 + (a : Int)))) (EvK.of (el_eq (el_mpR2 (n := (n - 2).toNat) (fun (a : Nat) => V.bl (decide (0 < n % (2 + (a : Int))))) (ea_cons ev_c (ea_cons (ev_var rfl) ea_nil)) rfl (by omega) (by omega) (fun _ => rfl) (fun a H2 e2 ha => ?_)) (by rw [List.map_map] <;> rfl)))) fun H2 e2 => ?_
      · exact (ev_op (ev_op (ev_var rfl) (ev_var rfl) (rv_I (by walk_at "op_mod"))) ev_c rv_I0)
      · have z := q H2 (e1.trans e2)
        unfold isPb at z
        rw [hb] at z
        exact z
/-! ### asked_many -/
abbrev s_asked_many : Stmt := topS 11
theorem sc_asked_many : FnScope ["many"] ["many"] (defScope s_asked_many) := ⟨rfl, rfl, rfl, by decide +kernel, rfl, by decide +kernel, by decide +kernel⟩
def sp_asked_many (K : PySem.W.Frag) : Sp := fun vs H Q _ => ∃ n : Int, vs = [.int n] ∧ 0 ≤ n ∧ n ≤ 1000000000000000000000000000000 ∧ RetV .non H Q
theorem sv_asked_many {K : PySem.W.Frag} {H : Hp} {n : Int} (h : 0 ≤ n ∧ n ≤ 1000000000000000000000000000000) : SpV (sp_asked_many K) [.int n] H .non := fun H1 _ Q q _ => ⟨n, rfl, h.1, h.2, q⟩
theorem ok_asked_many {P : Program} {w : World} {K : PySem.W.Frag} {mg : Str → Option Value} {base : Heap} {f : Addr} {fd : FuncData} {t_GREATEST : Tok} (F : Fun K "asked_many" "asked_many" s_asked_many f fd) (g_GREATEST : mg "GREATEST" = some (.int 1000000000000000000000000000000 t_GREATEST)) :
    FnOk P w K mg base CX0 1 f fd ["many"] (sp_asked_many K) := by
  refine F.ok sc_asked_many (fun vs H Q E h => ?_) (fun cdv A outer s H vs Q E hr h => ?_)
  · obtain ⟨n, rfl, h0, h1, q⟩ := h
    rfl
  · obtain ⟨n, rfl, h0, h1, q⟩ := h
    refine ⟨_, (pss_one (ps_if (PW.pt (pw_or (pt_cmpR op_lt (pv 0) pe_int (nomark _)) (pw_or1 (pt_cmpR op_gt (pv 0) (pe_glob (v := .int 1000000000000000000000000000000) rfl g_GREATEST ⟨_, rfl⟩) (nomark _))))) (pss_one ps_never) pss_nil)), ?_⟩
    refine s_when (et_or (et_test (ev_op (ev_var rfl) ev_c rv_I0)) (fun _ => (et_test (ev_op (ev_var rfl) ev_c rv_I0)))) (fun hb => ?_) (fun _ H1 e1 => q H1 e1)
    have : ¬ (n < 0) := by omega
    have : ¬ (1000000000000000000000000000000 < n) := by omega
    simp_all
/-! ### figures_of -/
abbrev s_figures_of : Stmt := topS 12
theorem sc_figures_of : FnScope ["number", "prime", "found"] ["number", "prime"] (defScope s_figures_of) := ⟨rfl, rfl, rfl, by decide +kernel, rfl, by decide +kernel, by decide +kernel⟩
def sp_figures_of (K : PySem.W.Frag) : Sp := fun vs H Q _ => ∃ n p : Nat, vs = [.int (n : Int), .int (p : Int)] ∧ IsP p ∧ n ≤ 1000000000000000000000000000000 ∧ RetL ((digs p n).map nv) H Q
theorem sv_figures_of {K : PySem.W.Frag} {H : Hp} {n p : Nat} (h : IsP p ∧ n ≤ 1000000000000000000000000000000) : SpL (sp_figures_of K) [.int (n : Int), .int (p : Int)] H ((digs p n).map nv) := fun H1 _ Q q _ => ⟨n, p, rfl, h.1, h.2, q⟩
theorem digs_len100 {p n : Nat} (hp : IsP p) (hn : n ≤ 1000000000000000000000000000000) : (digs p n).length ≤ 100 := digs_len hp.ge 100 n (Nat.lt_of_le_of_lt hn (by decide))
theorem ok_figures_of {P : Program} {w : World} {K : PySem.W.Frag} {mg : Str → Option Value} {base : Heap} {f : Addr} {fd : FuncData} (F : Fun K "figures_of" "figures_of" s_figures_of f fd) :
    FnOk P w K mg base CX0 1 f fd ["number", "prime"] (sp_figures_of K) := by
  refine F.ok sc_figures_of (fun vs H Q E h => ?_) (fun cdv A outer s H vs Q E hr h => ?_)
  · obtain ⟨n, p, rfl, hp, hn, q⟩ := h
    rfl
  · obtain ⟨n, p, rfl, hp, hn, q⟩ := h
    refine ⟨_, (pss_cons (ps_set (i := 2) sc_figures_of.nd rfl (Or.inl rfl) (pe_lst pa_nil))
      (pss_cons (ps_while PassesOwn.never (pt_cmpR op_gt (pv 0) pe_int (nomark _)) (pss_cons (ps_expr (pe_bm PySem.F.plainAttrs_list PySem.F.slot_list_append PySem.F.type_list_append mt_append (pv 2) (pa_cons (pe_op op_mod (pv 0) (pv 1)) pa_nil)))
      (pss_one (ps_set (i := 0) sc_figures_of.nd rfl (Or.inl rfl) (pe_op op_fdiv (pv 0) (pv 1))))))
      (pss_one (ps_ret (pv 2))))), ?_⟩
    have p2 := hp.ge
    have p97 := hp.le
    refine q_asgL (xs := []) (el_lst ea_nil (by simp)) fun l H1 nl e1 hl => ?_
    refine q_while (fun m σ H' => ∃ (k : Nat) (acc : List Nat), σ = [some (.int (k : Int)), some (.int (p : Int)), some (.ref l)] ∧ m = k ∧ H' l = some (.lst (acc.map nv)) ∧ acc ++ digs p k = digs p n ∧ Ex H H') n
      ⟨n, [], rfl, rfl, hl, rfl, e1⟩ (fun m σ H2 hw => ?_)
    obtain ⟨k, acc, rfl, rfl, ha, he, E⟩ := hw
    refine ⟨_, (et_test (ev_op (ev_var rfl) ev_c rv_I0)), fun hb H3 e3 => ⟨_, fun _ _ h => h, ?_⟩, fun hb H3 e3 => ?_⟩
    · have hk : 0 < m := by have := of_decide_eq_true hb; omega
      have hd := digs_s p2 hk
      have hl100 := digs_len100 hp hn
      rw [← he, List.length_append] at hl100
      refine q_app (ex_at e3 ha) (ev_var rfl) (ev_op (ev_var rfl) (ev_var rfl) (rv_I (by walk_at "op_mod"))) (by rw [List.length_map]; omega) fun H4 e4 => ?_
      refine s_asg (ev_op (ev_var rfl) (ev_var rfl) (rv_I (by walk_at "op_fdiv"))) fun H5 e5 => ⟨m / p, div_lt p2 hk, m / p, acc ++ [m % p], rfl, rfl, ?_, ?_, ?_⟩
      · rw [e5 l _ upd_same, List.map_append]
        rfl
      · rw [List.append_assoc, ← he, hd]
        rfl
      · exact (Ex.mut ((E.trans e3).trans e4) nl).trans e5
    · have hk : m = 0 := by have := of_decide_eq_false hb; omega
      rw [hk, digs_0, List.append_nil] at he
      rw [he] at ha
      exact s_ret (ev_var rfl) fun H4 e4 => q l H4 nl ((E.trans e3).trans e4) (e4 l _ (e3 l _ ha))
/-! ### carried -/
abbrev s_carried : Stmt := topS 14
theorem sc_carried : FnScope ["one", "other", "prime", "found", "carry"] ["one", "other", "prime"] (defScope s_carried) := ⟨rfl, rfl, rfl, by decide +kernel, rfl, by decide +kernel, by decide +kernel⟩
def sp_carried (K : PySem.W.Frag) : Sp := fun vs H Q _ => ∃ a b p : Nat, vs = [.int (a : Int), .int (b : Int), .int (p : Int)] ∧ IsP p ∧ RetV (.int (car p a b 0 : Nat)) H Q
theorem sv_carried {K : PySem.W.Frag} {H : Hp} {a b p : Nat} (h : IsP p) : SpV (sp_carried K) [.int (a : Int), .int (b : Int), .int (p : Int)] H (.int (car p a b 0 : Nat)) := fun H1 _ Q q _ => ⟨a, b, p, rfl, h, q⟩
theorem ok_carried {P : Program} {w : World} {K : PySem.W.Frag} {mg : Str → Option Value} {base : Heap} {f : Addr} {fd : FuncData} (F : Fun K "carried" "carried" s_carried f fd) (z_int : mg "int" = none) :
    FnOk P w K mg base CX0 1 f fd ["one", "other", "prime"] (sp_carried K) := by
  refine F.ok sc_carried (fun vs H Q E h => ?_) (fun cdv A outer s H vs Q E hr h => ?_)
  · obtain ⟨a, b, p, rfl, hp, q⟩ := h
    rfl
  · obtain ⟨a, b, p, rfl, hp, q⟩ := h
    refine ⟨_, (pss_cons (ps_set (i := 3) sc_carried.nd rfl (Or.inl rfl) pe_int)
      (pss_cons (ps_set (i := 4) sc_carried.nd rfl (Or.inl rfl) pe_int)
      (pss_cons (ps_while PassesOwn.never (PW.pt (pw_or (pt_cmpR op_gt (pv 0) pe_int (nomark _)) (pw_or1 (pt_cmpR op_gt (pv 1) pe_int (nomark _))))) (pss_cons (ps_set (i := 4) sc_carried.nd rfl (Or.inl rfl) (pe_callTy call_int1 (by rfl) z_int (by decide +kernel) (pa_cons (pe_cmpR op_ge (pe_op op_add (pe_op op_add (pe_op op_mod (pv 0) (pv 2)) (pe_op op_mod (pv 1) (pv 2))) (pv 4)) (pv 2) (nomark _)) pa_nil)))
      (pss_cons (ps_set (i := 3) sc_carried.nd rfl (Or.inl rfl) (pe_op op_add (pv 3) (pv 4)))
      (pss_cons (ps_set (i := 0) sc_carried.nd rfl (Or.inl rfl) (pe_op op_fdiv (pv 0) (pv 2)))
      (pss_one (ps_set (i := 1) sc_carried.nd rfl (Or.inl rfl) (pe_op op_fdiv (pv 1) (pv 2))))))))
      (pss_one (ps_ret (pv 3)))))), ?_⟩
    have p2 := hp.ge
    have p97 := hp.le
    refine q_asg ev_c fun H1 e1 => ?_
    refine q_asg ev_c fun H2 e2 => ?_
    refine q_whileK (fun m σ => ∃ x y c r : Nat, σ = [some (.int (x : Int)), some (.int (y : Int)), some (.int (p : Int)), some (.int (r : Int)), some (.int (c : Int))] ∧ m = x + y ∧ r + car p x y c = car p a b 0) (a + b)
      ⟨a, b, 0, 0, rfl, rfl, Nat.zero_add _⟩ (fun m σ H3 e3 hw => ?_)
    obtain ⟨x, y, c, r, rfl, rfl, hr'⟩ := hw
    refine ⟨_, (et_or (et_test (ev_op (ev_var rfl) ev_c rv_I0)) (fun _ => (et_test (ev_op (ev_var rfl) ev_c rv_I0)))), fun hb H4 e4 => ?_, fun hb H4 e4 => ?_⟩
    · have hxy : 0 < x ∨ 0 < y := by
        rw [Bool.or_eq_true, decide_eq_true_eq, decide_eq_true_eq] at hb
        omega
      refine q_asg (v := .int ((cin p x y c : Nat) : Int)) (ev_is (ev_intB (ev_op (ev_op (ev_op (ev_op (ev_var rfl) (ev_var rfl) (rv_I (by walk_at "op_mod"))) (ev_op (ev_var rfl) (ev_var rfl) (rv_I (by walk_at "op_mod"))) rv_I0) (ev_var rfl) rv_I0) (ev_var rfl) rv_I0)) ?_) fun H5 e5 => ?_
      · unfold cin
        by_cases h : p ≤ x % p + y % p + c
        · rw [if_pos h, decide_eq_true (by exact_mod_cast h)]
          rfl
        · rw [if_neg h, decide_eq_false (by exact_mod_cast h)]
          rfl
      refine q_asg (ev_op (ev_var rfl) (ev_var rfl) rv_I0) fun H6 e6 => ?_
      refine q_asg (ev_op (ev_var rfl) (ev_var rfl) (rv_I (by walk_at "op_fdiv"))) fun H7 e7 => ?_
      refine s_asg (ev_op (ev_var rfl) (ev_var rfl) (rv_I (by walk_at "op_fdiv"))) fun H8 e8 => ⟨((e5.trans e6).trans e7).trans e8, x / p + y / p, ab_lt p2 hxy, x / p, y / p, cin p x y c, r + cin p x y c, rfl, rfl, ?_⟩
      rw [← hr', car_s p2 hxy]
      omega
    · rw [Bool.or_eq_false_iff, decide_eq_false_iff_not, decide_eq_false_iff_not] at hb
      rw [show x = 0 by omega, show y = 0 by omega, car_0, Nat.add_zero] at hr'
      rw [← hr'] at q
      exact s_ret (ev_var rfl) fun H5 e5 => q H5 (((e1.trans e2).trans e4).trans e5)
/-! ### count -/
abbrev s_count : Stmt := topS 19
theorem sc_count : FnScope ["many", "some", "found", "k"] ["many", "some"] (defScope s_count) := ⟨rfl, rfl, rfl, by decide +kernel, rfl, by decide +kernel, by decide +kernel⟩
/-- the choices, of whole numbers -/
def Ci (n k : Int) : Int := if k < 0 ∨ k > n then 0 else ((C n.toNat k.toNat : Nat) : Int)
def sp_count (K : PySem.W.Frag) : Sp := fun vs H Q _ => ∃ n k : Int, vs = [.int n, .int k] ∧ n ≤ 400 ∧ RetV (.int (Ci n k)) H Q
theorem sv_count {K : PySem.W.Frag} {H : Hp} {n k : Int} (h : n ≤ 400) : SpV (sp_count K) [.int n, .int k] H (.int (Ci n k)) := fun H1 _ Q q _ => ⟨n, k, rfl, h, q⟩
theorem Ci_nat {n k : Nat} : Ci n k = (C n k : Nat) := by
  unfold Ci
  by_cases h : k ≤ n
  · rw [if_neg (by omega), Int.toNat_natCast, Int.toNat_natCast]
  · rw [if_pos (by omega), C_gt (by omega)]
    rfl
theorem Ci_out {n k : Int} (h : k < 0 ∨ k > n) : Ci n k = 0 := if_pos h
theorem Ci_pascal {n k : Int} (h0 : 1 ≤ n) : Ci n k = Ci (n - 1) k + Ci (n - 1) (k - 1) := by
  obtain ⟨m, rfl⟩ : ∃ m : Nat, n = ((m + 1 : Nat) : Int) := ⟨n.toNat - 1, by omega⟩
  rw [show (((m + 1 : Nat) : Int) - 1) = (m : Int) by omega]
  by_cases h : k < 0
  · rw [Ci_out (.inl h), Ci_out (.inl h), Ci_out (by omega)]
    rfl
  · obtain ⟨j, rfl⟩ : ∃ j : Nat, k = j := ⟨k.toNat, by omega⟩
    cases j with
    | zero =>
      rw [Ci_nat, Ci_nat, Ci_out (by omega), C_0r, C_0r]
      rfl
    | succ j =>
      rw [show (((j + 1 : Nat) : Int) - 1) = (j : Int) by omega, Ci_nat, Ci_nat, Ci_nat, C_ss]
      omega
theorem Ci_abs {n k : Int} (h0 : 1 ≤ n) : k * Ci n k = n * Ci (n - 1) (k - 1) := by
  obtain ⟨m, rfl⟩ : ∃ m : Nat, n = ((m + 1 : Nat) : Int) := ⟨n.toNat - 1, by omega⟩
  rw [show (((m + 1 : Nat) : Int) - 1) = (m : Int) by omega]
  by_cases h : k < 0
  · rw [Ci_out (.inl h), Ci_out (by omega)]
    omega
  · obtain ⟨j, rfl⟩ : ∃ j : Nat, k = j := ⟨k.toNat, by omega⟩
    cases j with
    | zero =>
      rw [Ci_out (n := (m : Int)) (by omega)]
      show (0 : Int) * _ = _ * 0
      rw [Int.zero_mul, Int.mul_zero]
    | succ j =>
      rw [show (((j + 1 : Nat) : Int) - 1) = (j : Int) by omega, Ci_nat, Ci_nat]
      have h := C_abs m j
      exact_mod_cast h
theorem Ci_symm {n k : Int} (h0 : 0 ≤ n) : Ci n (n - k) = Ci n k := by
  by_cases h : k < 0 ∨ k > n
  · rw [Ci_out h, Ci_out (by omega)]
  · obtain ⟨m, rfl⟩ : ∃ m : Nat, n = m := ⟨n.toNat, by omega⟩
    obtain ⟨j, rfl⟩ : ∃ j : Nat, k = j := ⟨k.toNat, by omega⟩
    rw [show ((m : Int) - (j : Int)) = ((m - j : Nat) : Int) by omega, Ci_nat, Ci_nat, C_symm m j (by omega)]
theorem ok_count {P : Program} {w : World} {K : PySem.W.Frag} {mg : Str → Option Value} {base : Heap} {f : Addr} {fd : FuncData} (F : Fun K "count" "count" s_count f fd) (z_range : mg "range" = none) :
    FnOk P w K mg base CX0 1 f fd ["many", "some"] (sp_count K) := by
  refine F.ok sc_count (fun vs H Q E h => ?_) (fun cdv A outer s H vs Q E hr h => ?_)
  · obtain ⟨n, k, rfl, hn, q⟩ := h
    rfl
  · obtain ⟨n, k, rfl, hn, q⟩ := h
    refine ⟨_, (pss_cons (ps_if (PW.pt (pw_or (pt_cmpR op_lt (pv 1) pe_int (nomark _)) (pw_or1 (pt_cmpR op_gt (pv 1) (pv 0) (nomark _))))) (pss_one (ps_ret pe_int)) pss_nil)
      (pss_cons (ps_set (i := 2) sc_count.nd rfl (Or.inl rfl) pe_int)
      (pss_cons (ps_for PassesOwn.never rfl (pi_range1 (by rfl) z_range (pa_cons (pv 1) pa_nil)) (pg_name (i := 3) sc_count.nd rfl (Or.inl rfl)) (pss_one (ps_set (i := 2) sc_count.nd rfl (Or.inl rfl) (pe_op op_fdiv (pe_op op_mul (pv 2) (pe_op op_sub (pv 0) (pv 3))) (pe_op op_add (pv 3) pe_int)))))
      (pss_one (ps_ret (pv 2)))))), ?_⟩
    refine q_when (et_or (et_test (ev_op (ev_var rfl) ev_c rv_I0)) (fun _ => (et_test (ev_op (ev_var rfl) (ev_var rfl) rv_I0)))) (fun hb H1 e1 => ?_) (fun hb H1 e1 => ?_)
    · refine s_ret ev_c fun H2 e2 => ?_
      rw [Bool.or_eq_true, decide_eq_true_eq, decide_eq_true_eq] at hb
      have z := q H2 (e1.trans e2)
      rw [Ci_out hb] at z
      exact z
    · rw [Bool.or_eq_false_iff, decide_eq_false_iff_not, decide_eq_false_iff_not] at hb
      obtain ⟨m, rfl⟩ : ∃ m : Nat, n = m := ⟨n.toNat, by omega⟩
      obtain ⟨j, rfl⟩ : ∃ j : Nat, k = j := ⟨k.toNat, by omega⟩
      rw [Ci_nat] at q
      refine q_asg ev_c fun H2 e2 => ?_
      refine q_forN1 (ea_cons (ev_var rfl) ea_nil) (by omega) (fun i σ => ∃ y, σ = [some (.int (m : Int)), some (.int (j : Int)), some (.int ((C m i : Nat) : Int)), y]) ⟨_, by rw [C_0r] <;> rfl⟩ (fun H3 i σ H4 e3 e4 hi hw => ?_) (fun σ H3 e3 hw => ?_)
      · obtain ⟨y, rfl⟩ := hw
        refine s_asg (ev_op (ev_op (ev_var rfl) (ev_op (ev_var rfl) (ev_var rfl) rv_I0) (rv_I (by walk_at "op_mul"))) (ev_op (ev_var rfl) ev_c rv_I0) (rv_I (by walk_at "op_fdiv"))) fun H5 e5 => ⟨e4.trans e5, some (.int (i : Int)), ?_⟩
        have e : ((C m i : Nat) : Int) * ((m : Int) - (i : Int)) / ((i : Int) + 1) = ((C m (i + 1) : Nat) : Int) := by
          have h := C_step m i (by omega)
          have h2 : ((C m i : Nat) : Int) * ((m : Int) - (i : Int)) = ((i : Int) + 1) * ((C m (i + 1) : Nat) : Int) := by
            rw [show ((m : Int) - (i : Int)) = ((m - i : Nat) : Int) by omega]
            have h3 : C m i * (m - i) = (i + 1) * C m (i + 1) := by rw [h, Nat.mul_comm]
            exact_mod_cast h3
          rw [h2, Int.mul_ediv_cancel_left _ (by omega)]
        rw [e]
        rfl
      · obtain ⟨y, rfl⟩ := hw
        exact s_ret (ev_var rfl) fun H4 e4 => q H4 (((e1.trans e2).trans e3).trans e4)
/-! ### order -/
abbrev s_order : Stmt := topS 23
theorem sc_order : FnScope ["figure", "prime", "found", "k"] ["figure", "prime"] (defScope s_order) := ⟨rfl, rfl, rfl, by decide +kernel, rfl, by decide +kernel, by decide +kernel⟩
def sp_order (K : PySem.W.Frag) : Sp := fun vs H Q _ => ∃ a p : Nat, vs = [.int (a : Int), .int (p : Int)] ∧ IsP p ∧ a < p ∧ RetV (.int ((Fc a % p : Nat) : Int)) H Q
theorem sv_order {K : PySem.W.Frag} {H : Hp} {a p : Nat} (h : IsP p ∧ a < p) : SpV (sp_order K) [.int (a : Int), .int (p : Int)] H (.int ((Fc a % p : Nat) : Int)) := fun H1 _ Q q _ => ⟨a, p, rfl, h.1, h.2, q⟩
theorem ok_order {P : Program} {w : World} {K : PySem.W.Frag} {mg : Str → Option Value} {base : Heap} {f : Addr} {fd : FuncData} (F : Fun K "order" "order" s_order f fd) (z_range : mg "range" = none) :
    FnOk P w K mg base CX0 1 f fd ["figure", "prime"] (sp_order K) := by
  refine F.ok sc_order (fun vs H Q E h => ?_) (fun cdv A outer s H vs Q E hr h => ?_)
  · obtain ⟨a, p, rfl, hp, ha, q⟩ := h
    rfl
  · obtain ⟨a, p, rfl, hp, ha, q⟩ := h
    refine ⟨_, (pss_cons (ps_set (i := 2) sc_order.nd rfl (Or.inl rfl) pe_int)
      (pss_cons (ps_for PassesOwn.never rfl (pi_range2 (by rfl) z_range (pa_cons pe_int (pa_cons (pe_op op_add (pv 0) pe_int) pa_nil))) (pg_name (i := 3) sc_order.nd rfl (Or.inl rfl)) (pss_one (ps_set (i := 2) sc_order.nd rfl (Or.inl rfl) (pe_op op_mod (pe_op op_mul (pv 2) (pv 3)) (pv 1)))))
      (pss_one (ps_ret (pv 2))))), ?_⟩
    have p2 := hp.ge
    have p97 := hp.le
    refine q_asg ev_c fun H1 e1 => ?_
    refine q_forN2 (n := a) (ea_cons ev_c (ea_cons (ev_op (ev_var rfl) ev_c rv_I0) ea_nil)) (by omega) (by omega) (fun i σ => ∃ y, σ = [some (.int (a : Int)), some (.int (p : Int)), some (.int ((Fc i % p : Nat) : Int)), y]) ⟨none, by rw [show Fc 0 % p = 1 from (Nat.mod_eq_of_lt (show 1 < p by omega) : 1 % p = 1)] <;> rfl⟩ (fun H2 i σ H3 e2 e3 hi hw => ?_) (fun σ H2 e2 hw => ?_)
    · obtain ⟨y, rfl⟩ := hw
      have m1 := Nat.mod_lt (Fc i) (show 0 < p by omega)
      refine s_asg (ev_op (ev_op (ev_var rfl) (ev_var rfl) (rv_I (by walk_at "op_mul"))) (ev_var rfl) (rv_I (by walk_at "op_mod"))) fun H4 e4 => ⟨e3.trans e4, some (.int (1 + (i : Int))), ?_⟩
      have e : ((Fc i % p : Nat) : Int) * (1 + (i : Int)) % (p : Int) = ((Fc (i + 1) % p : Nat) : Int) := by
        have z : Fc i % p * (1 + i) % p = Fc (i + 1) % p := by
          show _ = (i + 1) * Fc i % p
          rw [Nat.mul_comm (i + 1), Nat.add_comm 1 i]
          exact Eqm.mod.mul Eqm.rfl'
        exact congrArg (Nat.cast (R := Int)) z
      rw [e]
      rfl
    · obtain ⟨y, rfl⟩ := hw
      exact s_ret (ev_var rfl) fun H3 e3 => q H3 ((e1.trans e2).trans e3)
/-! ### contrary -/
abbrev s_contrary : Stmt := topS 24
theorem sc_contrary : FnScope ["number", "prime", "k"] ["number", "prime"] (defScope s_contrary) := ⟨rfl, rfl, rfl, by decide +kernel, rfl, by decide +kernel, by decide +kernel⟩
def ctrs (p x : Nat) : List Nat := (List.range (p - 1)).filter fun a => decide ((1 + a) * x % p = 1)
def ctr (p x : Nat) : Nat := 1 + (ctrs p x).headD 0
theorem ctr_ok {p : Nat} (h : IsP p) {x : Nat} (h0 : 0 < x) (hx : x < p) : (ctrs p x)[0]? = some ((ctrs p x).headD 0) ∧ ctr p x * x % p = 1 ∧ ctr p x < p := by
  have hp := h.ge
  have e := inv_ex h h0 hx
  have l := Nat.mod_lt (x ^ (p - 2)) (show 0 < p by omega)
  have c0 : x ^ (p - 2) % p ≠ 0 := fun z => by
    rw [z, Nat.zero_mul, Nat.zero_mod] at e
    omega
  have hm : x ^ (p - 2) % p - 1 ∈ ctrs p x := by
    unfold ctrs
    rw [List.mem_filter, List.mem_range, decide_eq_true_eq]
    refine ⟨by omega, ?_⟩
    rw [show 1 + (x ^ (p - 2) % p - 1) = x ^ (p - 2) % p by omega]
    exact e
  unfold ctr
  cases hc : ctrs p x with
  | nil =>
    rw [hc] at hm
    cases hm
  | cons a r =>
    have ha : a ∈ ctrs p x := by rw [hc]; exact List.mem_cons_self
    unfold ctrs at ha
    rw [List.mem_filter, List.mem_range, decide_eq_true_eq] at ha
    exact ⟨rfl, ha.2, by show 1 + a < p; omega⟩
def sp_contrary (K : PySem.W.Frag) : Sp := fun vs H Q _ => ∃ x p : Nat, vs = [.int (x : Int), .int (p : Int)] ∧ IsP p ∧ (0 < x ∧ x < p) ∧ RetV (.int ((ctr p x : Nat) : Int)) H Q
theorem sv_contrary {K : PySem.W.Frag} {H : Hp} {x p : Nat} (h : IsP p ∧ (0 < x ∧ x < p)) : SpV (sp_contrary K) [.int (x : Int), .int (p : Int)] H (.int ((ctr p x : Nat) : Int)) := fun H1 _ Q q _ => ⟨x, p, rfl, h.1, h.2, q⟩
theorem ok_contrary {P : Program} {w : World} {K : PySem.W.Frag} {mg : Str → Option Value} {base : Heap} {f : Addr} {fd : FuncData} (F : Fun K "contrary" "contrary" s_contrary f fd) (z_range : mg "range" = none) :
    FnOk P w K mg base CX0 1 f fd ["number", "prime"] (sp_contrary K) := by
  refine F.ok sc_contrary (fun vs H Q E h => ?_) (fun cdv A outer s H vs Q E hr h => ?_)
  · obtain ⟨x, p, rfl, hp, hx, q⟩ := h
    rfl
  · obtain ⟨x, p, rfl, hp, hx, q⟩ := h
    refine ⟨_, (pss_one (ps_ret (pe_ix ix_list (pe_lc (own := [("k", 2)]) (g := gName 2) (tt := (tTest (tOp (rEq) (tOp (rI (fun _ j => 0 < j) fun i j => .int (i % j)) (tOp (rI CMul fun i j => .int (i * j)) (tVar 2) (tVar 0)) (tVar 1)) (tC (.int 1))))) (te := (tVar 2)) rfl sc_contrary.nd (pi_range2 (by rfl) z_range (pa_cons pe_int (pa_cons (pv 1) pa_nil))) (blkOk_by (own := [("k", 2)]) (N := ["number", "prime", "k"]) (sc := defScope s_contrary) (by decide +kernel)) (fun _ _ _ _ _ => pg_name (i := 2) sc_contrary.nd rfl (Or.inl rfl)) (fun _ _ _ _ _ => (pts_one (pt_cmpR op_eq (pe_op op_mod (pe_op op_mul (pv 2) (pv 0)) (pv 1)) pe_int (nomark _)))) (fun _ _ _ _ _ => (pv 2))) pe_int (fun _ _ => rfl)))), ?_⟩
    have p2 := hp.ge
    have p97 := hp.le
    obtain ⟨c1, c2, c3⟩ := ctr_ok hp hx.1 hx.2
    refine s_ret (ev_ixK (v := .int (1 + (((ctrs p x).headD 0 : Nat) : Int))) (EvK.of (el_fmR2 (lo := 1) (hi := (p : Int)) (n := p - 1) (fun (a : Nat) => decide ((1 + a) * x % p = 1)) (fun (a : Nat) => V.int (1 + (a : Int))) (ea_cons ev_c (ea_cons (ev_var rfl) ea_nil)) (by omega) (by omega) (by omega) (fun _ => rfl) (fun a H1 e1 ha => ?_) (fun a H1 e1 ha hb => ev_var rfl))) ev_c (atI_map (l := ctrs p x) (i := 0) rfl c1)) fun H1 e1 => ?_
    · refine et_is (et_test (ev_op (ev_op (ev_op (ev_var rfl) (ev_var rfl) (rv_I (by walk_at "op_mul"))) (ev_var rfl) (rv_I (by walk_at "op_mod"))) ev_c (rv_eq rfl))) ?_
      by_cases h : (1 + a) * x % p = 1
      · rw [decide_eq_true h]
        exact decide_eq_true (congrArg V.int (show (1 + (a : Int)) * (x : Int) % (p : Int) = 1 from congrArg (Nat.cast (R := Int)) h))
      · rw [decide_eq_false h]
        refine decide_eq_false fun z => h ?_
        have z2 : (1 + (a : Int)) * (x : Int) % (p : Int) = 1 := V.int.inj z
        have z3 : (((1 + a) * x % p : Nat) : Int) = ((1 : Nat) : Int) := z2
        omega
    · have e : (1 : Int) + (((ctrs p x).headD 0 : Nat) : Int) = ((ctr p x : Nat) : Int) := by unfold ctr; omega
      rw [e]
      exact q H1 e1
/-! ### product -/
abbrev s_product : Stmt := topS 27
theorem sc_product : FnScope ["numbers", "found", "number"] ["numbers"] (defScope s_product) := ⟨rfl, rfl, rfl, by decide +kernel, rfl, by decide +kernel, by decide +kernel⟩
def sp_product (K : PySem.W.Frag) : Sp := fun vs H Q _ => ∃ (a : Addr) (l : List Nat), vs = [.ref a] ∧ H a = some (.lst (l.map nv)) ∧ (∀ x ∈ l, x ≤ 97) ∧ RetV (.int ((prodl l : Nat) : Int)) H Q
theorem sv_product {K : PySem.W.Frag} {H : Hp} {a : Addr} {l : List Nat} (h : H a = some (.lst (l.map nv))) (hl : ∀ x ∈ l, x ≤ 97) : SpV (sp_product K) [.ref a] H (.int ((prodl l : Nat) : Int)) := fun H1 e Q q _ => ⟨a, l, rfl, e a _ h, hl, q⟩
/-- product([figure + 1 for figure in xs]) -/
theorem ev_prod {K : PySem.W.Frag} {σ : L2.St} {H : Hp} {te tl : TE} {j : Nat} {vs : List Nat} {E : XK} {l : List Nat} (h : EvK tl σ H (l.map nv)) (hz : l.length ≤ 100) (hx : ∀ x ∈ l, x < 97) (hw : ∀ x, wipe ((wipe σ vs).set j (some x)) vs = wipe σ vs)
    (he : ∀ a H1, Ex H H1 → a ∈ l → Ev te ((wipe σ vs).set j (some (nv a))) H1 (nv (a + 1))) : Ev (tCall (sp_product K) [] E (tCons (tLc (iList K tl) (gName j) tYes te vs) tNil)) σ H (.int ((prodl (l.map (· + 1)) : Nat) : Int)) :=
  ev_callL1 (EvK.of (el_eq (el_mp (φ := nv) (fun a => nv (a + 1)) h (by omega) hw he) (ys := (l.map (· + 1)).map nv) (by rw [List.map_map] <;> rfl))) fun p H1 hp e => sv_product hp fun x hx' => by
    obtain ⟨y, h1, h2⟩ := List.mem_map.mp hx'
    have := hx y h1
    omega
theorem ok_product {P : Program} {w : World} {K : PySem.W.Frag} {mg : Str → Option Value} {base : Heap} {f : Addr} {fd : FuncData} (F : Fun K "product" "product" s_product f fd) :
    FnOk P w K mg base CX0 1 f fd ["numbers"] (sp_product K) := by
  refine F.ok sc_product (fun vs H Q E h => ?_) (fun cdv A outer s H vs Q E hr h => ?_)
  · obtain ⟨a, l, rfl, hS, hl, q⟩ := h
    rfl
  · obtain ⟨a, l, rfl, hS, hl, q⟩ := h
    refine ⟨_, (pss_cons (ps_set (i := 1) sc_product.nd rfl (Or.inl rfl) pe_int)
      (pss_cons (ps_for PassesOwn.never rfl (pi_list (pv 0)) (pg_name (i := 2) sc_product.nd rfl (Or.inl rfl)) (pss_one (ps_set (i := 1) sc_product.nd rfl (Or.inl rfl) (pe_op op_mul (pv 1) (pv 2)))))
      (pss_one (ps_ret (pv 1))))), ?_⟩
    refine q_asg ev_c fun H1 e1 => ?_
    refine q_forK (l := l) (φ := nv) (ek_var (ev_var rfl) (ex_at e1 hS)) (fun i σ => ∃ y, σ = [some (.ref a), some (.int ((prodl (l.take i) : Nat) : Int)), y]) ⟨none, by rw [List.take_zero] <;> rfl⟩ (fun H2 i x σ H3 e2 e3 hi hw => ?_) (fun σ H2 e2 hw => ?_)
    · obtain ⟨y, rfl⟩ := hw
      have hx := hl x (List.mem_of_getElem? hi)
      refine s_asg (ev_op (ev_var rfl) (ev_var rfl) (rv_I (by walk_at "op_mul"))) fun H4 e4 => ⟨e3.trans e4, some (nv x), ?_⟩
      rw [prodl_take hi, Int.natCast_mul]
      rfl
    · obtain ⟨y, rfl⟩ := hw
      rw [List.take_length]
      exact s_ret (ev_var rfl) fun H3 e3 => q H3 ((e1.trans e2).trans e3)
/-! ### number_of -/
abbrev s_number_of : Stmt := topS 28
theorem sc_number_of : FnScope ["row", "prime", "found", "figure"] ["row", "prime"] (defScope s_number_of) := ⟨rfl, rfl, rfl, by decide +kernel, rfl, by decide +kernel, by decide +kernel⟩
def sp_number_of (K : PySem.W.Frag) : Sp := fun vs H Q _ => ∃ (a : Addr) (l : List Nat) (p : Nat), vs = [.ref a, .int (p : Int)] ∧ H a = some (.lst (l.map nv)) ∧ IsP p ∧ RetV (.int ((val p l : Nat) : Int)) H Q
theorem sv_number_of {K : PySem.W.Frag} {H : Hp} {a : Addr} {l : List Nat} {p : Nat} (h : H a = some (.lst (l.map nv))) (hp : IsP p) : SpV (sp_number_of K) [.ref a, .int (p : Int)] H (.int ((val p l : Nat) : Int)) := fun H1 e Q q _ => ⟨a, l, p, rfl, e a _ h, hp, q⟩
theorem ok_number_of {P : Program} {w : World} {K : PySem.W.Frag} {mg : Str → Option Value} {base : Heap} {f : Addr} {fd : FuncData} (F : Fun K "number_of" "number_of" s_number_of f fd) (z_reversed : mg "reversed" = none) :
    FnOk P w K mg base CX0 1 f fd ["row", "prime"] (sp_number_of K) := by
  refine F.ok sc_number_of (fun vs H Q E h => ?_) (fun cdv A outer s H vs Q E hr h => ?_)
  · obtain ⟨a, l, p, rfl, hS, hp, q⟩ := h
    rfl
  · obtain ⟨a, l, p, rfl, hS, hp, q⟩ := h
    refine ⟨_, (pss_cons (ps_set (i := 2) sc_number_of.nd rfl (Or.inl rfl) pe_int)
      (pss_cons (ps_for PassesOwn.never rfl (pi_reversed (by rfl) z_reversed (pa_cons (pv 0) pa_nil)) (pg_name (i := 3) sc_number_of.nd rfl (Or.inl rfl)) (pss_one (ps_set (i := 2) sc_number_of.nd rfl (Or.inl rfl) (pe_op op_add (pe_op op_mul (pv 2) (pv 1)) (pv 3)))))
      (pss_one (ps_ret (pv 2))))), ?_⟩
    have p2 := hp.ge
    have p97 := hp.le
    refine q_asg ev_c fun H1 e1 => ?_
    refine q_forRev (l := l) (φ := nv) (ek_var (ev_var rfl) (ex_at e1 hS)) (fun i σ => ∃ y, σ = [some (.ref a), some (.int (p : Int)), some (.int ((val p (l.drop i) : Nat) : Int)), y]) ⟨none, by rw [List.drop_length] <;> rfl⟩ (fun H2 i x σ H3 e2 e3 hi hw => ?_) (fun σ H2 e2 hw => ?_)
    · obtain ⟨y, rfl⟩ := hw
      refine s_asg (ev_op (ev_op (ev_var rfl) (ev_var rfl) (rv_I (by walk_at "op_mul"))) (ev_var rfl) rv_I0) fun H4 e4 => ⟨e3.trans e4, some (nv x), ?_⟩
      have hdrop : l.drop i = x :: l.drop (i + 1) := by
        obtain ⟨h1, h2⟩ := List.getElem?_eq_some_iff.mp hi
        rw [← h2]
        exact List.drop_eq_getElem_cons h1
      have e : ((val p (l.drop (i + 1)) : Nat) : Int) * (p : Int) + (x : Int) = ((val p (l.drop i) : Nat) : Int) := by
        rw [hdrop]
        show _ = ((x + p * val p (l.drop (i + 1)) : Nat) : Int)
        rw [Int.natCast_add, Int.natCast_mul, Int.mul_comm, Int.add_comm]
      rw [e]
      rfl
    · obtain ⟨y, rfl⟩ := hw
      rw [List.drop_zero]
      exact s_ret (ev_var rfl) fun H3 e3 => q H3 ((e1.trans e2).trans e3)
/-! ### _law_cell_at -/
abbrev s__law_cell_at : Stmt := topS 37
theorem sc__law_cell_at : FnScope ["script", "k"] ["script", "k"] (defScope s__law_cell_at) := ⟨rfl, rfl, rfl, by decide +kernel, rfl, by decide +kernel, by decide +kernel⟩
/-- the script's cell, nought behind its end -/
def cell (ns : List Int) (k : Int) : Int := ns.getD k.toNat 0
def sp__law_cell_at (K : PySem.W.Frag) : Sp := fun vs H Q _ => ∃ (a : Addr) (ns : List Int) (k : Int), vs = [.ref a, .int k] ∧ SqL K H a (ns.map V.int) ∧ 0 ≤ k ∧ RetV (.int (cell ns k)) H Q
theorem sv__law_cell_at {K : PySem.W.Frag} {H : Hp} {a : Addr} {ns : List Int} {k : Int} (h : SqL K H a (ns.map V.int) ∧ 0 ≤ k) : SpV (sp__law_cell_at K) [.ref a, .int k] H (.int (cell ns k)) := fun H1 e Q q _ => ⟨a, ns, k, rfl, ex_l e h.1, h.2, q⟩
theorem ok__law_cell_at {P : Program} {w : World} {K : PySem.W.Frag} {mg : Str → Option Value} {base : Heap} {f : Addr} {fd : FuncData} (F : Fun K "_law_cell_at" "_law_cell_at" s__law_cell_at f fd) (z_len : mg "len" = none) :
    FnOk P w K mg base CX0 1 f fd ["script", "k"] (sp__law_cell_at K) := by
  refine F.ok sc__law_cell_at (fun vs H Q E h => ?_) (fun cdv A outer s H vs Q E hr h => ?_)
  · obtain ⟨a, ns, k, rfl, hS, hk, q⟩ := h
    rfl
  · obtain ⟨a, ns, k, rfl, hS, hk, q⟩ := h
    refine ⟨_, (pss_cons (ps_if (pt_cmpR op_lt (pv 1) (pe_callB call_len_seq (by rfl) z_len PySem.boot_len (pa_cons (pv 0) pa_nil)) (nomark _)) (pss_one (ps_ret (pe_ix ix_list (pv 0) (pv 1) (fun _ _ => rfl)))) pss_nil)
      (pss_one (ps_ret pe_int))), ?_⟩
    obtain ⟨j, rfl⟩ : ∃ j : Nat, k = j := ⟨k.toNat, by omega⟩
    have hc : cell ns (j : Int) = ns.getD j 0 := rfl
    rw [hc] at q
    refine q_when (et_test (ev_op (ev_var rfl) (ev_len (ev_var rfl) hS) rv_I0)) (fun hb H1 e1 => ?_) (fun hb H1 e1 => ?_)
    · rw [decide_eq_true_eq, List.length_map] at hb
      have hj : j < ns.length := by omega
      refine s_ret (ev_op (ev_var rfl) (ev_var rfl) (rv_ixL (v := .int ns[j]) (ex_l e1 hS) (atI_map rfl (List.getElem?_eq_getElem hj)))) fun H2 e2 => ?_
      have z := q H2 (e1.trans e2)
      rw [List.getD_eq_getElem?_getD, List.getElem?_eq_getElem hj] at z
      exact z
    · rw [decide_eq_false_iff_not, List.length_map] at hb
      refine s_ret ev_c fun H2 e2 => ?_
      have z := q H2 (e1.trans e2)
      rw [List.getD_eq_getElem?_getD, List.getElem?_eq_none (by omega)] at z
      exact z
/-! ### _law_prime_by -/
abbrev s__law_prime_by : Stmt := topS 38
theorem sc__law_prime_by : FnScope ["cell", "some"] ["cell"] (defScope s__law_prime_by) := ⟨rfl, rfl, rfl, by decide +kernel, rfl, by decide +kernel, by decide +kernel⟩
def pby (c : Int) : Nat := if c % 2 = 1 then ps.getD (c / 2 % 25).toNat 2 else ps.getD (c / 2 % 4).toNat 2
theorem pby_p (c : Int) : IsP (pby c) := by
  have key : ∀ j, j < 25 → IsP (ps.getD j 2) := by unfold IsP; decide
  unfold pby
  split
  · exact key _ (by omega)
  · exact key _ (by omega)
def sp__law_prime_by (K : PySem.W.Frag) : Sp := fun vs H Q _ => ∃ c : Int, vs = [.int c] ∧ RetV (.int (pby c : Int)) H Q
theorem sv__law_prime_by {K : PySem.W.Frag} {H : Hp} {c : Int} : SpV (sp__law_prime_by K) [.int c] H (.int (pby c : Int)) := fun H1 _ Q q _ => ⟨c, rfl, q⟩
theorem ps_at {z : Int} (h0 : 0 ≤ z) (h : z < 25) : atI (ps.map fun (p : Nat) => V.int (p : Int)) z = some (V.int (ps.getD z.toNat 2 : Nat)) := by
  have hl : z.toNat < ps.length := by
    have : ps.length = 25 := rfl
    omega
  rw [atI_map (i := z.toNat) (by omega) (List.getElem?_eq_getElem hl), List.getD_eq_getElem?_getD, List.getElem?_eq_getElem hl]
  rfl
theorem ok__law_prime_by {P : Program} {w : World} {K : PySem.W.Frag} {mg : Str → Option Value} {base : Heap} {f : Addr} {fd : FuncData} (F : Fun K "_law_prime_by" "_law_prime_by" s__law_prime_by f fd) :
    FnOk P w K mg base CX0 1 f fd ["cell"] (sp__law_prime_by K) := by
  refine F.ok sc__law_prime_by (fun vs H Q E h => ?_) (fun cdv A outer s H vs Q E hr h => ?_)
  · obtain ⟨c, rfl, q⟩ := h
    rfl
  · obtain ⟨c, rfl, q⟩ := h
    refine ⟨_, (pss_cons (ps_set (i := 1) sc__law_prime_by.nd rfl (Or.inl rfl) (pe_lst (pa_cons pe_int (pa_cons pe_int (pa_cons pe_int (pa_cons pe_int (pa_cons pe_int (pa_cons pe_int (pa_cons pe_int (pa_cons pe_int (pa_cons pe_int (pa_cons pe_int (pa_cons pe_int (pa_cons pe_int (pa_cons pe_int (pa_cons pe_int (pa_cons pe_int (pa_cons pe_int (pa_cons pe_int (pa_cons pe_int (pa_cons pe_int (pa_cons pe_int (pa_cons pe_int (pa_cons pe_int (pa_cons pe_int (pa_cons pe_int (pa_cons pe_int pa_nil)))))))))))))))))))))))))))
      (pss_cons (ps_if (pt_cmpR op_eq (pe_op op_mod (pv 0) pe_int) pe_int (nomark _)) (pss_one (ps_ret (pe_ix ix_list (pv 1) (pe_op op_mod (pe_op op_fdiv (pv 0) pe_int) pe_int) (fun _ _ => rfl)))) pss_nil)
      (pss_one (ps_ret (pe_ix ix_list (pv 1) (pe_op op_mod (pe_op op_fdiv (pv 0) pe_int) pe_int) (fun _ _ => rfl)))))), ?_⟩
    refine q_asgL (el_lst (ea_cons ev_c (ea_cons ev_c (ea_cons ev_c (ea_cons ev_c (ea_cons ev_c (ea_cons ev_c (ea_cons ev_c (ea_cons ev_c (ea_cons ev_c (ea_cons ev_c (ea_cons ev_c (ea_cons ev_c (ea_cons ev_c (ea_cons ev_c (ea_cons ev_c (ea_cons ev_c (ea_cons ev_c (ea_cons ev_c (ea_cons ev_c (ea_cons ev_c (ea_cons ev_c (ea_cons ev_c (ea_cons ev_c (ea_cons ev_c (ea_cons ev_c ea_nil))))))))))))))))))))))))) (by simp)) fun p H1 _ e1 hp => ?_
    have hp' : H1 p = some (.lst (ps.map fun (p : Nat) => V.int (p : Int))) := hp
    unfold pby at q
    refine q_when (et_test (ev_op (ev_op (ev_var rfl) ev_c (rv_I (by walk_at "op_mod"))) ev_c (rv_eq rfl))) (fun hb H2 e2 => ?_) (fun hb H2 e2 => ?_)
    · have hc : c % 2 = 1 := V.int.inj (of_decide_eq_true hb)
      rw [if_pos hc] at q
      refine s_ret (ev_ixK (ek_var (ev_var rfl) (ex_at e2 hp')) (ev_op (ev_op (ev_var rfl) ev_c (rv_I (by walk_at "op_fdiv"))) ev_c (rv_I (by walk_at "op_mod"))) (ps_at (by omega) (by omega))) fun H3 e3 => q H3 ((e1.trans e2).trans e3)
    · have hc : ¬ c % 2 = 1 := fun z => (of_decide_eq_false hb) (congrArg V.int z)
      rw [if_neg hc] at q
      refine s_ret (ev_ixK (ek_var (ev_var rfl) (ex_at e2 hp')) (ev_op (ev_op (ev_var rfl) ev_c (rv_I (by walk_at "op_fdiv"))) ev_c (rv_I (by walk_at "op_mod"))) (ps_at (by omega) (by omega))) fun H3 e3 => q H3 ((e1.trans e2).trans e3)
/-! ### asked_prime -/
abbrev s_asked_prime : Stmt := topS 10
theorem sc_asked_prime : FnScope ["prime"] ["prime"] (defScope s_asked_prime) := ⟨rfl, rfl, rfl, by decide +kernel, rfl, by decide +kernel, by decide +kernel⟩
def sp_asked_prime (K : PySem.W.Frag) : Sp := fun vs H Q _ => ∃ p : Nat, vs = [.int (p : Int)] ∧ IsP p ∧ RetV .non H Q
theorem sv_asked_prime {K : PySem.W.Frag} {H : Hp} {p : Nat} (h : IsP p) : SpV (sp_asked_prime K) [.int (p : Int)] H .non := fun H1 _ Q q _ => ⟨p, rfl, h, q⟩
theorem ok_asked_prime {P : Program} {w : World} {K : PySem.W.Frag} {mg : Str → Option Value} {base : Heap} {f : Addr} {fd : FuncData} {f_is_prime : Addr} {fd_is_prime : FuncData} (F : Fun K "asked_prime" "asked_prime" s_asked_prime f fd)
    (D_is_prime : Def P w K mg base CX0 1 "is_prime" ["number"] (sp_is_prime K) f_is_prime fd_is_prime) :
    FnOk P w K mg base CX0 2 f fd ["prime"] (sp_asked_prime K) := by
  refine F.ok sc_asked_prime (fun vs H Q E h => ?_) (fun cdv A outer s H vs Q E hr h => ?_)
  · obtain ⟨p, rfl, hp, q⟩ := h
    rfl
  · obtain ⟨p, rfl, hp, q⟩ := h
    refine ⟨_, (pss_one (ps_if (pt_not (pt_val (pe_call D_is_prime.ok (hr.mono (by decide)) (by rfl) D_is_prime.g D_is_prime.kp D_is_prime.b .nil pass0 (pa_cons (pv 0) pa_nil)))) (pss_one ps_never) pss_nil)), ?_⟩
    refine s_when (et_not (et_B (ev_call (ea_cons (ev_var rfl) ea_nil) sv_is_prime))) (fun hb => ?_) (fun _ H1 e1 => q H1 e1)
    rw [isPb_of hp] at hb
    cases hb
/-! ### choices -/
abbrev s_choices : Stmt := topS 20
theorem sc_choices : FnScope ["many", "some"] ["many", "some"] (defScope s_choices) := ⟨rfl, rfl, rfl, by decide +kernel, rfl, by decide +kernel, by decide +kernel⟩
def sp_choices (K : PySem.W.Frag) : Sp := fun vs H Q _ => ∃ n k : Int, vs = [.int n, .int k] ∧ (0 ≤ n ∧ n ≤ 400) ∧ RetV (.int (Ci n k)) H Q
theorem sv_choices {K : PySem.W.Frag} {H : Hp} {n k : Int} (h : 0 ≤ n ∧ n ≤ 400) : SpV (sp_choices K) [.int n, .int k] H (.int (Ci n k)) := fun H1 _ Q q _ => ⟨n, k, rfl, h, q⟩
theorem ok_choices {P : Program} {w : World} {K : PySem.W.Frag} {mg : Str → Option Value} {base : Heap} {f : Addr} {fd : FuncData} {f_asked_many : Addr} {fd_asked_many : FuncData} {f_count : Addr} {fd_count : FuncData} {t_MOST : Tok} (F : Fun K "choices" "choices" s_choices f fd)
    (D_asked_many : Def P w K mg base CX0 1 "asked_many" ["many"] (sp_asked_many K) f_asked_many fd_asked_many)
    (D_count : Def P w K mg base CX0 1 "count" ["many", "some"] (sp_count K) f_count fd_count) (g_MOST : mg "MOST" = some (.int 400 t_MOST)) :
    FnOk P w K mg base CX0 2 f fd ["many", "some"] (sp_choices K) := by
  refine F.ok sc_choices (fun vs H Q E h => ?_) (fun cdv A outer s H vs Q E hr h => ?_)
  · obtain ⟨n, k, rfl, hn, q⟩ := h
    rfl
  · obtain ⟨n, k, rfl, hn, q⟩ := h
    refine ⟨_, (pss_cons (ps_expr (pe_call D_asked_many.ok (hr.mono (by decide)) (by rfl) D_asked_many.g D_asked_many.kp D_asked_many.b .nil pass0 (pa_cons (pv 0) pa_nil)))
      (pss_cons (ps_if (pt_cmpR op_gt (pv 0) (pe_glob (v := .int 400) rfl g_MOST ⟨_, rfl⟩) (nomark _)) (pss_one ps_never) pss_nil)
      (pss_one (ps_ret (pe_call D_count.ok (hr.mono (by decide)) (by rfl) D_count.g D_count.kp D_count.b .nil pass0 (pa_cons (pv 0) (pa_cons (pv 1) pa_nil))))))), ?_⟩
    refine q_drop (ev_call (ea_cons (ev_var rfl) ea_nil) (sv_asked_many (by omega))) fun H1 e1 => ?_
    refine q_when (et_test (ev_op (ev_var rfl) ev_c rv_I0)) (fun hb => ?_) (fun _ H2 e2 => ?_)
    · have : ¬ (400 < n) := by omega
      simp_all
    · exact s_ret (ev_call (ea_cons (ev_var rfl) (ea_cons (ev_var rfl) ea_nil)) (sv_count hn.2)) fun H3 e3 => q H3 ((e1.trans e2).trans e3)
/-! ### padded -/
abbrev s_padded : Stmt := topS 30
theorem sc_padded : FnScope ["number", "prime", "size", "found", "k"] ["number", "prime", "size"] (defScope s_padded) := ⟨rfl, rfl, rfl, by decide +kernel, rfl, by decide +kernel, by decide +kernel⟩
def sp_padded (K : PySem.W.Frag) : Sp := fun vs H Q _ => ∃ k p m : Nat, vs = [.int (k : Int), .int (p : Int), .int (m : Int)] ∧ IsP p ∧ k ≤ 1000000000000000000000000000000 ∧ (digs p k).length ≤ m ∧ m ≤ 100 ∧ RetL ((padl p k m).map nv) H Q
theorem sv_padded {K : PySem.W.Frag} {H : Hp} {k p m : Nat} (hp : IsP p) (hk : k ≤ 1000000000000000000000000000000) (hl : (digs p k).length ≤ m) (hm : m ≤ 100) : SpL (sp_padded K) [.int (k : Int), .int (p : Int), .int (m : Int)] H ((padl p k m).map nv) := fun H1 _ Q q _ => ⟨k, p, m, rfl, hp, hk, hl, hm, q⟩
theorem ok_padded {P : Program} {w : World} {K : PySem.W.Frag} {mg : Str → Option Value} {base : Heap} {f : Addr} {fd : FuncData} {f_figures_of : Addr} {fd_figures_of : FuncData} (F : Fun K "padded" "padded" s_padded f fd)
    (D_figures_of : Def P w K mg base CX0 1 "figures_of" ["number", "prime"] (sp_figures_of K) f_figures_of fd_figures_of) (z_range : mg "range" = none) (z_len : mg "len" = none) :
    FnOk P w K mg base CX0 2 f fd ["number", "prime", "size"] (sp_padded K) := by
  refine F.ok sc_padded (fun vs H Q E h => ?_) (fun cdv A outer s H vs Q E hr h => ?_)
  · obtain ⟨k, p, m, rfl, hp, hk, hl, hm, q⟩ := h
    rfl
  · obtain ⟨k, p, m, rfl, hp, hk, hl, hm, q⟩ := h
    refine ⟨_, (pss_cons (ps_set (i := 3) sc_padded.nd rfl (Or.inl rfl) (pe_call D_figures_of.ok (hr.mono (by decide)) (by rfl) D_figures_of.g D_figures_of.kp D_figures_of.b .nil pass0 (pa_cons (pv 0) (pa_cons (pv 1) pa_nil))))
      (pss_one (ps_ret (pe_op op_cat (pv 3) (pe_lc (own := [("k", 4)]) (g := gName 4) (tt := tYes) (te := (tC (.int 0))) rfl sc_padded.nd (pi_range1 (by rfl) z_range (pa_cons (pe_op op_sub (pv 2) (pe_callB call_len_seq (by rfl) z_len PySem.boot_len (pa_cons (pv 3) pa_nil))) pa_nil)) (blkOk_by (own := [("k", 4)]) (N := ["number", "prime", "size", "found", "k"]) (sc := defScope s_padded) (by decide +kernel)) (fun _ _ _ _ _ => pg_name (i := 4) sc_padded.nd rfl (Or.inl rfl)) (fun _ _ _ _ _ => pts_nil) (fun _ _ _ _ _ => pe_int)))))), ?_⟩
    refine q_asgL (el_call (ea_cons (ev_var rfl) (ea_cons (ev_var rfl) ea_nil)) (sv_figures_of (by walk_at "side"))) fun l H1 nl e1 hl1 => ?_
    refine s_retL (el_eq (el_cat (ek_var (ev_var rfl) hl1) (EvK.of (el_mpR1 (n := m - (digs p k).length) (fun _ => nv 0) (ea_cons (ev_is (ev_op (ev_var rfl) (ev_lenK (ek_var (ev_var rfl) (by walk_at "list"))) rv_I0) ?_) ea_nil) (by omega) (fun _ => rfl) (fun a H2 e2 ha => ev_c))) (by simp; omega)) ?_) fun l2 H2 nl2 e2 hl2 => q l2 H2 (fresh_back e1 nl2) (e1.trans e2) hl2
    · rw [List.length_map]
      congr 1
      omega
    · rw [← padl_eq hp.ge m k hl, List.map_append, List.map_replicate]
      congr 1
      rw [List.map_const', List.length_range]
/-! ### _law_many_by -/
abbrev s__law_many_by : Stmt := topS 39
theorem sc__law_many_by : FnScope ["script", "first", "prime", "way", "cell", "number", "size", "worth", "k"] ["script", "first", "prime"] (defScope s__law_many_by) := ⟨rfl, rfl, rfl, by decide +kernel, rfl, by decide +kernel, by decide +kernel⟩
def sp__law_many_by (K : PySem.W.Frag) : Sp := fun vs H Q _ => ∃ (a : Addr) (ns : List Int) (f : Int) (p : Nat), vs = [.ref a, .int f, .int (p : Int)] ∧ SqL K H a (ns.map V.int) ∧ 0 ≤ f ∧ IsP p ∧
  ∀ m : Int, 0 ≤ m → m ≤ 1000000000000000000000000000000 → RetV (.int m) H Q
def Many (v : V) : Prop := ∃ m : Nat, v = .int (m : Int) ∧ m ≤ 1000000000000000000000000000000
theorem sm__law_many_by {K : PySem.W.Frag} {H : Hp} {a : Addr} {ns : List Int} {f : Int} {p : Nat} (h : SqL K H a (ns.map V.int)) (hf : 0 ≤ f) (hp : IsP p) : SpP (sp__law_many_by K) [.ref a, .int f, .int (p : Int)] H Many :=
  fun H1 e Q q _ => ⟨a, ns, f, p, rfl, ex_l e h, hf, hp, fun m h0 h1 H2 e2 => q _ H2 ⟨m.toNat, by rw [Int.toNat_of_nonneg h0], by omega⟩ e2⟩
theorem pw_le {p s : Nat} (hp : IsP p) (h : s = 0 ∨ p ^ (s - 1) ≤ 10000000000000000000000000000) : s < 95 := by
  rcases h with h | h
  · omega
  · have h2 : 2 ^ (s - 1) ≤ p ^ (s - 1) := Nat.pow_le_pow_left hp.ge _
    have h3 : (2 : Nat) ^ (s - 1) < 2 ^ 94 := by omega
    have := (Nat.pow_lt_pow_iff_right (show 1 < 2 by decide)).mp h3
    omega
theorem pw_worth {p s j : Nat} (hp : IsP p) (h : s = 0 ∨ p ^ (s - 1) ≤ 10000000000000000000000000000) (hj : j ≤ s) : 1 ≤ p ^ j ∧ p ^ j ≤ 970000000000000000000000000000 := by
  have hp2 := hp.ge
  refine ⟨Nat.pow_pos (by omega), ?_⟩
  by_cases s0 : s = 0
  · rw [show j = 0 by omega]
    exact Nat.le_of_ble_eq_true rfl
  · have h1 : p ^ (s - 1) ≤ 10000000000000000000000000000 := by omega
    have h2 : p ^ j ≤ p ^ s := Nat.pow_le_pow_right (by omega) hj
    have h3 : p ^ s = p ^ (s - 1) * p := by rw [← Nat.pow_succ]; congr 1; omega
    have h4 : p ^ (s - 1) * p ≤ 10000000000000000000000000000 * 97 := Nat.mul_le_mul h1 hp.le
    omega
theorem ok__law_many_by {P : Program} {w : World} {K : PySem.W.Frag} {mg : Str → Option Value} {base : Heap} {f : Addr} {fd : FuncData} {f__law_cell_at : Addr} {fd__law_cell_at : FuncData} (F : Fun K "_law_many_by" "_law_many_by" s__law_many_by f fd)
    (D__law_cell_at : Def P w K mg base CX0 1 "_law_cell_at" ["script", "k"] (sp__law_cell_at K) f__law_cell_at fd__law_cell_at) (z_range : mg "range" = none) :
    FnOk P w K mg base CX0 2 f fd ["script", "first", "prime"] (sp__law_many_by K) := by
  refine F.ok sc__law_many_by (fun vs H Q E h => ?_) (fun cdv A outer s H vs Q E hr h => ?_)
  · obtain ⟨a, ns, f, p, rfl, hS, hf, hp, q⟩ := h
    rfl
  · obtain ⟨a, ns, f, p, rfl, hS, hf, hp, q⟩ := h
    refine ⟨_, (pss_cons (ps_set (i := 3) sc__law_many_by.nd rfl (Or.inl rfl) (pe_op op_mod (pe_call D__law_cell_at.ok (hr.mono (by decide)) (by rfl) D__law_cell_at.g D__law_cell_at.kp D__law_cell_at.b .nil pass0 (pa_cons (pv 0) (pa_cons (pe_op op_add (pv 1) pe_int) pa_nil))) pe_int))
      (pss_cons (ps_set (i := 4) sc__law_many_by.nd rfl (Or.inl rfl) (pe_call D__law_cell_at.ok (hr.mono (by decide)) (by rfl) D__law_cell_at.g D__law_cell_at.kp D__law_cell_at.b .nil pass0 (pa_cons (pv 0) (pa_cons (pv 1) pa_nil))))
      (pss_cons (ps_if (pt_cmpR op_eq (pv 3) pe_int (nomark _)) (pss_one (ps_ret (pe_op op_mod (pv 4) pe_int))) pss_nil)
      (pss_cons (ps_set (i := 5) sc__law_many_by.nd rfl (Or.inl rfl) pe_int)
      (pss_cons (ps_set (i := 6) sc__law_many_by.nd rfl (Or.inl rfl) pe_int)
      (pss_cons (ps_while PassesOwn.never (pt_cmpR op_lt (pv 5) (pe_op op_pow pe_int pe_int) (nomark _)) (pss_cons (ps_set (i := 6) sc__law_many_by.nd rfl (Or.inl rfl) (pe_op op_add (pv 6) pe_int))
      (pss_one (ps_set (i := 5) sc__law_many_by.nd rfl (Or.inl rfl) (pe_op op_sub (pe_op op_add (pe_op op_mul (pv 5) (pv 2)) (pv 2)) pe_int)))))
      (pss_cons (ps_set (i := 7) sc__law_many_by.nd rfl (Or.inl rfl) pe_int)
      (pss_cons (ps_for PassesOwn.never rfl (pi_range1 (by rfl) z_range (pa_cons (pe_op op_mod (pe_op op_fdiv (pe_call D__law_cell_at.ok (hr.mono (by decide)) (by rfl) D__law_cell_at.g D__law_cell_at.kp D__law_cell_at.b .nil pass0 (pa_cons (pv 0) (pa_cons (pe_op op_add (pv 1) pe_int) pa_nil))) pe_int) (pv 6)) pa_nil)) (pg_name (i := 8) sc__law_many_by.nd rfl (Or.inl rfl)) (pss_one (ps_set (i := 7) sc__law_many_by.nd rfl (Or.inl rfl) (pe_op op_mul (pv 7) (pv 2)))))
      (pss_cons (ps_if (pt_cmpR op_eq (pv 3) pe_int (nomark _)) (pss_one (ps_ret (pe_op op_mod (pv 7) (pe_op op_pow pe_int pe_int)))) pss_nil)
      (pss_cons (ps_if (pt_cmpR op_eq (pv 3) pe_int (nomark _)) (pss_one (ps_ret (pe_op op_mod (pe_op op_sub (pe_op op_mul (pv 7) (pe_op op_add pe_int (pe_op op_mod (pv 4) (pv 2)))) pe_int) (pe_op op_pow pe_int pe_int)))) pss_nil)
      (pss_cons (ps_if (pt_cmpR op_eq (pv 3) pe_int (nomark _)) (pss_one (ps_ret (pe_op op_mod (pe_op op_add (pv 7) (pe_op op_mod (pv 4) (pe_op op_pow pe_int pe_int))) (pe_op op_pow pe_int pe_int)))) pss_nil)
      (pss_cons (ps_if (pt_cmpR op_eq (pv 3) pe_int (nomark _)) (pss_one (ps_ret (pe_op op_mulW (pe_op op_fdivW (pe_op op_mod (pv 4) (pe_op op_pow pe_int pe_int)) (pv 7)) (pv 7)))) pss_nil)
      (pss_one (ps_ret (pe_op op_mod (pv 4) (pe_op op_add (pe_op op_pow pe_int pe_int) pe_int)))))))))))))))), ?_⟩
    have p2 := hp.ge
    have p97 := hp.le
    refine q_asg (ev_op (ev_call (ea_cons (ev_var rfl) (ea_cons (ev_op (ev_var rfl) ev_c rv_I0) ea_nil)) (sv__law_cell_at (by walk_at "sv__law_cell_at"))) ev_c (rv_I (by walk_at "op_mod"))) fun H1 e1 => ?_
    refine q_asg (ev_call (ea_cons (ev_var rfl) (ea_cons (ev_var rfl) ea_nil)) (sv__law_cell_at (by walk_at "sv__law_cell_at"))) fun H2 e2 => ?_
    generalize hc : cell ns f = c
    refine q_when (et_test (ev_op (ev_var rfl) ev_c (rv_eq rfl))) (fun hb H3 e3 => ?_) (fun hb H3 e3 => ?_)
    · exact s_ret (ev_op (ev_var rfl) ev_c (rv_I (by walk_at "op_mod"))) fun H4 e4 => q _ (by omega) (by omega) H4 (((e1.trans e2).trans e3).trans e4)
    · refine q_asg ev_c fun H4 e4 => ?_
      refine q_asg ev_c fun H5 e5 => ?_
      refine q_whileK (fun m σ => ∃ s : Nat, σ = [some (.ref a), some (.int f), some (.int (p : Int)), some (.int (cell ns (f + 1) % 7)), some (.int c), some (.int (((p ^ s : Nat) : Int) - 1)), some (.int ((s : Int) + 1)), none, none] ∧ m = 100 - s ∧ (s = 0 ∨ p ^ (s - 1) ≤ 10000000000000000000000000000))
        100 ⟨0, rfl, rfl, .inl rfl⟩ (fun m σ H6 e6 hw => ?_)
      obtain ⟨s, rfl, rfl, hs⟩ := hw
      have hs95 := pw_le hp hs
      refine ⟨_, (et_test (ev_op (ev_var rfl) (ev_pow (r := 10000000000000000000000000000) ⟨by decide, by decide, by decide⟩ (by decide +kernel)) rv_I0)), fun hb H7 e7 => ?_, fun hb H7 e7 => ?_⟩
      · have hn : ((p ^ s : Nat) : Int) - 1 < 10000000000000000000000000000 := of_decide_eq_true hb
        refine q_asg (ev_op (ev_var rfl) ev_c rv_I0) fun H8 e8 => ?_
        refine s_asg (ev_op (ev_op (ev_op (ev_var rfl) (ev_var rfl) (rv_I (by walk_at "op_mul"))) (ev_var rfl) rv_I0) ev_c rv_I0) fun H9 e9 => ⟨e8.trans e9, 100 - (s + 1), by omega, s + 1, ?_, rfl, .inr (by rw [Nat.add_sub_cancel]; omega)⟩
        have e : (((p ^ s : Nat) : Int) - 1) * (p : Int) + (p : Int) - 1 = ((p ^ (s + 1) : Nat) : Int) - 1 := by
          rw [Nat.pow_succ, Int.natCast_mul, Int.sub_mul]
          omega
        rw [e]
        rfl
      · clear hb
        refine q_asg ev_c fun H8 e8 => ?_
        obtain ⟨j, j0, j1, hj⟩ := drawn (x := cell ns (f + 1) / 7) (m := (s : Int) + 1) (by omega)
        obtain ⟨j, rfl⟩ : ∃ i : Nat, j = i := ⟨j.toNat, by omega⟩
        refine q_forN1 (n := j) (by
            rw [← hj]
            exact (ea_cons (ev_op (ev_op (ev_call (ea_cons (ev_var rfl) (ea_cons (ev_op (ev_var rfl) ev_c rv_I0) ea_nil)) (sv__law_cell_at (by walk_at "sv__law_cell_at"))) ev_c (rv_I (by walk_at "op_fdiv"))) (ev_var rfl) (rv_I (by walk_at "op_mod"))) ea_nil)) (by omega) (fun i σ => ∃ y, σ = [some (.ref a), some (.int f), some (.int (p : Int)), some (.int (cell ns (f + 1) % 7)), some (.int c), some (.int (((p ^ s : Nat) : Int) - 1)), some (.int ((s : Int) + 1)), some (.int ((p ^ i : Nat) : Int)), y])
          ⟨none, rfl⟩ (fun H9 i σ H10 e9 e10 hi hw => ?_) (fun σ H9 e9 hw => ?_)
        · obtain ⟨y, rfl⟩ := hw
          refine s_asg (ev_op (ev_var rfl) (ev_var rfl) (rv_I (by walk_at "op_mul"))) fun H11 e11 => ⟨e10.trans e11, some (.int (i : Int)), ?_⟩
          rw [Nat.pow_succ, Int.natCast_mul]
          rfl
        · obtain ⟨y, rfl⟩ := hw
          obtain ⟨w1, w2⟩ := pw_worth hp hs (show j ≤ s by omega)
          generalize p ^ j = wo at w1 w2
          have EE := (((((e1.trans e2).trans e3).trans e4).trans e5).trans e7 |>.trans e8).trans e9
          have c0 := Int.emod_nonneg c (show (p : Int) ≠ 0 by omega)
          have c1 := Int.emod_lt_of_pos c (show (0 : Int) < p by omega)
          refine q_when (et_test (ev_op (ev_var rfl) ev_c (rv_eq rfl))) (fun _ H10 e10 => ?_) (fun _ H10 e10 => ?_)
          · exact s_ret (ev_op (ev_var rfl) (ev_pow (r := 1000000000000000000000000000000) ⟨by decide, by decide, by decide⟩ (by decide +kernel)) (rv_I (by walk_at "op_mod"))) fun H11 e11 => q _ (by omega) (by omega) H11 ((EE.trans e10).trans e11)
          refine q_when (et_test (ev_op (ev_var rfl) ev_c (rv_eq rfl))) (fun _ H11 e11 => ?_) (fun _ H11 e11 => ?_)
          · exact s_ret (ev_op (ev_op (ev_op (ev_var rfl) (ev_op ev_c (ev_op (ev_var rfl) (ev_var rfl) (rv_I (by walk_at "op_mod"))) rv_I0) (rv_I (by walk_at "op_mul"))) ev_c rv_I0) (ev_pow (r := 1000000000000000000000000000000) ⟨by decide, by decide, by decide⟩ (by decide +kernel)) (rv_I (by walk_at "op_mod"))) fun H12 e12 => q _ (by omega) (by omega) H12 (((EE.trans e10).trans e11).trans e12)
          refine q_when (et_test (ev_op (ev_var rfl) ev_c (rv_eq rfl))) (fun _ H12 e12 => ?_) (fun _ H12 e12 => ?_)
          · exact s_ret (ev_op (ev_op (ev_var rfl) (ev_op (ev_var rfl) (ev_pow (r := 1000000000000000) ⟨by decide, by decide, by decide⟩ (by decide +kernel)) (rv_I (by walk_at "op_mod"))) rv_I0) (ev_pow (r := 1000000000000000000000000000000) ⟨by decide, by decide, by decide⟩ (by decide +kernel)) (rv_I (by walk_at "op_mod"))) fun H13 e13 => q _ (by omega) (by omega) H13 ((((EE.trans e10).trans e11).trans e12).trans e13)
          refine q_when (et_test (ev_op (ev_var rfl) ev_c (rv_eq rfl))) (fun _ H13 e13 => ?_) (fun _ H13 e13 => ?_)
          · obtain ⟨x, x0, x1, hx⟩ := drawn (x := c) (m := 1000000000000000000000000000000) (by omega)
            have d0 : 0 ≤ x / (wo : Int) := Int.ediv_nonneg x0 (by omega)
            have d1 : x / (wo : Int) * (wo : Int) ≤ x := Int.ediv_mul_le x (by omega)
            have d2 : x / (wo : Int) ≤ x := Int.ediv_le_self (wo : Int) x0
            have d3 : 0 ≤ x / (wo : Int) * (wo : Int) := Int.mul_nonneg d0 (by omega)
            refine s_ret (ev_op (ev_op (ev_is (ev_op (ev_var rfl) (ev_pow (r := 1000000000000000000000000000000) ⟨by decide, by decide, by decide⟩ (by decide +kernel)) (rv_I (by walk_at "op_mod"))) (congrArg V.int hx)) (ev_var rfl) (rv_I (C := CDivW) (wide_div (b := 100) (by omega) (by omega) (by decide) (by decide)))) (ev_var rfl) (rv_I (C := CMulW) (wide_mul (a := 100) (b := 100) (by omega) (by omega) (by decide) (by decide) (by decide)))) fun H14 e14 => q _ ?_ ?_ H14 (((((EE.trans e10).trans e11).trans e12).trans e13).trans e14)
            · exact d3
            · omega
          · exact s_ret (ev_op (ev_var rfl) (ev_op (ev_pow (r := 1000000000000000000000000000000) ⟨by decide, by decide, by decide⟩ (by decide +kernel)) ev_c rv_I0) (rv_I (by walk_at "op_mod"))) fun H14 e14 => q _ (by omega) (by omega) H14 (((((EE.trans e10).trans e11).trans e12).trans e13).trans e14)
/-! ### figures -/
abbrev s_figures : Stmt := topS 13
theorem sc_figures : FnScope ["number", "prime"] ["number", "prime"] (defScope s_figures) := ⟨rfl, rfl, rfl, by decide +kernel, rfl, by decide +kernel, by decide +kernel⟩
def sp_figures (K : PySem.W.Frag) : Sp := fun vs H Q _ => ∃ n p : Nat, vs = [.int (n : Int), .int (p : Int)] ∧ IsP p ∧ n ≤ 1000000000000000000000000000000 ∧ RetL ((digs p n).map nv) H Q
theorem sv_figures {K : PySem.W.Frag} {H : Hp} {n p : Nat} (h : IsP p ∧ n ≤ 1000000000000000000000000000000) : SpL (sp_figures K) [.int (n : Int), .int (p : Int)] H ((digs p n).map nv) := fun H1 _ Q q _ => ⟨n, p, rfl, h.1, h.2, q⟩
theorem ok_figures {P : Program} {w : World} {K : PySem.W.Frag} {mg : Str → Option Value} {base : Heap} {f : Addr} {fd : FuncData} {f_asked_prime : Addr} {fd_asked_prime : FuncData} {f_asked_many : Addr} {fd_asked_many : FuncData} {f_figures_of : Addr} {fd_figures_of : FuncData} (F : Fun K "figures" "figures" s_figures f fd)
    (D_asked_prime : Def P w K mg base CX0 2 "asked_prime" ["prime"] (sp_asked_prime K) f_asked_prime fd_asked_prime)
    (D_asked_many : Def P w K mg base CX0 1 "asked_many" ["many"] (sp_asked_many K) f_asked_many fd_asked_many)
    (D_figures_of : Def P w K mg base CX0 1 "figures_of" ["number", "prime"] (sp_figures_of K) f_figures_of fd_figures_of) :
    FnOk P w K mg base CX0 3 f fd ["number", "prime"] (sp_figures K) := by
  refine F.ok sc_figures (fun vs H Q E h => ?_) (fun cdv A outer s H vs Q E hr h => ?_)
  · obtain ⟨n, p, rfl, hp, hn, q⟩ := h
    rfl
  · obtain ⟨n, p, rfl, hp, hn, q⟩ := h
    refine ⟨_, (pss_cons (ps_expr (pe_call D_asked_prime.ok (hr.mono (by decide)) (by rfl) D_asked_prime.g D_asked_prime.kp D_asked_prime.b .nil pass0 (pa_cons (pv 1) pa_nil)))
      (pss_cons (ps_expr (pe_call D_asked_many.ok (hr.mono (by decide)) (by rfl) D_asked_many.g D_asked_many.kp D_asked_many.b .nil pass0 (pa_cons (pv 0) pa_nil)))
      (pss_one (ps_ret (pe_call D_figures_of.ok (hr.mono (by decide)) (by rfl) D_figures_of.g D_figures_of.kp D_figures_of.b .nil pass0 (pa_cons (pv 0) (pa_cons (pv 1) pa_nil))))))), ?_⟩
    refine q_drop (ev_call (ea_cons (ev_var rfl) ea_nil) (sv_asked_prime hp)) fun H1 e1 => ?_
    refine q_drop (ev_call (ea_cons (ev_var rfl) ea_nil) (sv_asked_many (by omega))) fun H2 e2 => ?_
    exact s_retL (el_call (ea_cons (ev_var rfl) (ea_cons (ev_var rfl) ea_nil)) (sv_figures_of ⟨hp, hn⟩)) fun l H3 nl e3 hl => q l H3 (fresh_back (e1.trans e2) nl) ((e1.trans e2).trans e3) hl

/-! ### carries -/
abbrev s_carries : Stmt := topS 15
theorem sc_carries : FnScope ["one", "other", "prime"] ["one", "other", "prime"] (defScope s_carries) := ⟨rfl, rfl, rfl, by decide +kernel, rfl, by decide +kernel, by decide +kernel⟩
def sp_carries (K : PySem.W.Frag) : Sp := fun vs H Q _ => ∃ a b p : Nat, vs = [.int (a : Int), .int (b : Int), .int (p : Int)] ∧ IsP p ∧ a ≤ 1000000000000000000000000000000 ∧ b ≤ 1000000000000000000000000000000 ∧ RetV (.int (car p a b 0 : Nat)) H Q
theorem sv_carries {K : PySem.W.Frag} {H : Hp} {a b p : Nat} (h : IsP p ∧ a ≤ 1000000000000000000000000000000 ∧ b ≤ 1000000000000000000000000000000) : SpV (sp_carries K) [.int (a : Int), .int (b : Int), .int (p : Int)] H (.int (car p a b 0 : Nat)) :=
  fun H1 _ Q q _ => ⟨a, b, p, rfl, h.1, h.2.1, h.2.2, q⟩
theorem ok_carries {P : Program} {w : World} {K : PySem.W.Frag} {mg : Str → Option Value} {base : Heap} {f : Addr} {fd : FuncData} {f_asked_prime : Addr} {fd_asked_prime : FuncData} {f_asked_many : Addr} {fd_asked_many : FuncData} {f_carried : Addr} {fd_carried : FuncData} (F : Fun K "carries" "carries" s_carries f fd)
    (D_asked_prime : Def P w K mg base CX0 2 "asked_prime" ["prime"] (sp_asked_prime K) f_asked_prime fd_asked_prime)
    (D_asked_many : Def P w K mg base CX0 1 "asked_many" ["many"] (sp_asked_many K) f_asked_many fd_asked_many)
    (D_carried : Def P w K mg base CX0 1 "carried" ["one", "other", "prime"] (sp_carried K) f_carried fd_carried) :
    FnOk P w K mg base CX0 3 f fd ["one", "other", "prime"] (sp_carries K) := by
  refine F.ok sc_carries (fun vs H Q E h => ?_) (fun cdv A outer s H vs Q E hr h => ?_)
  · obtain ⟨a, b, p, rfl, hp, ha, hb, q⟩ := h
    rfl
  · obtain ⟨a, b, p, rfl, hp, ha, hb, q⟩ := h
    refine ⟨_, (pss_cons (ps_expr (pe_call D_asked_prime.ok (hr.mono (by decide)) (by rfl) D_asked_prime.g D_asked_prime.kp D_asked_prime.b .nil pass0 (pa_cons (pv 2) pa_nil)))
      (pss_cons (ps_expr (pe_call D_asked_many.ok (hr.mono (by decide)) (by rfl) D_asked_many.g D_asked_many.kp D_asked_many.b .nil pass0 (pa_cons (pv 0) pa_nil)))
      (pss_cons (ps_expr (pe_call D_asked_many.ok (hr.mono (by decide)) (by rfl) D_asked_many.g D_asked_many.kp D_asked_many.b .nil pass0 (pa_cons (pv 1) pa_nil)))
      (pss_one (ps_ret (pe_call D_carried.ok (hr.mono (by decide)) (by rfl) D_carried.g D_carried.kp D_carried.b .nil pass0 (pa_cons (pv 0) (pa_cons (pv 1) (pa_cons (pv 2) pa_nil))))))))), ?_⟩
    refine q_drop (ev_call (ea_cons (ev_var rfl) ea_nil) (sv_asked_prime hp)) fun H1 e1 => ?_
    refine q_drop (ev_call (ea_cons (ev_var rfl) ea_nil) (sv_asked_many (by omega))) fun H2 e2 => ?_
    refine q_drop (ev_call (ea_cons (ev_var rfl) ea_nil) (sv_asked_many (by omega))) fun H3 e3 => ?_
    exact s_ret (ev_call (ea_cons (ev_var rfl) (ea_cons (ev_var rfl) (ea_cons (ev_var rfl) ea_nil))) (sv_carried hp)) fun H4 e4 => q H4 (((e1.trans e2).trans e3).trans e4)
/-! ### order_power -/
abbrev s_order_power : Stmt := topS 16
theorem sc_order_power : FnScope ["number", "prime", "found"] ["number", "prime"] (defScope s_order_power) := ⟨rfl, rfl, rfl, by decide +kernel, rfl, by decide +kernel, by decide +kernel⟩
def sp_order_power (K : PySem.W.Frag) : Sp := fun vs H Q _ => ∃ n p : Nat, vs = [.int (n : Int), .int (p : Int)] ∧ IsP p ∧ n ≤ 1000000000000000000000000000000 ∧ RetV (.int (op p n : Nat)) H Q
theorem sv_order_power {K : PySem.W.Frag} {H : Hp} {n p : Nat} (h : IsP p ∧ n ≤ 1000000000000000000000000000000) : SpV (sp_order_power K) [.int (n : Int), .int (p : Int)] H (.int (op p n : Nat)) := fun H1 _ Q q _ => ⟨n, p, rfl, h.1, h.2, q⟩
theorem ok_order_power {P : Program} {w : World} {K : PySem.W.Frag} {mg : Str → Option Value} {base : Heap} {f : Addr} {fd : FuncData} {f_asked_prime : Addr} {fd_asked_prime : FuncData} {f_asked_many : Addr} {fd_asked_many : FuncData} (F : Fun K "order_power" "order_power" s_order_power f fd)
    (D_asked_prime : Def P w K mg base CX0 2 "asked_prime" ["prime"] (sp_asked_prime K) f_asked_prime fd_asked_prime)
    (D_asked_many : Def P w K mg base CX0 1 "asked_many" ["many"] (sp_asked_many K) f_asked_many fd_asked_many) :
    FnOk P w K mg base CX0 3 f fd ["number", "prime"] (sp_order_power K) := by
  refine F.ok sc_order_power (fun vs H Q E h => ?_) (fun cdv A outer s H vs Q E hr h => ?_)
  · obtain ⟨n, p, rfl, hp, hn, q⟩ := h
    rfl
  · obtain ⟨n, p, rfl, hp, hn, q⟩ := h
    refine ⟨_, (pss_cons (ps_expr (pe_call D_asked_prime.ok (hr.mono (by decide)) (by rfl) D_asked_prime.g D_asked_prime.kp D_asked_prime.b .nil pass0 (pa_cons (pv 1) pa_nil)))
      (pss_cons (ps_expr (pe_call D_asked_many.ok (hr.mono (by decide)) (by rfl) D_asked_many.g D_asked_many.kp D_asked_many.b .nil pass0 (pa_cons (pv 0) pa_nil)))
      (pss_cons (ps_set (i := 2) sc_order_power.nd rfl (Or.inl rfl) pe_int)
      (pss_cons (ps_while PassesOwn.never (pt_cmpR op_gt (pv 0) pe_int (nomark _)) (pss_cons (ps_set (i := 0) sc_order_power.nd rfl (Or.inl rfl) (pe_op op_fdiv (pv 0) (pv 1)))
      (pss_one (ps_set (i := 2) sc_order_power.nd rfl (Or.inl rfl) (pe_op op_add (pv 2) (pv 0))))))
      (pss_one (ps_ret (pv 2))))))), ?_⟩
    have p2 := hp.ge
    have p97 := hp.le
    refine q_drop (ev_call (ea_cons (ev_var rfl) ea_nil) (sv_asked_prime hp)) fun H1 e1 => ?_
    refine q_drop (ev_call (ea_cons (ev_var rfl) ea_nil) (sv_asked_many (by omega))) fun H2 e2 => ?_
    refine q_asg ev_c fun H3 e3 => ?_
    refine q_whileK (fun m σ => ∃ x r : Nat, σ = [some (.int (x : Int)), some (.int (p : Int)), some (.int (r : Int))] ∧ m = x ∧ r + op p x = op p n) n ⟨n, 0, rfl, rfl, Nat.zero_add _⟩ (fun m σ H4 e4 hw => ?_)
    obtain ⟨x, r, rfl, rfl, hr'⟩ := hw
    refine ⟨_, (et_test (ev_op (ev_var rfl) ev_c rv_I0)), fun hb H5 e5 => ?_, fun hb H5 e5 => ?_⟩
    · have hx : 0 < m := by have := of_decide_eq_true hb; omega
      refine q_asg (ev_op (ev_var rfl) (ev_var rfl) (rv_I (by walk_at "op_fdiv"))) fun H6 e6 => ?_
      refine s_asg (ev_op (ev_var rfl) (ev_var rfl) rv_I0) fun H7 e7 => ⟨e6.trans e7, m / p, div_lt p2 hx, m / p, r + m / p, rfl, rfl, ?_⟩
      rw [← hr', op_s p2 hx]
      omega
    · have hx : m = 0 := by have := of_decide_eq_false hb; omega
      rw [hx, op_0, Nat.add_zero] at hr'
      rw [← hr'] at q
      exact s_ret (ev_var rfl) fun H6 e6 => q H6 ((((e1.trans e2).trans e3).trans e5).trans e6)
/-! ### rest -/
abbrev s_rest : Stmt := topS 21
theorem sc_rest : FnScope ["many", "some", "prime", "found"] ["many", "some", "prime"] (defScope s_rest) := ⟨rfl, rfl, rfl, by decide +kernel, rfl, by decide +kernel, by decide +kernel⟩
def sp_rest (K : PySem.W.Frag) : Sp := fun vs H Q _ => ∃ (n : Nat) (k : Int) (p : Nat), vs = [.int (n : Int), .int k, .int (p : Int)] ∧ IsP p ∧ n ≤ 1000000000000000000000000000000 ∧ RetV (.int (Ci n k % (p : Int))) H Q
theorem sv_rest {K : PySem.W.Frag} {H : Hp} {n : Nat} {k : Int} {p : Nat} (h : IsP p ∧ n ≤ 1000000000000000000000000000000) : SpV (sp_rest K) [.int (n : Int), .int k, .int (p : Int)] H (.int (Ci n k % (p : Int))) := fun H1 _ Q q _ => ⟨n, k, p, rfl, h.1, h.2, q⟩
theorem ok_rest {P : Program} {w : World} {K : PySem.W.Frag} {mg : Str → Option Value} {base : Heap} {f : Addr} {fd : FuncData} {f_asked_prime : Addr} {fd_asked_prime : FuncData} {f_asked_many : Addr} {fd_asked_many : FuncData} {f_count : Addr} {fd_count : FuncData} (F : Fun K "rest" "rest" s_rest f fd)
    (D_asked_prime : Def P w K mg base CX0 2 "asked_prime" ["prime"] (sp_asked_prime K) f_asked_prime fd_asked_prime)
    (D_asked_many : Def P w K mg base CX0 1 "asked_many" ["many"] (sp_asked_many K) f_asked_many fd_asked_many)
    (D_count : Def P w K mg base CX0 1 "count" ["many", "some"] (sp_count K) f_count fd_count) :
    FnOk P w K mg base CX0 3 f fd ["many", "some", "prime"] (sp_rest K) := by
  refine F.ok sc_rest (fun vs H Q E h => ?_) (fun cdv A outer s H vs Q E hr h => ?_)
  · obtain ⟨n, k, p, rfl, hp, hn, q⟩ := h
    rfl
  · obtain ⟨n, k, p, rfl, hp, hn, q⟩ := h
    refine ⟨_, (pss_cons (ps_expr (pe_call D_asked_prime.ok (hr.mono (by decide)) (by rfl) D_asked_prime.g D_asked_prime.kp D_asked_prime.b .nil pass0 (pa_cons (pv 2) pa_nil)))
      (pss_cons (ps_expr (pe_call D_asked_many.ok (hr.mono (by decide)) (by rfl) D_asked_many.g D_asked_many.kp D_asked_many.b .nil pass0 (pa_cons (pv 0) pa_nil)))
      (pss_cons (ps_if (PW.pt (pw_or (pt_cmpR op_lt (pv 1) pe_int (nomark _)) (pw_or1 (pt_cmpR op_gt (pv 1) (pv 0) (nomark _))))) (pss_one (ps_ret pe_int)) pss_nil)
      (pss_cons (ps_set (i := 3) sc_rest.nd rfl (Or.inl rfl) pe_int)
      (pss_cons (ps_while PassesOwn.never (pt_cmpR op_gt (pv 0) pe_int (nomark _)) (pss_cons (ps_set (i := 3) sc_rest.nd rfl (Or.inl rfl) (pe_op op_mod (pe_op op_mul (pv 3) (pe_call D_count.ok (hr.mono (by decide)) (by rfl) D_count.g D_count.kp D_count.b .nil pass0 (pa_cons (pe_op op_mod (pv 0) (pv 2)) (pa_cons (pe_op op_mod (pv 1) (pv 2)) pa_nil)))) (pv 2)))
      (pss_cons (ps_set (i := 0) sc_rest.nd rfl (Or.inl rfl) (pe_op op_fdiv (pv 0) (pv 2)))
      (pss_one (ps_set (i := 1) sc_rest.nd rfl (Or.inl rfl) (pe_op op_fdiv (pv 1) (pv 2)))))))
      (pss_one (ps_ret (pv 3)))))))), ?_⟩
    have p2 := hp.ge
    have p97 := hp.le
    refine q_drop (ev_call (ea_cons (ev_var rfl) ea_nil) (sv_asked_prime hp)) fun H1 e1 => ?_
    refine q_drop (ev_call (ea_cons (ev_var rfl) ea_nil) (sv_asked_many (by omega))) fun H2 e2 => ?_
    refine q_when (et_or (et_test (ev_op (ev_var rfl) ev_c rv_I0)) (fun _ => (et_test (ev_op (ev_var rfl) (ev_var rfl) rv_I0)))) (fun hb H3 e3 => ?_) (fun hb H3 e3 => ?_)
    · refine s_ret ev_c fun H4 e4 => ?_
      rw [Bool.or_eq_true, decide_eq_true_eq, decide_eq_true_eq] at hb
      have z := q H4 (((e1.trans e2).trans e3).trans e4)
      rw [Ci_out hb, Int.zero_emod] at z
      exact z
    · rw [Bool.or_eq_false_iff, decide_eq_false_iff_not, decide_eq_false_iff_not] at hb
      obtain ⟨j, rfl⟩ : ∃ j : Nat, k = j := ⟨k.toNat, by omega⟩
      have hj : j ≤ n := by omega
      refine q_asg ev_c fun H4 e4 => ?_
      refine q_whileK (fun m σ => ∃ x y f : Nat, σ = [some (.int (x : Int)), some (.int (y : Int)), some (.int (p : Int)), some (.int (f : Int))] ∧ m = x ∧ f < p ∧ f * lp p x y % p = lp p n j % p) n
        ⟨n, j, 1, rfl, rfl, by omega, by rw [Nat.one_mul]⟩ (fun m σ H5 e5 hw => ?_)
      obtain ⟨x, y, f, rfl, rfl, hf, hr'⟩ := hw
      refine ⟨_, (et_test (ev_op (ev_var rfl) ev_c rv_I0)), fun hb H6 e6 => ?_, fun hb H6 e6 => ?_⟩
      · have hx : 0 < m := by have := of_decide_eq_true hb; omega
        have m1 := Nat.mod_lt m (show 0 < p by omega)
        have e : Ci ((m : Int) % (p : Int)) ((y : Int) % (p : Int)) = ((C (m % p) (y % p) : Nat) : Int) := Ci_nat (n := m % p) (k := y % p)
        refine q_asg (v := .int ((f * C (m % p) (y % p) % p : Nat) : Int)) (ev_is (ev_op (ev_op (ev_var rfl) (ev_call (ea_cons (ev_op (ev_var rfl) (ev_var rfl) (rv_I (by walk_at "op_mod"))) (ea_cons (ev_op (ev_var rfl) (ev_var rfl) (rv_I (by walk_at "op_mod"))) ea_nil)) (sv_count (by walk_at "side"))) (rv_I (by walk_at "op_mul"))) (ev_var rfl) (rv_I (by walk_at "op_mod"))) (by rw [e] <;> rfl)) fun H7 e7 => ?_
        refine q_asg (ev_op (ev_var rfl) (ev_var rfl) (rv_I (by walk_at "op_fdiv"))) fun H8 e8 => ?_
        refine s_asg (ev_op (ev_var rfl) (ev_var rfl) (rv_I (by walk_at "op_fdiv"))) fun H9 e9 => ⟨(e7.trans e8).trans e9, m / p, div_lt p2 hx, m / p, y / p, f * C (m % p) (y % p) % p, rfl, rfl, Nat.mod_lt _ (by omega), ?_⟩
        rw [← hr', lp_s p2 hx, ← Nat.mul_assoc]
        exact (Eqm.mod (p := p)).mul Eqm.rfl'
      · have hx : m = 0 := by have := of_decide_eq_false hb; omega
        rw [hx, lp_0, Nat.mul_one, Nat.mod_eq_of_lt hf] at hr'
        rw [Ci_nat] at q
        have z : ((C n j : Nat) : Int) % (p : Int) = (f : Int) := by
          have c := lp_C hp n j hj
          unfold Eqm at c
          rw [c] at hr'
          rw [hr']
          rfl
        rw [z] at q
        exact s_ret (ev_var rfl) fun H7 e7 => q H7 (((((e1.trans e2).trans e3).trans e4).trans e6).trans e7)
/-! ### power -/
abbrev s_power : Stmt := topS 22
theorem sc_power : FnScope ["many", "some", "prime"] ["many", "some", "prime"] (defScope s_power) := ⟨rfl, rfl, rfl, by decide +kernel, rfl, by decide +kernel, by decide +kernel⟩
def powV (p n : Nat) (k : Int) : V := if k < 0 ∨ k > n then .non else .int ((car p k.toNat (n - k.toNat) 0 : Nat) : Int)
theorem powV_out {p n : Nat} {k : Int} (h : k < 0 ∨ k > n) : powV p n k = .non := if_pos h
theorem powV_in {p n k : Nat} (h : k ≤ n) : powV p n k = .int ((car p k (n - k) 0 : Nat) : Int) := if_neg (by omega)
def sp_power (K : PySem.W.Frag) : Sp := fun vs H Q _ => ∃ (n : Nat) (k : Int) (p : Nat), vs = [.int (n : Int), .int k, .int (p : Int)] ∧ IsP p ∧ n ≤ 1000000000000000000000000000000 ∧ RetV (powV p n k) H Q
theorem sv_power {K : PySem.W.Frag} {H : Hp} {n : Nat} {k : Int} {p : Nat} (h : IsP p ∧ n ≤ 1000000000000000000000000000000) : SpV (sp_power K) [.int (n : Int), .int k, .int (p : Int)] H (powV p n k) := fun H1 _ Q q _ => ⟨n, k, p, rfl, h.1, h.2, q⟩
theorem ok_power {P : Program} {w : World} {K : PySem.W.Frag} {mg : Str → Option Value} {base : Heap} {f : Addr} {fd : FuncData} {f_asked_prime : Addr} {fd_asked_prime : FuncData} {f_asked_many : Addr} {fd_asked_many : FuncData} {f_carried : Addr} {fd_carried : FuncData} (F : Fun K "power" "power" s_power f fd)
    (D_asked_prime : Def P w K mg base CX0 2 "asked_prime" ["prime"] (sp_asked_prime K) f_asked_prime fd_asked_prime)
    (D_asked_many : Def P w K mg base CX0 1 "asked_many" ["many"] (sp_asked_many K) f_asked_many fd_asked_many)
    (D_carried : Def P w K mg base CX0 1 "carried" ["one", "other", "prime"] (sp_carried K) f_carried fd_carried) :
    FnOk P w K mg base CX0 3 f fd ["many", "some", "prime"] (sp_power K) := by
  refine F.ok sc_power (fun vs H Q E h => ?_) (fun cdv A outer s H vs Q E hr h => ?_)
  · obtain ⟨n, k, p, rfl, hp, hn, q⟩ := h
    rfl
  · obtain ⟨n, k, p, rfl, hp, hn, q⟩ := h
    refine ⟨_, (pss_cons (ps_expr (pe_call D_asked_prime.ok (hr.mono (by decide)) (by rfl) D_asked_prime.g D_asked_prime.kp D_asked_prime.b .nil pass0 (pa_cons (pv 2) pa_nil)))
      (pss_cons (ps_expr (pe_call D_asked_many.ok (hr.mono (by decide)) (by rfl) D_asked_many.g D_asked_many.kp D_asked_many.b .nil pass0 (pa_cons (pv 0) pa_nil)))
      (pss_cons (ps_if (PW.pt (pw_or (pt_cmpR op_lt (pv 1) pe_int (nomark _)) (pw_or1 (pt_cmpR op_gt (pv 1) (pv 0) (nomark _))))) (pss_one (ps_ret pe_non)) pss_nil)
      (pss_one (ps_ret (pe_call D_carried.ok (hr.mono (by decide)) (by rfl) D_carried.g D_carried.kp D_carried.b .nil pass0 (pa_cons (pv 1) (pa_cons (pe_op op_sub (pv 0) (pv 1)) (pa_cons (pv 2) pa_nil))))))))), ?_⟩
    refine q_drop (ev_call (ea_cons (ev_var rfl) ea_nil) (sv_asked_prime hp)) fun H1 e1 => ?_
    refine q_drop (ev_call (ea_cons (ev_var rfl) ea_nil) (sv_asked_many (by omega))) fun H2 e2 => ?_
    refine q_when (et_or (et_test (ev_op (ev_var rfl) ev_c rv_I0)) (fun _ => (et_test (ev_op (ev_var rfl) (ev_var rfl) rv_I0)))) (fun hb H3 e3 => ?_) (fun hb H3 e3 => ?_)
    · refine s_ret ev_c fun H4 e4 => ?_
      rw [Bool.or_eq_true, decide_eq_true_eq, decide_eq_true_eq] at hb
      have z := q H4 (((e1.trans e2).trans e3).trans e4)
      rw [powV_out hb] at z
      exact z
    · rw [Bool.or_eq_false_iff, decide_eq_false_iff_not, decide_eq_false_iff_not] at hb
      obtain ⟨j, rfl⟩ : ∃ j : Nat, k = j := ⟨k.toNat, by omega⟩
      rw [powV_in (by omega)] at q
      refine s_ret (ev_call (ea_cons (ev_var rfl) (ea_cons (ev_is (ev_op (ev_var rfl) (ev_var rfl) rv_I0) (congrArg V.int (show (n : Int) - (j : Int) = ((n - j : Nat) : Int) by omega))) (ea_cons (ev_var rfl) ea_nil))) (sv_carried hp)) fun H4 e4 => q H4 (((e1.trans e2).trans e3).trans e4)
/-! ### last -/
abbrev s_last : Stmt := topS 25
theorem sc_last : FnScope ["many", "some", "prime", "left", "found", "under"] ["many", "some", "prime"] (defScope s_last) := ⟨rfl, rfl, rfl, by decide +kernel, rfl, by decide +kernel, by decide +kernel⟩
def lastV (p n : Nat) (k : Int) : V := if k < 0 ∨ k > n then .non else .int ((uu p n k.toNat % p : Nat) : Int)
theorem lastV_out {p n : Nat} {k : Int} (h : k < 0 ∨ k > n) : lastV p n k = .non := if_pos h
theorem lastV_in {p n k : Nat} (h : k ≤ n) : lastV p n k = .int ((uu p n k % p : Nat) : Int) := if_neg (by omega)
def sp_last (K : PySem.W.Frag) : Sp := fun vs H Q _ => ∃ (n : Nat) (k : Int) (p : Nat), vs = [.int (n : Int), .int k, .int (p : Int)] ∧ IsP p ∧ n ≤ 1000000000000000000000000000000 ∧ RetV (lastV p n k) H Q
theorem sv_last {K : PySem.W.Frag} {H : Hp} {n : Nat} {k : Int} {p : Nat} (h : IsP p ∧ n ≤ 1000000000000000000000000000000) : SpV (sp_last K) [.int (n : Int), .int k, .int (p : Int)] H (lastV p n k) := fun H1 _ Q q _ => ⟨n, k, p, rfl, h.1, h.2, q⟩
theorem last_turn {p f s A B x y z w c : Nat} (h1 : Eqm p (f * B) (s * A)) (hw : w = Fc (y % p) % p * (Fc (z % p) % p) % p) (hc : c * w % p = 1 % p) :
    Eqm p (f * (Fc (x % p) % p) * c % p * (B * (Fc (y % p) * Fc (z % p)))) (s * (A * Fc (x % p))) := by
  have hw' : Eqm p w (Fc (y % p) * Fc (z % p)) := by
    rw [hw]
    exact Eqm.mod.trans (Eqm.mod.mul Eqm.mod)
  have a : Eqm p (f * (Fc (x % p) % p) * c % p * (B * (Fc (y % p) * Fc (z % p)))) (f * Fc (x % p) * c * (B * w)) :=
    (Eqm.mod.trans ((Eqm.rfl'.mul Eqm.mod).mul Eqm.rfl')).mul (Eqm.rfl'.mul hw'.symm)
  refine a.trans ?_
  have e : f * Fc (x % p) * c * (B * w) = (f * B) * Fc (x % p) * (c * w) := by grind
  rw [e]
  have b : Eqm p ((f * B) * Fc (x % p) * (c * w)) ((s * A) * Fc (x % p) * 1) := (h1.mul Eqm.rfl').mul hc
  refine b.trans (Eqm.of ?_)
  grind
theorem ok_last {P : Program} {w : World} {K : PySem.W.Frag} {mg : Str → Option Value} {base : Heap} {f : Addr} {fd : FuncData} {f_asked_prime : Addr} {fd_asked_prime : FuncData} {f_asked_many : Addr} {fd_asked_many : FuncData} {f_carried : Addr} {fd_carried : FuncData} {f_order : Addr} {fd_order : FuncData} {f_contrary : Addr} {fd_contrary : FuncData} (F : Fun K "last" "last" s_last f fd)
    (D_asked_prime : Def P w K mg base CX0 2 "asked_prime" ["prime"] (sp_asked_prime K) f_asked_prime fd_asked_prime)
    (D_asked_many : Def P w K mg base CX0 1 "asked_many" ["many"] (sp_asked_many K) f_asked_many fd_asked_many)
    (D_carried : Def P w K mg base CX0 1 "carried" ["one", "other", "prime"] (sp_carried K) f_carried fd_carried)
    (D_order : Def P w K mg base CX0 1 "order" ["figure", "prime"] (sp_order K) f_order fd_order)
    (D_contrary : Def P w K mg base CX0 1 "contrary" ["number", "prime"] (sp_contrary K) f_contrary fd_contrary) :
    FnOk P w K mg base CX0 3 f fd ["many", "some", "prime"] (sp_last K) := by
  refine F.ok sc_last (fun vs H Q E h => ?_) (fun cdv A outer s H vs Q E hr h => ?_)
  · obtain ⟨n, k, p, rfl, hp, hn, q⟩ := h
    rfl
  · obtain ⟨n, k, p, rfl, hp, hn, q⟩ := h
    refine ⟨_, (pss_cons (ps_expr (pe_call D_asked_prime.ok (hr.mono (by decide)) (by rfl) D_asked_prime.g D_asked_prime.kp D_asked_prime.b .nil pass0 (pa_cons (pv 2) pa_nil)))
      (pss_cons (ps_expr (pe_call D_asked_many.ok (hr.mono (by decide)) (by rfl) D_asked_many.g D_asked_many.kp D_asked_many.b .nil pass0 (pa_cons (pv 0) pa_nil)))
      (pss_cons (ps_if (PW.pt (pw_or (pt_cmpR op_lt (pv 1) pe_int (nomark _)) (pw_or1 (pt_cmpR op_gt (pv 1) (pv 0) (nomark _))))) (pss_one (ps_ret pe_non)) pss_nil)
      (pss_cons (ps_set (i := 3) sc_last.nd rfl (Or.inl rfl) (pe_op op_sub (pv 0) (pv 1)))
      (pss_cons (ps_set (i := 4) sc_last.nd rfl (Or.inl rfl) pe_int)
      (pss_cut (ps_if (pt_cmpR op_eq (pe_op op_mod (pe_call D_carried.ok (hr.mono (by decide)) (by rfl) D_carried.g D_carried.kp D_carried.b .nil pass0 (pa_cons (pv 1) (pa_cons (pv 3) (pa_cons (pv 2) pa_nil)))) pe_int) pe_int (nomark _)) (pss_one (ps_set (i := 4) sc_last.nd rfl (Or.inl rfl) (pe_op op_sub (pv 2) pe_int))) pss_nil)
      (pss_cons (ps_while PassesOwn.never (pt_cmpR op_gt (pv 0) pe_int (nomark _)) (pss_cons (ps_set (i := 5) sc_last.nd rfl (Or.inl rfl) (pe_op op_mod (pe_op op_mul (pe_call D_order.ok (hr.mono (by decide)) (by rfl) D_order.g D_order.kp D_order.b .nil pass0 (pa_cons (pe_op op_mod (pv 1) (pv 2)) (pa_cons (pv 2) pa_nil))) (pe_call D_order.ok (hr.mono (by decide)) (by rfl) D_order.g D_order.kp D_order.b .nil pass0 (pa_cons (pe_op op_mod (pv 3) (pv 2)) (pa_cons (pv 2) pa_nil)))) (pv 2)))
      (pss_cons (ps_set (i := 4) sc_last.nd rfl (Or.inl rfl) (pe_op op_mod (pe_op op_mul (pe_op op_mul (pv 4) (pe_call D_order.ok (hr.mono (by decide)) (by rfl) D_order.g D_order.kp D_order.b .nil pass0 (pa_cons (pe_op op_mod (pv 0) (pv 2)) (pa_cons (pv 2) pa_nil)))) (pe_call D_contrary.ok (hr.mono (by decide)) (by rfl) D_contrary.g D_contrary.kp D_contrary.b .nil pass0 (pa_cons (pv 5) (pa_cons (pv 2) pa_nil)))) (pv 2)))
      (pss_cons (ps_set (i := 0) sc_last.nd rfl (Or.inl rfl) (pe_op op_fdiv (pv 0) (pv 2)))
      (pss_cons (ps_set (i := 1) sc_last.nd rfl (Or.inl rfl) (pe_op op_fdiv (pv 1) (pv 2)))
      (pss_one (ps_set (i := 3) sc_last.nd rfl (Or.inl rfl) (pe_op op_fdiv (pv 3) (pv 2)))))))))
      (pss_one (ps_ret (pv 4)))))))))), ?_⟩
    have p2 := hp.ge
    have p97 := hp.le
    refine q_drop (ev_call (ea_cons (ev_var rfl) ea_nil) (sv_asked_prime hp)) fun H1 e1 => ?_
    refine q_drop (ev_call (ea_cons (ev_var rfl) ea_nil) (sv_asked_many (by omega))) fun H2 e2 => ?_
    refine q_when (et_or (et_test (ev_op (ev_var rfl) ev_c rv_I0)) (fun _ => (et_test (ev_op (ev_var rfl) (ev_var rfl) rv_I0)))) (fun hb H3 e3 => ?_) (fun hb H3 e3 => ?_)
    · refine s_ret ev_c fun H4 e4 => ?_
      rw [Bool.or_eq_true, decide_eq_true_eq, decide_eq_true_eq] at hb
      have z := q H4 (((e1.trans e2).trans e3).trans e4)
      rw [lastV_out hb] at z
      exact z
    · rw [Bool.or_eq_false_iff, decide_eq_false_iff_not, decide_eq_false_iff_not] at hb
      obtain ⟨j, rfl⟩ : ∃ j : Nat, k = j := ⟨k.toNat, by omega⟩
      have hj : j ≤ n := by omega
      rw [lastV_in hj] at q
      refine q_asg (ev_is (ev_op (ev_var rfl) (ev_var rfl) rv_I0) (congrArg V.int (show (n : Int) - (j : Int) = ((n - j : Nat) : Int) by omega))) fun H4 e4 => ?_
      refine q_asg ev_c fun H5 e5 => ?_
      refine q_cut (M := fun σ H' => σ = [some (.int (n : Int)), some (.int (j : Int)), some (.int (p : Int)), some (.int ((n - j : Nat) : Int)), some (.int (((if car p j (n - j) 0 % 2 = 1 then p - 1 else 1 : Nat)) : Int)), none] ∧ Ex H H') ?_ (fun σ H6 hm => ?_)
      · refine s_when (et_test (ev_op (ev_op (ev_call (ea_cons (ev_var rfl) (ea_cons (ev_var rfl) (ea_cons (ev_var rfl) ea_nil))) (sv_carried hp)) ev_c (rv_I (by omega))) ev_c (rv_eq rfl))) (fun hb H6 e6 => ?_) (fun hb H6 e6 => ⟨?_, ((((e1.trans e2).trans e3).trans e4).trans e5).trans e6⟩)
        · have hc : car p j (n - j) 0 % 2 = 1 := by
            have := V.int.inj (of_decide_eq_true hb)
            omega
          refine s_asg (ev_is (ev_op (ev_var rfl) ev_c rv_I0) (congrArg V.int (show (p : Int) - 1 = ((p - 1 : Nat) : Int) by omega))) fun H7 e7 => ⟨?_, (((((e1.trans e2).trans e3).trans e4).trans e5).trans e6).trans e7⟩
          rw [if_pos hc]
          rfl
        · have hc : ¬ car p j (n - j) 0 % 2 = 1 := fun z => of_decide_eq_false hb (congrArg V.int (by omega))
          rw [if_neg hc]
          rfl
      · obtain ⟨rfl, E6⟩ := hm
        generalize hs : (if car p j (n - j) 0 % 2 = 1 then p - 1 else 1) = s
        have hsp : s < p := by
          rw [← hs]
          split <;> omega
        refine q_whileK (fun m σ => ∃ (x y z f A B : Nat) (v : Option V), σ = [some (.int (x : Int)), some (.int (y : Int)), some (.int (p : Int)), some (.int (z : Int)), some (.int (f : Int)), v] ∧ m = x ∧ f < p ∧ y + z ≤ x ∧ Eqm p (f * B) (s * A) ∧ G p n = A * G p x ∧ G p j * G p (n - j) = B * (G p y * G p z)) n
          ⟨n, j, n - j, s, 1, 1, none, rfl, rfl, hsp, by omega, Eqm.rfl', (Nat.one_mul _).symm, (Nat.one_mul _).symm⟩ (fun m σ H7 e7 hw => ?_)
        obtain ⟨x, y, z, f, A, B, v, rfl, rfl, hf, hyz, hi, hA, hB⟩ := hw
        refine ⟨_, (et_test (ev_op (ev_var rfl) ev_c rv_I0)), fun hb H8 e8 => ?_, fun hb H8 e8 => ?_⟩
        · have hx : 0 < m := by have := of_decide_eq_true hb; omega
          have mx := Nat.mod_lt m (show 0 < p by omega)
          have my := Nat.mod_lt y (show 0 < p by omega)
          have mz := Nat.mod_lt z (show 0 < p by omega)
          have fx := Nat.mod_lt (Fc (m % p)) (show 0 < p by omega)
          have fy := Nat.mod_lt (Fc (y % p)) (show 0 < p by omega)
          have fz := Nat.mod_lt (Fc (z % p)) (show 0 < p by omega)
          have w0 : Fc (y % p) % p * (Fc (z % p) % p) % p ≠ 0 := by
            have z1 := hp.mul (F_no hp _ my) (F_no hp _ mz)
            rw [Nat.mul_mod] at z1
            exact z1
          have w1 := Nat.mod_lt (Fc (y % p) % p * (Fc (z % p) % p)) (show 0 < p by omega)
          obtain ⟨_, c2, c3⟩ := ctr_ok hp (Nat.pos_of_ne_zero w0) w1
          refine q_asg (v := .int ((Fc (y % p) % p * (Fc (z % p) % p) % p : Nat) : Int)) (ev_op (ev_op (ev_call (ea_cons (ev_op (ev_var rfl) (ev_var rfl) (rv_I (by walk_at "op_mod"))) (ea_cons (ev_var rfl) ea_nil)) (sv_order (a := y % p) ⟨hp, my⟩)) (ev_call (ea_cons (ev_op (ev_var rfl) (ev_var rfl) (rv_I (by walk_at "op_mod"))) (ea_cons (ev_var rfl) ea_nil)) (sv_order (a := z % p) ⟨hp, mz⟩)) (rv_I (cmul_l (by omega)))) (ev_var rfl) (rv_I (by omega))) fun H9 e9 => ?_
          generalize hwe : Fc (y % p) % p * (Fc (z % p) % p) % p = w at w0 w1 c2 c3 ⊢
          refine q_asg (v := .int ((f * (Fc (m % p) % p) * ctr p w % p : Nat) : Int)) (ev_op (ev_op (ev_op (ev_var rfl) (ev_call (ea_cons (ev_op (ev_var rfl) (ev_var rfl) (rv_I (by walk_at "op_mod"))) (ea_cons (ev_var rfl) ea_nil)) (sv_order (a := m % p) ⟨hp, mx⟩)) (rv_I (cmul_l (by omega)))) (ev_call (ea_cons (ev_var rfl) (ea_cons (ev_var rfl) ea_nil)) (sv_contrary ⟨hp, Nat.pos_of_ne_zero w0, w1⟩)) (rv_I (cmul_r (by omega)))) (ev_var rfl) (rv_I (by omega))) fun H10 e10 => ?_
          refine q_asg (ev_op (ev_var rfl) (ev_var rfl) (rv_I (by walk_at "op_fdiv"))) fun H11 e11 => ?_
          refine q_asg (ev_op (ev_var rfl) (ev_var rfl) (rv_I (by walk_at "op_fdiv"))) fun H12 e12 => ?_
          refine s_asg (ev_op (ev_var rfl) (ev_var rfl) (rv_I (by walk_at "op_fdiv"))) fun H13 e13 => ⟨(((e9.trans e10).trans e11).trans e12).trans e13, m / p, div_lt p2 hx, m / p, y / p, z / p, f * (Fc (m % p) % p) * ctr p w % p, A * Fc (m % p), B * (Fc (y % p) * Fc (z % p)), _, rfl, rfl, Nat.mod_lt _ (by omega), ?_, ?_, ?_, ?_⟩
          · rw [Nat.le_div_iff_mul_le (by omega), Nat.add_mul]
            have := Nat.div_mul_le_self y p
            have := Nat.div_mul_le_self z p
            omega
          · exact last_turn hi hwe.symm (by rw [c2, Nat.mod_eq_of_lt (by omega)])
          · rw [hA, G_u p2 m, Nat.mul_assoc]
          · rw [hB, G_u p2 y, G_u p2 z]
            grind
        · have hx : m = 0 := by have := of_decide_eq_false hb; omega
          rw [hx, G_0, Nat.mul_one] at hA
          rw [show y = 0 by omega, show z = 0 by omega, G_0] at hB
          simp only [Nat.mul_one] at hB
          have en := last_end hp hj hf (by rw [hs, hA, hB]; exact hi)
          rw [← en] at q
          exact s_ret (ev_var rfl) fun H9 e9 => q H9 ((E6.trans e8).trans e9)
/-! ### free -/
abbrev s_free : Stmt := topS 29
theorem sc_free : FnScope ["many", "prime", "figure"] ["many", "prime"] (defScope s_free) := ⟨rfl, rfl, rfl, by decide +kernel, rfl, by decide +kernel, by decide +kernel⟩
def sp_free (K : PySem.W.Frag) : Sp := fun vs H Q _ => ∃ n p : Nat, vs = [.int (n : Int), .int (p : Int)] ∧ IsP p ∧ n ≤ 1000000000000000000000000000000 ∧ RetV (.int ((tot p n : Nat) : Int)) H Q
theorem sv_free {K : PySem.W.Frag} {H : Hp} {n p : Nat} (h : IsP p ∧ n ≤ 1000000000000000000000000000000) : SpV (sp_free K) [.int (n : Int), .int (p : Int)] H (.int ((tot p n : Nat) : Int)) := fun H1 _ Q q _ => ⟨n, p, rfl, h.1, h.2, q⟩
theorem digs_97 {p : Nat} (hp : IsP p) (n : Nat) : ∀ x ∈ digs p n, x < 97 := fun x hx => Nat.lt_of_lt_of_le (digs_lt hp.ge n x hx) hp.le
theorem ok_free {P : Program} {w : World} {K : PySem.W.Frag} {mg : Str → Option Value} {base : Heap} {f : Addr} {fd : FuncData} {f_asked_prime : Addr} {fd_asked_prime : FuncData} {f_asked_many : Addr} {fd_asked_many : FuncData} {f_product : Addr} {fd_product : FuncData} {f_figures_of : Addr} {fd_figures_of : FuncData} (F : Fun K "free" "free" s_free f fd)
    (D_asked_prime : Def P w K mg base CX0 2 "asked_prime" ["prime"] (sp_asked_prime K) f_asked_prime fd_asked_prime)
    (D_asked_many : Def P w K mg base CX0 1 "asked_many" ["many"] (sp_asked_many K) f_asked_many fd_asked_many)
    (D_product : Def P w K mg base CX0 1 "product" ["numbers"] (sp_product K) f_product fd_product)
    (D_figures_of : Def P w K mg base CX0 1 "figures_of" ["number", "prime"] (sp_figures_of K) f_figures_of fd_figures_of) :
    FnOk P w K mg base CX0 3 f fd ["many", "prime"] (sp_free K) := by
  refine F.ok sc_free (fun vs H Q E h => ?_) (fun cdv A outer s H vs Q E hr h => ?_)
  · obtain ⟨n, p, rfl, hp, hn, q⟩ := h
    rfl
  · obtain ⟨n, p, rfl, hp, hn, q⟩ := h
    refine ⟨_, (pss_cons (ps_expr (pe_call D_asked_prime.ok (hr.mono (by decide)) (by rfl) D_asked_prime.g D_asked_prime.kp D_asked_prime.b .nil pass0 (pa_cons (pv 1) pa_nil)))
      (pss_cons (ps_expr (pe_call D_asked_many.ok (hr.mono (by decide)) (by rfl) D_asked_many.g D_asked_many.kp D_asked_many.b .nil pass0 (pa_cons (pv 0) pa_nil)))
      (pss_one (ps_ret (pe_call D_product.ok (hr.mono (by decide)) (by rfl) D_product.g D_product.kp D_product.b .nil pass0 (pa_cons (pe_lc (own := [("figure", 2)]) (g := gName 2) (tt := tYes) (te := (tOp (rI0 fun i j => .int (i + j)) (tVar 2) (tC (.int 1)))) rfl sc_free.nd (pi_list (pe_call D_figures_of.ok (hr.mono (by decide)) (by rfl) D_figures_of.g D_figures_of.kp D_figures_of.b .nil pass0 (pa_cons (pv 0) (pa_cons (pv 1) pa_nil)))) (blkOk_by (own := [("figure", 2)]) (N := ["many", "prime", "figure"]) (sc := defScope s_free) (by decide +kernel)) (fun _ _ _ _ _ => pg_name (i := 2) sc_free.nd rfl (Or.inl rfl)) (fun _ _ _ _ _ => pts_nil) (fun _ _ _ _ _ => (pe_op op_add (pv 2) pe_int))) pa_nil)))))), ?_⟩
    refine q_drop (ev_call (ea_cons (ev_var rfl) ea_nil) (sv_asked_prime hp)) fun H1 e1 => ?_
    refine q_drop (ev_call (ea_cons (ev_var rfl) ea_nil) (sv_asked_many (by omega))) fun H2 e2 => ?_
    refine s_ret (ev_prod (EvK.of (el_call (ea_cons (ev_var rfl) (ea_cons (ev_var rfl) ea_nil)) (sv_figures_of (by walk_at "side")))) (digs_len100 hp hn) (digs_97 hp n) (fun _ => rfl) (fun a H3 e3 ha => ev_is (ev_op (ev_var rfl) ev_c rv_I0) rfl)) fun H3 e3 => ?_
    rw [tot_prodl hp.ge]
    exact q H3 ((e1.trans e2).trans e3)
/-! ### next_free -/
abbrev s_next_free : Stmt := topS 31
theorem sc_next_free : FnScope ["many", "place", "prime", "most", "row", "over", "higher", "at", "k"] ["many", "place", "prime"] (defScope s_next_free) := ⟨rfl, rfl, rfl, by decide +kernel, rfl, by decide +kernel, by decide +kernel⟩
def nextV (p n : Nat) (k : Int) : V := if k > n then .non else ov ((nxl (digs p n) (padl p k.toNat (digs p n).length)).map fun L => ((val p L : Nat) : Int))
def sp_next_free (K : PySem.W.Frag) : Sp := fun vs H Q _ => ∃ (n : Nat) (k : Int) (p : Nat), vs = [.int (n : Int), .int k, .int (p : Int)] ∧ IsP p ∧ n ≤ 1000000000000000000000000000000 ∧ RetV (nextV p n k) H Q
theorem sv_next_free {K : PySem.W.Frag} {H : Hp} {n : Nat} {k : Int} {p : Nat} (h : IsP p ∧ n ≤ 1000000000000000000000000000000) : SpV (sp_next_free K) [.int (n : Int), .int k, .int (p : Int)] H (nextV p n k) := fun H1 _ Q q _ => ⟨n, k, p, rfl, h.1, h.2, q⟩
theorem nextV_map {p n : Nat} {k : Int} (hk : ¬ k > n) : nextV p n k = ov (((nxl (digs p n) (padl p k.toNat (digs p n).length)).map (val p)).map fun (x : Nat) => (x : Int)) := by
  unfold nextV
  rw [if_neg hk, Option.map_map]
  rfl
theorem nextV_some {p n x : Nat} {k : Int} (hp : 2 ≤ p) (h1 : k.toNat ≤ x) (h2 : fr p n x = true) (h3 : ∀ y, k.toNat ≤ y → y < x → fr p n y = false) : nextV p n k = nv x := by
  have hx := fr_le hp n x h2
  rw [nextV_map (by omega), nx_some hp (by omega) h1 h2 h3]
  rfl
theorem nextV_none {p n : Nat} {k : Int} (hp : 2 ≤ p) (h : ∀ y, k.toNat ≤ y → fr p n y = false) : nextV p n k = .non := by
  by_cases c : k > n
  · unfold nextV
    rw [if_pos c]
  · rw [nextV_map c, nx_none hp (by omega) h]
    rfl
theorem nextV_cases {p n : Nat} {k : Int} (hp : 2 ≤ p) : (nextV p n k = .non ∧ ∀ y, k.toNat ≤ y → fr p n y = false) ∨ ∃ x, nextV p n k = nv x ∧ k.toNat ≤ x ∧ fr p n x = true ∧ ∀ y, k.toNat ≤ y → y < x → fr p n y = false := by
  by_cases c : k > n
  · have h : ∀ y, k.toNat ≤ y → fr p n y = false := fun y hy => fr_gt hp (by omega)
    exact .inl ⟨nextV_none hp h, h⟩
  · rcases nx_cases hp (n := n) (k := k.toNat) (by omega) with ⟨h1, h2⟩ | ⟨x, h1, h2, h3, h4⟩
    · exact .inl ⟨nextV_none hp h2, h2⟩
    · exact .inr ⟨x, nextV_some hp h2 h3 h4, h2, h3, h4⟩
theorem max0 (k : Int) : (if (0 : Int) > k then (0 : Int) else k) = ((k.toNat : Nat) : Int) := by split <;> omega
theorem len_dec (l : List Nat) : decide (V.int ((l.length : Nat) : Int) = V.int 0) = decide (l = []) := by
  refine decide_eq_decide.mpr ⟨fun z => ?_, fun z => by rw [z]; rfl⟩
  have := V.int.inj z
  exact List.eq_nil_of_length_eq_zero (by omega)
theorem ok_next_free {P : Program} {w : World} {K : PySem.W.Frag} {mg : Str → Option Value} {base : Heap} {f : Addr} {fd : FuncData} {f_asked_prime : Addr} {fd_asked_prime : FuncData} {f_asked_many : Addr} {fd_asked_many : FuncData} {f_figures_of : Addr} {fd_figures_of : FuncData} {f_padded : Addr} {fd_padded : FuncData} {f_number_of : Addr} {fd_number_of : FuncData} (F : Fun K "next_free" "next_free" s_next_free f fd)
    (D_asked_prime : Def P w K mg base CX0 2 "asked_prime" ["prime"] (sp_asked_prime K) f_asked_prime fd_asked_prime)
    (D_asked_many : Def P w K mg base CX0 1 "asked_many" ["many"] (sp_asked_many K) f_asked_many fd_asked_many)
    (D_figures_of : Def P w K mg base CX0 1 "figures_of" ["number", "prime"] (sp_figures_of K) f_figures_of fd_figures_of)
    (D_padded : Def P w K mg base CX0 2 "padded" ["number", "prime", "size"] (sp_padded K) f_padded fd_padded)
    (D_number_of : Def P w K mg base CX0 1 "number_of" ["row", "prime"] (sp_number_of K) f_number_of fd_number_of) (z_max : mg "max" = none) (z_len : mg "len" = none) (z_range : mg "range" = none) :
    FnOk P w K mg base CX0 3 f fd ["many", "place", "prime"] (sp_next_free K) := by
  refine F.ok sc_next_free (fun vs H Q E h => ?_) (fun cdv A outer s H vs Q E hr h => ?_)
  · obtain ⟨n, k, p, rfl, hp, hn, q⟩ := h
    rfl
  · obtain ⟨n, k, p, rfl, hp, hn, q⟩ := h
    refine ⟨_, (pss_cons (ps_expr (pe_call D_asked_prime.ok (hr.mono (by decide)) (by rfl) D_asked_prime.g D_asked_prime.kp D_asked_prime.b .nil pass0 (pa_cons (pv 2) pa_nil)))
      (pss_cons (ps_expr (pe_call D_asked_many.ok (hr.mono (by decide)) (by rfl) D_asked_many.g D_asked_many.kp D_asked_many.b .nil pass0 (pa_cons (pv 0) pa_nil)))
      (pss_cons (ps_if (pt_cmpR op_gt (pv 1) (pv 0) (nomark _)) (pss_one (ps_ret pe_non)) pss_nil)
      (pss_cons (ps_set (i := 3) sc_next_free.nd rfl (Or.inr rfl) (pe_call D_figures_of.ok (hr.mono (by decide)) (by rfl) D_figures_of.g D_figures_of.kp D_figures_of.b .nil pass0 (pa_cons (pv 0) (pa_cons (pv 2) pa_nil))))
      (pss_cons (ps_set (i := 4) sc_next_free.nd rfl (Or.inr rfl) (pe_call D_padded.ok (hr.mono (by decide)) (by rfl) D_padded.g D_padded.kp D_padded.b .nil pass0 (pa_cons (pe_callB (call_max2 rfl) (by rfl) z_max (by decide +kernel) (pa_cons (pv 1) (pa_cons pe_int pa_nil))) (pa_cons (pv 2) (pa_cons (pe_callB call_len_seq (by rfl) z_len PySem.boot_len (pa_cons (pv 3) pa_nil)) pa_nil)))))
      (pss_cons (ps_setLc (i := 5) (own := [("k", 8)]) (g := gName 8) (tt := (tTest (tOp (rI0 fun i j => .bl (decide (j < i))) (tOp (rIxL K) (tVar 4) (tVar 8)) (tOp (rIxL K) (tVar 3) (tVar 8))))) (te := (tVar 8)) rfl sc_next_free.nd rfl rfl (sw_true rfl rfl rfl (by decide +kernel)) (pi_range1 (by rfl) z_range (pa_cons (pe_callB call_len_seq (by rfl) z_len PySem.boot_len (pa_cons (pv 3) pa_nil)) pa_nil)) (blkOk_by (own := [("k", 8)]) (N := ["many", "place", "prime", "most", "row", "over", "higher", "at", "k"]) (sc := defScope s_next_free) (by decide +kernel)) (fun _ _ _ _ _ => pg_name (i := 8) sc_next_free.nd rfl (Or.inl rfl)) (fun _ _ _ _ _ => (pts_one (pt_cmpR op_gt (pe_ix ix_list (pv 4) (pv 8) (fun _ _ => rfl)) (pe_ix ix_list (pv 3) (pv 8) (fun _ _ => rfl)) (nomark _)))) (fun _ _ _ _ _ => (pv 8)))
      (pss_cons (ps_if (pt_cmpR op_eq (pe_callB call_len_seq (by rfl) z_len PySem.boot_len (pa_cons (pv 5) pa_nil)) pe_int (nomark _)) (pss_one (ps_ret (pe_callB (call_max2 rfl) (by rfl) z_max (by decide +kernel) (pa_cons (pv 1) (pa_cons pe_int pa_nil))))) pss_nil)
      (pss_cons (ps_setLc (i := 6) (own := [("k", 8)]) (g := gName 8) (tt := (tTest (tOp (rI0 fun i j => .bl (decide (i < j))) (tOp (rIxL K) (tVar 4) (tVar 8)) (tOp (rIxL K) (tVar 3) (tVar 8))))) (te := (tVar 8)) rfl sc_next_free.nd rfl rfl (sw_true rfl rfl rfl (by decide +kernel)) (pi_range2 (by rfl) z_range (pa_cons (pe_op op_add (pe_ix ix_list (pv 5) (pe_un un_neg pe_int) (fun _ _ => rfl)) pe_int) (pa_cons (pe_callB call_len_seq (by rfl) z_len PySem.boot_len (pa_cons (pv 3) pa_nil)) pa_nil))) (blkOk_by (own := [("k", 8)]) (N := ["many", "place", "prime", "most", "row", "over", "higher", "at", "k"]) (sc := defScope s_next_free) (by decide +kernel)) (fun _ _ _ _ _ => pg_name (i := 8) sc_next_free.nd rfl (Or.inl rfl)) (fun _ _ _ _ _ => (pts_one (pt_cmpR op_lt (pe_ix ix_list (pv 4) (pv 8) (fun _ _ => rfl)) (pe_ix ix_list (pv 3) (pv 8) (fun _ _ => rfl)) (nomark _)))) (fun _ _ _ _ _ => (pv 8)))
      (pss_cons (ps_if (pt_cmpR op_eq (pe_callB call_len_seq (by rfl) z_len PySem.boot_len (pa_cons (pv 6) pa_nil)) pe_int (nomark _)) (pss_one (ps_ret pe_non)) pss_nil)
      (pss_cons (ps_set (i := 7) sc_next_free.nd rfl (Or.inl rfl) (pe_ix ix_list (pv 6) pe_int (fun _ _ => rfl)))
      (pss_one (ps_ret (pe_call D_number_of.ok (hr.mono (by decide)) (by rfl) D_number_of.g D_number_of.kp D_number_of.b .nil pass0 (pa_cons (pe_op op_cat (pe_op op_cat (pe_lc (own := [("k", 8)]) (g := gName 8) (tt := tYes) (te := (tC (.int 0))) rfl sc_next_free.nd (pi_range1 (by rfl) z_range (pa_cons (pv 7) pa_nil)) (blkOk_by (own := [("k", 8)]) (N := ["many", "place", "prime", "most", "row", "over", "higher", "at", "k"]) (sc := defScope s_next_free) (by decide +kernel)) (fun _ _ _ _ _ => pg_name (i := 8) sc_next_free.nd rfl (Or.inl rfl)) (fun _ _ _ _ _ => pts_nil) (fun _ _ _ _ _ => pe_int)) (pe_lst (pa_cons (pe_op op_add (pe_ix ix_list (pv 4) (pv 7) (fun _ _ => rfl)) pe_int) pa_nil))) (pe_slice sl_list (pv 4) (po_some (pe_op op_add (pv 7) pe_int)) po_none)) (pa_cons (pv 2) pa_nil))))))))))))))), ?_⟩
    have p2 := hp.ge
    refine q_drop (ev_call (ea_cons (ev_var rfl) ea_nil) (sv_asked_prime hp)) fun H1 e1 => ?_
    refine q_drop (ev_call (ea_cons (ev_var rfl) ea_nil) (sv_asked_many (by omega))) fun H2 e2 => ?_
    unfold nextV at q
    refine q_when (et_test (ev_op (ev_var rfl) (ev_var rfl) rv_I0)) (fun hb H3 e3 => ?_) (fun hb H3 e3 => ?_)
    · rw [if_pos (of_decide_eq_true hb)] at q
      exact s_ret ev_c fun H4 e4 => q H4 (((e1.trans e2).trans e3).trans e4)
    · have hb' := of_decide_eq_false hb
      rw [if_neg hb'] at q
      have hj : k.toNat ≤ n := by omega
      have hl := digs_len100 hp hn
      have hm := digs_mono p2 n _ hj
      refine q_asgL (el_call (ea_cons (ev_var rfl) (ea_cons (ev_var rfl) ea_nil)) (sv_figures_of (by walk_at "side"))) fun ln H4 _ e4 hln => ?_
      refine q_asgL (el_call (ea_cons (ev_is (ev_max2 (ev_var rfl) ev_c) (congrArg V.int (max0 k))) (ea_cons (ev_var rfl) (ea_cons (ev_is (ev_lenK (ek_var (ev_var rfl) (by walk_at "list"))) (by rw [List.length_map])) ea_nil))) (sv_padded hp (by omega) hm hl)) fun lk H5 _ e5 hlk => ?_
      have hlk5 := hlk
      have hln5 := ex_at e5 hln
      have hpv := padl_val p2 (digs p n).length k.toNat hm
      have hle := (padl_len p (digs p n).length k.toNat).symm
      rw [nxl_nxp _ _ hle] at q
      generalize padl p k.toNat (digs p n).length = ks at hlk5 hpv hle q
      generalize digs p n = ms at *
      have EE := (((e1.trans e2).trans e3).trans e4).trans e5
      unfold nxp at q
      refine q_asgL (xs := (ovr ms ks).map nv) (el_fmR1 (n := ms.length) (fun i => decide (ms.getD i 0 < ks.getD i 0)) nv (ea_cons (ev_is (ev_lenK (ek_var (ev_var rfl) (by walk_at "list"))) (by rw [List.length_map])) ea_nil) (by omega) (fun _ => rfl) (fun i H6 e6 hi => ?_) (fun i H6 e6 hi _ => ev_var rfl)) fun lo H6 _ e6 hlo => ?_
      · refine et_is (et_test (ev_op (ev_ixK (ek_var (ev_var rfl) (ex_at e6 hlk5)) (ev_var rfl) (atI_map rfl (getD_at (by omega)))) (ev_ixK (ek_var (ev_var rfl) (ex_at e6 hln5)) (ev_var rfl) (atI_map rfl (getD_at hi))) rv_I0)) ?_
        exact decide_eq_decide.mpr Int.ofNat_lt
      have hov : decide (V.int ((((ovr ms ks).map nv).length : Nat) : Int) = V.int 0) = decide (ovr ms ks = []) := by
        rw [List.length_map]
        exact len_dec _
      refine q_when (et_is (et_test (ev_op (ev_lenK (ek_var (ev_var rfl) (by walk_at "list"))) ev_c (rv_eq rfl))) hov) (fun hc H7 e7 => ?_) (fun hc H7 e7 => ?_)
      · have hc' := of_decide_eq_true hc
        rw [if_pos hc'] at q
        refine s_ret (ev_is (ev_max2 (ev_var rfl) ev_c) (congrArg V.int (max0 k))) fun H8 e8 => ?_
        have z := q H8 (((EE.trans e6).trans e7).trans e8)
        rw [show ov ((some ks).map fun L => ((val p L : Nat) : Int)) = V.int ((val p ks : Nat) : Int) from rfl, hpv] at z
        exact z
      · have hc' := of_decide_eq_false hc
        rw [if_neg hc'] at q
        generalize hog : (ovr ms ks).getLastD 0 = o at q
        have holt : o < ms.length := by
          have hm : o ∈ ovr ms ks := by
            rw [← hog, List.getLastD_eq_getLast?, List.getLast?_eq_getLast hc']
            exact List.getLast_mem hc'
          unfold ovr at hm
          rw [List.mem_filter, List.mem_range] at hm
          exact hm.1
        have hln7 := ex_at e7 (ex_at e6 hln5)
        have hlk7 := ex_at e7 (ex_at e6 hlk5)
        refine q_asgL (xs := (und ms ks (o + 1)).map nv) (el_eq (el_fmR2 (lo := (o : Int) + 1) (hi := (ms.length : Int)) (n := ms.length - (o + 1)) (fun a => decide (ks.getD (o + 1 + a) 0 < ms.getD (o + 1 + a) 0)) (fun a => nv (o + 1 + a))
          (ea_cons (ev_op (ev_ixK (v := nv o) (ek_var (ev_var rfl) (ex_at e7 hlo)) (ev_un ev_c ru_neg) (by rw [← hog]; exact at_last hc')) ev_c rv_I0) (ea_cons (ev_is (ev_lenK (ek_var (ev_var rfl) (by walk_at "list"))) (by rw [List.length_map])) ea_nil)) (by omega) (by omega) (by omega) (fun _ => rfl) (fun a H8 e8 ha => ?_)
          (fun a H8 e8 ha _ => ev_is (ev_var rfl) (congrArg V.int (show (o : Int) + 1 + (a : Int) = ((o + 1 + a : Nat) : Int) by omega)))) (by unfold und; rw [List.map_map] <;> rfl)) fun lh H8 _ e8 hlh => ?_
        · have ez : (o : Int) + 1 + (a : Int) = ((o + 1 + a : Nat) : Int) := by omega
          refine et_is (et_test (ev_op (ev_ixK (ek_var (ev_var rfl) (ex_at e8 hlk7)) (ev_var rfl) (atI_map ez (getD_at (by omega)))) (ev_ixK (ek_var (ev_var rfl) (ex_at e8 hln7)) (ev_var rfl) (atI_map ez (getD_at (by omega)))) rv_I0)) ?_
          exact decide_eq_decide.mpr Int.ofNat_lt
        have hun : decide (V.int ((((und ms ks (o + 1)).map nv).length : Nat) : Int) = V.int 0) = decide (und ms ks (o + 1) = []) := by
          rw [List.length_map]
          exact len_dec _
        refine q_when (et_is (et_test (ev_op (ev_lenK (ek_var (ev_var rfl) (by walk_at "list"))) ev_c (rv_eq rfl))) hun) (fun hd H9 e9 => ?_) (fun hd H9 e9 => ?_)
        · rw [of_decide_eq_true hd] at q
          exact s_ret ev_c fun H10 e10 => q H10 (((((EE.trans e6).trans e7).trans e8).trans e9).trans e10)
        · have hd' := of_decide_eq_false hd
          have hmem : ∀ y ∈ und ms ks (o + 1), y < ms.length := fun y hy => by
            unfold und at hy
            obtain ⟨a, h1, h2⟩ := List.mem_map.mp hy
            rw [List.mem_filter, List.mem_range] at h1
            omega
          have hlh9 := ex_at e9 hlh
          cases hu : und ms ks (o + 1) with
          | nil => exact absurd hu hd'
          | cons x r =>
            rw [hu] at q hlh9 hmem
            have hx := hmem x List.mem_cons_self
            refine q_asg (ev_ixK (v := nv x) (ek_var (ev_var rfl) hlh9) ev_c at0) fun H10 e10 => ?_
            have hlk10 := ex_at e10 (ex_at e9 (ex_at e8 hlk7))
            refine s_ret (ev_callL2 (xs := (bld ks x).map nv) (EvK.of (el_eq (el_cat (EvK.of (el_cat (EvK.of (el_mpR1 (n := x) (fun _ => nv 0) (ea_cons (ev_var rfl) ea_nil) (by omega) (fun _ => rfl) (fun a H11 e11 ha => ev_c)))
              (EvK.of (el_lst (ea_cons (ev_op (ev_ixK (v := nv (ks.getD x 0)) (ek_var (ev_var rfl) hlk10) (ev_var rfl) (atI_map rfl (getD_at (by omega)))) ev_c rv_I0) ea_nil) (by simp))) (by simp; omega)))
              (EvK.of (el_eq (ys := (ks.drop (x + 1)).map nv) (el_slK (ek_var (ev_var rfl) hlk10) (eo_some (ev_op (ev_var rfl) ev_c rv_I0)) eo_none) (cut_drop ks nv (x + 1)))) (by simp; omega)) ?_)) (ev_var rfl) fun p' H11 hp' e11 => sv_number_of hp' hp) fun H11 e11 => ?_
            · unfold bld
              rw [List.map_append, List.map_append, List.map_replicate, List.map_const', List.length_range]
              rfl
            · exact q H11 ((((((EE.trans e6).trans e7).trans e8).trans e9).trans e10).trans e11)
/-! ### free_ahead -/
abbrev s_free_ahead : Stmt := topS 32
theorem sc_free_ahead : FnScope ["many", "place", "prime", "most", "row", "found", "k", "less", "figure"] ["many", "place", "prime"] (defScope s_free_ahead) := ⟨rfl, rfl, rfl, by decide +kernel, rfl, by decide +kernel, by decide +kernel⟩
def sp_free_ahead (K : PySem.W.Frag) : Sp := fun vs H Q _ => ∃ (n : Nat) (k : Int) (p : Nat), vs = [.int (n : Int), .int k, .int (p : Int)] ∧ IsP p ∧ n ≤ 1000000000000000000000000000000 ∧ RetV (.int ((rk p n k.toNat : Nat) : Int)) H Q
theorem sv_free_ahead {K : PySem.W.Frag} {H : Hp} {n : Nat} {k : Int} {p : Nat} (h : IsP p ∧ n ≤ 1000000000000000000000000000000) : SpV (sp_free_ahead K) [.int (n : Int), .int k, .int (p : Int)] H (.int ((rk p n k.toNat : Nat) : Int)) := fun H1 _ Q q _ => ⟨n, k, p, rfl, h.1, h.2, q⟩
theorem cons_drop {l : List Nat} {i : Nat} (h : i < l.length) : l.drop i = l.getD i 0 :: l.drop (i + 1) := by
  rw [List.getD_eq_getElem?_getD, List.getElem?_eq_getElem h]
  exact List.drop_eq_getElem_cons h
theorem ok_free_ahead {P : Program} {w : World} {K : PySem.W.Frag} {mg : Str → Option Value} {base : Heap} {f : Addr} {fd : FuncData} {f_asked_prime : Addr} {fd_asked_prime : FuncData} {f_asked_many : Addr} {fd_asked_many : FuncData} {f_figures_of : Addr} {fd_figures_of : FuncData} {f_padded : Addr} {fd_padded : FuncData} {f_product : Addr} {fd_product : FuncData} (F : Fun K "free_ahead" "free_ahead" s_free_ahead f fd)
    (D_asked_prime : Def P w K mg base CX0 2 "asked_prime" ["prime"] (sp_asked_prime K) f_asked_prime fd_asked_prime)
    (D_asked_many : Def P w K mg base CX0 1 "asked_many" ["many"] (sp_asked_many K) f_asked_many fd_asked_many)
    (D_figures_of : Def P w K mg base CX0 1 "figures_of" ["number", "prime"] (sp_figures_of K) f_figures_of fd_figures_of)
    (D_padded : Def P w K mg base CX0 2 "padded" ["number", "prime", "size"] (sp_padded K) f_padded fd_padded)
    (D_product : Def P w K mg base CX0 1 "product" ["numbers"] (sp_product K) f_product fd_product) (z_reversed : mg "reversed" = none) (z_max : mg "max" = none) (z_len : mg "len" = none) (z_range : mg "range" = none) (z_min : mg "min" = none) :
    FnOk P w K mg base CX0 3 f fd ["many", "place", "prime"] (sp_free_ahead K) := by
  refine F.ok sc_free_ahead (fun vs H Q E h => ?_) (fun cdv A outer s H vs Q E hr h => ?_)
  · obtain ⟨n, k, p, rfl, hp, hn, q⟩ := h
    rfl
  · obtain ⟨n, k, p, rfl, hp, hn, q⟩ := h
    refine ⟨_, (pss_cons (ps_expr (pe_call D_asked_prime.ok (hr.mono (by decide)) (by rfl) D_asked_prime.g D_asked_prime.kp D_asked_prime.b .nil pass0 (pa_cons (pv 2) pa_nil)))
      (pss_cons (ps_expr (pe_call D_asked_many.ok (hr.mono (by decide)) (by rfl) D_asked_many.g D_asked_many.kp D_asked_many.b .nil pass0 (pa_cons (pv 0) pa_nil)))
      (pss_cons (ps_set (i := 3) sc_free_ahead.nd rfl (Or.inl rfl) (pe_call D_figures_of.ok (hr.mono (by decide)) (by rfl) D_figures_of.g D_figures_of.kp D_figures_of.b .nil pass0 (pa_cons (pv 0) (pa_cons (pv 2) pa_nil))))
      (pss_cons (ps_if (pt_cmpR op_gt (pv 1) (pv 0) (nomark _)) (pss_one (ps_ret (pe_call D_product.ok (hr.mono (by decide)) (by rfl) D_product.g D_product.kp D_product.b .nil pass0 (pa_cons (pe_lc (own := [("figure", 8)]) (g := gName 8) (tt := tYes) (te := (tOp (rI0 fun i j => .int (i + j)) (tVar 8) (tC (.int 1)))) rfl sc_free_ahead.nd (pi_list (pv 3)) (blkOk_by (own := [("figure", 8)]) (N := ["many", "place", "prime", "most", "row", "found", "k", "less", "figure"]) (sc := defScope s_free_ahead) (by decide +kernel)) (fun _ _ _ _ _ => pg_name (i := 8) sc_free_ahead.nd rfl (Or.inl rfl)) (fun _ _ _ _ _ => pts_nil) (fun _ _ _ _ _ => (pe_op op_add (pv 8) pe_int))) pa_nil)))) pss_nil)
      (pss_cons (ps_set (i := 4) sc_free_ahead.nd rfl (Or.inl rfl) (pe_call D_padded.ok (hr.mono (by decide)) (by rfl) D_padded.g D_padded.kp D_padded.b .nil pass0 (pa_cons (pe_callB (call_max2 rfl) (by rfl) z_max (by decide +kernel) (pa_cons (pv 1) (pa_cons pe_int pa_nil))) (pa_cons (pv 2) (pa_cons (pe_callB call_len_seq (by rfl) z_len PySem.boot_len (pa_cons (pv 3) pa_nil)) pa_nil)))))
      (pss_cons (ps_set (i := 5) sc_free_ahead.nd rfl (Or.inl rfl) pe_int)
      (pss_cons (ps_for PassesOwn.never rfl (pi_revR (by rfl) z_reversed (prg_1 (by rfl) z_range (pe_callB call_len_seq (by rfl) z_len PySem.boot_len (pa_cons (pv 3) pa_nil)))) (pg_name (i := 6) sc_free_ahead.nd rfl (Or.inl rfl)) (pss_cons (ps_set (i := 7) sc_free_ahead.nd rfl (Or.inl rfl) (pe_callB (call_min2 rfl) (by rfl) z_min (by decide +kernel) (pa_cons (pe_ix ix_list (pv 4) (pv 6) (fun _ _ => rfl)) (pa_cons (pe_op op_add (pe_ix ix_list (pv 3) (pv 6) (fun _ _ => rfl)) pe_int) pa_nil))))
      (pss_cons (ps_set (i := 5) sc_free_ahead.nd rfl (Or.inl rfl) (pe_op op_add (pv 5) (pe_op op_mul (pv 7) (pe_call D_product.ok (hr.mono (by decide)) (by rfl) D_product.g D_product.kp D_product.b .nil pass0 (pa_cons (pe_lc (own := [("figure", 8)]) (g := gName 8) (tt := tYes) (te := (tOp (rI0 fun i j => .int (i + j)) (tVar 8) (tC (.int 1)))) rfl sc_free_ahead.nd (pi_list (pe_slice sl_list (pv 3) po_none (po_some (pv 6)))) (blkOk_by (own := [("figure", 8)]) (N := ["many", "place", "prime", "most", "row", "found", "k", "less", "figure"]) (sc := defScope s_free_ahead) (by decide +kernel)) (fun _ _ _ _ _ => pg_name (i := 8) sc_free_ahead.nd rfl (Or.inl rfl)) (fun _ _ _ _ _ => pts_nil) (fun _ _ _ _ _ => (pe_op op_add (pv 8) pe_int))) pa_nil)))))
      (pss_one (ps_if (pt_cmpR op_gt (pe_ix ix_list (pv 4) (pv 6) (fun _ _ => rfl)) (pe_ix ix_list (pv 3) (pv 6) (fun _ _ => rfl)) (nomark _)) (pss_one (ps_ret (pv 5))) pss_nil)))))
      (pss_one (ps_ret (pv 5)))))))))), ?_⟩
    have p2 := hp.ge
    have p97 := hp.le
    refine q_drop (ev_call (ea_cons (ev_var rfl) ea_nil) (sv_asked_prime hp)) fun H1 e1 => ?_
    refine q_drop (ev_call (ea_cons (ev_var rfl) ea_nil) (sv_asked_many (by omega))) fun H2 e2 => ?_
    have hl := digs_len100 hp hn
    refine q_asgL (el_call (ea_cons (ev_var rfl) (ea_cons (ev_var rfl) ea_nil)) (sv_figures_of (by walk_at "side"))) fun ln H3 _ e3 hln => ?_
    refine q_when (et_test (ev_op (ev_var rfl) (ev_var rfl) rv_I0)) (fun hb H4 e4 => ?_) (fun hb H4 e4 => ?_)
    · have hb' := of_decide_eq_true hb
      rw [rk_gt p2 (show n < k.toNat by omega)] at q
      refine s_ret (ev_prod (ek_var (ev_var rfl) (ex_at e4 hln)) hl (digs_97 hp n) (fun _ => rfl) (fun a H5 e5 ha => ev_is (ev_op (ev_var rfl) ev_c rv_I0) rfl)) fun H5 e5 => ?_
      rw [tot_prodl p2]
      exact q H5 ((((e1.trans e2).trans e3).trans e4).trans e5)
    · have hb' := of_decide_eq_false hb
      have hj : k.toNat ≤ n := by omega
      have hm := digs_mono p2 n _ hj
      rw [← rkl_rk p2 n _ hj] at q
      refine q_asgL (el_call (ea_cons (ev_is (ev_max2 (ev_var rfl) ev_c) (congrArg V.int (max0 k))) (ea_cons (ev_var rfl) (ea_cons (ev_is (ev_lenK (ek_var (ev_var rfl) (by walk_at "list"))) (by rw [List.length_map])) ea_nil))) (sv_padded hp (by omega) hm hl)) fun lk H5 _ e5 hlk => ?_
      have hln5 := ex_at e5 (ex_at e4 hln)
      have hle := (padl_len p (digs p n).length k.toNat).symm
      have h97 := digs_97 hp n
      have hk97 : ∀ r ∈ padl p k.toNat (digs p n).length, r < 97 := fun r hr => Nat.lt_of_lt_of_le (padl_lt p2 _ _ r hr) p97
      generalize padl p k.toNat (digs p n).length = ks at hlk hle hk97 q
      generalize digs p n = ms at *
      have EE := (((e1.trans e2).trans e3).trans e4).trans e5
      refine q_asg ev_c fun H6 e6 => ?_
      refine q_forRevR (n := ms.length) (ev_is (ev_lenK (ek_var (ev_var rfl) (by walk_at "list"))) (by rw [List.length_map])) (by omega) (fun i σ => ∃ y z, σ = [some (.int (n : Int)), some (.int k), some (.int (p : Int)), some (.ref ln), some (.ref lk), some (.int ((rkl (ms.drop i) (ks.drop i) * prodl ((ms.map (· + 1)).take i) : Nat) : Int)), y, z, none] ∧ frl (ms.drop i) (ks.drop i) = true)
        ⟨none, none, by rw [List.drop_length, hle, List.drop_length, show rkl [] [] = 0 from rfl, Nat.zero_mul] <;> exact ⟨rfl, rfl⟩⟩ (fun H7 i σ H8 e7 e8 hi hw => ?_) (fun σ H7 e7 hw => ?_)
      · obtain ⟨y, z, rfl, hf⟩ := hw
        have hln8 := ex_at e8 (ex_at e7 (ex_at e6 hln5))
        have hlk8 := ex_at e8 (ex_at e7 (ex_at e6 hlk))
        have dn := cons_drop hi
        have dk := cons_drop (l := ks) (show i < ks.length by omega)
        have x1 := h97 (ms.getD i 0) (List.mem_of_getElem? (getD_at hi))
        have x2 := hk97 (ks.getD i 0) (List.mem_of_getElem? (getD_at (show i < ks.length by omega)))
        have et : (ms.map (· + 1)).take (i + 1) = (ms.map (· + 1)).take i ++ [ms.getD i 0 + 1] := by
          rw [List.take_add_one, List.getElem?_map, getD_at hi]
          rfl
        have en : rkl (ms.drop i) (ks.drop i) * prodl ((ms.map (· + 1)).take i) = rkl (ms.drop (i + 1)) (ks.drop (i + 1)) * prodl ((ms.map (· + 1)).take (i + 1)) + min (ks.getD i 0) (ms.getD i 0 + 1) * prodl ((ms.map (· + 1)).take i) := by
          rw [dn, dk, et, prodl_snoc]
          show (rkl (ms.drop (i + 1)) (ks.drop (i + 1)) * (ms.getD i 0 + 1) + (if frl (ms.drop (i + 1)) (ks.drop (i + 1)) then min (ks.getD i 0) (ms.getD i 0 + 1) else 0)) * _ = _
          rw [hf, if_pos rfl, Nat.add_mul]
          grind
        have ef : frl (ms.drop i) (ks.drop i) = decide (ks.getD i 0 ≤ ms.getD i 0) := by
          rw [dn, dk]
          show (decide (ks.getD i 0 ≤ ms.getD i 0) && frl (ms.drop (i + 1)) (ks.drop (i + 1))) = _
          rw [hf, Bool.and_true]
        have emin : (if (ms.getD i 0 : Int) + 1 < (ks.getD i 0 : Int) then (ms.getD i 0 : Int) + 1 else (ks.getD i 0 : Int)) = ((min (ks.getD i 0) (ms.getD i 0 + 1) : Nat) : Int) := by
          split <;> omega
        have erd := rkl_drop i ms ks hle
        have hk := getD_at (l := ks) (show i < ks.length by omega)
        have hn' := getD_at (l := ms) hi
        generalize ks.getD i 0 = b at *
        generalize ms.getD i 0 = a at *
        refine q_asg (ev_is (ev_min2 (ev_ixK (v := nv b) (ek_var (ev_var rfl) hlk8) (ev_var rfl) (atI_map rfl hk)) (ev_op (ev_ixK (v := nv a) (ek_var (ev_var rfl) hln8) (ev_var rfl) (atI_map rfl hn')) ev_c rv_I0)) (congrArg V.int emin)) fun H9 e9 => ?_
        refine q_asg (ev_op (ev_var rfl) (ev_op (ev_var rfl) (ev_prod (l := ms.take i) (EvK.of (el_eq (el_slK (ek_var (ev_var rfl) (ex_at e9 hln8)) eo_none (eo_some (ev_var rfl))) (cut_take ms nv i))) (by rw [List.length_take]; omega) (fun x hx => h97 x (List.mem_of_mem_take hx)) (fun _ => rfl) (fun a H10 e10 ha => ev_is (ev_op (ev_var rfl) ev_c rv_I0) rfl)) (rv_I (cmul_l (by omega)))) rv_I0) fun H10 e10 => ?_
        rw [List.map_take]
        have eI : ((rkl (ms.drop (i + 1)) (ks.drop (i + 1)) * prodl ((ms.map (· + 1)).take (i + 1)) : Nat) : Int) + ((min b (a + 1) : Nat) : Int) * ((prodl ((ms.map (· + 1)).take i) : Nat) : Int) = ((rkl (ms.drop i) (ks.drop i) * prodl ((ms.map (· + 1)).take i) : Nat) : Int) := by
          rw [en, Int.natCast_add, Int.natCast_mul (min b (a + 1))]
        rw [eI]
        refine s_when (et_test (ev_op (ev_ixK (v := nv b) (ek_var (ev_var rfl) (ex_at e10 (ex_at e9 hlk8))) (ev_var rfl) (atI_map rfl hk)) (ev_ixK (v := nv a) (ek_var (ev_var rfl) (ex_at e10 (ex_at e9 hln8))) (ev_var rfl) (atI_map rfl hn')) rv_I0)) (fun hc H11 e11 => ?_) (fun hc H11 e11 => ⟨((e8.trans e9).trans e10).trans e11, _, _, rfl, ?_⟩)
        · have hc' := of_decide_eq_true hc
          rw [erd (by rw [ef]; exact decide_eq_false (by omega))] at q
          exact s_ret (ev_var rfl) fun H12 e12 => q H12 (((((((EE.trans e6).trans e7).trans e8).trans e9).trans e10).trans e11).trans e12)
        · have hc' := of_decide_eq_false hc
          rw [ef]
          exact decide_eq_true (by omega)
      · obtain ⟨y, z, rfl, hf⟩ := hw
        rw [List.drop_zero, List.drop_zero, List.take_zero, show prodl [] = 1 from rfl, Nat.mul_one]
        exact s_ret (ev_var rfl) fun H8 e8 => q H8 (((EE.trans e6).trans e7).trans e8)
/-! ### free_at -/
abbrev s_free_at : Stmt := topS 33
theorem sc_free_at : FnScope ["many", "number", "prime", "most", "row", "figure"] ["many", "number", "prime"] (defScope s_free_at) := ⟨rfl, rfl, rfl, by decide +kernel, rfl, by decide +kernel, by decide +kernel⟩
def sp_free_at (K : PySem.W.Frag) : Sp := fun vs H Q _ => ∃ (n i p : Nat), vs = [.int (n : Int), .int (i : Int), .int (p : Int)] ∧ IsP p ∧ n ≤ 1000000000000000000000000000000 ∧ i < tot p n ∧ RetV (.int ((fa p n i : Nat) : Int)) H Q
theorem sv_free_at {K : PySem.W.Frag} {H : Hp} {n i p : Nat} (hp : IsP p) (hn : n ≤ 1000000000000000000000000000000) (hi : i < tot p n) : SpV (sp_free_at K) [.int (n : Int), .int (i : Int), .int (p : Int)] H (.int ((fa p n i : Nat) : Int)) := fun H1 _ Q q _ => ⟨n, i, p, rfl, hp, hn, hi, q⟩
theorem ok_free_at {P : Program} {w : World} {K : PySem.W.Frag} {mg : Str → Option Value} {base : Heap} {f : Addr} {fd : FuncData} {f_asked_prime : Addr} {fd_asked_prime : FuncData} {f_asked_many : Addr} {fd_asked_many : FuncData} {f_figures_of : Addr} {fd_figures_of : FuncData} {f_number_of : Addr} {fd_number_of : FuncData} {f_product : Addr} {fd_product : FuncData} (F : Fun K "free_at" "free_at" s_free_at f fd)
    (D_asked_prime : Def P w K mg base CX0 2 "asked_prime" ["prime"] (sp_asked_prime K) f_asked_prime fd_asked_prime)
    (D_asked_many : Def P w K mg base CX0 1 "asked_many" ["many"] (sp_asked_many K) f_asked_many fd_asked_many)
    (D_figures_of : Def P w K mg base CX0 1 "figures_of" ["number", "prime"] (sp_figures_of K) f_figures_of fd_figures_of)
    (D_number_of : Def P w K mg base CX0 1 "number_of" ["row", "prime"] (sp_number_of K) f_number_of fd_number_of)
    (D_product : Def P w K mg base CX0 1 "product" ["numbers"] (sp_product K) f_product fd_product) :
    FnOk P w K mg base CX0 3 f fd ["many", "number", "prime"] (sp_free_at K) := by
  refine F.ok sc_free_at (fun vs H Q E h => ?_) (fun cdv A outer s H vs Q E hr h => ?_)
  · obtain ⟨n, i, p, rfl, hp, hn, hi, q⟩ := h
    rfl
  · obtain ⟨n, i, p, rfl, hp, hn, hi, q⟩ := h
    refine ⟨_, (pss_cons (ps_expr (pe_call D_asked_prime.ok (hr.mono (by decide)) (by rfl) D_asked_prime.g D_asked_prime.kp D_asked_prime.b .nil pass0 (pa_cons (pv 2) pa_nil)))
      (pss_cons (ps_expr (pe_call D_asked_many.ok (hr.mono (by decide)) (by rfl) D_asked_many.g D_asked_many.kp D_asked_many.b .nil pass0 (pa_cons (pv 0) pa_nil)))
      (pss_cons (ps_set (i := 3) sc_free_at.nd rfl (Or.inl rfl) (pe_call D_figures_of.ok (hr.mono (by decide)) (by rfl) D_figures_of.g D_figures_of.kp D_figures_of.b .nil pass0 (pa_cons (pv 0) (pa_cons (pv 2) pa_nil))))
      (pss_cons (ps_if (PW.pt (pw_or (pt_cmpR op_lt (pv 1) pe_int (nomark _)) (pw_or1 (pt_cmpR op_ge (pv 1) (pe_call D_product.ok (hr.mono (by decide)) (by rfl) D_product.g D_product.kp D_product.b .nil pass0 (pa_cons (pe_lc (own := [("figure", 5)]) (g := gName 5) (tt := tYes) (te := (tOp (rI0 fun i j => .int (i + j)) (tVar 5) (tC (.int 1)))) rfl sc_free_at.nd (pi_list (pv 3)) (blkOk_by (own := [("figure", 5)]) (N := ["many", "number", "prime", "most", "row", "figure"]) (sc := defScope s_free_at) (by decide +kernel)) (fun _ _ _ _ _ => pg_name (i := 5) sc_free_at.nd rfl (Or.inl rfl)) (fun _ _ _ _ _ => pts_nil) (fun _ _ _ _ _ => (pe_op op_add (pv 5) pe_int))) pa_nil)) (nomark _))))) (pss_one ps_never) pss_nil)
      (pss_cons (ps_set (i := 4) sc_free_at.nd rfl (Or.inl rfl) (pe_lst pa_nil))
      (pss_cons (ps_for PassesOwn.never rfl (pi_list (pv 3)) (pg_name (i := 5) sc_free_at.nd rfl (Or.inl rfl)) (pss_cons (ps_expr (pe_bm PySem.F.plainAttrs_list PySem.F.slot_list_append PySem.F.type_list_append mt_append (pv 4) (pa_cons (pe_op op_mod (pv 1) (pe_op op_add (pv 5) pe_int)) pa_nil)))
      (pss_one (ps_set (i := 1) sc_free_at.nd rfl (Or.inl rfl) (pe_op op_fdiv (pv 1) (pe_op op_add (pv 5) pe_int))))))
      (pss_one (ps_ret (pe_call D_number_of.ok (hr.mono (by decide)) (by rfl) D_number_of.g D_number_of.kp D_number_of.b .nil pass0 (pa_cons (pv 4) (pa_cons (pv 2) pa_nil))))))))))), ?_⟩
    have p2 := hp.ge
    have p97 := hp.le
    refine q_drop (ev_call (ea_cons (ev_var rfl) ea_nil) (sv_asked_prime hp)) fun H1 e1 => ?_
    refine q_drop (ev_call (ea_cons (ev_var rfl) ea_nil) (sv_asked_many (by omega))) fun H2 e2 => ?_
    have hl := digs_len100 hp hn
    refine q_asgL (el_call (ea_cons (ev_var rfl) (ea_cons (ev_var rfl) ea_nil)) (sv_figures_of (by walk_at "side"))) fun ln H3 _ e3 hln => ?_
    refine q_when (b := false) (et_is (et_or (et_test (ev_op (ev_var rfl) ev_c rv_I0)) (fun _ => et_test (ev_op (ev_var rfl) (ev_prod (ek_var (ev_var rfl) hln) hl (digs_97 hp n) (fun _ => rfl) (fun a H4 e4 ha => ev_is (ev_op (ev_var rfl) ev_c rv_I0) rfl)) rv_I0))) ?_) (fun hb => nomatch hb) (fun _ H4 e4 => ?_)
    · rw [tot_prodl p2, Bool.or_eq_false_iff, decide_eq_false_iff_not, decide_eq_false_iff_not]
      omega
    have h97 := digs_97 hp n
    unfold fa at q
    have hln4 := ex_at e4 hln
    generalize digs p n = ms at hln4 hl h97 q
    have EE := ((e1.trans e2).trans e3).trans e4
    refine q_asgL (xs := []) (el_lst ea_nil (by simp)) fun lr H5 nr e5 hr5 => ?_
    refine q_forLn (xs := ms.map nv) (ev_var rfl) (sq_of (ex_at e5 hln4)) (fun j σ H' => ∃ (x : Nat) (acc : List Nat) (y : Option V), σ = [some (.int (n : Int)), some (.int (x : Int)), some (.int (p : Int)), some (.ref ln), some (.ref lr), y] ∧ H' lr = some (.lst (acc.map nv)) ∧ Ex H4 H' ∧ acc ++ rowl (ms.drop j) x = rowl ms i ∧ acc.length = j)
      (fun H6 e6 => ⟨i, [], none, rfl, ex_at e6 hr5, e5.trans e6, rfl, rfl⟩) (fun j σ H6 _ hw => ?_) (fun j v σ H6 hj hw => ?_) (fun σ H6 hw => ?_)
    · obtain ⟨x, acc, y, rfl, h1, h2, _⟩ := hw
      exact sq_of (ex_at h2 hln4)
    · obtain ⟨x, acc, y, rfl, h1, h2, h3, h4⟩ := hw
      have hjl : j < ms.length := by
        have := (List.getElem?_eq_some_iff.mp hj).1
        rw [List.length_map] at this
        exact this
      rw [List.getElem?_map, getD_at hjl] at hj
      have ev : nv (ms.getD j 0) = v := Option.some.inj hj
      subst ev
      have x1 := h97 (ms.getD j 0) (List.mem_of_getElem? (getD_at hjl))
      rw [cons_drop hjl] at h3
      generalize ms.getD j 0 = d at *
      refine q_app h1 (ev_var rfl) (ev_op (ev_var rfl) (ev_op (ev_var rfl) ev_c rv_I0) (rv_I (by walk_at "op_mod"))) (by rw [List.length_map]; omega) fun H7 e7 => ?_
      refine s_asg (ev_op (ev_var rfl) (ev_op (ev_var rfl) ev_c rv_I0) (rv_I (by walk_at "op_fdiv"))) fun H8 e8 => ⟨x / (d + 1), acc ++ [x % (d + 1)], some (nv d), rfl, ?_, ?_, ?_, ?_⟩
      · rw [ex_at e8 upd_same, List.map_append]
        rfl
      · exact (Ex.mut (h2.trans e7) nr).trans e8
      · rw [← h3, List.append_assoc]
        rfl
      · rw [List.length_append, h4]
        rfl
    · obtain ⟨x, acc, y, rfl, h1, h2, h3, h4⟩ := hw
      rw [List.length_map, List.drop_length] at h3
      rw [show rowl [] x = [] from rfl, List.append_nil] at h3
      rw [← h3] at q
      refine s_ret (ev_call (ea_cons (ev_var rfl) (ea_cons (ev_var rfl) ea_nil)) (sv_number_of h1 hp)) fun H7 e7 => q H7 ((EE.trans h2).trans e7)
/-! ### is_bare -/
abbrev s_is_bare : Stmt := topS 34
theorem sc_is_bare : FnScope ["many", "prime", "figure"] ["many", "prime"] (defScope s_is_bare) := ⟨rfl, rfl, rfl, by decide +kernel, rfl, by decide +kernel, by decide +kernel⟩
def sp_is_bare (K : PySem.W.Frag) : Sp := fun vs H Q _ => ∃ n p : Nat, vs = [.int (n : Int), .int (p : Int)] ∧ IsP p ∧ n ≤ 1000000000000000000000000000000 ∧ RetV (.bl (bareB p n)) H Q
theorem sv_is_bare {K : PySem.W.Frag} {H : Hp} {n p : Nat} (h : IsP p ∧ n ≤ 1000000000000000000000000000000) : SpV (sp_is_bare K) [.int (n : Int), .int (p : Int)] H (.bl (bareB p n)) := fun H1 _ Q q _ => ⟨n, p, rfl, h.1, h.2, q⟩
theorem ok_is_bare {P : Program} {w : World} {K : PySem.W.Frag} {mg : Str → Option Value} {base : Heap} {f : Addr} {fd : FuncData} {f_asked_prime : Addr} {fd_asked_prime : FuncData} {f_asked_many : Addr} {fd_asked_many : FuncData} {f_figures_of : Addr} {fd_figures_of : FuncData} (F : Fun K "is_bare" "is_bare" s_is_bare f fd)
    (D_asked_prime : Def P w K mg base CX0 2 "asked_prime" ["prime"] (sp_asked_prime K) f_asked_prime fd_asked_prime)
    (D_asked_many : Def P w K mg base CX0 1 "asked_many" ["many"] (sp_asked_many K) f_asked_many fd_asked_many)
    (D_figures_of : Def P w K mg base CX0 1 "figures_of" ["number", "prime"] (sp_figures_of K) f_figures_of fd_figures_of) (z_all : mg "all" = none) :
    FnOk P w K mg base CX0 3 f fd ["many", "prime"] (sp_is_bare K) := by
  refine F.ok sc_is_bare (fun vs H Q E h => ?_) (fun cdv A outer s H vs Q E hr h => ?_)
  · obtain ⟨n, p, rfl, hp, hn, q⟩ := h
    rfl
  · obtain ⟨n, p, rfl, hp, hn, q⟩ := h
    refine ⟨_, (pss_cons (ps_expr (pe_call D_asked_prime.ok (hr.mono (by decide)) (by rfl) D_asked_prime.g D_asked_prime.kp D_asked_prime.b .nil pass0 (pa_cons (pv 1) pa_nil)))
      (pss_cons (ps_expr (pe_call D_asked_many.ok (hr.mono (by decide)) (by rfl) D_asked_many.g D_asked_many.kp D_asked_many.b .nil pass0 (pa_cons (pv 0) pa_nil)))
      (pss_one (ps_ret (pe_callB (cr_all rfl) (by rfl) z_all (by decide +kernel) (pa_cons (pe_lc (own := [("figure", 2)]) (g := gName 2) (tt := tYes) (te := (tOp (rEq) (tVar 2) (tOp (rI0 fun i j => .int (i - j)) (tVar 1) (tC (.int 1))))) rfl sc_is_bare.nd (pi_list (pe_slice sl_list (pe_call D_figures_of.ok (hr.mono (by decide)) (by rfl) D_figures_of.g D_figures_of.kp D_figures_of.b .nil pass0 (pa_cons (pv 0) (pa_cons (pv 1) pa_nil))) po_none (po_some (pe_un un_neg pe_int)))) (blkOk_by (own := [("figure", 2)]) (N := ["many", "prime", "figure"]) (sc := defScope s_is_bare) (by decide +kernel)) (fun _ _ _ _ _ => pg_name (i := 2) sc_is_bare.nd rfl (Or.inl rfl)) (fun _ _ _ _ _ => pts_nil) (fun _ _ _ _ _ => (pe_cmpR op_eq (pv 2) (pe_op op_sub (pv 1) pe_int) (nomark _)))) pa_nil)))))), ?_⟩
    have p2 := hp.ge
    have hl := digs_len100 hp hn
    refine q_drop (ev_call (ea_cons (ev_var rfl) ea_nil) (sv_asked_prime hp)) fun H1 e1 => ?_
    refine q_drop (ev_call (ea_cons (ev_var rfl) ea_nil) (sv_asked_many (by omega))) fun H2 e2 => ?_
    refine s_ret (ev_allK (bs := (digs p n).dropLast.map fun d => decide (d = p - 1)) (EvK.of (el_eq (el_mp (l := (digs p n).dropLast) (φ := nv) (fun d => V.bl (decide (d = p - 1))) (EvK.of (el_eq (el_slK (EvK.of (el_call (ea_cons (ev_var rfl) (ea_cons (ev_var rfl) ea_nil)) (sv_figures_of (by walk_at "side")))) eo_none (eo_some (ev_un ev_c ru_neg))) (cut_last _ nv))) (by rw [List.length_dropLast]; omega) (fun _ => rfl) (fun d H3 e3 hd => ?_)) (by rw [List.map_map] <;> rfl)))) fun H3 e3 => ?_
    · refine ev_is (ev_op (ev_var rfl) (ev_op (ev_var rfl) ev_c rv_I0) (rv_eq rfl)) (congrArg V.bl (decide_eq_decide.mpr ⟨fun z => ?_, fun z => congrArg V.int ?_⟩))
      · have := V.int.inj z
        omega
      · omega
    · rw [List.all_map]
      exact q H3 ((e1.trans e2).trans e3)
/-! ### is_full -/
abbrev s_is_full : Stmt := topS 35
theorem sc_is_full : FnScope ["many", "prime", "figure"] ["many", "prime"] (defScope s_is_full) := ⟨rfl, rfl, rfl, by decide +kernel, rfl, by decide +kernel, by decide +kernel⟩
def sp_is_full (K : PySem.W.Frag) : Sp := fun vs H Q _ => ∃ n p : Nat, vs = [.int (n : Int), .int (p : Int)] ∧ IsP p ∧ n ≤ 1000000000000000000000000000000 ∧ RetV (.bl (decide (1 < n) && decide (tot p n = 2))) H Q
theorem sv_is_full {K : PySem.W.Frag} {H : Hp} {n p : Nat} (h : IsP p ∧ n ≤ 1000000000000000000000000000000) : SpV (sp_is_full K) [.int (n : Int), .int (p : Int)] H (.bl (decide (1 < n) && decide (tot p n = 2))) := fun H1 _ Q q _ => ⟨n, p, rfl, h.1, h.2, q⟩
theorem ok_is_full {P : Program} {w : World} {K : PySem.W.Frag} {mg : Str → Option Value} {base : Heap} {f : Addr} {fd : FuncData} {f_asked_prime : Addr} {fd_asked_prime : FuncData} {f_asked_many : Addr} {fd_asked_many : FuncData} {f_product : Addr} {fd_product : FuncData} {f_figures_of : Addr} {fd_figures_of : FuncData} (F : Fun K "is_full" "is_full" s_is_full f fd)
    (D_asked_prime : Def P w K mg base CX0 2 "asked_prime" ["prime"] (sp_asked_prime K) f_asked_prime fd_asked_prime)
    (D_asked_many : Def P w K mg base CX0 1 "asked_many" ["many"] (sp_asked_many K) f_asked_many fd_asked_many)
    (D_product : Def P w K mg base CX0 1 "product" ["numbers"] (sp_product K) f_product fd_product)
    (D_figures_of : Def P w K mg base CX0 1 "figures_of" ["number", "prime"] (sp_figures_of K) f_figures_of fd_figures_of) :
    FnOk P w K mg base CX0 3 f fd ["many", "prime"] (sp_is_full K) := by
  refine F.ok sc_is_full (fun vs H Q E h => ?_) (fun cdv A outer s H vs Q E hr h => ?_)
  · obtain ⟨n, p, rfl, hp, hn, q⟩ := h
    rfl
  · obtain ⟨n, p, rfl, hp, hn, q⟩ := h
    refine ⟨_, (pss_cons (ps_expr (pe_call D_asked_prime.ok (hr.mono (by decide)) (by rfl) D_asked_prime.g D_asked_prime.kp D_asked_prime.b .nil pass0 (pa_cons (pv 1) pa_nil)))
      (pss_cons (ps_expr (pe_call D_asked_many.ok (hr.mono (by decide)) (by rfl) D_asked_many.g D_asked_many.kp D_asked_many.b .nil pass0 (pa_cons (pv 0) pa_nil)))
      (pss_one (ps_ret (pe_and (pe_cmpR op_gt (pv 0) pe_int (nomark _)) (pe_one (pe_cmpR op_eq (pe_call D_product.ok (hr.mono (by decide)) (by rfl) D_product.g D_product.kp D_product.b .nil pass0 (pa_cons (pe_lc (own := [("figure", 2)]) (g := gName 2) (tt := tYes) (te := (tOp (rI0 fun i j => .int (i + j)) (tVar 2) (tC (.int 1)))) rfl sc_is_full.nd (pi_list (pe_call D_figures_of.ok (hr.mono (by decide)) (by rfl) D_figures_of.g D_figures_of.kp D_figures_of.b .nil pass0 (pa_cons (pv 0) (pa_cons (pv 1) pa_nil)))) (blkOk_by (own := [("figure", 2)]) (N := ["many", "prime", "figure"]) (sc := defScope s_is_full) (by decide +kernel)) (fun _ _ _ _ _ => pg_name (i := 2) sc_is_full.nd rfl (Or.inl rfl)) (fun _ _ _ _ _ => pts_nil) (fun _ _ _ _ _ => (pe_op op_add (pv 2) pe_int))) pa_nil)) pe_int (nomark _)))))))), ?_⟩
    have p2 := hp.ge
    refine q_drop (ev_call (ea_cons (ev_var rfl) ea_nil) (sv_asked_prime hp)) fun H1 e1 => ?_
    refine q_drop (ev_call (ea_cons (ev_var rfl) ea_nil) (sv_asked_many (by omega))) fun H2 e2 => ?_
    refine s_ret (ev_andV (ev_is (ev_op (ev_var rfl) ev_c rv_I0) (congrArg V.bl (show _ = decide (1 < n) from decide_eq_decide.mpr (by omega)))) (fun _ => ev_is (ev_op (ev_prod (EvK.of (el_call (ea_cons (ev_var rfl) (ea_cons (ev_var rfl) ea_nil)) (sv_figures_of (by walk_at "side")))) (digs_len100 hp hn) (digs_97 hp n) (fun _ => rfl) (fun a H3 e3 ha => ev_is (ev_op (ev_var rfl) ev_c rv_I0) rfl)) ev_c (rv_eq rfl)) (congrArg V.bl (show _ = decide (tot p n = 2) from ?_)))) fun H3 e3 => q H3 ((e1.trans e2).trans e3)
    rw [tot_prodl p2]
    refine decide_eq_decide.mpr ⟨fun z => ?_, fun z => congrArg V.int ?_⟩
    · have := V.int.inj z
      omega
    · omega

/-! ### what is refused, and by which class -/
structure Er where
  p : Addr
  m : Addr
  l : Addr
  t : Addr
  c : Addr
structure EC (K : PySem.W.Frag) (c ch : Addr) : Prop where
  x : PySem.W.excIn K c [.type "ValueError", .type "Exception", .type "BaseException", .type "object"] "ValueError.__new__" = true
  k : PySem.W.keepIn K (.ref c) = true
  b : PySem.W.subIn K (.ref c) (.type "BaseException") = some true
  t : PySem.W.typeIn K (.ref c) = some (.type "type")
  h : PySem.W.exmOne K (.ref c) (.ref ch) = some true
  e : ExcC K c
  v : PySem.W.kitOne K (.ref c) (.type "ValueError") = some true
structure ErOk (K : PySem.W.Frag) (mg : Str → Option Value) (r : Er) : Prop where
  gep : mg "NoPrime" = some (.ref r.p)
  gem : mg "NoMany" = some (.ref r.m)
  gel : mg "NoPlace" = some (.ref r.l)
  get : mg "TooMany" = some (.ref r.t)
  gec : mg "ChoiceError" = some (.ref r.c)
  ep : EC K r.p r.c
  em : EC K r.m r.c
  el : EC K r.l r.c
  et : EC K r.t r.c
  pp : PySem.W.kitOne K (.ref r.p) (.ref r.p) = some true
  pm : PySem.W.kitOne K (.ref r.p) (.ref r.m) = some false
  pl : PySem.W.kitOne K (.ref r.p) (.ref r.l) = some false
  pt : PySem.W.kitOne K (.ref r.p) (.ref r.t) = some false
  mp : PySem.W.kitOne K (.ref r.m) (.ref r.p) = some false
  mm : PySem.W.kitOne K (.ref r.m) (.ref r.m) = some true
  ml : PySem.W.kitOne K (.ref r.m) (.ref r.l) = some false
  mt : PySem.W.kitOne K (.ref r.m) (.ref r.t) = some false
  lp : PySem.W.kitOne K (.ref r.l) (.ref r.p) = some false
  lm : PySem.W.kitOne K (.ref r.l) (.ref r.m) = some false
  ll : PySem.W.kitOne K (.ref r.l) (.ref r.l) = some true
  lt : PySem.W.kitOne K (.ref r.l) (.ref r.t) = some false
  tp : PySem.W.kitOne K (.ref r.t) (.ref r.p) = some false
  tm : PySem.W.kitOne K (.ref r.t) (.ref r.m) = some false
  tl : PySem.W.kitOne K (.ref r.t) (.ref r.l) = some false
  tt : PySem.W.kitOne K (.ref r.t) (.ref r.t) = some true
def okM (n : Int) : Bool := decide (0 ≤ n) && decide (n ≤ 1000000000000000000000000000000)
theorem okM_nat {n : Nat} (h : n ≤ 1000000000000000000000000000000) : okM n = true := by
  unfold okM
  rw [decide_eq_true (show (0 : Int) ≤ n by omega), decide_eq_true (show (n : Int) ≤ 1000000000000000000000000000000 by omega)]
  rfl
/-- a bad prime, or a good one and a bad number of things -/
def Bd (r : Er) (p m : Int) (H : Hp) (E : XK) : Prop := (isPb p = false ∧ RE r.p H E) ∨ (isPb p = true ∧ okM m = false ∧ RE r.m H E)
theorem Bd.go {r : Er} {p m : Int} {H H1 : Hp} {E : XK} (h : Bd r p m H E) (e : Ex H H1) : Bd r p m H1 E := by
  rcases h with ⟨a, b⟩ | ⟨a, b, c⟩
  · exact .inl ⟨a, b.go e⟩
  · exact .inr ⟨a, b, c.go e⟩
/-- good ones -/
def Gd (p m : Int) : Prop := ∃ q n : Nat, p = q ∧ m = n ∧ IsP q ∧ n ≤ 1000000000000000000000000000000
def GdP (p m i : Int) (b : Bool) : Prop := ∃ q n : Nat, p = q ∧ m = n ∧ IsP q ∧ n ≤ 1000000000000000000000000000000 ∧ decide (0 ≤ i ∧ i < (tot q n : Int)) = b

theorem okx_asked_prime {P : Program} {w : World} {K : PySem.W.Frag} {mg : Str → Option Value} {base : Heap} {r : Er} {f : Addr} {fd : FuncData} {f_is_prime : Addr} {fd_is_prime : FuncData} (F : Fun K "asked_prime" "asked_prime" s_asked_prime f fd)
    (D_is_prime : Def P w K mg base CX0 1 "is_prime" ["number"] (sp_is_prime K) f_is_prime fd_is_prime) (R : ErOk K mg r) :
    FnOk P w K mg base (L2.CX P w) 2 f fd ["prime"] (sxP isPb r.p) := by
  refine F.okX sc_asked_prime (fun vs H Q E h => ?_) (fun cdv A outer s H vs Q E hr h => ?_)
  · obtain ⟨n, rfl, h1, h2⟩ := h
    rfl
  · obtain ⟨n, rfl, h1, h2⟩ := h
    refine ⟨_, (pss_one (ps_if (pt_not (pt_val (pe_call D_is_prime.ok (hr.mono (by decide)) (by rfl) D_is_prime.g D_is_prime.kp D_is_prime.b .nil pass0 (pa_cons (pv 0) pa_nil)))) (pss_one (ps_raise rfl (takes_of rfl rfl rfl rfl) (pmk_own PySem.F.excBase_ValueError R.ep.x R.gep R.ep.k (raises_own R.ep.b R.ep.t) (by exact rfl)))) pss_nil)), ?_⟩
    exact s_if (et_not (et_B (ev_call (ea_cons (ev_var rfl) ea_nil) sv_is_prime))) (fun hb H1 e1 => h2 (by simpa using hb) H1 e1) (fun hb H1 e1 => h1 (by simpa using hb) H1 e1)
theorem okx_asked_many {P : Program} {w : World} {K : PySem.W.Frag} {mg : Str → Option Value} {base : Heap} {r : Er} {f : Addr} {fd : FuncData} (F : Fun K "asked_many" "asked_many" s_asked_many f fd) {t_GREATEST : Tok} (g_GREATEST : mg "GREATEST" = some (.int 1000000000000000000000000000000 t_GREATEST)) (R : ErOk K mg r) :
    FnOk P w K mg base (L2.CX P w) 1 f fd ["many"] (sxP okM r.m) := by
  refine F.okX sc_asked_many (fun vs H Q E h => ?_) (fun cdv A outer s H vs Q E hr h => ?_)
  · obtain ⟨n, rfl, h1, h2⟩ := h
    rfl
  · obtain ⟨n, rfl, h1, h2⟩ := h
    refine ⟨_, (pss_one (ps_if (PW.pt (pw_or (pt_cmpR op_lt (pv 0) pe_int (nomark _)) (pw_or1 (pt_cmpR op_gt (pv 0) (pe_glob (v := .int 1000000000000000000000000000000) rfl g_GREATEST ⟨_, rfl⟩) (nomark _))))) (pss_one (ps_raise rfl (takes_of rfl rfl rfl rfl) (pmk_own PySem.F.excBase_ValueError R.em.x R.gem R.em.k (raises_own R.em.b R.em.t) (by exact rfl)))) pss_nil)), ?_⟩
    exact s_if (et_or (et_test (ev_op (ev_var rfl) ev_c rv_I0)) (fun _ => et_test (ev_op (ev_var rfl) ev_c rv_I0))) (fun hb H1 e1 => h2 (by unfold okM; simp only [Bool.or_eq_true, decide_eq_true_eq] at hb; simp; omega) H1 e1) (fun hb H1 e1 => h1 (by unfold okM; simp only [Bool.or_eq_false_iff, decide_eq_false_iff_not] at hb; simp; omega) H1 e1)
def bd_figures (r : Er) : Sp := fun vs H _ E => ∃ x0 x1 : Int, vs = [.int x0, .int x1] ∧ Bd r x1 x0 H E
theorem okx_figures {P : Program} {w : World} {K : PySem.W.Frag} {mg : Str → Option Value} {base : Heap} {r : Er} {f : Addr} {fd : FuncData} {f_asked_prime : Addr} {fd_asked_prime : FuncData} {f_asked_many : Addr} {fd_asked_many : FuncData} (F : Fun K "figures" "figures" s_figures f fd)
    (X_asked_prime : Def P w K mg base (L2.CX P w) 2 "asked_prime" ["prime"] (sxP isPb r.p) f_asked_prime fd_asked_prime)
    (X_asked_many : Def P w K mg base (L2.CX P w) 1 "asked_many" ["many"] (sxP okM r.m) f_asked_many fd_asked_many) (R : ErOk K mg r) :
    FnOk P w K mg base (L2.CX P w) 3 f fd ["number", "prime"] (bd_figures r) := by
  refine F.okX sc_figures (fun vs H Q E h => ?_) (fun cdv A outer s H vs Q E hr h => ?_)
  · obtain ⟨x0, x1, rfl, h⟩ := h
    rfl
  · obtain ⟨x0, x1, rfl, h⟩ := h
    refine ⟨_, (pss_cons (ps_expr (pe_call X_asked_prime.ok (hr.mono (by decide)) (by rfl) X_asked_prime.g X_asked_prime.kp X_asked_prime.b .nil (passes_call (takes_of rfl rfl rfl rfl) (fun _ _ _ _ h => h)) (pa_cons (pv 1) pa_nil))) (pss_cons (ps_expr (pe_call X_asked_many.ok (hr.mono (by decide)) (by rfl) X_asked_many.g X_asked_many.kp X_asked_many.b .nil (passes_call (takes_of rfl rfl rfl rfl) (fun _ _ _ _ h => h)) (pa_cons (pv 0) pa_nil))) pss_never)), ?_⟩
    rcases h with ⟨h1, h2⟩ | ⟨h1, h2, h3⟩
    · exact q_ask rfl (fun z => by rw [h1] at z; cases z) (fun _ => h2)
    · exact q_ask rfl (fun _ H1 e1 => q_ask rfl (fun z => by rw [h2] at z; cases z) (fun _ => h3.go e1)) (fun z => by rw [h1] at z; cases z)
def bd_order_power (r : Er) : Sp := fun vs H _ E => ∃ x0 x1 : Int, vs = [.int x0, .int x1] ∧ Bd r x1 x0 H E
theorem okx_order_power {P : Program} {w : World} {K : PySem.W.Frag} {mg : Str → Option Value} {base : Heap} {r : Er} {f : Addr} {fd : FuncData} {f_asked_prime : Addr} {fd_asked_prime : FuncData} {f_asked_many : Addr} {fd_asked_many : FuncData} (F : Fun K "order_power" "order_power" s_order_power f fd)
    (X_asked_prime : Def P w K mg base (L2.CX P w) 2 "asked_prime" ["prime"] (sxP isPb r.p) f_asked_prime fd_asked_prime)
    (X_asked_many : Def P w K mg base (L2.CX P w) 1 "asked_many" ["many"] (sxP okM r.m) f_asked_many fd_asked_many) (R : ErOk K mg r) :
    FnOk P w K mg base (L2.CX P w) 3 f fd ["number", "prime"] (bd_order_power r) := by
  refine F.okX sc_order_power (fun vs H Q E h => ?_) (fun cdv A outer s H vs Q E hr h => ?_)
  · obtain ⟨x0, x1, rfl, h⟩ := h
    rfl
  · obtain ⟨x0, x1, rfl, h⟩ := h
    refine ⟨_, (pss_cons (ps_expr (pe_call X_asked_prime.ok (hr.mono (by decide)) (by rfl) X_asked_prime.g X_asked_prime.kp X_asked_prime.b .nil (passes_call (takes_of rfl rfl rfl rfl) (fun _ _ _ _ h => h)) (pa_cons (pv 1) pa_nil))) (pss_cons (ps_expr (pe_call X_asked_many.ok (hr.mono (by decide)) (by rfl) X_asked_many.g X_asked_many.kp X_asked_many.b .nil (passes_call (takes_of rfl rfl rfl rfl) (fun _ _ _ _ h => h)) (pa_cons (pv 0) pa_nil))) pss_never)), ?_⟩
    rcases h with ⟨h1, h2⟩ | ⟨h1, h2, h3⟩
    · exact q_ask rfl (fun z => by rw [h1] at z; cases z) (fun _ => h2)
    · exact q_ask rfl (fun _ H1 e1 => q_ask rfl (fun z => by rw [h2] at z; cases z) (fun _ => h3.go e1)) (fun z => by rw [h1] at z; cases z)
def bd_rest (r : Er) : Sp := fun vs H _ E => ∃ x0 x1 x2 : Int, vs = [.int x0, .int x1, .int x2] ∧ Bd r x2 x0 H E
theorem okx_rest {P : Program} {w : World} {K : PySem.W.Frag} {mg : Str → Option Value} {base : Heap} {r : Er} {f : Addr} {fd : FuncData} {f_asked_prime : Addr} {fd_asked_prime : FuncData} {f_asked_many : Addr} {fd_asked_many : FuncData} (F : Fun K "rest" "rest" s_rest f fd)
    (X_asked_prime : Def P w K mg base (L2.CX P w) 2 "asked_prime" ["prime"] (sxP isPb r.p) f_asked_prime fd_asked_prime)
    (X_asked_many : Def P w K mg base (L2.CX P w) 1 "asked_many" ["many"] (sxP okM r.m) f_asked_many fd_asked_many) (R : ErOk K mg r) :
    FnOk P w K mg base (L2.CX P w) 3 f fd ["many", "some", "prime"] (bd_rest r) := by
  refine F.okX sc_rest (fun vs H Q E h => ?_) (fun cdv A outer s H vs Q E hr h => ?_)
  · obtain ⟨x0, x1, x2, rfl, h⟩ := h
    rfl
  · obtain ⟨x0, x1, x2, rfl, h⟩ := h
    refine ⟨_, (pss_cons (ps_expr (pe_call X_asked_prime.ok (hr.mono (by decide)) (by rfl) X_asked_prime.g X_asked_prime.kp X_asked_prime.b .nil (passes_call (takes_of rfl rfl rfl rfl) (fun _ _ _ _ h => h)) (pa_cons (pv 2) pa_nil))) (pss_cons (ps_expr (pe_call X_asked_many.ok (hr.mono (by decide)) (by rfl) X_asked_many.g X_asked_many.kp X_asked_many.b .nil (passes_call (takes_of rfl rfl rfl rfl) (fun _ _ _ _ h => h)) (pa_cons (pv 0) pa_nil))) pss_never)), ?_⟩
    rcases h with ⟨h1, h2⟩ | ⟨h1, h2, h3⟩
    · exact q_ask rfl (fun z => by rw [h1] at z; cases z) (fun _ => h2)
    · exact q_ask rfl (fun _ H1 e1 => q_ask rfl (fun z => by rw [h2] at z; cases z) (fun _ => h3.go e1)) (fun z => by rw [h1] at z; cases z)
def bd_power (r : Er) : Sp := fun vs H _ E => ∃ x0 x1 x2 : Int, vs = [.int x0, .int x1, .int x2] ∧ Bd r x2 x0 H E
theorem okx_power {P : Program} {w : World} {K : PySem.W.Frag} {mg : Str → Option Value} {base : Heap} {r : Er} {f : Addr} {fd : FuncData} {f_asked_prime : Addr} {fd_asked_prime : FuncData} {f_asked_many : Addr} {fd_asked_many : FuncData} (F : Fun K "power" "power" s_power f fd)
    (X_asked_prime : Def P w K mg base (L2.CX P w) 2 "asked_prime" ["prime"] (sxP isPb r.p) f_asked_prime fd_asked_prime)
    (X_asked_many : Def P w K mg base (L2.CX P w) 1 "asked_many" ["many"] (sxP okM r.m) f_asked_many fd_asked_many) (R : ErOk K mg r) :
    FnOk P w K mg base (L2.CX P w) 3 f fd ["many", "some", "prime"] (bd_power r) := by
  refine F.okX sc_power (fun vs H Q E h => ?_) (fun cdv A outer s H vs Q E hr h => ?_)
  · obtain ⟨x0, x1, x2, rfl, h⟩ := h
    rfl
  · obtain ⟨x0, x1, x2, rfl, h⟩ := h
    refine ⟨_, (pss_cons (ps_expr (pe_call X_asked_prime.ok (hr.mono (by decide)) (by rfl) X_asked_prime.g X_asked_prime.kp X_asked_prime.b .nil (passes_call (takes_of rfl rfl rfl rfl) (fun _ _ _ _ h => h)) (pa_cons (pv 2) pa_nil))) (pss_cons (ps_expr (pe_call X_asked_many.ok (hr.mono (by decide)) (by rfl) X_asked_many.g X_asked_many.kp X_asked_many.b .nil (passes_call (takes_of rfl rfl rfl rfl) (fun _ _ _ _ h => h)) (pa_cons (pv 0) pa_nil))) pss_never)), ?_⟩
    rcases h with ⟨h1, h2⟩ | ⟨h1, h2, h3⟩
    · exact q_ask rfl (fun z => by rw [h1] at z; cases z) (fun _ => h2)
    · exact q_ask rfl (fun _ H1 e1 => q_ask rfl (fun z => by rw [h2] at z; cases z) (fun _ => h3.go e1)) (fun z => by rw [h1] at z; cases z)
def bd_last (r : Er) : Sp := fun vs H _ E => ∃ x0 x1 x2 : Int, vs = [.int x0, .int x1, .int x2] ∧ Bd r x2 x0 H E
theorem okx_last {P : Program} {w : World} {K : PySem.W.Frag} {mg : Str → Option Value} {base : Heap} {r : Er} {f : Addr} {fd : FuncData} {f_asked_prime : Addr} {fd_asked_prime : FuncData} {f_asked_many : Addr} {fd_asked_many : FuncData} (F : Fun K "last" "last" s_last f fd)
    (X_asked_prime : Def P w K mg base (L2.CX P w) 2 "asked_prime" ["prime"] (sxP isPb r.p) f_asked_prime fd_asked_prime)
    (X_asked_many : Def P w K mg base (L2.CX P w) 1 "asked_many" ["many"] (sxP okM r.m) f_asked_many fd_asked_many) (R : ErOk K mg r) :
    FnOk P w K mg base (L2.CX P w) 3 f fd ["many", "some", "prime"] (bd_last r) := by
  refine F.okX sc_last (fun vs H Q E h => ?_) (fun cdv A outer s H vs Q E hr h => ?_)
  · obtain ⟨x0, x1, x2, rfl, h⟩ := h
    rfl
  · obtain ⟨x0, x1, x2, rfl, h⟩ := h
    refine ⟨_, (pss_cons (ps_expr (pe_call X_asked_prime.ok (hr.mono (by decide)) (by rfl) X_asked_prime.g X_asked_prime.kp X_asked_prime.b .nil (passes_call (takes_of rfl rfl rfl rfl) (fun _ _ _ _ h => h)) (pa_cons (pv 2) pa_nil))) (pss_cons (ps_expr (pe_call X_asked_many.ok (hr.mono (by decide)) (by rfl) X_asked_many.g X_asked_many.kp X_asked_many.b .nil (passes_call (takes_of rfl rfl rfl rfl) (fun _ _ _ _ h => h)) (pa_cons (pv 0) pa_nil))) pss_never)), ?_⟩
    rcases h with ⟨h1, h2⟩ | ⟨h1, h2, h3⟩
    · exact q_ask rfl (fun z => by rw [h1] at z; cases z) (fun _ => h2)
    · exact q_ask rfl (fun _ H1 e1 => q_ask rfl (fun z => by rw [h2] at z; cases z) (fun _ => h3.go e1)) (fun z => by rw [h1] at z; cases z)
def bd_free (r : Er) : Sp := fun vs H _ E => ∃ x0 x1 : Int, vs = [.int x0, .int x1] ∧ Bd r x1 x0 H E
theorem okx_free {P : Program} {w : World} {K : PySem.W.Frag} {mg : Str → Option Value} {base : Heap} {r : Er} {f : Addr} {fd : FuncData} {f_asked_prime : Addr} {fd_asked_prime : FuncData} {f_asked_many : Addr} {fd_asked_many : FuncData} (F : Fun K "free" "free" s_free f fd)
    (X_asked_prime : Def P w K mg base (L2.CX P w) 2 "asked_prime" ["prime"] (sxP isPb r.p) f_asked_prime fd_asked_prime)
    (X_asked_many : Def P w K mg base (L2.CX P w) 1 "asked_many" ["many"] (sxP okM r.m) f_asked_many fd_asked_many) (R : ErOk K mg r) :
    FnOk P w K mg base (L2.CX P w) 3 f fd ["many", "prime"] (bd_free r) := by
  refine F.okX sc_free (fun vs H Q E h => ?_) (fun cdv A outer s H vs Q E hr h => ?_)
  · obtain ⟨x0, x1, rfl, h⟩ := h
    rfl
  · obtain ⟨x0, x1, rfl, h⟩ := h
    refine ⟨_, (pss_cons (ps_expr (pe_call X_asked_prime.ok (hr.mono (by decide)) (by rfl) X_asked_prime.g X_asked_prime.kp X_asked_prime.b .nil (passes_call (takes_of rfl rfl rfl rfl) (fun _ _ _ _ h => h)) (pa_cons (pv 1) pa_nil))) (pss_cons (ps_expr (pe_call X_asked_many.ok (hr.mono (by decide)) (by rfl) X_asked_many.g X_asked_many.kp X_asked_many.b .nil (passes_call (takes_of rfl rfl rfl rfl) (fun _ _ _ _ h => h)) (pa_cons (pv 0) pa_nil))) pss_never)), ?_⟩
    rcases h with ⟨h1, h2⟩ | ⟨h1, h2, h3⟩
    · exact q_ask rfl (fun z => by rw [h1] at z; cases z) (fun _ => h2)
    · exact q_ask rfl (fun _ H1 e1 => q_ask rfl (fun z => by rw [h2] at z; cases z) (fun _ => h3.go e1)) (fun z => by rw [h1] at z; cases z)
def bd_next_free (r : Er) : Sp := fun vs H _ E => ∃ x0 x1 x2 : Int, vs = [.int x0, .int x1, .int x2] ∧ Bd r x2 x0 H E
theorem okx_next_free {P : Program} {w : World} {K : PySem.W.Frag} {mg : Str → Option Value} {base : Heap} {r : Er} {f : Addr} {fd : FuncData} {f_asked_prime : Addr} {fd_asked_prime : FuncData} {f_asked_many : Addr} {fd_asked_many : FuncData} (F : Fun K "next_free" "next_free" s_next_free f fd)
    (X_asked_prime : Def P w K mg base (L2.CX P w) 2 "asked_prime" ["prime"] (sxP isPb r.p) f_asked_prime fd_asked_prime)
    (X_asked_many : Def P w K mg base (L2.CX P w) 1 "asked_many" ["many"] (sxP okM r.m) f_asked_many fd_asked_many) (R : ErOk K mg r) :
    FnOk P w K mg base (L2.CX P w) 3 f fd ["many", "place", "prime"] (bd_next_free r) := by
  refine F.okX sc_next_free (fun vs H Q E h => ?_) (fun cdv A outer s H vs Q E hr h => ?_)
  · obtain ⟨x0, x1, x2, rfl, h⟩ := h
    rfl
  · obtain ⟨x0, x1, x2, rfl, h⟩ := h
    refine ⟨_, (pss_cons (ps_expr (pe_call X_asked_prime.ok (hr.mono (by decide)) (by rfl) X_asked_prime.g X_asked_prime.kp X_asked_prime.b .nil (passes_call (takes_of rfl rfl rfl rfl) (fun _ _ _ _ h => h)) (pa_cons (pv 2) pa_nil))) (pss_cons (ps_expr (pe_call X_asked_many.ok (hr.mono (by decide)) (by rfl) X_asked_many.g X_asked_many.kp X_asked_many.b .nil (passes_call (takes_of rfl rfl rfl rfl) (fun _ _ _ _ h => h)) (pa_cons (pv 0) pa_nil))) pss_never)), ?_⟩
    rcases h with ⟨h1, h2⟩ | ⟨h1, h2, h3⟩
    · exact q_ask rfl (fun z => by rw [h1] at z; cases z) (fun _ => h2)
    · exact q_ask rfl (fun _ H1 e1 => q_ask rfl (fun z => by rw [h2] at z; cases z) (fun _ => h3.go e1)) (fun z => by rw [h1] at z; cases z)
def bd_free_ahead (r : Er) : Sp := fun vs H _ E => ∃ x0 x1 x2 : Int, vs = [.int x0, .int x1, .int x2] ∧ Bd r x2 x0 H E
theorem okx_free_ahead {P : Program} {w : World} {K : PySem.W.Frag} {mg : Str → Option Value} {base : Heap} {r : Er} {f : Addr} {fd : FuncData} {f_asked_prime : Addr} {fd_asked_prime : FuncData} {f_asked_many : Addr} {fd_asked_many : FuncData} (F : Fun K "free_ahead" "free_ahead" s_free_ahead f fd)
    (X_asked_prime : Def P w K mg base (L2.CX P w) 2 "asked_prime" ["prime"] (sxP isPb r.p) f_asked_prime fd_asked_prime)
    (X_asked_many : Def P w K mg base (L2.CX P w) 1 "asked_many" ["many"] (sxP okM r.m) f_asked_many fd_asked_many) (R : ErOk K mg r) :
    FnOk P w K mg base (L2.CX P w) 3 f fd ["many", "place", "prime"] (bd_free_ahead r) := by
  refine F.okX sc_free_ahead (fun vs H Q E h => ?_) (fun cdv A outer s H vs Q E hr h => ?_)
  · obtain ⟨x0, x1, x2, rfl, h⟩ := h
    rfl
  · obtain ⟨x0, x1, x2, rfl, h⟩ := h
    refine ⟨_, (pss_cons (ps_expr (pe_call X_asked_prime.ok (hr.mono (by decide)) (by rfl) X_asked_prime.g X_asked_prime.kp X_asked_prime.b .nil (passes_call (takes_of rfl rfl rfl rfl) (fun _ _ _ _ h => h)) (pa_cons (pv 2) pa_nil))) (pss_cons (ps_expr (pe_call X_asked_many.ok (hr.mono (by decide)) (by rfl) X_asked_many.g X_asked_many.kp X_asked_many.b .nil (passes_call (takes_of rfl rfl rfl rfl) (fun _ _ _ _ h => h)) (pa_cons (pv 0) pa_nil))) pss_never)), ?_⟩
    rcases h with ⟨h1, h2⟩ | ⟨h1, h2, h3⟩
    · exact q_ask rfl (fun z => by rw [h1] at z; cases z) (fun _ => h2)
    · exact q_ask rfl (fun _ H1 e1 => q_ask rfl (fun z => by rw [h2] at z; cases z) (fun _ => h3.go e1)) (fun z => by rw [h1] at z; cases z)
def bd_is_bare (r : Er) : Sp := fun vs H _ E => ∃ x0 x1 : Int, vs = [.int x0, .int x1] ∧ Bd r x1 x0 H E
theorem okx_is_bare {P : Program} {w : World} {K : PySem.W.Frag} {mg : Str → Option Value} {base : Heap} {r : Er} {f : Addr} {fd : FuncData} {f_asked_prime : Addr} {fd_asked_prime : FuncData} {f_asked_many : Addr} {fd_asked_many : FuncData} (F : Fun K "is_bare" "is_bare" s_is_bare f fd)
    (X_asked_prime : Def P w K mg base (L2.CX P w) 2 "asked_prime" ["prime"] (sxP isPb r.p) f_asked_prime fd_asked_prime)
    (X_asked_many : Def P w K mg base (L2.CX P w) 1 "asked_many" ["many"] (sxP okM r.m) f_asked_many fd_asked_many) (R : ErOk K mg r) :
    FnOk P w K mg base (L2.CX P w) 3 f fd ["many", "prime"] (bd_is_bare r) := by
  refine F.okX sc_is_bare (fun vs H Q E h => ?_) (fun cdv A outer s H vs Q E hr h => ?_)
  · obtain ⟨x0, x1, rfl, h⟩ := h
    rfl
  · obtain ⟨x0, x1, rfl, h⟩ := h
    refine ⟨_, (pss_cons (ps_expr (pe_call X_asked_prime.ok (hr.mono (by decide)) (by rfl) X_asked_prime.g X_asked_prime.kp X_asked_prime.b .nil (passes_call (takes_of rfl rfl rfl rfl) (fun _ _ _ _ h => h)) (pa_cons (pv 1) pa_nil))) (pss_cons (ps_expr (pe_call X_asked_many.ok (hr.mono (by decide)) (by rfl) X_asked_many.g X_asked_many.kp X_asked_many.b .nil (passes_call (takes_of rfl rfl rfl rfl) (fun _ _ _ _ h => h)) (pa_cons (pv 0) pa_nil))) pss_never)), ?_⟩
    rcases h with ⟨h1, h2⟩ | ⟨h1, h2, h3⟩
    · exact q_ask rfl (fun z => by rw [h1] at z; cases z) (fun _ => h2)
    · exact q_ask rfl (fun _ H1 e1 => q_ask rfl (fun z => by rw [h2] at z; cases z) (fun _ => h3.go e1)) (fun z => by rw [h1] at z; cases z)
def bd_is_full (r : Er) : Sp := fun vs H _ E => ∃ x0 x1 : Int, vs = [.int x0, .int x1] ∧ Bd r x1 x0 H E
theorem okx_is_full {P : Program} {w : World} {K : PySem.W.Frag} {mg : Str → Option Value} {base : Heap} {r : Er} {f : Addr} {fd : FuncData} {f_asked_prime : Addr} {fd_asked_prime : FuncData} {f_asked_many : Addr} {fd_asked_many : FuncData} (F : Fun K "is_full" "is_full" s_is_full f fd)
    (X_asked_prime : Def P w K mg base (L2.CX P w) 2 "asked_prime" ["prime"] (sxP isPb r.p) f_asked_prime fd_asked_prime)
    (X_asked_many : Def P w K mg base (L2.CX P w) 1 "asked_many" ["many"] (sxP okM r.m) f_asked_many fd_asked_many) (R : ErOk K mg r) :
    FnOk P w K mg base (L2.CX P w) 3 f fd ["many", "prime"] (bd_is_full r) := by
  refine F.okX sc_is_full (fun vs H Q E h => ?_) (fun cdv A outer s H vs Q E hr h => ?_)
  · obtain ⟨x0, x1, rfl, h⟩ := h
    rfl
  · obtain ⟨x0, x1, rfl, h⟩ := h
    refine ⟨_, (pss_cons (ps_expr (pe_call X_asked_prime.ok (hr.mono (by decide)) (by rfl) X_asked_prime.g X_asked_prime.kp X_asked_prime.b .nil (passes_call (takes_of rfl rfl rfl rfl) (fun _ _ _ _ h => h)) (pa_cons (pv 1) pa_nil))) (pss_cons (ps_expr (pe_call X_asked_many.ok (hr.mono (by decide)) (by rfl) X_asked_many.g X_asked_many.kp X_asked_many.b .nil (passes_call (takes_of rfl rfl rfl rfl) (fun _ _ _ _ h => h)) (pa_cons (pv 0) pa_nil))) pss_never)), ?_⟩
    rcases h with ⟨h1, h2⟩ | ⟨h1, h2, h3⟩
    · exact q_ask rfl (fun z => by rw [h1] at z; cases z) (fun _ => h2)
    · exact q_ask rfl (fun _ H1 e1 => q_ask rfl (fun z => by rw [h2] at z; cases z) (fun _ => h3.go e1)) (fun z => by rw [h1] at z; cases z)
def bd_free_at (r : Er) : Sp := fun vs H _ E => ∃ x0 x1 x2 : Int, vs = [.int x0, .int x1, .int x2] ∧ Bd r x2 x0 H E
theorem okx_free_at {P : Program} {w : World} {K : PySem.W.Frag} {mg : Str → Option Value} {base : Heap} {r : Er} {f : Addr} {fd : FuncData} {f_asked_prime : Addr} {fd_asked_prime : FuncData} {f_asked_many : Addr} {fd_asked_many : FuncData} (F : Fun K "free_at" "free_at" s_free_at f fd)
    (X_asked_prime : Def P w K mg base (L2.CX P w) 2 "asked_prime" ["prime"] (sxP isPb r.p) f_asked_prime fd_asked_prime)
    (X_asked_many : Def P w K mg base (L2.CX P w) 1 "asked_many" ["many"] (sxP okM r.m) f_asked_many fd_asked_many) (R : ErOk K mg r) :
    FnOk P w K mg base (L2.CX P w) 3 f fd ["many", "number", "prime"] (bd_free_at r) := by
  refine F.okX sc_free_at (fun vs H Q E h => ?_) (fun cdv A outer s H vs Q E hr h => ?_)
  · obtain ⟨x0, x1, x2, rfl, h⟩ := h
    rfl
  · obtain ⟨x0, x1, x2, rfl, h⟩ := h
    refine ⟨_, (pss_cons (ps_expr (pe_call X_asked_prime.ok (hr.mono (by decide)) (by rfl) X_asked_prime.g X_asked_prime.kp X_asked_prime.b .nil (passes_call (takes_of rfl rfl rfl rfl) (fun _ _ _ _ h => h)) (pa_cons (pv 2) pa_nil))) (pss_cons (ps_expr (pe_call X_asked_many.ok (hr.mono (by decide)) (by rfl) X_asked_many.g X_asked_many.kp X_asked_many.b .nil (passes_call (takes_of rfl rfl rfl rfl) (fun _ _ _ _ h => h)) (pa_cons (pv 0) pa_nil))) pss_never)), ?_⟩
    rcases h with ⟨h1, h2⟩ | ⟨h1, h2, h3⟩
    · exact q_ask rfl (fun z => by rw [h1] at z; cases z) (fun _ => h2)
    · exact q_ask rfl (fun _ H1 e1 => q_ask rfl (fun z => by rw [h2] at z; cases z) (fun _ => h3.go e1)) (fun z => by rw [h1] at z; cases z)
def Bd3 (r : Er) (p m k : Int) (H : Hp) (E : XK) : Prop := (isPb p = false ∧ RE r.p H E) ∨ (isPb p = true ∧ okM m = false ∧ RE r.m H E) ∨ (isPb p = true ∧ okM m = true ∧ okM k = false ∧ RE r.m H E)
theorem Bd3.go {r : Er} {p m k : Int} {H H1 : Hp} {E : XK} (h : Bd3 r p m k H E) (e : Ex H H1) : Bd3 r p m k H1 E := by
  rcases h with ⟨a, b⟩ | ⟨a, b, c⟩ | ⟨a, b, c, d⟩
  · exact .inl ⟨a, b.go e⟩
  · exact .inr (.inl ⟨a, b, c.go e⟩)
  · exact .inr (.inr ⟨a, b, c, d.go e⟩)
theorem Bd.c1 {r : Er} {p m : Int} {H : Hp} {E : XK} (h : Bd r p m H E) : Bd3 r p m 5 H E := by
  rcases h with z | z
  · exact .inl z
  · exact .inr (.inl z)
theorem Bd.c2 {r : Er} {p m : Int} {H : Hp} {E : XK} (h : Bd r p m H E) : Bd3 r p 5 m H E := by
  rcases h with z | ⟨a, b, c⟩
  · exact .inl z
  · exact .inr (.inr ⟨a, by decide, b, c⟩)
def bd_carries (r : Er) : Sp := fun vs H _ E => ∃ x0 x1 x2 : Int, vs = [.int x0, .int x1, .int x2] ∧ Bd3 r x2 x0 x1 H E

theorem okx_carries {P : Program} {w : World} {K : PySem.W.Frag} {mg : Str → Option Value} {base : Heap} {r : Er} {f : Addr} {fd : FuncData} {f_asked_prime : Addr} {fd_asked_prime : FuncData} {f_asked_many : Addr} {fd_asked_many : FuncData} (F : Fun K "carries" "carries" s_carries f fd)
    (X_asked_prime : Def P w K mg base (L2.CX P w) 2 "asked_prime" ["prime"] (sxP isPb r.p) f_asked_prime fd_asked_prime)
    (X_asked_many : Def P w K mg base (L2.CX P w) 1 "asked_many" ["many"] (sxP okM r.m) f_asked_many fd_asked_many) (R : ErOk K mg r) :
    FnOk P w K mg base (L2.CX P w) 3 f fd ["one", "other", "prime"] (bd_carries r) := by
  refine F.okX sc_carries (fun vs H Q E h => ?_) (fun cdv A outer s H vs Q E hr h => ?_)
  · obtain ⟨x0, x1, x2, rfl, h⟩ := h
    rfl
  · obtain ⟨x0, x1, x2, rfl, h⟩ := h
    refine ⟨_, (pss_cons (ps_expr (pe_call X_asked_prime.ok (hr.mono (by decide)) (by rfl) X_asked_prime.g X_asked_prime.kp X_asked_prime.b .nil (passes_call (takes_of rfl rfl rfl rfl) (fun _ _ _ _ h => h)) (pa_cons (pv 2) pa_nil))) (pss_cons (ps_expr (pe_call X_asked_many.ok (hr.mono (by decide)) (by rfl) X_asked_many.g X_asked_many.kp X_asked_many.b .nil (passes_call (takes_of rfl rfl rfl rfl) (fun _ _ _ _ h => h)) (pa_cons (pv 0) pa_nil))) (pss_cons (ps_expr (pe_call X_asked_many.ok (hr.mono (by decide)) (by rfl) X_asked_many.g X_asked_many.kp X_asked_many.b .nil (passes_call (takes_of rfl rfl rfl rfl) (fun _ _ _ _ h => h)) (pa_cons (pv 1) pa_nil))) pss_never))), ?_⟩
    rcases h with ⟨h1, h2⟩ | ⟨h1, h2, h3⟩ | ⟨h1, h2, h3, h4⟩
    · exact q_ask rfl (fun z => by rw [h1] at z; cases z) (fun _ => h2)
    · exact q_ask rfl (fun _ H1 e1 => q_ask rfl (fun z => by rw [h2] at z; cases z) (fun _ => h3.go e1)) (fun z => by rw [h1] at z; cases z)
    · exact q_ask rfl (fun _ H1 e1 => q_ask rfl (fun _ H2 e2 => q_ask rfl (fun z => by rw [h3] at z; cases z) (fun _ => h4.go (e1.trans e2))) (fun z => by rw [h2] at z; cases z)) (fun z => by rw [h1] at z; cases z)
def bp_free_at (r : Er) : Sp := fun vs H _ E => ∃ (n q : Nat) (i : Int), vs = [.int (n : Int), .int i, .int (q : Int)] ∧ IsP q ∧ n ≤ 1000000000000000000000000000000 ∧ (i < 0 ∨ (tot q n : Int) ≤ i) ∧ RE r.l H E
theorem okp_free_at {P : Program} {w : World} {K : PySem.W.Frag} {mg : Str → Option Value} {base : Heap} {r : Er} {f : Addr} {fd : FuncData} {f_asked_prime : Addr} {fd_asked_prime : FuncData} {f_asked_many : Addr} {fd_asked_many : FuncData} {f_figures_of : Addr} {fd_figures_of : FuncData} {f_product : Addr} {fd_product : FuncData} (F : Fun K "free_at" "free_at" s_free_at f fd)
    (X_asked_prime : Def P w K mg base (L2.CX P w) 2 "asked_prime" ["prime"] (sxP isPb r.p) f_asked_prime fd_asked_prime)
    (X_asked_many : Def P w K mg base (L2.CX P w) 1 "asked_many" ["many"] (sxP okM r.m) f_asked_many fd_asked_many)
    (D_figures_of : Def P w K mg base CX0 1 "figures_of" ["number", "prime"] (sp_figures_of K) f_figures_of fd_figures_of)
    (D_product : Def P w K mg base CX0 1 "product" ["numbers"] (sp_product K) f_product fd_product) (R : ErOk K mg r) :
    FnOk P w K mg base (L2.CX P w) 3 f fd ["many", "number", "prime"] (bp_free_at r) := by
  refine F.okX sc_free_at (fun vs H Q E h => ?_) (fun cdv A outer s H vs Q E hr h => ?_)
  · obtain ⟨n, q, i, rfl, _⟩ := h
    rfl
  · obtain ⟨n, q, i, rfl, hq, hn, hi, hE⟩ := h
    refine ⟨_, (pss_cons (ps_expr (pe_call X_asked_prime.ok (hr.mono (by decide)) (by rfl) X_asked_prime.g X_asked_prime.kp X_asked_prime.b .nil (passes_call (takes_of rfl rfl rfl rfl) (fun _ _ _ _ h => h)) (pa_cons (pv 2) pa_nil))) (pss_cons (ps_expr (pe_call X_asked_many.ok (hr.mono (by decide)) (by rfl) X_asked_many.g X_asked_many.kp X_asked_many.b .nil (passes_call (takes_of rfl rfl rfl rfl) (fun _ _ _ _ h => h)) (pa_cons (pv 0) pa_nil))) (pss_cons (ps_set (i := 3) sc_free_at.nd rfl (Or.inl rfl) (pe_call D_figures_of.ok (hr.mono (by decide)) (by rfl) D_figures_of.g D_figures_of.kp D_figures_of.b .nil pass0 (pa_cons (pv 0) (pa_cons (pv 2) pa_nil)))) (pss_cons (ps_if (PW.pt (pw_or (pt_cmpR op_lt (pv 1) pe_int (nomark _)) (pw_or1 (pt_cmpR op_ge (pv 1) (pe_call D_product.ok (hr.mono (by decide)) (by rfl) D_product.g D_product.kp D_product.b .nil pass0 (pa_cons (pe_lc (own := [("figure", 5)]) (g := gName 5) (tt := tYes) (te := (tOp (rI0 fun i j => .int (i + j)) (tVar 5) (tC (.int 1)))) rfl sc_free_at.nd (pi_list (pv 3)) (blkOk_by (own := [("figure", 5)]) (N := ["many", "number", "prime", "most", "row", "figure"]) (sc := defScope s_free_at) (by decide +kernel)) (fun _ _ _ _ _ => pg_name (i := 5) sc_free_at.nd rfl (Or.inl rfl)) (fun _ _ _ _ _ => pts_nil) (fun _ _ _ _ _ => (pe_op op_add (pv 5) pe_int))) pa_nil)) (nomark _))))) (pss_one (ps_raise rfl (takes_of rfl rfl rfl rfl) (pmk_own PySem.F.excBase_ValueError R.el.x R.gel R.el.k (raises_own R.el.b R.el.t) (by exact rfl)))) pss_nil) pss_never)))), ?_⟩
    refine q_ask rfl (fun _ H1 e1 => q_ask rfl (fun _ H2 e2 => ?_) (fun z => by rw [okM_nat hn] at z; cases z)) (fun z => by rw [isPb_of hq] at z; cases z)
    refine q_asgL (el_call (ea_cons (ev_var rfl) (ea_cons (ev_var rfl) ea_nil)) (sv_figures_of ⟨hq, hn⟩)) fun ln H3 _ e3 hln => ?_
    refine q_if (b := true) (et_is (et_or (et_test (ev_op (ev_var rfl) ev_c rv_I0)) (fun _ => et_test (ev_op (ev_var rfl) (ev_prod (ek_var (ev_var rfl) hln) (digs_len100 hq hn) (digs_97 hq n) (fun _ => rfl) (fun a H4 e4 ha => ev_is (ev_op (ev_var rfl) ev_c rv_I0) rfl)) rv_I0))) ?_) (fun _ H4 e4 => hE _ (((e1.trans e2).trans e3).trans e4)) (fun hb => nomatch hb)
    rw [tot_prodl hq.ge, Bool.or_eq_true, decide_eq_true_eq, decide_eq_true_eq]
    omega
def bd_choices (r : Er) : Sp := fun vs H _ E => ∃ m k : Int, vs = [.int m, .int k] ∧ ((okM m = false ∧ RE r.m H E) ∨ (okM m = true ∧ 400 < m ∧ RE r.t H E))
theorem okx_choices {P : Program} {w : World} {K : PySem.W.Frag} {mg : Str → Option Value} {base : Heap} {r : Er} {f : Addr} {fd : FuncData} {f_asked_many : Addr} {fd_asked_many : FuncData} (F : Fun K "choices" "choices" s_choices f fd)
    (X_asked_many : Def P w K mg base (L2.CX P w) 1 "asked_many" ["many"] (sxP okM r.m) f_asked_many fd_asked_many) {t_MOST : Tok} (g_MOST : mg "MOST" = some (.int 400 t_MOST)) (R : ErOk K mg r) :
    FnOk P w K mg base (L2.CX P w) 2 f fd ["many", "some"] (bd_choices r) := by
  refine F.okX sc_choices (fun vs H Q E h => ?_) (fun cdv A outer s H vs Q E hr h => ?_)
  · obtain ⟨m, k, rfl, h⟩ := h
    rfl
  · obtain ⟨m, k, rfl, h⟩ := h
    refine ⟨_, (pss_cons (ps_expr (pe_call X_asked_many.ok (hr.mono (by decide)) (by rfl) X_asked_many.g X_asked_many.kp X_asked_many.b .nil (passes_call (takes_of rfl rfl rfl rfl) (fun _ _ _ _ h => h)) (pa_cons (pv 0) pa_nil))) (pss_cons (ps_if (pt_cmpR op_gt (pv 0) (pe_glob (v := .int 400) rfl g_MOST ⟨_, rfl⟩) (nomark _)) (pss_one (ps_raise rfl (takes_of rfl rfl rfl rfl) (pmk_own PySem.F.excBase_ValueError R.et.x R.get R.et.k (raises_own R.et.b R.et.t) (by exact rfl)))) pss_nil) pss_never)), ?_⟩
    rcases h with ⟨h1, h2⟩ | ⟨h1, h2, h3⟩
    · exact q_ask rfl (fun z => by rw [h1] at z; cases z) (fun _ => h2)
    · exact q_ask rfl (fun _ H1 e1 => q_if (b := true) (et_is (et_test (ev_op (ev_var rfl) ev_c rv_I0)) (decide_eq_true h2)) (fun _ H2 e2 => h3 _ (e1.trans e2)) (fun hb => nomatch hb)) (fun z => by rw [h1] at z; cases z)
def sx_figures (K : PySem.W.Frag) (r : Er) : Sp := fun vs H Q E => sp_figures K vs H Q E ∨ bd_figures r vs H Q E
def sx_order_power (K : PySem.W.Frag) (r : Er) : Sp := fun vs H Q E => sp_order_power K vs H Q E ∨ bd_order_power r vs H Q E
def sx_rest (K : PySem.W.Frag) (r : Er) : Sp := fun vs H Q E => sp_rest K vs H Q E ∨ bd_rest r vs H Q E
def sx_power (K : PySem.W.Frag) (r : Er) : Sp := fun vs H Q E => sp_power K vs H Q E ∨ bd_power r vs H Q E
def sx_last (K : PySem.W.Frag) (r : Er) : Sp := fun vs H Q E => sp_last K vs H Q E ∨ bd_last r vs H Q E
def sx_free (K : PySem.W.Frag) (r : Er) : Sp := fun vs H Q E => sp_free K vs H Q E ∨ bd_free r vs H Q E
def sx_next_free (K : PySem.W.Frag) (r : Er) : Sp := fun vs H Q E => sp_next_free K vs H Q E ∨ bd_next_free r vs H Q E
def sx_free_ahead (K : PySem.W.Frag) (r : Er) : Sp := fun vs H Q E => sp_free_ahead K vs H Q E ∨ bd_free_ahead r vs H Q E
def sx_is_bare (K : PySem.W.Frag) (r : Er) : Sp := fun vs H Q E => sp_is_bare K vs H Q E ∨ bd_is_bare r vs H Q E
def sx_is_full (K : PySem.W.Frag) (r : Er) : Sp := fun vs H Q E => sp_is_full K vs H Q E ∨ bd_is_full r vs H Q E
def sx_free_at (K : PySem.W.Frag) (r : Er) : Sp := fun vs H Q E => sp_free_at K vs H Q E ∨ (bd_free_at r vs H Q E ∨ bp_free_at r vs H Q E)
def sx_carries (K : PySem.W.Frag) (r : Er) : Sp := fun vs H Q E => sp_carries K vs H Q E ∨ bd_carries r vs H Q E
def sx_choices (K : PySem.W.Frag) (r : Er) : Sp := fun vs H Q E => sp_choices K vs H Q E ∨ bd_choices r vs H Q E
abbrev s__law_first : Stmt := topS 41
theorem sc__law_first : FnScope ["which", "many", "prime"] ["which", "many", "prime"] (defScope s__law_first) := ⟨rfl, rfl, rfl, by decide +kernel, rfl, by decide +kernel, by decide +kernel⟩
def sx__law_first (K : PySem.W.Frag) (r : Er) : Sp := fun vs H Q E => ∃ w m p : Int, vs = [.int w, .int m, .int p] ∧ 0 ≤ w ∧ ((w ≤ 6 ∧ Bd r p m H E) ∨ ((7 ≤ w ∨ Gd p m) ∧ RetV .non H Q))
theorem okx__law_first {P : Program} {w : World} {K : PySem.W.Frag} {mg : Str → Option Value} {base : Heap} {r : Er} {f : Addr} {fd : FuncData} {f_figures : Addr} {fd_figures : FuncData} {f_carries : Addr} {fd_carries : FuncData} {f_order_power : Addr} {fd_order_power : FuncData} {f_rest : Addr} {fd_rest : FuncData} {f_power : Addr} {fd_power : FuncData} {f_last : Addr} {fd_last : FuncData} (F : Fun K "_law_first" "_law_first" s__law_first f fd)
    (X_figures : Def P w K mg base (L2.CX P w) 3 "figures" ["number", "prime"] (sx_figures K r) f_figures fd_figures)
    (X_carries : Def P w K mg base (L2.CX P w) 3 "carries" ["one", "other", "prime"] (sx_carries K r) f_carries fd_carries)
    (X_order_power : Def P w K mg base (L2.CX P w) 3 "order_power" ["number", "prime"] (sx_order_power K r) f_order_power fd_order_power)
    (X_rest : Def P w K mg base (L2.CX P w) 3 "rest" ["many", "some", "prime"] (sx_rest K r) f_rest fd_rest)
    (X_power : Def P w K mg base (L2.CX P w) 3 "power" ["many", "some", "prime"] (sx_power K r) f_power fd_power)
    (X_last : Def P w K mg base (L2.CX P w) 3 "last" ["many", "some", "prime"] (sx_last K r) f_last fd_last) (R : ErOk K mg r) :
    FnOk P w K mg base (L2.CX P w) 4 f fd ["which", "many", "prime"] (sx__law_first K r) := by
  refine F.okX sc__law_first (fun vs H Q E h => ?_) (fun cdv A outer s H vs Q E hr h => ?_)
  · obtain ⟨w, m, p, rfl, w0, h⟩ := h
    rfl
  · obtain ⟨w, m, p, rfl, w0, h⟩ := h
    refine ⟨_, (pss_cons (ps_if (pt_cmpR op_eq (pv 0) pe_int (nomark _)) (pss_one (ps_expr (pe_call X_figures.ok (hr.mono (by decide)) (by rfl) X_figures.g X_figures.kp X_figures.b .nil (passes_call (takes_of rfl rfl rfl rfl) (fun _ _ _ _ h => h)) (pa_cons (pv 1) (pa_cons (pv 2) pa_nil))))) pss_nil)
      (pss_cons (ps_if (pt_cmpR op_eq (pv 0) pe_int (nomark _)) (pss_one (ps_expr (pe_call X_carries.ok (hr.mono (by decide)) (by rfl) X_carries.g X_carries.kp X_carries.b .nil (passes_call (takes_of rfl rfl rfl rfl) (fun _ _ _ _ h => h)) (pa_cons (pv 1) (pa_cons pe_int (pa_cons (pv 2) pa_nil)))))) pss_nil)
      (pss_cons (ps_if (pt_cmpR op_eq (pv 0) pe_int (nomark _)) (pss_one (ps_expr (pe_call X_carries.ok (hr.mono (by decide)) (by rfl) X_carries.g X_carries.kp X_carries.b .nil (passes_call (takes_of rfl rfl rfl rfl) (fun _ _ _ _ h => h)) (pa_cons pe_int (pa_cons (pv 1) (pa_cons (pv 2) pa_nil)))))) pss_nil)
      (pss_cons (ps_if (pt_cmpR op_eq (pv 0) pe_int (nomark _)) (pss_one (ps_expr (pe_call X_order_power.ok (hr.mono (by decide)) (by rfl) X_order_power.g X_order_power.kp X_order_power.b .nil (passes_call (takes_of rfl rfl rfl rfl) (fun _ _ _ _ h => h)) (pa_cons (pv 1) (pa_cons (pv 2) pa_nil))))) pss_nil)
      (pss_cons (ps_if (pt_cmpR op_eq (pv 0) pe_int (nomark _)) (pss_one (ps_expr (pe_call X_rest.ok (hr.mono (by decide)) (by rfl) X_rest.g X_rest.kp X_rest.b .nil (passes_call (takes_of rfl rfl rfl rfl) (fun _ _ _ _ h => h)) (pa_cons (pv 1) (pa_cons pe_int (pa_cons (pv 2) pa_nil)))))) pss_nil)
      (pss_cons (ps_if (pt_cmpR op_eq (pv 0) pe_int (nomark _)) (pss_one (ps_expr (pe_call X_power.ok (hr.mono (by decide)) (by rfl) X_power.g X_power.kp X_power.b .nil (passes_call (takes_of rfl rfl rfl rfl) (fun _ _ _ _ h => h)) (pa_cons (pv 1) (pa_cons (pe_un un_neg pe_int) (pa_cons (pv 2) pa_nil)))))) pss_nil)
      (pss_one (ps_if (pt_cmpR op_eq (pv 0) pe_int (nomark _)) (pss_one (ps_expr (pe_call X_last.ok (hr.mono (by decide)) (by rfl) X_last.g X_last.kp X_last.b .nil (passes_call (takes_of rfl rfl rfl rfl) (fun _ _ _ _ h => h)) (pa_cons (pv 1) (pa_cons pe_int (pa_cons (pv 2) pa_nil)))))) pss_nil)))))))), ?_⟩
    have hw : w = 0 ∨ w = 1 ∨ w = 2 ∨ w = 3 ∨ w = 4 ∨ w = 5 ∨ w = 6 ∨ 7 ≤ w := by omega
    rcases hw with rfl | rfl | rfl | rfl | rfl | rfl | rfl | hw
    · -- which == 0
      refine q_take rfl ?_
      refine s_dropX (ea_cons (ev_var rfl) (ea_cons (ev_var rfl) ea_nil)) fun H1 e1 => ?_
      rcases h with ⟨_, hb⟩ | ⟨hg, hq⟩
      · exact .inr ⟨m, p, rfl, hb.go e1⟩
      · obtain ⟨q, n, rfl, rfl, hp, hn⟩ : Gd p m := by rcases hg with z | z; exact absurd z (by decide); exact z
        refine .inl ⟨n, q, rfl, hp, hn, fun l H2 _ e2 _ => ?_⟩
        refine q_skip rfl (by decide) ?_
        refine q_skip rfl (by decide) ?_
        refine q_skip rfl (by decide) ?_
        refine q_skip rfl (by decide) ?_
        refine q_skip rfl (by decide) ?_
        exact s_skip rfl (by decide) (hq _ (e1.trans e2))
    · -- which == 1
      refine q_skip rfl (by decide) ?_
      refine q_take rfl ?_
      refine s_dropX (ea_cons (ev_var rfl) (ea_cons ev_c (ea_cons (ev_var rfl) ea_nil))) fun H1 e1 => ?_
      rcases h with ⟨_, hb⟩ | ⟨hg, hq⟩
      · exact .inr ⟨m, 5, p, rfl, hb.c1.go e1⟩
      · obtain ⟨q, n, rfl, rfl, hp, hn⟩ : Gd p m := by rcases hg with z | z; exact absurd z (by decide); exact z
        refine .inl ⟨n, 5, q, rfl, hp, hn, by decide, fun H2 e2 => ?_⟩
        refine q_skip rfl (by decide) ?_
        refine q_skip rfl (by decide) ?_
        refine q_skip rfl (by decide) ?_
        refine q_skip rfl (by decide) ?_
        exact s_skip rfl (by decide) (hq _ (e1.trans e2))
    · -- which == 2
      refine q_skip rfl (by decide) ?_
      refine q_skip rfl (by decide) ?_
      refine q_take rfl ?_
      refine s_dropX (ea_cons ev_c (ea_cons (ev_var rfl) (ea_cons (ev_var rfl) ea_nil))) fun H1 e1 => ?_
      rcases h with ⟨_, hb⟩ | ⟨hg, hq⟩
      · exact .inr ⟨5, m, p, rfl, hb.c2.go e1⟩
      · obtain ⟨q, n, rfl, rfl, hp, hn⟩ : Gd p m := by rcases hg with z | z; exact absurd z (by decide); exact z
        refine .inl ⟨5, n, q, rfl, hp, by decide, hn, fun H2 e2 => ?_⟩
        refine q_skip rfl (by decide) ?_
        refine q_skip rfl (by decide) ?_
        refine q_skip rfl (by decide) ?_
        exact s_skip rfl (by decide) (hq _ (e1.trans e2))
    · -- which == 3
      refine q_skip rfl (by decide) ?_
      refine q_skip rfl (by decide) ?_
      refine q_skip rfl (by decide) ?_
      refine q_take rfl ?_
      refine s_dropX (ea_cons (ev_var rfl) (ea_cons (ev_var rfl) ea_nil)) fun H1 e1 => ?_
      rcases h with ⟨_, hb⟩ | ⟨hg, hq⟩
      · exact .inr ⟨m, p, rfl, hb.go e1⟩
      · obtain ⟨q, n, rfl, rfl, hp, hn⟩ : Gd p m := by rcases hg with z | z; exact absurd z (by decide); exact z
        refine .inl ⟨n, q, rfl, hp, hn, fun H2 e2 => ?_⟩
        refine q_skip rfl (by decide) ?_
        refine q_skip rfl (by decide) ?_
        exact s_skip rfl (by decide) (hq _ (e1.trans e2))
    · -- which == 4
      refine q_skip rfl (by decide) ?_
      refine q_skip rfl (by decide) ?_
      refine q_skip rfl (by decide) ?_
      refine q_skip rfl (by decide) ?_
      refine q_take rfl ?_
      refine s_dropX (ea_cons (ev_var rfl) (ea_cons ev_c (ea_cons (ev_var rfl) ea_nil))) fun H1 e1 => ?_
      rcases h with ⟨_, hb⟩ | ⟨hg, hq⟩
      · exact .inr ⟨m, 3, p, rfl, hb.go e1⟩
      · obtain ⟨q, n, rfl, rfl, hp, hn⟩ : Gd p m := by rcases hg with z | z; exact absurd z (by decide); exact z
        refine .inl ⟨n, 3, q, rfl, hp, hn, fun H2 e2 => ?_⟩
        refine q_skip rfl (by decide) ?_
        exact s_skip rfl (by decide) (hq _ (e1.trans e2))
    · -- which == 5
      refine q_skip rfl (by decide) ?_
      refine q_skip rfl (by decide) ?_
      refine q_skip rfl (by decide) ?_
      refine q_skip rfl (by decide) ?_
      refine q_skip rfl (by decide) ?_
      refine q_take rfl ?_
      refine s_dropX (ea_cons (ev_var rfl) (ea_cons (ev_un ev_c ru_neg) (ea_cons (ev_var rfl) ea_nil))) fun H1 e1 => ?_
      rcases h with ⟨_, hb⟩ | ⟨hg, hq⟩
      · exact .inr ⟨m, -1, p, rfl, hb.go e1⟩
      · obtain ⟨q, n, rfl, rfl, hp, hn⟩ : Gd p m := by rcases hg with z | z; exact absurd z (by decide); exact z
        refine .inl ⟨n, -1, q, rfl, hp, hn, fun H2 e2 => ?_⟩
        exact s_skip rfl (by decide) (hq _ (e1.trans e2))
    · -- which == 6
      refine q_skip rfl (by decide) ?_
      refine q_skip rfl (by decide) ?_
      refine q_skip rfl (by decide) ?_
      refine q_skip rfl (by decide) ?_
      refine q_skip rfl (by decide) ?_
      refine q_skip rfl (by decide) ?_
      refine s_take rfl ?_
      refine s_dropX (ea_cons (ev_var rfl) (ea_cons ev_c (ea_cons (ev_var rfl) ea_nil))) fun H1 e1 => ?_
      rcases h with ⟨_, hb⟩ | ⟨hg, hq⟩
      · exact .inr ⟨m, 3, p, rfl, hb.go e1⟩
      · obtain ⟨q, n, rfl, rfl, hp, hn⟩ : Gd p m := by rcases hg with z | z; exact absurd z (by decide); exact z
        refine .inl ⟨n, 3, q, rfl, hp, hn, fun H2 e2 => ?_⟩
        exact hq _ (e1.trans e2)
    · rcases h with ⟨z, _⟩ | ⟨_, hq⟩
      · exact absurd z (by omega)
      · refine q_skip rfl (by omega) ?_
        refine q_skip rfl (by omega) ?_
        refine q_skip rfl (by omega) ?_
        refine q_skip rfl (by omega) ?_
        refine q_skip rfl (by omega) ?_
        refine q_skip rfl (by omega) ?_
        exact s_skip rfl (by omega) (hq _ (Ex.refl _))
abbrev s__law_second : Stmt := topS 42
theorem sc__law_second : FnScope ["which", "many", "prime", "number"] ["which", "many", "prime", "number"] (defScope s__law_second) := ⟨rfl, rfl, rfl, by decide +kernel, rfl, by decide +kernel, by decide +kernel⟩
def sx__law_second (K : PySem.W.Frag) (r : Er) : Sp := fun vs H Q E => ∃ w m p i : Int, vs = [.int w, .int m, .int p, .int i] ∧ w ≤ 12 ∧ ((7 ≤ w ∧ Bd r p m H E) ∨ (w = 12 ∧ GdP p m i false ∧ RE r.l H E) ∨ ((w ≤ 6 ∨ (Gd p m ∧ (w = 12 → GdP p m i true))) ∧ RetV .non H Q))
theorem okx__law_second {P : Program} {w : World} {K : PySem.W.Frag} {mg : Str → Option Value} {base : Heap} {r : Er} {f : Addr} {fd : FuncData} {f_free : Addr} {fd_free : FuncData} {f_next_free : Addr} {fd_next_free : FuncData} {f_free_ahead : Addr} {fd_free_ahead : FuncData} {f_is_bare : Addr} {fd_is_bare : FuncData} {f_is_full : Addr} {fd_is_full : FuncData} {f_free_at : Addr} {fd_free_at : FuncData} (F : Fun K "_law_second" "_law_second" s__law_second f fd)
    (X_free : Def P w K mg base (L2.CX P w) 3 "free" ["many", "prime"] (sx_free K r) f_free fd_free)
    (X_next_free : Def P w K mg base (L2.CX P w) 3 "next_free" ["many", "place", "prime"] (sx_next_free K r) f_next_free fd_next_free)
    (X_free_ahead : Def P w K mg base (L2.CX P w) 3 "free_ahead" ["many", "place", "prime"] (sx_free_ahead K r) f_free_ahead fd_free_ahead)
    (X_is_bare : Def P w K mg base (L2.CX P w) 3 "is_bare" ["many", "prime"] (sx_is_bare K r) f_is_bare fd_is_bare)
    (X_is_full : Def P w K mg base (L2.CX P w) 3 "is_full" ["many", "prime"] (sx_is_full K r) f_is_full fd_is_full)
    (X_free_at : Def P w K mg base (L2.CX P w) 3 "free_at" ["many", "number", "prime"] (sx_free_at K r) f_free_at fd_free_at) (R : ErOk K mg r) :
    FnOk P w K mg base (L2.CX P w) 4 f fd ["which", "many", "prime", "number"] (sx__law_second K r) := by
  refine F.okX sc__law_second (fun vs H Q E h => ?_) (fun cdv A outer s H vs Q E hr h => ?_)
  · obtain ⟨w, m, p, i, rfl, w0, h⟩ := h
    rfl
  · obtain ⟨w, m, p, i, rfl, w0, h⟩ := h
    refine ⟨_, (pss_cons (ps_if (pt_cmpR op_eq (pv 0) pe_int (nomark _)) (pss_one (ps_expr (pe_call X_free.ok (hr.mono (by decide)) (by rfl) X_free.g X_free.kp X_free.b .nil (passes_call (takes_of rfl rfl rfl rfl) (fun _ _ _ _ h => h)) (pa_cons (pv 1) (pa_cons (pv 2) pa_nil))))) pss_nil)
      (pss_cons (ps_if (pt_cmpR op_eq (pv 0) pe_int (nomark _)) (pss_one (ps_expr (pe_call X_next_free.ok (hr.mono (by decide)) (by rfl) X_next_free.g X_next_free.kp X_next_free.b .nil (passes_call (takes_of rfl rfl rfl rfl) (fun _ _ _ _ h => h)) (pa_cons (pv 1) (pa_cons (pe_un un_neg pe_int) (pa_cons (pv 2) pa_nil)))))) pss_nil)
      (pss_cons (ps_if (pt_cmpR op_eq (pv 0) pe_int (nomark _)) (pss_one (ps_expr (pe_call X_free_ahead.ok (hr.mono (by decide)) (by rfl) X_free_ahead.g X_free_ahead.kp X_free_ahead.b .nil (passes_call (takes_of rfl rfl rfl rfl) (fun _ _ _ _ h => h)) (pa_cons (pv 1) (pa_cons (pe_op op_pow pe_int pe_int) (pa_cons (pv 2) pa_nil)))))) pss_nil)
      (pss_cons (ps_if (pt_cmpR op_eq (pv 0) pe_int (nomark _)) (pss_one (ps_expr (pe_call X_is_bare.ok (hr.mono (by decide)) (by rfl) X_is_bare.g X_is_bare.kp X_is_bare.b .nil (passes_call (takes_of rfl rfl rfl rfl) (fun _ _ _ _ h => h)) (pa_cons (pv 1) (pa_cons (pv 2) pa_nil))))) pss_nil)
      (pss_cons (ps_if (pt_cmpR op_eq (pv 0) pe_int (nomark _)) (pss_one (ps_expr (pe_call X_is_full.ok (hr.mono (by decide)) (by rfl) X_is_full.g X_is_full.kp X_is_full.b .nil (passes_call (takes_of rfl rfl rfl rfl) (fun _ _ _ _ h => h)) (pa_cons (pv 1) (pa_cons (pv 2) pa_nil))))) pss_nil)
      (pss_one (ps_if (pt_cmpR op_eq (pv 0) pe_int (nomark _)) (pss_one (ps_expr (pe_call X_free_at.ok (hr.mono (by decide)) (by rfl) X_free_at.g X_free_at.kp X_free_at.b .nil (passes_call (takes_of rfl rfl rfl rfl) (fun _ _ _ _ h => h)) (pa_cons (pv 1) (pa_cons (pv 3) (pa_cons (pv 2) pa_nil)))))) pss_nil))))))), ?_⟩
    have hw : w = 7 ∨ w = 8 ∨ w = 9 ∨ w = 10 ∨ w = 11 ∨ w = 12 ∨ w ≤ 6 := by omega
    rcases hw with rfl | rfl | rfl | rfl | rfl | rfl | hw
    · -- which == 7
      refine q_take rfl ?_
      refine s_dropX (ea_cons (ev_var rfl) (ea_cons (ev_var rfl) ea_nil)) fun H1 e1 => ?_
      rcases h with ⟨_, hb⟩ | ⟨hz, _⟩ | ⟨hg, hq⟩
      · exact .inr ⟨m, p, rfl, hb.go e1⟩
      · exact absurd hz (by decide)
      · obtain ⟨q, n, rfl, rfl, hp, hn⟩ : Gd p m := by rcases hg with z | z; exact absurd z (by decide); exact z.1
        refine .inl ⟨n, q, rfl, hp, hn, fun H2 e2 => ?_⟩
        refine q_skip rfl (by decide) ?_
        refine q_skip rfl (by decide) ?_
        refine q_skip rfl (by decide) ?_
        refine q_skip rfl (by decide) ?_
        exact s_skip rfl (by decide) (hq _ (e1.trans e2))
    · -- which == 8
      refine q_skip rfl (by decide) ?_
      refine q_take rfl ?_
      refine s_dropX (ea_cons (ev_var rfl) (ea_cons (ev_un ev_c ru_neg) (ea_cons (ev_var rfl) ea_nil))) fun H1 e1 => ?_
      rcases h with ⟨_, hb⟩ | ⟨hz, _⟩ | ⟨hg, hq⟩
      · exact .inr ⟨m, -4, p, rfl, hb.go e1⟩
      · exact absurd hz (by decide)
      · obtain ⟨q, n, rfl, rfl, hp, hn⟩ : Gd p m := by rcases hg with z | z; exact absurd z (by decide); exact z.1
        refine .inl ⟨n, -4, q, rfl, hp, hn, fun H2 e2 => ?_⟩
        refine q_skip rfl (by decide) ?_
        refine q_skip rfl (by decide) ?_
        refine q_skip rfl (by decide) ?_
        exact s_skip rfl (by decide) (hq _ (e1.trans e2))
    · -- which == 9
      refine q_skip rfl (by decide) ?_
      refine q_skip rfl (by decide) ?_
      refine q_take rfl ?_
      refine s_dropX (ea_cons (ev_var rfl) (ea_cons (ev_pow (r := 10000000000000000000000000000000) ⟨by decide, by decide, by decide⟩ (by decide +kernel)) (ea_cons (ev_var rfl) ea_nil))) fun H1 e1 => ?_
      rcases h with ⟨_, hb⟩ | ⟨hz, _⟩ | ⟨hg, hq⟩
      · exact .inr ⟨m, 10000000000000000000000000000000, p, rfl, hb.go e1⟩
      · exact absurd hz (by decide)
      · obtain ⟨q, n, rfl, rfl, hp, hn⟩ : Gd p m := by rcases hg with z | z; exact absurd z (by decide); exact z.1
        refine .inl ⟨n, 10000000000000000000000000000000, q, rfl, hp, hn, fun H2 e2 => ?_⟩
        refine q_skip rfl (by decide) ?_
        refine q_skip rfl (by decide) ?_
        exact s_skip rfl (by decide) (hq _ (e1.trans e2))
    · -- which == 10
      refine q_skip rfl (by decide) ?_
      refine q_skip rfl (by decide) ?_
      refine q_skip rfl (by decide) ?_
      refine q_take rfl ?_
      refine s_dropX (ea_cons (ev_var rfl) (ea_cons (ev_var rfl) ea_nil)) fun H1 e1 => ?_
      rcases h with ⟨_, hb⟩ | ⟨hz, _⟩ | ⟨hg, hq⟩
      · exact .inr ⟨m, p, rfl, hb.go e1⟩
      · exact absurd hz (by decide)
      · obtain ⟨q, n, rfl, rfl, hp, hn⟩ : Gd p m := by rcases hg with z | z; exact absurd z (by decide); exact z.1
        refine .inl ⟨n, q, rfl, hp, hn, fun H2 e2 => ?_⟩
        refine q_skip rfl (by decide) ?_
        exact s_skip rfl (by decide) (hq _ (e1.trans e2))
    · -- which == 11
      refine q_skip rfl (by decide) ?_
      refine q_skip rfl (by decide) ?_
      refine q_skip rfl (by decide) ?_
      refine q_skip rfl (by decide) ?_
      refine q_take rfl ?_
      refine s_dropX (ea_cons (ev_var rfl) (ea_cons (ev_var rfl) ea_nil)) fun H1 e1 => ?_
      rcases h with ⟨_, hb⟩ | ⟨hz, _⟩ | ⟨hg, hq⟩
      · exact .inr ⟨m, p, rfl, hb.go e1⟩
      · exact absurd hz (by decide)
      · obtain ⟨q, n, rfl, rfl, hp, hn⟩ : Gd p m := by rcases hg with z | z; exact absurd z (by decide); exact z.1
        refine .inl ⟨n, q, rfl, hp, hn, fun H2 e2 => ?_⟩
        exact s_skip rfl (by decide) (hq _ (e1.trans e2))
    · -- which == 12
      refine q_skip rfl (by decide) ?_
      refine q_skip rfl (by decide) ?_
      refine q_skip rfl (by decide) ?_
      refine q_skip rfl (by decide) ?_
      refine q_skip rfl (by decide) ?_
      refine s_take rfl ?_
      refine s_dropX (ea_cons (ev_var rfl) (ea_cons (ev_var rfl) (ea_cons (ev_var rfl) ea_nil))) fun H1 e1 => ?_
      rcases h with ⟨_, hb⟩ | ⟨_, hg, hE⟩ | ⟨hg, hq⟩
      · exact .inr (.inl ⟨m, i, p, rfl, hb.go e1⟩)
      · obtain ⟨q, n, rfl, rfl, hp, hn, hi⟩ := hg
        refine .inr (.inr ⟨n, q, i, rfl, hp, hn, ?_, hE.go e1⟩)
        have := of_decide_eq_false hi
        omega
      · obtain ⟨q, n, rfl, rfl, hp, hn, hi⟩ : GdP p m i true := by rcases hg with z | z; exact absurd z (by decide); exact z.2 rfl
        have hi := of_decide_eq_true hi
        obtain ⟨i, rfl⟩ : ∃ j : Nat, i = j := ⟨i.toNat, by omega⟩
        exact .inl ⟨n, i, q, rfl, hp, hn, by omega, fun H2 e2 => hq _ (e1.trans e2)⟩
    · rcases h with ⟨z, _⟩ | ⟨z, _⟩ | ⟨_, hq⟩
      · exact absurd z (by omega)
      · exact absurd z (by omega)
      · refine q_skip rfl (by omega) ?_
        refine q_skip rfl (by omega) ?_
        refine q_skip rfl (by omega) ?_
        refine q_skip rfl (by omega) ?_
        refine q_skip rfl (by omega) ?_
        exact s_skip rfl (by omega) (hq _ (Ex.refl _))
abbrev s__law_word_of : Stmt := topS 40
theorem sc__law_word_of : FnScope ["e", "kinds"] ["e"] (defScope s__law_word_of) := ⟨rfl, rfl, rfl, by decide +kernel, rfl, by decide +kernel, by decide +kernel⟩
/-! ### _law_word_of: the word of an error that is borne -/
section
variable {K : PySem.W.Frag} {σ : L2.St} {H : Hp} {ta : TE}
theorem rc_isE {D a : Addr} {c : V} {cv : Value} {b : Bool} (h : ∀ u, RelV c u → u = cv) (hk : PySem.W.kitOne K (.ref D) cv = some b) : RC (rIsE K D a) [.ref a, c] H (.bl b) := fun H1 _ Q q => ⟨c, cv, b, rfl, h, hk, q H1 (Ex.refl H1)⟩
theorem ev_cntB {l : Addr} {bs : List Bool} {b : Bool} (ha : Ev ta σ H (.ref l)) (hl : H l = some (.lst (bs.map V.bl))) : Ev (tBM K "list" (rCntB K) ta (tCons (tC (.bl b)) tNil)) σ H (.int (PySem.Spec.countIn (.bool b) (bs.map PyData.bool))) := fun H1 e Q q =>
  ha H1 e _ fun H2 e2 => ⟨Or.inl ⟨rfl, _, sq_of (e2 l _ (e l _ hl))⟩, l, bs, b, rfl, rfl, sq_of (e2 l _ (e l _ hl)), q H2 e2⟩
theorem ev_index {l : Addr} {ys : List V} {y z : V} {j : Nat} (ha : Ev ta σ H (.ref l)) (hl : H l = some (.lst ys)) (fy : flatV y = true) (fys : ys.all flatV = true) (hz : ys[j]? = some z) (hzj : eqV z y = true)
    (hno : ∀ (m : Nat) (z' : V), m < j → ys[m]? = some z' → eqV z' y = false) : Ev (tBM K "list" (rIndex K) ta (tCons (tC y) tNil)) σ H (.int (j : Nat)) := fun H1 e Q q =>
  ha H1 e _ fun H2 e2 => ⟨Or.inl ⟨rfl, _, sq_of (e2 l _ (e l _ hl))⟩, l, ys, y, j, z, rfl, rfl, sq_of (e2 l _ (e l _ hl)), fy, fys, hz, hzj, hno, q H2 e2⟩
end
def WordAt (K : PySem.W.Frag) (r : Er) (D : Addr) (word : Str) : Prop := ExcC K D ∧ PySem.W.kitOne K (.ref D) (.type "ValueError") = some true ∧ ∃ i : Nat, i < 4 ∧ PySem.W.kitOne K (.ref D) (.ref r.p) = some (decide (i = 0)) ∧ PySem.W.kitOne K (.ref D) (.ref r.m) = some (decide (i = 1)) ∧
  PySem.W.kitOne K (.ref D) (.ref r.l) = some (decide (i = 2)) ∧ PySem.W.kitOne K (.ref D) (.ref r.t) = some (decide (i = 3)) ∧ (["prime", "many", "place", "too"] : List Str)[i]? = some word
section
variable {K : PySem.W.Frag} {mg : Str → Option Value} {r : Er}
theorem ErOk.wp (R : ErOk K mg r) : WordAt K r r.p "prime" := ⟨R.ep.e, R.ep.v, 0, by decide, R.pp, R.pm, R.pl, R.pt, rfl⟩
theorem ErOk.wm (R : ErOk K mg r) : WordAt K r r.m "many" := ⟨R.em.e, R.em.v, 1, by decide, R.mp, R.mm, R.ml, R.mt, rfl⟩
theorem ErOk.wl (R : ErOk K mg r) : WordAt K r r.l "place" := ⟨R.el.e, R.el.v, 2, by decide, R.lp, R.lm, R.ll, R.lt, rfl⟩
theorem ErOk.wt (R : ErOk K mg r) : WordAt K r r.t "too" := ⟨R.et.e, R.et.v, 3, by decide, R.tp, R.tm, R.tl, R.tt, rfl⟩
end
theorem no_before {ys : List V} {y : V} {j : Nat} (h : (List.range j).all (fun m => ((ys[m]?).map fun z => !eqV z y).getD true) = true) : ∀ (m : Nat) (z' : V), m < j → ys[m]? = some z' → eqV z' y = false := by
  intro m z' hm hz
  have := List.all_eq_true.mp h m (List.mem_range.mpr hm)
  rw [hz] at this
  simpa using this
def sp__law_word_of (K : PySem.W.Frag) (r : Er) : Addr → Value → Option Addr → Sp := fun a c d vs H Q _ => ∃ (D : Addr) (word : Str), vs = [.ref a] ∧ c = .ref D ∧ d = none ∧ WordAt K r D word ∧ RetV (.str word) H Q
theorem oke__law_word_of {P : Program} {w : World} {K : PySem.W.Frag} {mg : Str → Option Value} {base : Heap} {r : Er} {f : Addr} {fd : FuncData} (F : Fun K "_law_word_of" "_law_word_of" s__law_word_of f fd)
    (z_isinstance : mg "isinstance" = none) (z_ValueError : mg "ValueError" = none) (R : ErOk K mg r) : FnE P w K mg base 1 f fd ["e"] (sp__law_word_of K r) := by
  obtain ⟨oc, od, kV, doc, pm, an, cdv, ct, osl, rfl, lk, hcd⟩ := F.ex
  refine fnE_of lk hcd sc__law_word_of (fun a c d vs H Q E h => ?_) (fun A outer s H vs Q E p c d zc fld h => ?_)
  · obtain ⟨D, word, rfl, _⟩ := h
    rfl
  · obtain ⟨D, word, rfl, rfl, rfl, ⟨C, hv, i, hi, k0, k1, k2, k3, hw⟩, q⟩ := h
    refine ⟨_, (pss_cons (ps_set (i := 1) sc__law_word_of.nd rfl (Or.inl rfl) (pe_lst (pa_cons (pe_callB (call_isP C List.mem_cons_self zc fld) (by rfl) z_isinstance (by decide +kernel) (pa_cons (pv 0) (pa_cons (pe_glob (v := .ref r.p) rfl R.gep rfl) pa_nil))) (pa_cons (pe_callB (call_isP C List.mem_cons_self zc fld) (by rfl) z_isinstance (by decide +kernel) (pa_cons (pv 0) (pa_cons (pe_glob (v := .ref r.m) rfl R.gem rfl) pa_nil))) (pa_cons (pe_callB (call_isP C List.mem_cons_self zc fld) (by rfl) z_isinstance (by decide +kernel) (pa_cons (pv 0) (pa_cons (pe_glob (v := .ref r.l) rfl R.gel rfl) pa_nil))) (pa_cons (pe_callB (call_isP C List.mem_cons_self zc fld) (by rfl) z_isinstance (by decide +kernel) (pa_cons (pv 0) (pa_cons (pe_glob (v := .ref r.t) rfl R.get rfl) pa_nil))) pa_nil))))))
      (pss_cons (ps_if (PW.pt (pw_or (pt_cmpR op_ne (pe_bm PySem.F.plainAttrs_list PySem.F.slot_list_count PySem.F.type_list_count mt_bcount (pv 1) (pa_cons pe_bl pa_nil)) pe_int (nomark _)) (pw_or1 (pt_not (pt_val (pe_callB (call_isP C List.mem_cons_self zc fld) (by rfl) z_isinstance (by decide +kernel) (pa_cons (pv 0) (pa_cons (pe_bltn (v := .ty "ValueError") rfl z_ValueError (by decide +kernel) rfl) pa_nil)))))))) (pss_one (ps_ret pe_str)) pss_nil)
      (pss_one (ps_ret (pe_ix ix_list (pe_lst (pa_cons pe_str (pa_cons pe_str (pa_cons pe_str (pa_cons pe_str pa_nil))))) (pe_bm PySem.F.plainAttrs_list PySem.F.slot_list_index PySem.F.type_list_index mt_index (pv 1) (pa_cons pe_bl pa_nil)) (fun _ _ => rfl)))))), ?_⟩
    refine q_asgL (el_lst (ea_cons (ev_cb (ea_cons (ev_var rfl) (ea_cons ev_c ea_nil)) (rc_isE (fun _ z => z) k0)) (ea_cons (ev_cb (ea_cons (ev_var rfl) (ea_cons ev_c ea_nil)) (rc_isE (fun _ z => z) k1)) (ea_cons (ev_cb (ea_cons (ev_var rfl) (ea_cons ev_c ea_nil)) (rc_isE (fun _ z => z) k2)) (ea_cons (ev_cb (ea_cons (ev_var rfl) (ea_cons ev_c ea_nil)) (rc_isE (fun _ z => z) k3)) ea_nil)))) (by simp)) fun l H1 _ e1 hl => ?_
    have hl' : H1 l = some (.lst ([decide (i = 0), decide (i = 1), decide (i = 2), decide (i = 3)].map V.bl)) := hl
    have hc : PySem.Spec.countIn (.bool true) ([decide (i = 0), decide (i = 1), decide (i = 2), decide (i = 3)].map PyData.bool) = 1 := by
      rcases (by omega : i = 0 ∨ i = 1 ∨ i = 2 ∨ i = 3) with rfl | rfl | rfl | rfl <;> rfl
    refine q_when (b := false) (et_is (et_or (et_test (ev_op (ev_cntB (ev_var rfl) hl') ev_c (rv_ne rfl))) (fun _ => et_not (et_B (ev_cb (ea_cons (ev_var rfl) (ea_cons ev_c ea_nil)) (rc_isE (fun _ z => z) hv))))) ?_) (fun hb => nomatch hb) (fun _ H2 e2 => ?_)
    · rw [hc]
      rfl
    · have hl2 := e2 l _ hl'
      refine s_ret (ev_ixK (EvK.of (el_lst (ea_cons ev_c (ea_cons ev_c (ea_cons ev_c (ea_cons ev_c ea_nil)))) (by simp))) (ev_index (j := i) (z := .bl true) (ev_var rfl) hl2 rfl rfl ?_ rfl (no_before ?_)) ?_) fun H3 e3 => q H3 ((e1.trans e2).trans e3)
      · rcases (by omega : i = 0 ∨ i = 1 ∨ i = 2 ∨ i = 3) with rfl | rfl | rfl | rfl <;> rfl
      · rcases (by omega : i = 0 ∨ i = 1 ∨ i = 2 ∨ i = 3) with rfl | rfl | rfl | rfl <;> rfl
      · rcases (by omega : i = 0 ∨ i = 1 ∨ i = 2 ∨ i = 3) with rfl | rfl | rfl | rfl <;> (obtain rfl := Option.some.inj hw) <;> rfl

abbrev s__law_tried : Stmt := topS 43
theorem sc__law_tried : FnScope ["which", "many", "prime", "number", "e"] ["which", "many", "prime", "number"] (defScope s__law_tried) := ⟨rfl, rfl, rfl, by decide +kernel, rfl, by decide +kernel, by decide +kernel⟩
/-! ### what a try gives -/
structure DefE (P : Program) (w : World) (K : PySem.W.Frag) (mg : Str → Option Value) (base : Heap) (k : Nat) (x : Str) (ps : List Str) (sp : Addr → Value → Option Addr → Sp) (f : Addr) (fd : FuncData) : Prop where
  ok : FnE P w K mg base k f fd ps sp
  g : mg x = some (.ref f)
  kp : PySem.W.keepIn K (.ref f) = true
  b : Binds K fd ps []
section
variable {K : PySem.W.Frag} {mg : Str → Option Value} {σ : L2.St} {H : Hp} {D : Ends} {tz : TS} {ta : TA} {vs : List V} {sp : Sp} {E : L2.St → XK} {r : Er}
theorem s_callS (h : EvA ta σ H vs) (k : ∀ H1, Ex H H1 → sp vs H1 (fun _ H2 => D.nx σ H2) (E σ)) : tDrop (tCallS sp E ta) D σ H := h H (Ex.refl H) _ k
theorem q_callS (h : EvA ta σ H vs) (k : ∀ H1, Ex H H1 → sp vs H1 (fun _ H2 => tz D σ H2) (E σ)) : tSeq (tDrop (tCallS sp E ta)) tz D σ H := h H (Ex.refl H) _ k
theorem q_in {t : TS} (h : t { D with nx := tz D } σ H) : tSeq t tz D σ H := h
theorem caught {i : Nat} {c : Addr} {word : Str} {W : WX} (hw : WordAt K r c word) (hx : PySem.W.exmOne K (.ref c) (.ref r.c) = some true) (hi : ∀ x : V, (σ.set i (some x))[i]? = some (some x)) (q : ∀ H2, Ex H H2 → D.rt (.str word) H2) :
    wAs K (.ref r.c) i (fun a c d => tRet (tCallE (sp__law_word_of K r) a c d (tCons (tVar i) tNil))) W D (.ref c) none σ H :=
  ⟨true, hx, fun _ a _ => ⟨.ref a, hi _, c, word, rfl, rfl, rfl, hw, q⟩, fun z => nomatch z⟩
theorem bd_caught {i : Nat} {p m : Int} {word : Str} {W : WX} (R : ErOk K mg r) (h : (isPb p = false ∧ word = "prime") ∨ (isPb p = true ∧ okM m = false ∧ word = "many")) (hi : ∀ x : V, (σ.set i (some x))[i]? = some (some x)) (q : ∀ H2, Ex H H2 → D.rt (.str word) H2) :
    Bd r p m H (fun cls d H' => wAs K (.ref r.c) i (fun a c d => tRet (tCallE (sp__law_word_of K r) a c d (tCons (tVar i) tNil))) W D cls d σ H') := by
  rcases h with ⟨h1, rfl⟩ | ⟨h1, h2, rfl⟩
  · exact .inl ⟨h1, fun H1 e1 => caught R.wp R.ep.h hi fun H2 e2 => q H2 (e1.trans e2)⟩
  · exact .inr ⟨h1, h2, fun H1 e1 => caught R.wm R.em.h hi fun H2 e2 => q H2 (e1.trans e2)⟩
end
def Told (w m p i : Int) (word : Str) : Prop := ((isPb p = false ∧ word = "prime") ∨ (isPb p = true ∧ okM m = false ∧ word = "many")) ∨ (Gd p m ∧ ((w = 12 ∧ GdP p m i false ∧ word = "place") ∨ ((w = 12 → GdP p m i true) ∧ word = "done")))
def sp__law_tried (K : PySem.W.Frag) : Sp := fun vs H Q _ => ∃ (w m p i : Int) (word : Str), vs = [.int w, .int m, .int p, .int i] ∧ 0 ≤ w ∧ w ≤ 12 ∧ Told w m p i word ∧ RetV (.str word) H Q
theorem ok__law_tried {P : Program} {w : World} {K : PySem.W.Frag} {mg : Str → Option Value} {base : Heap} {r : Er} {f : Addr} {fd : FuncData} {f__law_first : Addr} {fd__law_first : FuncData} {f__law_second : Addr} {fd__law_second : FuncData} {f__law_word_of : Addr} {fd__law_word_of : FuncData} (F : Fun K "_law_tried" "_law_tried" s__law_tried f fd)
    (X__law_first : Def P w K mg base (L2.CX P w) 4 "_law_first" ["which", "many", "prime"] (sx__law_first K r) f__law_first fd__law_first)
    (X__law_second : Def P w K mg base (L2.CX P w) 4 "_law_second" ["which", "many", "prime", "number"] (sx__law_second K r) f__law_second fd__law_second)
    (D__law_word_of : DefE P w K mg base 1 "_law_word_of" ["e"] (sp__law_word_of K r) f__law_word_of fd__law_word_of) (R : ErOk K mg r) :
    FnOk P w K mg base CX0 5 f fd ["which", "many", "prime", "number"] (sp__law_tried K) := by
  refine F.ok sc__law_tried (fun vs H Q E h => ?_) (fun cdv A outer s H vs Q E hr h => ?_)
  · obtain ⟨w, m, p, i, word, rfl, _⟩ := h
    rfl
  · obtain ⟨w, m, p, i, word, rfl, w0, w1, told, q⟩ := h
    refine ⟨_, (pss_cons (ps_try_as (i := 4) rfl rfl sc__law_tried.nd rfl rfl ⟨rfl, by decide, .inl R.gec⟩ takes0
      (fun W pn xe tk _ => pss_cons (ps_expr (pe_callS X__law_first.ok (hr.mono (by decide)) (by rfl) X__law_first.g X__law_first.kp X__law_first.b (fun σ => passAt tk σ) (pa_cons (pv 0) (pa_cons (pv 1) (pa_cons (pv 2) pa_nil)))))
        (pss_one (ps_expr (pe_callS X__law_second.ok (hr.mono (by decide)) (by rfl) X__law_second.g X__law_second.kp X__law_second.b (fun σ => passAt tk σ) (pa_cons (pv 0) (pa_cons (pv 1) (pa_cons (pv 2) (pa_cons (pv 3) pa_nil))))))))
      (fun a oe cls d pn zc fld => pss_one (ps_ret (pe_callE D__law_word_of.ok (hr.mono (by decide)) zc fld (by rfl) D__law_word_of.g D__law_word_of.kp D__law_word_of.b (pa_cons (pv 4) pa_nil)))))
      (pss_one (ps_ret pe_str))), ?_⟩
    have fin : ∀ H4, Ex H H4 → word = "done" → tRet (tC (.str "done")) { nx := fun _ H' => Q .non H', rt := Q } (L2.start ["which", "many", "prime", "number", "e"] [.int w, .int m, .int p, .int i]) H4 := fun H4 e4 hw => s_ret ev_c fun H5 e5 => by
      rw [← hw]
      exact q H5 (e4.trans e5)
    refine q_in ?_
    refine q_callS (ea_cons (ev_var rfl) (ea_cons (ev_var rfl) (ea_cons (ev_var rfl) ea_nil))) fun H1 e1 => ?_
    rcases told with hb | ⟨gd, ht⟩
    · by_cases h6 : w ≤ 6
      · exact ⟨w, m, p, rfl, w0, .inl ⟨h6, bd_caught R hb (fun _ => rfl) fun H2 e2 => q H2 (e1.trans e2)⟩⟩
      · refine ⟨w, m, p, rfl, w0, .inr ⟨.inl (by omega), fun H2 e2 => ?_⟩⟩
        refine s_callS (ea_cons (ev_var rfl) (ea_cons (ev_var rfl) (ea_cons (ev_var rfl) (ea_cons (ev_var rfl) ea_nil)))) fun H3 e3 => ?_
        exact ⟨w, m, p, i, rfl, w1, .inl ⟨by omega, bd_caught R hb (fun _ => rfl) fun H4 e4 => q H4 (((e1.trans e2).trans e3).trans e4)⟩⟩
    · refine ⟨w, m, p, rfl, w0, .inr ⟨.inr gd, fun H2 e2 => ?_⟩⟩
      refine s_callS (ea_cons (ev_var rfl) (ea_cons (ev_var rfl) (ea_cons (ev_var rfl) (ea_cons (ev_var rfl) ea_nil)))) fun H3 e3 => ?_
      rcases ht with ⟨hw, hp, rfl⟩ | ⟨hw, rfl⟩
      · exact ⟨w, m, p, i, rfl, w1, .inr (.inl ⟨hw, hp, fun H4 e4 => caught R.wl R.el.h (fun _ => rfl) fun H5 e5 => q H5 ((((e1.trans e2).trans e3).trans e4).trans e5)⟩)⟩
      · exact ⟨w, m, p, i, rfl, w1, .inr (.inr ⟨.inr ⟨gd, hw⟩, fun H4 e4 => fin H4 (((e1.trans e2).trans e3).trans e4) rfl⟩)⟩

abbrev s__law_choosing : Stmt := topS 44
theorem sc__law_choosing : FnScope ["many", "some", "e"] ["many", "some"] (defScope s__law_choosing) := ⟨rfl, rfl, rfl, by decide +kernel, rfl, by decide +kernel, by decide +kernel⟩
def sp__law_choosing (K : PySem.W.Frag) : Sp := fun vs H Q _ => ∃ (m k : Int) (word : Str), vs = [.int m, .int k] ∧ ((okM m = false ∧ word = "many") ∨ (okM m = true ∧ 400 < m ∧ word = "too") ∨ ((0 ≤ m ∧ m ≤ 400) ∧ word = "done")) ∧ RetV (.str word) H Q
theorem sv__law_choosing {K : PySem.W.Frag} {H : Hp} {m k : Int} {word : Str} (h : (okM m = false ∧ word = "many") ∨ (okM m = true ∧ 400 < m ∧ word = "too") ∨ ((0 ≤ m ∧ m ≤ 400) ∧ word = "done")) : SpV (sp__law_choosing K) [.int m, .int k] H (.str word) := fun H1 _ Q q _ => ⟨m, k, word, rfl, h, q⟩
theorem sv__law_tried {K : PySem.W.Frag} {H : Hp} {w m p i : Int} {word : Str} (w0 : 0 ≤ w) (w1 : w ≤ 12) (h : Told w m p i word) : SpV (sp__law_tried K) [.int w, .int m, .int p, .int i] H (.str word) := fun H1 _ Q q _ => ⟨w, m, p, i, word, rfl, w0, w1, h, q⟩
theorem ok__law_choosing {P : Program} {w : World} {K : PySem.W.Frag} {mg : Str → Option Value} {base : Heap} {r : Er} {f : Addr} {fd : FuncData} {f_choices : Addr} {fd_choices : FuncData} {f__law_word_of : Addr} {fd__law_word_of : FuncData} (F : Fun K "_law_choosing" "_law_choosing" s__law_choosing f fd)
    (X_choices : Def P w K mg base (L2.CX P w) 2 "choices" ["many", "some"] (sx_choices K r) f_choices fd_choices)
    (D__law_word_of : DefE P w K mg base 1 "_law_word_of" ["e"] (sp__law_word_of K r) f__law_word_of fd__law_word_of) (R : ErOk K mg r) :
    FnOk P w K mg base CX0 3 f fd ["many", "some"] (sp__law_choosing K) := by
  refine F.ok sc__law_choosing (fun vs H Q E h => ?_) (fun cdv A outer s H vs Q E hr h => ?_)
  · obtain ⟨m, k, word, rfl, _⟩ := h
    rfl
  · obtain ⟨m, k, word, rfl, told, q⟩ := h
    refine ⟨_, (pss_cons (ps_try_as (i := 2) rfl rfl sc__law_choosing.nd rfl rfl ⟨rfl, by decide, .inl R.gec⟩ takes0
      (fun W pn xe tk _ => pss_one (ps_expr (pe_callS X_choices.ok (hr.mono (by decide)) (by rfl) X_choices.g X_choices.kp X_choices.b (fun σ => passAt tk σ) (pa_cons (pv 0) (pa_cons (pv 1) pa_nil)))))
      (fun a oe cls d pn zc fld => pss_one (ps_ret (pe_callE D__law_word_of.ok (hr.mono (by decide)) zc fld (by rfl) D__law_word_of.g D__law_word_of.kp D__law_word_of.b (pa_cons (pv 2) pa_nil)))))
      (pss_one (ps_ret pe_str))), ?_⟩
    have fin : ∀ H4, Ex H H4 → word = "done" → tRet (tC (.str "done")) { nx := fun _ H' => Q .non H', rt := Q } (L2.start ["many", "some", "e"] [.int m, .int k]) H4 := fun H4 e4 hw => s_ret ev_c fun H5 e5 => by
      rw [← hw]
      exact q H5 (e4.trans e5)
    refine q_in ?_
    refine s_callS (ea_cons (ev_var rfl) (ea_cons (ev_var rfl) ea_nil)) fun H1 e1 => ?_
    rcases told with ⟨h, rfl⟩ | ⟨h, hm, rfl⟩ | ⟨h, rfl⟩
    · exact .inr ⟨m, k, rfl, .inl ⟨h, fun H2 e2 => caught R.wm R.em.h (fun _ => rfl) fun H3 e3 => q H3 ((e1.trans e2).trans e3)⟩⟩
    · exact .inr ⟨m, k, rfl, .inr ⟨h, hm, fun H2 e2 => caught R.wt R.et.h (fun _ => rfl) fun H3 e3 => q H3 ((e1.trans e2).trans e3)⟩⟩
    · exact .inl ⟨m, k, rfl, h, fun H2 e2 => fin H2 (e1.trans e2) rfl⟩

abbrev s_law : Stmt := topS 45
theorem sc_law : FnScope ["script", "prime", "good", "many", "far", "number", "due", "place", "some", "which", "wanted"] ["script"] (defScope s_law) := ⟨rfl, rfl, rfl, by decide +kernel, rfl, by decide +kernel, by decide +kernel⟩
def sp_law (K : PySem.W.Frag) : Sp := fun vs H Q _ => ∃ (a : Addr) (ns : List Int), vs = [.ref a] ∧ SqL K H a (ns.map V.int) ∧ ns.length ≤ 63 ∧ ∀ H', Q (.bl true) H'
theorem at_some {xs : List V} {z : Int} (h0 : 0 ≤ z) (h1 : z < xs.length) : ∃ v, v ∈ xs ∧ atI xs z = some v := by
  obtain ⟨j, rfl⟩ : ∃ j : Nat, z = j := ⟨z.toNat, by omega⟩
  have hj : j < xs.length := by omega
  exact ⟨xs[j], List.getElem_mem hj, atI_nat (List.getElem?_eq_getElem hj)⟩
theorem isPb_low {n : Int} (h : n < 2) : isPb n = false := by
  unfold isPb
  rw [decide_eq_true h]
  rfl
theorem isPb_high {n : Int} (h : 97 < n) : isPb n = false := by
  unfold isPb
  rw [decide_eq_true h, Bool.or_true]
  rfl
theorem okM_bad {m : Int} (h : m < 0 ∨ 1000000000000000000000000000000 < m) : okM m = false := by
  unfold okM
  rw [Bool.and_eq_false_iff, decide_eq_false_iff_not, decide_eq_false_iff_not]
  omega
theorem okM_good {m : Int} (h : ¬ (m < 0 ∨ 1000000000000000000000000000000 < m)) : okM m = true := by
  unfold okM
  rw [Bool.and_eq_true, decide_eq_true_eq, decide_eq_true_eq]
  omega
theorem ok_law {P : Program} {w : World} {K : PySem.W.Frag} {mg : Str → Option Value} {base : Heap} {f : Addr} {fd : FuncData} {f__law_prime_by : Addr} {fd__law_prime_by : FuncData} {f__law_many_by : Addr} {fd__law_many_by : FuncData} {f__law_cell_at : Addr} {fd__law_cell_at : FuncData} {f_free : Addr} {fd_free : FuncData} {f__law_tried : Addr} {fd__law_tried : FuncData} {f__law_choosing : Addr} {fd__law_choosing : FuncData} (F : Fun K "law" "law" s_law f fd)
    (D__law_prime_by : Def P w K mg base CX0 1 "_law_prime_by" ["cell"] (sp__law_prime_by K) f__law_prime_by fd__law_prime_by)
    (D__law_many_by : Def P w K mg base CX0 2 "_law_many_by" ["script", "first", "prime"] (sp__law_many_by K) f__law_many_by fd__law_many_by)
    (D__law_cell_at : Def P w K mg base CX0 1 "_law_cell_at" ["script", "k"] (sp__law_cell_at K) f__law_cell_at fd__law_cell_at)
    (D_free : Def P w K mg base CX0 3 "free" ["many", "prime"] (sp_free K) f_free fd_free)
    (D__law_tried : Def P w K mg base CX0 5 "_law_tried" ["which", "many", "prime", "number"] (sp__law_tried K) f__law_tried fd__law_tried)
    (D__law_choosing : Def P w K mg base CX0 3 "_law_choosing" ["many", "some"] (sp__law_choosing K) f__law_choosing fd__law_choosing) (z_range : mg "range" = none) :
    FnOk P w K mg base CX0 6 f fd ["script"] (sp_law K) := by
  refine F.ok sc_law (fun vs H Q E h => ?_) (fun cdv A outer s H vs Q E hr h => ?_)
  · obtain ⟨a, ns, rfl, hS, hlen, q⟩ := h
    rfl
  · obtain ⟨a, ns, rfl, hS, hlen, q⟩ := h
    refine ⟨_, (pss_cons (ps_set (i := 1) sc_law.nd rfl (Or.inl rfl) (pe_call D__law_prime_by.ok (hr.mono (by decide)) (by rfl) D__law_prime_by.g D__law_prime_by.kp D__law_prime_by.b .nil pass0 (pa_cons (pe_call D__law_cell_at.ok (hr.mono (by decide)) (by rfl) D__law_cell_at.g D__law_cell_at.kp D__law_cell_at.b .nil pass0 (pa_cons (pv 0) (pa_cons pe_int pa_nil))) pa_nil)))
      (pss_cons (ps_set (i := 2) sc_law.nd rfl (Or.inl rfl) (pe_call D__law_many_by.ok (hr.mono (by decide)) (by rfl) D__law_many_by.g D__law_many_by.kp D__law_many_by.b .nil pass0 (pa_cons (pv 0) (pa_cons pe_int (pa_cons (pv 1) pa_nil)))))
      (pss_cons (ps_set (i := 3) sc_law.nd rfl (Or.inl rfl) (pv 2))
      (pss_cons (ps_set (i := 4) sc_law.nd rfl (Or.inl rfl) (pe_op op_mod (pe_call D__law_cell_at.ok (hr.mono (by decide)) (by rfl) D__law_cell_at.g D__law_cell_at.kp D__law_cell_at.b .nil pass0 (pa_cons (pv 0) (pa_cons pe_int pa_nil))) (pe_op op_pow pe_int pe_int)))
      (pss_cons (ps_set (i := 5) sc_law.nd rfl (Or.inl rfl) (pe_op op_mod (pe_call D__law_cell_at.ok (hr.mono (by decide)) (by rfl) D__law_cell_at.g D__law_cell_at.kp D__law_cell_at.b .nil pass0 (pa_cons (pv 0) (pa_cons pe_int pa_nil))) (pe_call D_free.ok (hr.mono (by decide)) (by rfl) D_free.g D_free.kp D_free.b .nil pass0 (pa_cons (pv 3) (pa_cons (pv 1) pa_nil)))))
      (pss_cons (ps_set (i := 6) sc_law.nd rfl (Or.inl rfl) pe_str)
      (pss_cons (ps_set (i := 7) sc_law.nd rfl (Or.inl rfl) pe_str)
      (pss_cut (ps_if (pt_cmpR op_eq (pe_op op_mod (pe_call D__law_cell_at.ok (hr.mono (by decide)) (by rfl) D__law_cell_at.g D__law_cell_at.kp D__law_cell_at.b .nil pass0 (pa_cons (pv 0) (pa_cons pe_int pa_nil))) pe_int) pe_int (nomark _)) (pss_cons (ps_set (i := 5) sc_law.nd rfl (Or.inl rfl) (pe_ix ix_list (pe_lst (pa_cons (pe_un un_neg pe_int) (pa_cons (pe_call D_free.ok (hr.mono (by decide)) (by rfl) D_free.g D_free.kp D_free.b .nil pass0 (pa_cons (pv 3) (pa_cons (pv 1) pa_nil))) (pa_cons (pe_op op_sub (pe_un un_neg pe_int) (pv 4)) (pa_cons (pe_op op_add (pe_call D_free.ok (hr.mono (by decide)) (by rfl) D_free.g D_free.kp D_free.b .nil pass0 (pa_cons (pv 3) (pa_cons (pv 1) pa_nil))) (pv 4)) pa_nil))))) (pe_op op_mod (pe_op op_fdiv (pe_call D__law_cell_at.ok (hr.mono (by decide)) (by rfl) D__law_cell_at.g D__law_cell_at.kp D__law_cell_at.b .nil pass0 (pa_cons (pv 0) (pa_cons pe_int pa_nil))) pe_int) pe_int) (fun _ _ => rfl)))
      (pss_one (ps_set (i := 7) sc_law.nd rfl (Or.inl rfl) pe_str))) pss_nil)
      (pss_cut (ps_if (pt_cmpR op_eq (pe_op op_mod (pe_call D__law_cell_at.ok (hr.mono (by decide)) (by rfl) D__law_cell_at.g D__law_cell_at.kp D__law_cell_at.b .nil pass0 (pa_cons (pv 0) (pa_cons pe_int pa_nil))) pe_int) pe_int (nomark _)) (pss_cons (ps_set (i := 3) sc_law.nd rfl (Or.inl rfl) (pe_ix ix_list (pe_lst (pa_cons (pe_un un_neg pe_int) (pa_cons (pe_op op_add (pe_op op_pow pe_int pe_int) pe_int) (pa_cons (pe_op op_sub (pe_un un_neg pe_int) (pv 4)) (pa_cons (pe_op op_add (pe_op op_add (pe_op op_pow pe_int pe_int) pe_int) (pv 4)) pa_nil))))) (pe_op op_mod (pe_op op_fdiv (pe_call D__law_cell_at.ok (hr.mono (by decide)) (by rfl) D__law_cell_at.g D__law_cell_at.kp D__law_cell_at.b .nil pass0 (pa_cons (pv 0) (pa_cons pe_int pa_nil))) pe_int) pe_int) (fun _ _ => rfl)))
      (pss_one (ps_set (i := 6) sc_law.nd rfl (Or.inl rfl) pe_str))) pss_nil)
      (pss_cut (ps_if (pt_cmpR op_eq (pe_op op_mod (pe_call D__law_cell_at.ok (hr.mono (by decide)) (by rfl) D__law_cell_at.g D__law_cell_at.kp D__law_cell_at.b .nil pass0 (pa_cons (pv 0) (pa_cons pe_int pa_nil))) pe_int) pe_int (nomark _)) (pss_cons (ps_set (i := 8) sc_law.nd rfl (Or.inl rfl) (pe_lst (pa_cons pe_int (pa_cons pe_int (pa_cons (pe_un un_neg pe_int) (pa_cons pe_int (pa_cons pe_int (pa_cons pe_int (pa_cons pe_int (pa_cons pe_int (pa_cons pe_int (pa_cons (pe_op op_sub pe_int (pv 4)) (pa_cons (pe_op op_add pe_int (pv 4)) (pa_cons (pe_op op_sub pe_int (pv 1)) pa_nil))))))))))))))
      (pss_cons (ps_set (i := 1) sc_law.nd rfl (Or.inl rfl) (pe_ix ix_list (pv 8) (pe_op op_mod (pe_op op_fdiv (pe_call D__law_cell_at.ok (hr.mono (by decide)) (by rfl) D__law_cell_at.g D__law_cell_at.kp D__law_cell_at.b .nil pass0 (pa_cons (pv 0) (pa_cons pe_int pa_nil))) pe_int) pe_int) (fun _ _ => rfl)))
      (pss_one (ps_set (i := 6) sc_law.nd rfl (Or.inl rfl) pe_str)))) pss_nil)
      (pss_cons (ps_for PassesOwn.never rfl (pi_range1 (by rfl) z_range (pa_cons pe_int pa_nil)) (pg_name (i := 9) sc_law.nd rfl (Or.inl rfl)) (pss_cons (ps_set (i := 10) sc_law.nd rfl (Or.inl rfl) (pv 6))
      (pss_cut (ps_if (PW.pt (pw_and (pt_cmpR op_eq (pv 9) pe_int (nomark _)) (pw_and1 (pt_cmpR op_eq (pv 6) pe_str (nomark _))))) (pss_one (ps_set (i := 10) sc_law.nd rfl (Or.inl rfl) (pv 7))) pss_nil)
      (pss_one (ps_if (pt_cmpR op_ne (pe_call D__law_tried.ok (hr.mono (by decide)) (by rfl) D__law_tried.g D__law_tried.kp D__law_tried.b .nil pass0 (pa_cons (pv 9) (pa_cons (pv 3) (pa_cons (pv 1) (pa_cons (pv 5) pa_nil))))) (pv 10) (nomark _)) (pss_one (ps_ret pe_bl)) pss_nil)))))
      (pss_cons (ps_if (PW.pt (pw_or (pt_cmpR op_lt (pv 3) pe_int (nomark _)) (pw_or1 (pt_cmpR op_gt (pv 3) (pe_op op_pow pe_int pe_int) (nomark _))))) (pss_one (ps_ret (pe_cmpR op_eq (pe_call D__law_choosing.ok (hr.mono (by decide)) (by rfl) D__law_choosing.g D__law_choosing.kp D__law_choosing.b .nil pass0 (pa_cons (pv 3) (pa_cons pe_int pa_nil))) pe_str (nomark _)))) pss_nil)
      (pss_cons (ps_if (pt_cmpR op_gt (pv 3) pe_int (nomark _)) (pss_one (ps_ret (pe_cmpR op_eq (pe_call D__law_choosing.ok (hr.mono (by decide)) (by rfl) D__law_choosing.g D__law_choosing.kp D__law_choosing.b .nil pass0 (pa_cons (pv 3) (pa_cons pe_int pa_nil))) pe_str (nomark _)))) pss_nil)
      (pss_one (ps_ret (pe_and (pe_cmpR op_eq (pe_call D__law_choosing.ok (hr.mono (by decide)) (by rfl) D__law_choosing.g D__law_choosing.kp D__law_choosing.b .nil pass0 (pa_cons (pv 3) (pa_cons pe_int pa_nil))) pe_str (nomark _)) (pe_and (pe_cmpR op_eq (pe_call D__law_choosing.ok (hr.mono (by decide)) (by rfl) D__law_choosing.g D__law_choosing.kp D__law_choosing.b .nil pass0 (pa_cons pe_int (pa_cons pe_int pa_nil))) pe_str (nomark _)) (pe_one (pe_cmpR op_eq (pe_call D__law_choosing.ok (hr.mono (by decide)) (by rfl) D__law_choosing.g D__law_choosing.kp D__law_choosing.b .nil pass0 (pa_cons pe_int (pa_cons pe_int pa_nil))) pe_str (nomark _)))))))))))))))))))), ?_⟩
    refine q_asg (ev_call (ea_cons (ev_call (ea_cons (ev_var rfl) (ea_cons ev_c ea_nil)) (sv__law_cell_at (by walk_at "sv__law_cell_at"))) ea_nil) sv__law_prime_by) fun H1 e1 => ?_
    obtain ⟨p, ep, hp⟩ : ∃ p, pby (cell ns 0) = p ∧ IsP p := ⟨_, rfl, pby_p _⟩
    rw [ep]
    have p2 := hp.ge
    refine q_asgP (evp_call (ea_cons (ev_var rfl) (ea_cons ev_c (ea_cons (ev_var rfl) ea_nil))) (sm__law_many_by (by walk_at "sq") (by decide) hp)) fun v H2 hm e2 => ?_
    obtain ⟨n, rfl, hn⟩ := hm
    have tp := tot_pos p2 n
    refine q_asg (ev_var rfl) fun H3 e3 => ?_
    refine q_asg (ev_op (ev_call (ea_cons (ev_var rfl) (ea_cons ev_c ea_nil)) (sv__law_cell_at (by walk_at "sv__law_cell_at"))) (ev_pow (r := 1000000000000000000000000000000) ⟨by decide, by decide, by decide⟩ (by decide +kernel)) (rv_I (by walk_at "op_mod"))) fun H4 e4 => ?_
    obtain ⟨far, hf, f0⟩ : ∃ far : Int, cell ns 5 % 1000000000000000000000000000000 = far ∧ 0 ≤ far := ⟨_, rfl, by omega⟩
    rw [hf]
    refine q_asg (ev_op (ev_call (ea_cons (ev_var rfl) (ea_cons ev_c ea_nil)) (sv__law_cell_at (by walk_at "sv__law_cell_at"))) (ev_call (ea_cons (ev_var rfl) (ea_cons (ev_var rfl) ea_nil)) (sv_free (by walk_at "side"))) (rv_I (by walk_at "op_mod"))) fun H5 e5 => ?_
    obtain ⟨i0, hi0, i1, i2⟩ : ∃ i0 : Int, cell ns 6 % ((tot p n : Nat) : Int) = i0 ∧ 0 ≤ i0 ∧ i0 < (tot p n : Int) := ⟨_, rfl, Int.emod_nonneg _ (by omega), Int.emod_lt_of_pos _ (by omega)⟩
    rw [hi0]
    refine q_asg ev_c fun H6 e6 => ?_
    refine q_asg ev_c fun H7 e7 => ?_
    have hS7 := ex_l ((((((e1.trans e2).trans e3).trans e4).trans e5).trans e6).trans e7) hS
    clear hS
    refine q_cut (M := fun σ H' => ∃ (i : Int) (pl : Str), σ = [some (.ref a), some (.int (p : Int)), some (.int (n : Int)), some (.int (n : Int)), some (.int far), some (.int i), some (.str "done"), some (.str pl), none, none, none] ∧ Ex H7 H' ∧ ((pl = "done" ∧ GdP p n i true) ∨ (pl = "place" ∧ GdP p n i false))) ?_ (fun σ H8 hm => ?_)
    · refine s_when (et_test (ev_op (ev_op (ev_call (ea_cons (ev_var rfl) (ea_cons ev_c ea_nil)) (sv__law_cell_at (by walk_at "sv__law_cell_at"))) ev_c (rv_I (by walk_at "op_mod"))) ev_c (rv_eq rfl))) (fun _ H8 e8 => ?_) (fun _ H8 e8 => ⟨i0, "done", rfl, e8, .inl ⟨rfl, p, n, rfl, rfl, hp, hn, decide_eq_true ⟨i1, i2⟩⟩⟩)
      obtain ⟨v, hv, hat⟩ := at_some (xs := [.int (-1), .int ((tot p n : Nat) : Int), .int (-1 - far), .int (((tot p n : Nat) : Int) + far)]) (z := cell ns 7 / 3 % 4) (by omega) (by show _ < (4 : Int); omega)
      obtain ⟨x, rfl, hx⟩ : ∃ x : Int, v = .int x ∧ ¬ (0 ≤ x ∧ x < (tot p n : Int)) := by
        simp only [List.mem_cons, List.not_mem_nil, or_false] at hv
        rcases hv with rfl | rfl | rfl | rfl
        all_goals exact ⟨_, rfl, by omega⟩
      refine q_asg (ev_ixK (EvK.of (el_lst (ea_cons (ev_un ev_c ru_neg) (ea_cons (ev_call (ea_cons (ev_var rfl) (ea_cons (ev_var rfl) ea_nil)) (sv_free (by walk_at "side"))) (ea_cons (ev_op (ev_un ev_c ru_neg) (ev_var rfl) rv_I0) (ea_cons (ev_op (ev_call (ea_cons (ev_var rfl) (ea_cons (ev_var rfl) ea_nil)) (sv_free (by walk_at "side"))) (ev_var rfl) rv_I0) ea_nil)))) (by simp))) (ev_op (ev_op (ev_call (ea_cons (ev_var rfl) (ea_cons ev_c ea_nil)) (sv__law_cell_at (by walk_at "sv__law_cell_at"))) ev_c (rv_I (by walk_at "op_fdiv"))) ev_c (rv_I (by walk_at "op_mod"))) hat) fun H9 e9 => ?_
      exact s_asg ev_c fun H10 e10 => ⟨x, "place", rfl, (e8.trans e9).trans e10, .inr ⟨rfl, p, n, rfl, rfl, hp, hn, decide_eq_false hx⟩⟩
    obtain ⟨i, pl, rfl, e8, hpl⟩ := hm
    have hS8 := ex_l e8 hS7
    clear hS7
    refine q_cut (M := fun σ H' => ∃ (m : Int) (du : Str), σ = [some (.ref a), some (.int (p : Int)), some (.int (n : Int)), some (.int m), some (.int far), some (.int i), some (.str du), some (.str pl), none, none, none] ∧ Ex H8 H' ∧ ((du = "done" ∧ m = n) ∨ (du = "many" ∧ (m < 0 ∨ 1000000000000000000000000000000 < m)))) ?_ (fun σ H9 hm => ?_)
    · refine s_when (et_test (ev_op (ev_op (ev_call (ea_cons (ev_var rfl) (ea_cons ev_c ea_nil)) (sv__law_cell_at (by walk_at "sv__law_cell_at"))) ev_c (rv_I (by walk_at "op_mod"))) ev_c (rv_eq rfl))) (fun _ H9 e9 => ?_) (fun _ H9 e9 => ⟨n, "done", rfl, e9, .inl ⟨rfl, rfl⟩⟩)
      obtain ⟨v, hv, hat⟩ := at_some (xs := [.int (-1), .int (1000000000000000000000000000000 + 1), .int (-1 - far), .int (1000000000000000000000000000000 + 1 + far)]) (z := cell ns 8 / 3 % 4) (by omega) (by show _ < (4 : Int); omega)
      obtain ⟨x, rfl, hx⟩ : ∃ x : Int, v = .int x ∧ (x < 0 ∨ 1000000000000000000000000000000 < x) := by
        simp only [List.mem_cons, List.not_mem_nil, or_false] at hv
        rcases hv with rfl | rfl | rfl | rfl
        all_goals exact ⟨_, rfl, by omega⟩
      refine q_asg (ev_ixK (EvK.of (el_lst (ea_cons (ev_un ev_c ru_neg) (ea_cons (ev_op (ev_pow (r := 1000000000000000000000000000000) ⟨by decide, by decide, by decide⟩ (by decide +kernel)) ev_c rv_I0) (ea_cons (ev_op (ev_un ev_c ru_neg) (ev_var rfl) rv_I0) (ea_cons (ev_op (ev_op (ev_pow (r := 1000000000000000000000000000000) ⟨by decide, by decide, by decide⟩ (by decide +kernel)) ev_c rv_I0) (ev_var rfl) rv_I0) ea_nil)))) (by simp))) (ev_op (ev_op (ev_call (ea_cons (ev_var rfl) (ea_cons ev_c ea_nil)) (sv__law_cell_at (by walk_at "sv__law_cell_at"))) ev_c (rv_I (by walk_at "op_fdiv"))) ev_c (rv_I (by walk_at "op_mod"))) hat) fun H10 e10 => ?_
      exact s_asg ev_c fun H11 e11 => ⟨x, "many", rfl, (e9.trans e10).trans e11, .inr ⟨rfl, hx⟩⟩
    obtain ⟨m, du, rfl, e9, hdu⟩ := hm
    have hS9 := ex_l e9 hS8
    clear hS8
    refine q_cut (M := fun σ H' => ∃ (b : Int) (du' : Str) (y : Option V), σ = [some (.ref a), some (.int b), some (.int (n : Int)), some (.int m), some (.int far), some (.int i), some (.str du'), some (.str pl), y, none, none] ∧ Ex H9 H' ∧ ((du' = "prime" ∧ isPb b = false) ∨ (du' = du ∧ b = p))) ?_ (fun σ H10 hm => ?_)
    · refine s_when (et_test (ev_op (ev_op (ev_call (ea_cons (ev_var rfl) (ea_cons ev_c ea_nil)) (sv__law_cell_at (by walk_at "sv__law_cell_at"))) ev_c (rv_I (by walk_at "op_mod"))) ev_c (rv_eq rfl))) (fun _ H10 e10 => ?_) (fun _ H10 e10 => ⟨p, du, none, rfl, e10, .inr ⟨rfl, rfl⟩⟩)
      refine q_asgL (el_lst (ea_cons ev_c (ea_cons ev_c (ea_cons (ev_un ev_c ru_neg) (ea_cons ev_c (ea_cons ev_c (ea_cons ev_c (ea_cons ev_c (ea_cons ev_c (ea_cons ev_c (ea_cons (ev_op ev_c (ev_var rfl) rv_I0) (ea_cons (ev_op ev_c (ev_var rfl) rv_I0) (ea_cons (ev_op ev_c (ev_var rfl) rv_I0) ea_nil)))))))))))) (by simp)) fun ls H11 _ e11 hls => ?_
      obtain ⟨v, hv, hat⟩ := at_some (xs := [.int 0, .int 1, .int (-2), .int 4, .int 9, .int 49, .int 91, .int 99, .int 101, .int (1 - far), .int (98 + far), .int (0 - (p : Int))]) (z := cell ns 9 / 3 % 12) (by omega) (by show _ < (12 : Int); omega)
      obtain ⟨b, rfl, hb⟩ : ∃ b : Int, v = .int b ∧ isPb b = false := by
        simp only [List.mem_cons, List.not_mem_nil, or_false] at hv
        rcases hv with rfl | rfl | rfl | rfl | rfl | rfl | rfl | rfl | rfl | rfl | rfl | rfl
        all_goals first | exact ⟨_, rfl, isPb_low (by omega)⟩ | exact ⟨_, rfl, isPb_high (by omega)⟩ | exact ⟨_, rfl, by decide +kernel⟩
      refine q_asg (ev_ixK (ek_var (ev_var rfl) hls) (ev_op (ev_op (ev_call (ea_cons (ev_var rfl) (ea_cons ev_c ea_nil)) (sv__law_cell_at (by walk_at "sv__law_cell_at"))) ev_c (rv_I (by walk_at "op_fdiv"))) ev_c (rv_I (by walk_at "op_mod"))) hat) fun H12 e12 => ?_
      exact s_asg ev_c fun H13 e13 => ⟨b, "prime", some (.ref ls), rfl, ((e10.trans e11).trans e12).trans e13, .inl ⟨rfl, hb⟩⟩
    obtain ⟨b, du', y, rfl, e10, hst⟩ := hm
    have told : ∀ w : Int, Told w m b i (if w = 12 ∧ du' = "done" then pl else du') := by
      intro w
      rcases hst with ⟨rfl, hb⟩ | ⟨rfl, rfl⟩
      · rw [if_neg (fun z => absurd z.2 (by decide +kernel))]
        exact .inl (.inl ⟨hb, rfl⟩)
      · rcases hdu with ⟨rfl, rfl⟩ | ⟨rfl, hm⟩
        · by_cases hw : w = 12
          · rw [if_pos ⟨hw, rfl⟩]
            rcases hpl with ⟨rfl, hg⟩ | ⟨rfl, hg⟩
            · exact .inr ⟨⟨p, n, rfl, rfl, hp, hn⟩, .inr ⟨fun _ => hg, rfl⟩⟩
            · exact .inr ⟨⟨p, n, rfl, rfl, hp, hn⟩, .inl ⟨hw, hg, rfl⟩⟩
          · rw [if_neg (fun z => hw z.1)]
            exact .inr ⟨⟨p, n, rfl, rfl, hp, hn⟩, .inr ⟨fun z => absurd z hw, rfl⟩⟩
        · rw [if_neg (fun z => absurd z.2 (by decide +kernel))]
          exact .inl (.inr ⟨isPb_of hp, okM_bad hm, rfl⟩)
    refine q_forR1 (n := 13) (ea_cons ev_c ea_nil) (by omega) (fun _ σ H' => ∃ y1 y2 : Option V, σ = [some (.ref a), some (.int b), some (.int (n : Int)), some (.int m), some (.int far), some (.int i), some (.str du'), some (.str pl), y, y1, y2] ∧ Ex H10 H')
      (fun H11 e11 => ⟨none, none, rfl, e11⟩) (fun j σ H11 hj hw => ?_) (fun σ H11 hw => ?_)
    · obtain ⟨y1, y2, rfl, e11⟩ := hw
      refine q_asg (ev_var rfl) fun H12 e12 => ?_
      refine q_cut (M := fun σ H' => σ = [some (.ref a), some (.int b), some (.int (n : Int)), some (.int m), some (.int far), some (.int i), some (.str du'), some (.str pl), y, some (.int (j : Int)), some (.str (if (j : Int) = 12 ∧ du' = "done" then pl else du'))] ∧ Ex H12 H') ?_ (fun σ H13 hm => ?_)
      · refine s_when (et_and (et_test (ev_op (ev_var rfl) ev_c (rv_eq rfl))) (fun _ => et_test (ev_op (ev_var rfl) ev_c (rv_eq rfl)))) (fun hb H13 e13 => ?_) (fun hb H13 e13 => ?_)
        · rw [Bool.and_eq_true, decide_eq_true_eq, decide_eq_true_eq] at hb
          have hc : (j : Int) = 12 ∧ du' = "done" := ⟨V.int.inj hb.1, V.str.inj hb.2⟩
          refine s_asg (ev_var rfl) fun H14 e14 => ⟨?_, e13.trans e14⟩
          rw [if_pos hc]
          rfl
        · rw [Bool.and_eq_false_iff, decide_eq_false_iff_not, decide_eq_false_iff_not] at hb
          refine ⟨?_, e13⟩
          rw [if_neg (fun z => hb.elim (fun c => c (congrArg V.int z.1)) (fun c => c (congrArg V.str z.2)))]
          rfl
      obtain ⟨rfl, e13⟩ := hm
      refine s_when (b := false) (et_is (et_test (ev_op (ev_call (ea_cons (ev_var rfl) (ea_cons (ev_var rfl) (ea_cons (ev_var rfl) (ea_cons (ev_var rfl) ea_nil)))) (sv__law_tried (by omega) (by omega) (told j))) (ev_var rfl) (rv_ne rfl))) ?_) (fun hb => nomatch hb) (fun _ H14 e14 => ⟨_, _, rfl, ((e11.trans e12).trans e13).trans e14⟩)
      rw [decide_eq_true rfl]
      rfl
    · obtain ⟨y1, y2, rfl, e11⟩ := hw
      refine q_when (et_or (et_test (ev_op (ev_var rfl) ev_c rv_I0)) (fun _ => (et_test (ev_op (ev_var rfl) (ev_pow (r := 1000000000000000000000000000000) ⟨by decide, by decide, by decide⟩ (by decide +kernel)) rv_I0)))) (fun hb H12 e12 => ?_) (fun hb H12 e12 => ?_)
      · rw [Bool.or_eq_true, decide_eq_true_eq, decide_eq_true_eq] at hb
        exact s_ret (ev_is (ev_op (ev_call (ea_cons (ev_var rfl) (ea_cons ev_c ea_nil)) (sv__law_choosing (.inl ⟨okM_bad hb, rfl⟩))) ev_c (rv_eq rfl)) (congrArg V.bl (decide_eq_true rfl))) fun H13 e13 => q _
      · rw [Bool.or_eq_false_iff, decide_eq_false_iff_not, decide_eq_false_iff_not] at hb
        have g : okM m = true := okM_good (fun z => z.elim hb.1 hb.2)
        refine q_when (et_test (ev_op (ev_var rfl) ev_c rv_I0)) (fun h4 H13 e13 => ?_) (fun h4 H13 e13 => ?_)
        · exact s_ret (ev_is (ev_op (ev_call (ea_cons (ev_var rfl) (ea_cons ev_c ea_nil)) (sv__law_choosing (.inr (.inl ⟨g, of_decide_eq_true h4, rfl⟩)))) ev_c (rv_eq rfl)) (congrArg V.bl (decide_eq_true rfl))) fun H14 e14 => q _
        · have h5 : ¬ (400 < m) := of_decide_eq_false h4
          have h0 : ¬ (m < 0) := hb.1
          refine s_ret (ev_is (ev_andV (ev_op (ev_call (ea_cons (ev_var rfl) (ea_cons ev_c ea_nil)) (sv__law_choosing (.inr (.inr ⟨⟨by omega, by omega⟩, rfl⟩)))) ev_c (rv_eq rfl)) (fun _ => ev_andV (ev_op (ev_call (ea_cons ev_c (ea_cons ev_c ea_nil)) (sv__law_choosing (.inr (.inr ⟨⟨by decide, by decide⟩, rfl⟩)))) ev_c (rv_eq rfl)) (fun _ => ev_op (ev_call (ea_cons ev_c (ea_cons ev_c ea_nil)) (sv__law_choosing (.inr (.inl ⟨by decide, by decide, rfl⟩)))) ev_c (rv_eq rfl)))) ?_) fun H14 e14 => q _
          rw [decide_eq_true rfl, decide_eq_true rfl]
          rfl

theorem kit_self {K : PySem.W.Frag} {D : Addr} : PySem.W.kitOne K (.ref D) (.ref D) = some true := if_pos (beq_iff_eq.mpr rfl)
theorem kit_no {K : PySem.W.Frag} {D C : Addr} (hdct : PySem.W.hasDictIn K C = true) (ht : PySem.W.typeIn K (.ref C) = some (.type "type")) (h : PySem.W.subIn K (.ref D) (.ref C) = some false) (hs : PySem.W.subIn K (.ref D) (.ref D) = some true) : PySem.W.kitOne K (.ref D) (.ref C) = some false := by
  obtain ⟨cd, hc, _⟩ := PySem.W.any_some hdct
  have ne : ¬ ((Value.ref D == Value.ref C) = true) := fun q => by
    have e : D = C := Value.ref.inj (beq_iff_eq.mp q)
    subst e
    rw [hs] at h
    cases h
  have e2 : ((PySem.W.clsIn K C).isSome && PySem.W.typeIn K (.ref C) == some (.type "type")) = true := by rw [hc, ht] <;> rfl
  show (if (Value.ref D == Value.ref C) = true then some true else if ((PySem.W.clsIn K C).isSome && PySem.W.typeIn K (.ref C) == some (.type "type")) = true then PySem.W.subIn K (.ref D) (.ref C) else none) = some false
  rw [if_neg ne, if_pos e2]
  exact h
theorem kit_ve {K : PySem.W.Frag} {D : Addr} (h : PySem.W.subIn K (.ref D) (.type "ValueError") = some true) : PySem.W.kitOne K (.ref D) (.type "ValueError") = some true := by
  have ne : ¬ ((Value.ref D == Value.type "ValueError") = true) := fun q => nomatch (beq_iff_eq.mp q)
  have e2 : PySem.W.kitMeta "ValueError" = true := by decide +kernel
  show (if (Value.ref D == Value.type "ValueError") = true then some true else if PySem.W.kitMeta "ValueError" = true then PySem.W.subIn K (.ref D) (.type "ValueError") else none) = some true
  rw [if_neg ne, if_pos e2]
  exact h
theorem all_mk {l : PySem.W.OpenLaw} {w : World} {K : PySem.W.Frag} {h : Heap} {mg : Str → Option Value} {fa ep em el et ec f1 f2 f3 f4 f5 f6 f7 f8 f9 f10 f11 f12 f13 f14 f15 f16 f17 f18 f19 f20 f21 f22 f23 f24 f25 f26 f27 f28 f29 f30 f31 f32 f33 : Addr} (X : K.In h) (G : h.Ns mainGlobals mg) (hfa : mg "law" = some (.ref fa))
    {od1 an1 od2 an2 od3 an3 od4 an4 od5 an5 od6 an6 od7 an7 od8 an8 od9 an9 od10 an10 od11 an11 od12 an12 od13 an13 od14 an14 od15 an15 od16 an16 od17 an17 od18 an18 od19 an19 od20 an20 od21 an21 od22 an22 od23 an23 od24 an24 od25 an25 od26 an26 od27 an27 od28 an28 od29 an29 od30 an30 od31 an31 od32 an32 od33 an33 : Option Addr} {sl1 sl2 sl3 sl4 sl5 sl6 sl7 sl8 sl9 sl10 sl11 sl12 sl13 sl14 sl15 sl16 sl17 sl18 sl19 sl20 sl21 sl22 sl23 sl24 sl25 sl26 sl27 sl28 sl29 sl30 sl31 sl32 sl33 : Array (Option Value)} {oc1 kV1 dc1 pm1 cd1 ct1 oc2 kV2 dc2 pm2 cd2 ct2 oc3 kV3 dc3 pm3 cd3 ct3 oc4 kV4 dc4 pm4 cd4 ct4 oc5 kV5 dc5 pm5 cd5 ct5 oc6 kV6 dc6 pm6 cd6 ct6 oc7 kV7 dc7 pm7 cd7 ct7 oc8 kV8 dc8 pm8 cd8 ct8 oc9 kV9 dc9 pm9 cd9 ct9 oc10 kV10 dc10 pm10 cd10 ct10 oc11 kV11 dc11 pm11 cd11 ct11 oc12 kV12 dc12 pm12 cd12 ct12 oc13 kV13 dc13 pm13 cd13 ct13 oc14 kV14 dc14 pm14 cd14 ct14 oc15 kV15 dc15 pm15 cd15 ct15 oc16 kV16 dc16 pm16 cd16 ct16 oc17 kV17 dc17 pm17 cd17 ct17 oc18 kV18 dc18 pm18 cd18 ct18 oc19 kV19 dc19 pm19 cd19 ct19 oc20 kV20 dc20 pm20 cd20 ct20 oc21 kV21 dc21 pm21 cd21 ct21 oc22 kV22 dc22 pm22 cd22 ct22 oc23 kV23 dc23 pm23 cd23 ct23 oc24 kV24 dc24 pm24 cd24 ct24 oc25 kV25 dc25 pm25 cd25 ct25 oc26 kV26 dc26 pm26 cd26 ct26 oc27 kV27 dc27 pm27 cd27 ct27 oc28 kV28 dc28 pm28 cd28 ct28 oc29 kV29 dc29 pm29 cd29 ct29 oc30 kV30 dc30 pm30 cd30 ct30 oc31 kV31 dc31 pm31 cd31 ct31 oc32 kV32 dc32 pm32 cd32 ct32 oc33 kV33 dc33 pm33 cd33 ct33 : Value} {t_GREATEST_PRIME t_GREATEST t_MOST : Tok}
    (a1 : PySem.W.nsIn K mainGlobals "is_prime" = some (some (.ref f1)))
    (l1 : K.lookup f1 = some ⟨oc1, od1, .func (PySem.W.fnOf "is_prime" "is_prime" (defArgs s_is_prime) (defBody s_is_prime) (defScope s_is_prime) .none kV1 dc1 pm1 an1 cd1 ct1), sl1⟩)
    (c1 : PySem.W.codeIn K cd1 "is_prime" = true)
    (k1 : PySem.W.keepIn K (.ref f1) = true)
    (a2 : PySem.W.nsIn K mainGlobals "asked_prime" = some (some (.ref f2)))
    (l2 : K.lookup f2 = some ⟨oc2, od2, .func (PySem.W.fnOf "asked_prime" "asked_prime" (defArgs s_asked_prime) (defBody s_asked_prime) (defScope s_asked_prime) .none kV2 dc2 pm2 an2 cd2 ct2), sl2⟩)
    (c2 : PySem.W.codeIn K cd2 "asked_prime" = true)
    (k2 : PySem.W.keepIn K (.ref f2) = true)
    (a3 : PySem.W.nsIn K mainGlobals "asked_many" = some (some (.ref f3)))
    (l3 : K.lookup f3 = some ⟨oc3, od3, .func (PySem.W.fnOf "asked_many" "asked_many" (defArgs s_asked_many) (defBody s_asked_many) (defScope s_asked_many) .none kV3 dc3 pm3 an3 cd3 ct3), sl3⟩)
    (c3 : PySem.W.codeIn K cd3 "asked_many" = true)
    (k3 : PySem.W.keepIn K (.ref f3) = true)
    (a4 : PySem.W.nsIn K mainGlobals "figures_of" = some (some (.ref f4)))
    (l4 : K.lookup f4 = some ⟨oc4, od4, .func (PySem.W.fnOf "figures_of" "figures_of" (defArgs s_figures_of) (defBody s_figures_of) (defScope s_figures_of) .none kV4 dc4 pm4 an4 cd4 ct4), sl4⟩)
    (c4 : PySem.W.codeIn K cd4 "figures_of" = true)
    (k4 : PySem.W.keepIn K (.ref f4) = true)
    (a5 : PySem.W.nsIn K mainGlobals "figures" = some (some (.ref f5)))
    (l5 : K.lookup f5 = some ⟨oc5, od5, .func (PySem.W.fnOf "figures" "figures" (defArgs s_figures) (defBody s_figures) (defScope s_figures) .none kV5 dc5 pm5 an5 cd5 ct5), sl5⟩)
    (c5 : PySem.W.codeIn K cd5 "figures" = true)
    (k5 : PySem.W.keepIn K (.ref f5) = true)
    (a6 : PySem.W.nsIn K mainGlobals "carried" = some (some (.ref f6)))
    (l6 : K.lookup f6 = some ⟨oc6, od6, .func (PySem.W.fnOf "carried" "carried" (defArgs s_carried) (defBody s_carried) (defScope s_carried) .none kV6 dc6 pm6 an6 cd6 ct6), sl6⟩)
    (c6 : PySem.W.codeIn K cd6 "carried" = true)
    (k6 : PySem.W.keepIn K (.ref f6) = true)
    (a7 : PySem.W.nsIn K mainGlobals "carries" = some (some (.ref f7)))
    (l7 : K.lookup f7 = some ⟨oc7, od7, .func (PySem.W.fnOf "carries" "carries" (defArgs s_carries) (defBody s_carries) (defScope s_carries) .none kV7 dc7 pm7 an7 cd7 ct7), sl7⟩)
    (c7 : PySem.W.codeIn K cd7 "carries" = true)
    (k7 : PySem.W.keepIn K (.ref f7) = true)
    (a8 : PySem.W.nsIn K mainGlobals "order_power" = some (some (.ref f8)))
    (l8 : K.lookup f8 = some ⟨oc8, od8, .func (PySem.W.fnOf "order_power" "order_power" (defArgs s_order_power) (defBody s_order_power) (defScope s_order_power) .none kV8 dc8 pm8 an8 cd8 ct8), sl8⟩)
    (c8 : PySem.W.codeIn K cd8 "order_power" = true)
    (k8 : PySem.W.keepIn K (.ref f8) = true)
    (a9 : PySem.W.nsIn K mainGlobals "count" = some (some (.ref f9)))
    (l9 : K.lookup f9 = some ⟨oc9, od9, .func (PySem.W.fnOf "count" "count" (defArgs s_count) (defBody s_count) (defScope s_count) .none kV9 dc9 pm9 an9 cd9 ct9), sl9⟩)
    (c9 : PySem.W.codeIn K cd9 "count" = true)
    (k9 : PySem.W.keepIn K (.ref f9) = true)
    (a10 : PySem.W.nsIn K mainGlobals "choices" = some (some (.ref f10)))
    (l10 : K.lookup f10 = some ⟨oc10, od10, .func (PySem.W.fnOf "choices" "choices" (defArgs s_choices) (defBody s_choices) (defScope s_choices) .none kV10 dc10 pm10 an10 cd10 ct10), sl10⟩)
    (c10 : PySem.W.codeIn K cd10 "choices" = true)
    (k10 : PySem.W.keepIn K (.ref f10) = true)
    (a11 : PySem.W.nsIn K mainGlobals "rest" = some (some (.ref f11)))
    (l11 : K.lookup f11 = some ⟨oc11, od11, .func (PySem.W.fnOf "rest" "rest" (defArgs s_rest) (defBody s_rest) (defScope s_rest) .none kV11 dc11 pm11 an11 cd11 ct11), sl11⟩)
    (c11 : PySem.W.codeIn K cd11 "rest" = true)
    (k11 : PySem.W.keepIn K (.ref f11) = true)
    (a12 : PySem.W.nsIn K mainGlobals "power" = some (some (.ref f12)))
    (l12 : K.lookup f12 = some ⟨oc12, od12, .func (PySem.W.fnOf "power" "power" (defArgs s_power) (defBody s_power) (defScope s_power) .none kV12 dc12 pm12 an12 cd12 ct12), sl12⟩)
    (c12 : PySem.W.codeIn K cd12 "power" = true)
    (k12 : PySem.W.keepIn K (.ref f12) = true)
    (a13 : PySem.W.nsIn K mainGlobals "order" = some (some (.ref f13)))
    (l13 : K.lookup f13 = some ⟨oc13, od13, .func (PySem.W.fnOf "order" "order" (defArgs s_order) (defBody s_order) (defScope s_order) .none kV13 dc13 pm13 an13 cd13 ct13), sl13⟩)
    (c13 : PySem.W.codeIn K cd13 "order" = true)
    (k13 : PySem.W.keepIn K (.ref f13) = true)
    (a14 : PySem.W.nsIn K mainGlobals "contrary" = some (some (.ref f14)))
    (l14 : K.lookup f14 = some ⟨oc14, od14, .func (PySem.W.fnOf "contrary" "contrary" (defArgs s_contrary) (defBody s_contrary) (defScope s_contrary) .none kV14 dc14 pm14 an14 cd14 ct14), sl14⟩)
    (c14 : PySem.W.codeIn K cd14 "contrary" = true)
    (k14 : PySem.W.keepIn K (.ref f14) = true)
    (a15 : PySem.W.nsIn K mainGlobals "last" = some (some (.ref f15)))
    (l15 : K.lookup f15 = some ⟨oc15, od15, .func (PySem.W.fnOf "last" "last" (defArgs s_last) (defBody s_last) (defScope s_last) .none kV15 dc15 pm15 an15 cd15 ct15), sl15⟩)
    (c15 : PySem.W.codeIn K cd15 "last" = true)
    (k15 : PySem.W.keepIn K (.ref f15) = true)
    (a16 : PySem.W.nsIn K mainGlobals "product" = some (some (.ref f16)))
    (l16 : K.lookup f16 = some ⟨oc16, od16, .func (PySem.W.fnOf "product" "product" (defArgs s_product) (defBody s_product) (defScope s_product) .none kV16 dc16 pm16 an16 cd16 ct16), sl16⟩)
    (c16 : PySem.W.codeIn K cd16 "product" = true)
    (k16 : PySem.W.keepIn K (.ref f16) = true)
    (a17 : PySem.W.nsIn K mainGlobals "number_of" = some (some (.ref f17)))
    (l17 : K.lookup f17 = some ⟨oc17, od17, .func (PySem.W.fnOf "number_of" "number_of" (defArgs s_number_of) (defBody s_number_of) (defScope s_number_of) .none kV17 dc17 pm17 an17 cd17 ct17), sl17⟩)
    (c17 : PySem.W.codeIn K cd17 "number_of" = true)
    (k17 : PySem.W.keepIn K (.ref f17) = true)
    (a18 : PySem.W.nsIn K mainGlobals "free" = some (some (.ref f18)))
    (l18 : K.lookup f18 = some ⟨oc18, od18, .func (PySem.W.fnOf "free" "free" (defArgs s_free) (defBody s_free) (defScope s_free) .none kV18 dc18 pm18 an18 cd18 ct18), sl18⟩)
    (c18 : PySem.W.codeIn K cd18 "free" = true)
    (k18 : PySem.W.keepIn K (.ref f18) = true)
    (a19 : PySem.W.nsIn K mainGlobals "padded" = some (some (.ref f19)))
    (l19 : K.lookup f19 = some ⟨oc19, od19, .func (PySem.W.fnOf "padded" "padded" (defArgs s_padded) (defBody s_padded) (defScope s_padded) .none kV19 dc19 pm19 an19 cd19 ct19), sl19⟩)
    (c19 : PySem.W.codeIn K cd19 "padded" = true)
    (k19 : PySem.W.keepIn K (.ref f19) = true)
    (a20 : PySem.W.nsIn K mainGlobals "next_free" = some (some (.ref f20)))
    (l20 : K.lookup f20 = some ⟨oc20, od20, .func (PySem.W.fnOf "next_free" "next_free" (defArgs s_next_free) (defBody s_next_free) (defScope s_next_free) .none kV20 dc20 pm20 an20 cd20 ct20), sl20⟩)
    (c20 : PySem.W.codeIn K cd20 "next_free" = true)
    (k20 : PySem.W.keepIn K (.ref f20) = true)
    (a21 : PySem.W.nsIn K mainGlobals "free_ahead" = some (some (.ref f21)))
    (l21 : K.lookup f21 = some ⟨oc21, od21, .func (PySem.W.fnOf "free_ahead" "free_ahead" (defArgs s_free_ahead) (defBody s_free_ahead) (defScope s_free_ahead) .none kV21 dc21 pm21 an21 cd21 ct21), sl21⟩)
    (c21 : PySem.W.codeIn K cd21 "free_ahead" = true)
    (k21 : PySem.W.keepIn K (.ref f21) = true)
    (a22 : PySem.W.nsIn K mainGlobals "free_at" = some (some (.ref f22)))
    (l22 : K.lookup f22 = some ⟨oc22, od22, .func (PySem.W.fnOf "free_at" "free_at" (defArgs s_free_at) (defBody s_free_at) (defScope s_free_at) .none kV22 dc22 pm22 an22 cd22 ct22), sl22⟩)
    (c22 : PySem.W.codeIn K cd22 "free_at" = true)
    (k22 : PySem.W.keepIn K (.ref f22) = true)
    (a23 : PySem.W.nsIn K mainGlobals "is_bare" = some (some (.ref f23)))
    (l23 : K.lookup f23 = some ⟨oc23, od23, .func (PySem.W.fnOf "is_bare" "is_bare" (defArgs s_is_bare) (defBody s_is_bare) (defScope s_is_bare) .none kV23 dc23 pm23 an23 cd23 ct23), sl23⟩)
    (c23 : PySem.W.codeIn K cd23 "is_bare" = true)
    (k23 : PySem.W.keepIn K (.ref f23) = true)
    (a24 : PySem.W.nsIn K mainGlobals "is_full" = some (some (.ref f24)))
    (l24 : K.lookup f24 = some ⟨oc24, od24, .func (PySem.W.fnOf "is_full" "is_full" (defArgs s_is_full) (defBody s_is_full) (defScope s_is_full) .none kV24 dc24 pm24 an24 cd24 ct24), sl24⟩)
    (c24 : PySem.W.codeIn K cd24 "is_full" = true)
    (k24 : PySem.W.keepIn K (.ref f24) = true)
    (a25 : PySem.W.nsIn K mainGlobals "_law_cell_at" = some (some (.ref f25)))
    (l25 : K.lookup f25 = some ⟨oc25, od25, .func (PySem.W.fnOf "_law_cell_at" "_law_cell_at" (defArgs s__law_cell_at) (defBody s__law_cell_at) (defScope s__law_cell_at) .none kV25 dc25 pm25 an25 cd25 ct25), sl25⟩)
    (c25 : PySem.W.codeIn K cd25 "_law_cell_at" = true)
    (k25 : PySem.W.keepIn K (.ref f25) = true)
    (a26 : PySem.W.nsIn K mainGlobals "_law_prime_by" = some (some (.ref f26)))
    (l26 : K.lookup f26 = some ⟨oc26, od26, .func (PySem.W.fnOf "_law_prime_by" "_law_prime_by" (defArgs s__law_prime_by) (defBody s__law_prime_by) (defScope s__law_prime_by) .none kV26 dc26 pm26 an26 cd26 ct26), sl26⟩)
    (c26 : PySem.W.codeIn K cd26 "_law_prime_by" = true)
    (k26 : PySem.W.keepIn K (.ref f26) = true)
    (a27 : PySem.W.nsIn K mainGlobals "_law_many_by" = some (some (.ref f27)))
    (l27 : K.lookup f27 = some ⟨oc27, od27, .func (PySem.W.fnOf "_law_many_by" "_law_many_by" (defArgs s__law_many_by) (defBody s__law_many_by) (defScope s__law_many_by) .none kV27 dc27 pm27 an27 cd27 ct27), sl27⟩)
    (c27 : PySem.W.codeIn K cd27 "_law_many_by" = true)
    (k27 : PySem.W.keepIn K (.ref f27) = true)
    (a28 : PySem.W.nsIn K mainGlobals "_law_word_of" = some (some (.ref f28)))
    (l28 : K.lookup f28 = some ⟨oc28, od28, .func (PySem.W.fnOf "_law_word_of" "_law_word_of" (defArgs s__law_word_of) (defBody s__law_word_of) (defScope s__law_word_of) .none kV28 dc28 pm28 an28 cd28 ct28), sl28⟩)
    (c28 : PySem.W.codeIn K cd28 "_law_word_of" = true)
    (k28 : PySem.W.keepIn K (.ref f28) = true)
    (a29 : PySem.W.nsIn K mainGlobals "_law_first" = some (some (.ref f29)))
    (l29 : K.lookup f29 = some ⟨oc29, od29, .func (PySem.W.fnOf "_law_first" "_law_first" (defArgs s__law_first) (defBody s__law_first) (defScope s__law_first) .none kV29 dc29 pm29 an29 cd29 ct29), sl29⟩)
    (c29 : PySem.W.codeIn K cd29 "_law_first" = true)
    (k29 : PySem.W.keepIn K (.ref f29) = true)
    (a30 : PySem.W.nsIn K mainGlobals "_law_second" = some (some (.ref f30)))
    (l30 : K.lookup f30 = some ⟨oc30, od30, .func (PySem.W.fnOf "_law_second" "_law_second" (defArgs s__law_second) (defBody s__law_second) (defScope s__law_second) .none kV30 dc30 pm30 an30 cd30 ct30), sl30⟩)
    (c30 : PySem.W.codeIn K cd30 "_law_second" = true)
    (k30 : PySem.W.keepIn K (.ref f30) = true)
    (a31 : PySem.W.nsIn K mainGlobals "_law_tried" = some (some (.ref f31)))
    (l31 : K.lookup f31 = some ⟨oc31, od31, .func (PySem.W.fnOf "_law_tried" "_law_tried" (defArgs s__law_tried) (defBody s__law_tried) (defScope s__law_tried) .none kV31 dc31 pm31 an31 cd31 ct31), sl31⟩)
    (c31 : PySem.W.codeIn K cd31 "_law_tried" = true)
    (k31 : PySem.W.keepIn K (.ref f31) = true)
    (a32 : PySem.W.nsIn K mainGlobals "_law_choosing" = some (some (.ref f32)))
    (l32 : K.lookup f32 = some ⟨oc32, od32, .func (PySem.W.fnOf "_law_choosing" "_law_choosing" (defArgs s__law_choosing) (defBody s__law_choosing) (defScope s__law_choosing) .none kV32 dc32 pm32 an32 cd32 ct32), sl32⟩)
    (c32 : PySem.W.codeIn K cd32 "_law_choosing" = true)
    (k32 : PySem.W.keepIn K (.ref f32) = true)
    (a33 : PySem.W.nsIn K mainGlobals "law" = some (some (.ref f33)))
    (l33 : K.lookup f33 = some ⟨oc33, od33, .func (PySem.W.fnOf "law" "law" (defArgs s_law) (defBody s_law) (defScope s_law) .none kV33 dc33 pm33 an33 cd33 ct33), sl33⟩)
    (c33 : PySem.W.codeIn K cd33 "law" = true)
    (k33 : PySem.W.keepIn K (.ref f33) = true)
    (z_all : PySem.W.nsIn K mainGlobals "all" = some none)
    (z_range : PySem.W.nsIn K mainGlobals "range" = some none)
    (z_int : PySem.W.nsIn K mainGlobals "int" = some none)
    (z_reversed : PySem.W.nsIn K mainGlobals "reversed" = some none)
    (z_len : PySem.W.nsIn K mainGlobals "len" = some none)
    (z_max : PySem.W.nsIn K mainGlobals "max" = some none)
    (z_min : PySem.W.nsIn K mainGlobals "min" = some none)
    (z_isinstance : PySem.W.nsIn K mainGlobals "isinstance" = some none)
    (z_ValueError : PySem.W.nsIn K mainGlobals "ValueError" = some none)
    (g_GREATEST_PRIME : PySem.W.nsIn K mainGlobals "GREATEST_PRIME" = some (some (.int 97 t_GREATEST_PRIME)))
    (g_GREATEST : PySem.W.nsIn K mainGlobals "GREATEST" = some (some (.int 1000000000000000000000000000000 t_GREATEST)))
    (g_MOST : PySem.W.nsIn K mainGlobals "MOST" = some (some (.int 400 t_MOST)))
    (a_p : PySem.W.nsIn K mainGlobals "NoPrime" = some (some (.ref ep)))
    (a_m : PySem.W.nsIn K mainGlobals "NoMany" = some (some (.ref em)))
    (a_l : PySem.W.nsIn K mainGlobals "NoPlace" = some (some (.ref el)))
    (a_t : PySem.W.nsIn K mainGlobals "TooMany" = some (some (.ref et)))
    (a_c : PySem.W.nsIn K mainGlobals "ChoiceError" = some (some (.ref ec)))
    (b_p : PySem.W.subIn K (.ref ep) (.type "BaseException") = some true)
    (t_p : PySem.W.typeIn K (.ref ep) = some (.type "type"))
    (d_p : PySem.W.hasDictIn K ep = true)
    (b_m : PySem.W.subIn K (.ref em) (.type "BaseException") = some true)
    (t_m : PySem.W.typeIn K (.ref em) = some (.type "type"))
    (d_m : PySem.W.hasDictIn K em = true)
    (b_l : PySem.W.subIn K (.ref el) (.type "BaseException") = some true)
    (t_l : PySem.W.typeIn K (.ref el) = some (.type "type"))
    (d_l : PySem.W.hasDictIn K el = true)
    (b_t : PySem.W.subIn K (.ref et) (.type "BaseException") = some true)
    (t_t : PySem.W.typeIn K (.ref et) = some (.type "type"))
    (d_t : PySem.W.hasDictIn K et = true)
    (b_c : PySem.W.subIn K (.ref ec) (.type "BaseException") = some true)
    (t_c : PySem.W.typeIn K (.ref ec) = some (.type "type"))
    (d_c : PySem.W.hasDictIn K ec = true)
    (x_p : PySem.W.excIn K ep [.type "ValueError", .type "Exception", .type "BaseException", .type "object"] "ValueError.__new__" = true)
    (k_p : PySem.W.keepIn K (.ref ep) = true)
    (v_p : PySem.W.subIn K (.ref ep) (.type "ValueError") = some true)
    (sc_p : PySem.W.subIn K (.ref ep) (.ref ec) = some true)
    (ga_p : PySem.W.findIn K (.ref ep) "__getattribute__" = some (some (.builtin "BaseException.__getattribute__")))
    (gt_p : PySem.W.findIn K (.ref ep) "__getattr__" = some none)
    (gc_p : PySem.W.findIn K (.ref ep) "__class__" = some (some (.builtin "object.__class__")))
    (mo_p : PySem.W.mroIn K ep (.type "object") = some true)
    (s_pp : PySem.W.subIn K (.ref ep) (.ref ep) = some true)
    (s_pm : PySem.W.subIn K (.ref ep) (.ref em) = some false)
    (s_pl : PySem.W.subIn K (.ref ep) (.ref el) = some false)
    (s_pt : PySem.W.subIn K (.ref ep) (.ref et) = some false)
    (x_m : PySem.W.excIn K em [.type "ValueError", .type "Exception", .type "BaseException", .type "object"] "ValueError.__new__" = true)
    (k_m : PySem.W.keepIn K (.ref em) = true)
    (v_m : PySem.W.subIn K (.ref em) (.type "ValueError") = some true)
    (sc_m : PySem.W.subIn K (.ref em) (.ref ec) = some true)
    (ga_m : PySem.W.findIn K (.ref em) "__getattribute__" = some (some (.builtin "BaseException.__getattribute__")))
    (gt_m : PySem.W.findIn K (.ref em) "__getattr__" = some none)
    (gc_m : PySem.W.findIn K (.ref em) "__class__" = some (some (.builtin "object.__class__")))
    (mo_m : PySem.W.mroIn K em (.type "object") = some true)
    (s_mp : PySem.W.subIn K (.ref em) (.ref ep) = some false)
    (s_mm : PySem.W.subIn K (.ref em) (.ref em) = some true)
    (s_ml : PySem.W.subIn K (.ref em) (.ref el) = some false)
    (s_mt : PySem.W.subIn K (.ref em) (.ref et) = some false)
    (x_l : PySem.W.excIn K el [.type "ValueError", .type "Exception", .type "BaseException", .type "object"] "ValueError.__new__" = true)
    (k_l : PySem.W.keepIn K (.ref el) = true)
    (v_l : PySem.W.subIn K (.ref el) (.type "ValueError") = some true)
    (sc_l : PySem.W.subIn K (.ref el) (.ref ec) = some true)
    (ga_l : PySem.W.findIn K (.ref el) "__getattribute__" = some (some (.builtin "BaseException.__getattribute__")))
    (gt_l : PySem.W.findIn K (.ref el) "__getattr__" = some none)
    (gc_l : PySem.W.findIn K (.ref el) "__class__" = some (some (.builtin "object.__class__")))
    (mo_l : PySem.W.mroIn K el (.type "object") = some true)
    (s_lp : PySem.W.subIn K (.ref el) (.ref ep) = some false)
    (s_lm : PySem.W.subIn K (.ref el) (.ref em) = some false)
    (s_ll : PySem.W.subIn K (.ref el) (.ref el) = some true)
    (s_lt : PySem.W.subIn K (.ref el) (.ref et) = some false)
    (x_t : PySem.W.excIn K et [.type "ValueError", .type "Exception", .type "BaseException", .type "object"] "ValueError.__new__" = true)
    (k_t : PySem.W.keepIn K (.ref et) = true)
    (v_t : PySem.W.subIn K (.ref et) (.type "ValueError") = some true)
    (sc_t : PySem.W.subIn K (.ref et) (.ref ec) = some true)
    (ga_t : PySem.W.findIn K (.ref et) "__getattribute__" = some (some (.builtin "BaseException.__getattribute__")))
    (gt_t : PySem.W.findIn K (.ref et) "__getattr__" = some none)
    (gc_t : PySem.W.findIn K (.ref et) "__class__" = some (some (.builtin "object.__class__")))
    (mo_t : PySem.W.mroIn K et (.type "object") = some true)
    (s_tp : PySem.W.subIn K (.ref et) (.ref ep) = some false)
    (s_tm : PySem.W.subIn K (.ref et) (.ref em) = some false)
    (s_tl : PySem.W.subIn K (.ref et) (.ref el) = some false)
    (s_tt : PySem.W.subIn K (.ref et) (.ref et) = some true)
    (hn : PySem.W.specialIn K (.builtin "object.__class__") "__get__" = some (some (.builtin "getset_descriptor.__get__")))
    (ht : PySem.W.takesIn K (.builtin "object.__class__") = some true)
    : ∃ fd : FuncData, (∀ (s : Shared) (v : Value), BindsTo s fd ⟨[v], []⟩ [("script", v)]) ∧ ∀ base : Heap, K.In base → base.Ns mainGlobals mg → FnOk l.prog w K mg base CX0 6 fa fd ["script"] (sp_law K) := by
  have e := hfa.symm.trans (PySem.W.mg_of X G a33)
  cases e
  have Ep : EC K ep ec := ⟨x_p, k_p, b_p, t_p, PySem.W.exm_ref b_c d_c t_c sc_p, ⟨ga_p, gt_p, b_p, d_p, gc_p, hn, ht, mo_p⟩, kit_ve v_p⟩
  have Em : EC K em ec := ⟨x_m, k_m, b_m, t_m, PySem.W.exm_ref b_c d_c t_c sc_m, ⟨ga_m, gt_m, b_m, d_m, gc_m, hn, ht, mo_m⟩, kit_ve v_m⟩
  have El : EC K el ec := ⟨x_l, k_l, b_l, t_l, PySem.W.exm_ref b_c d_c t_c sc_l, ⟨ga_l, gt_l, b_l, d_l, gc_l, hn, ht, mo_l⟩, kit_ve v_l⟩
  have Et : EC K et ec := ⟨x_t, k_t, b_t, t_t, PySem.W.exm_ref b_c d_c t_c sc_t, ⟨ga_t, gt_t, b_t, d_t, gc_t, hn, ht, mo_t⟩, kit_ve v_t⟩
  have R : ErOk K mg ⟨ep, em, el, et, ec⟩ := ⟨PySem.W.mg_of X G a_p, PySem.W.mg_of X G a_m, PySem.W.mg_of X G a_l, PySem.W.mg_of X G a_t, PySem.W.mg_of X G a_c, Ep, Em, El, Et, kit_self, kit_no d_m t_m s_pm s_pp, kit_no d_l t_l s_pl s_pp, kit_no d_t t_t s_pt s_pp, kit_no d_p t_p s_mp s_mm, kit_self, kit_no d_l t_l s_ml s_mm, kit_no d_t t_t s_mt s_mm, kit_no d_p t_p s_lp s_ll, kit_no d_m t_m s_lm s_ll, kit_self, kit_no d_t t_t s_lt s_ll, kit_no d_p t_p s_tp s_tt, kit_no d_m t_m s_tm s_tt, kit_no d_l t_l s_tl s_tt, kit_self⟩
  have F1 := fun_mk (st := s_is_prime) l1 c1 k1
  have b1 := F1.binds (ps := ["number"]) fun _ _ _ _ _ _ us hl => match us, hl with | [_], _ => rfl
  have F2 := fun_mk (st := s_asked_prime) l2 c2 k2
  have b2 := F2.binds (ps := ["prime"]) fun _ _ _ _ _ _ us hl => match us, hl with | [_], _ => rfl
  have F3 := fun_mk (st := s_asked_many) l3 c3 k3
  have b3 := F3.binds (ps := ["many"]) fun _ _ _ _ _ _ us hl => match us, hl with | [_], _ => rfl
  have F4 := fun_mk (st := s_figures_of) l4 c4 k4
  have b4 := F4.binds (ps := ["number", "prime"]) fun _ _ _ _ _ _ us hl => match us, hl with | [_, _], _ => rfl
  have F5 := fun_mk (st := s_figures) l5 c5 k5
  have b5 := F5.binds (ps := ["number", "prime"]) fun _ _ _ _ _ _ us hl => match us, hl with | [_, _], _ => rfl
  have F6 := fun_mk (st := s_carried) l6 c6 k6
  have b6 := F6.binds (ps := ["one", "other", "prime"]) fun _ _ _ _ _ _ us hl => match us, hl with | [_, _, _], _ => rfl
  have F7 := fun_mk (st := s_carries) l7 c7 k7
  have b7 := F7.binds (ps := ["one", "other", "prime"]) fun _ _ _ _ _ _ us hl => match us, hl with | [_, _, _], _ => rfl
  have F8 := fun_mk (st := s_order_power) l8 c8 k8
  have b8 := F8.binds (ps := ["number", "prime"]) fun _ _ _ _ _ _ us hl => match us, hl with | [_, _], _ => rfl
  have F9 := fun_mk (st := s_count) l9 c9 k9
  have b9 := F9.binds (ps := ["many", "some"]) fun _ _ _ _ _ _ us hl => match us, hl with | [_, _], _ => rfl
  have F10 := fun_mk (st := s_choices) l10 c10 k10
  have b10 := F10.binds (ps := ["many", "some"]) fun _ _ _ _ _ _ us hl => match us, hl with | [_, _], _ => rfl
  have F11 := fun_mk (st := s_rest) l11 c11 k11
  have b11 := F11.binds (ps := ["many", "some", "prime"]) fun _ _ _ _ _ _ us hl => match us, hl with | [_, _, _], _ => rfl
  have F12 := fun_mk (st := s_power) l12 c12 k12
  have b12 := F12.binds (ps := ["many", "some", "prime"]) fun _ _ _ _ _ _ us hl => match us, hl with | [_, _, _], _ => rfl
  have F13 := fun_mk (st := s_order) l13 c13 k13
  have b13 := F13.binds (ps := ["figure", "prime"]) fun _ _ _ _ _ _ us hl => match us, hl with | [_, _], _ => rfl
  have F14 := fun_mk (st := s_contrary) l14 c14 k14
  have b14 := F14.binds (ps := ["number", "prime"]) fun _ _ _ _ _ _ us hl => match us, hl with | [_, _], _ => rfl
  have F15 := fun_mk (st := s_last) l15 c15 k15
  have b15 := F15.binds (ps := ["many", "some", "prime"]) fun _ _ _ _ _ _ us hl => match us, hl with | [_, _, _], _ => rfl
  have F16 := fun_mk (st := s_product) l16 c16 k16
  have b16 := F16.binds (ps := ["numbers"]) fun _ _ _ _ _ _ us hl => match us, hl with | [_], _ => rfl
  have F17 := fun_mk (st := s_number_of) l17 c17 k17
  have b17 := F17.binds (ps := ["row", "prime"]) fun _ _ _ _ _ _ us hl => match us, hl with | [_, _], _ => rfl
  have F18 := fun_mk (st := s_free) l18 c18 k18
  have b18 := F18.binds (ps := ["many", "prime"]) fun _ _ _ _ _ _ us hl => match us, hl with | [_, _], _ => rfl
  have F19 := fun_mk (st := s_padded) l19 c19 k19
  have b19 := F19.binds (ps := ["number", "prime", "size"]) fun _ _ _ _ _ _ us hl => match us, hl with | [_, _, _], _ => rfl
  have F20 := fun_mk (st := s_next_free) l20 c20 k20
  have b20 := F20.binds (ps := ["many", "place", "prime"]) fun _ _ _ _ _ _ us hl => match us, hl with | [_, _, _], _ => rfl
  have F21 := fun_mk (st := s_free_ahead) l21 c21 k21
  have b21 := F21.binds (ps := ["many", "place", "prime"]) fun _ _ _ _ _ _ us hl => match us, hl with | [_, _, _], _ => rfl
  have F22 := fun_mk (st := s_free_at) l22 c22 k22
  have b22 := F22.binds (ps := ["many", "number", "prime"]) fun _ _ _ _ _ _ us hl => match us, hl with | [_, _, _], _ => rfl
  have F23 := fun_mk (st := s_is_bare) l23 c23 k23
  have b23 := F23.binds (ps := ["many", "prime"]) fun _ _ _ _ _ _ us hl => match us, hl with | [_, _], _ => rfl
  have F24 := fun_mk (st := s_is_full) l24 c24 k24
  have b24 := F24.binds (ps := ["many", "prime"]) fun _ _ _ _ _ _ us hl => match us, hl with | [_, _], _ => rfl
  have F25 := fun_mk (st := s__law_cell_at) l25 c25 k25
  have b25 := F25.binds (ps := ["script", "k"]) fun _ _ _ _ _ _ us hl => match us, hl with | [_, _], _ => rfl
  have F26 := fun_mk (st := s__law_prime_by) l26 c26 k26
  have b26 := F26.binds (ps := ["cell"]) fun _ _ _ _ _ _ us hl => match us, hl with | [_], _ => rfl
  have F27 := fun_mk (st := s__law_many_by) l27 c27 k27
  have b27 := F27.binds (ps := ["script", "first", "prime"]) fun _ _ _ _ _ _ us hl => match us, hl with | [_, _, _], _ => rfl
  have F28 := fun_mk (st := s__law_word_of) l28 c28 k28
  have b28 := F28.binds (ps := ["e"]) fun _ _ _ _ _ _ us hl => match us, hl with | [_], _ => rfl
  have F29 := fun_mk (st := s__law_first) l29 c29 k29
  have b29 := F29.binds (ps := ["which", "many", "prime"]) fun _ _ _ _ _ _ us hl => match us, hl with | [_, _, _], _ => rfl
  have F30 := fun_mk (st := s__law_second) l30 c30 k30
  have b30 := F30.binds (ps := ["which", "many", "prime", "number"]) fun _ _ _ _ _ _ us hl => match us, hl with | [_, _, _, _], _ => rfl
  have F31 := fun_mk (st := s__law_tried) l31 c31 k31
  have b31 := F31.binds (ps := ["which", "many", "prime", "number"]) fun _ _ _ _ _ _ us hl => match us, hl with | [_, _, _, _], _ => rfl
  have F32 := fun_mk (st := s__law_choosing) l32 c32 k32
  have b32 := F32.binds (ps := ["many", "some"]) fun _ _ _ _ _ _ us hl => match us, hl with | [_, _], _ => rfl
  have F33 := fun_mk (st := s_law) l33 c33 k33
  refine ⟨PySem.W.fnOf "law" "law" (defArgs s_law) (defBody s_law) (defScope s_law) .none kV33 dc33 pm33 an33 cd33 ct33, fun s v => .of_eq rfl, fun base _ _ => ?_⟩
  have D1 : Def l.prog w K mg base CX0 1 "is_prime" ["number"] (sp_is_prime K) f1 _ := ⟨ok_is_prime F1 (PySem.W.mg_none_of X G z_all) (PySem.W.mg_none_of X G z_range) (PySem.W.mg_of X G g_GREATEST_PRIME), PySem.W.mg_of X G a1, k1, b1⟩
  have D3 : Def l.prog w K mg base CX0 1 "asked_many" ["many"] (sp_asked_many K) f3 _ := ⟨ok_asked_many F3 (PySem.W.mg_of X G g_GREATEST), PySem.W.mg_of X G a3, k3, b3⟩
  have X3 : Def l.prog w K mg base (L2.CX l.prog w) 1 "asked_many" ["many"] (sxP okM em) f3 _ := ⟨okx_asked_many F3 (PySem.W.mg_of X G g_GREATEST) R, PySem.W.mg_of X G a3, k3, b3⟩
  have D4 : Def l.prog w K mg base CX0 1 "figures_of" ["number", "prime"] (sp_figures_of K) f4 _ := ⟨ok_figures_of F4, PySem.W.mg_of X G a4, k4, b4⟩
  have D6 : Def l.prog w K mg base CX0 1 "carried" ["one", "other", "prime"] (sp_carried K) f6 _ := ⟨ok_carried F6 (PySem.W.mg_none_of X G z_int), PySem.W.mg_of X G a6, k6, b6⟩
  have D9 : Def l.prog w K mg base CX0 1 "count" ["many", "some"] (sp_count K) f9 _ := ⟨ok_count F9 (PySem.W.mg_none_of X G z_range), PySem.W.mg_of X G a9, k9, b9⟩
  have D13 : Def l.prog w K mg base CX0 1 "order" ["figure", "prime"] (sp_order K) f13 _ := ⟨ok_order F13 (PySem.W.mg_none_of X G z_range), PySem.W.mg_of X G a13, k13, b13⟩
  have D14 : Def l.prog w K mg base CX0 1 "contrary" ["number", "prime"] (sp_contrary K) f14 _ := ⟨ok_contrary F14 (PySem.W.mg_none_of X G z_range), PySem.W.mg_of X G a14, k14, b14⟩
  have D16 : Def l.prog w K mg base CX0 1 "product" ["numbers"] (sp_product K) f16 _ := ⟨ok_product F16, PySem.W.mg_of X G a16, k16, b16⟩
  have D17 : Def l.prog w K mg base CX0 1 "number_of" ["row", "prime"] (sp_number_of K) f17 _ := ⟨ok_number_of F17 (PySem.W.mg_none_of X G z_reversed), PySem.W.mg_of X G a17, k17, b17⟩
  have D25 : Def l.prog w K mg base CX0 1 "_law_cell_at" ["script", "k"] (sp__law_cell_at K) f25 _ := ⟨ok__law_cell_at F25 (PySem.W.mg_none_of X G z_len), PySem.W.mg_of X G a25, k25, b25⟩
  have D26 : Def l.prog w K mg base CX0 1 "_law_prime_by" ["cell"] (sp__law_prime_by K) f26 _ := ⟨ok__law_prime_by F26, PySem.W.mg_of X G a26, k26, b26⟩
  have D28 : DefE l.prog w K mg base 1 "_law_word_of" ["e"] (sp__law_word_of K ⟨ep, em, el, et, ec⟩) f28 _ := ⟨oke__law_word_of F28 (PySem.W.mg_none_of X G z_isinstance) (PySem.W.mg_none_of X G z_ValueError) R, PySem.W.mg_of X G a28, k28, b28⟩
  have D2 : Def l.prog w K mg base CX0 2 "asked_prime" ["prime"] (sp_asked_prime K) f2 _ := ⟨ok_asked_prime F2 D1, PySem.W.mg_of X G a2, k2, b2⟩
  have X2 : Def l.prog w K mg base (L2.CX l.prog w) 2 "asked_prime" ["prime"] (sxP isPb ep) f2 _ := ⟨okx_asked_prime F2 D1 R, PySem.W.mg_of X G a2, k2, b2⟩
  have D10 : Def l.prog w K mg base CX0 2 "choices" ["many", "some"] (sp_choices K) f10 _ := ⟨ok_choices F10 D3 D9 (PySem.W.mg_of X G g_MOST), PySem.W.mg_of X G a10, k10, b10⟩
  have X10 : Def l.prog w K mg base (L2.CX l.prog w) 2 "choices" ["many", "some"] (sx_choices K ⟨ep, em, el, et, ec⟩) f10 _ := ⟨FnOk.both (FnOk.lift D10.ok) (okx_choices F10 X3 (PySem.W.mg_of X G g_MOST) R), PySem.W.mg_of X G a10, k10, b10⟩
  have D19 : Def l.prog w K mg base CX0 2 "padded" ["number", "prime", "size"] (sp_padded K) f19 _ := ⟨ok_padded F19 D4 (PySem.W.mg_none_of X G z_range) (PySem.W.mg_none_of X G z_len), PySem.W.mg_of X G a19, k19, b19⟩
  have D27 : Def l.prog w K mg base CX0 2 "_law_many_by" ["script", "first", "prime"] (sp__law_many_by K) f27 _ := ⟨ok__law_many_by F27 D25 (PySem.W.mg_none_of X G z_range), PySem.W.mg_of X G a27, k27, b27⟩
  have D5 : Def l.prog w K mg base CX0 3 "figures" ["number", "prime"] (sp_figures K) f5 _ := ⟨ok_figures F5 D2 D3 D4, PySem.W.mg_of X G a5, k5, b5⟩
  have X5 : Def l.prog w K mg base (L2.CX l.prog w) 3 "figures" ["number", "prime"] (sx_figures K ⟨ep, em, el, et, ec⟩) f5 _ := ⟨FnOk.both (FnOk.lift D5.ok) (okx_figures F5 X2 X3 R), PySem.W.mg_of X G a5, k5, b5⟩
  have D7 : Def l.prog w K mg base CX0 3 "carries" ["one", "other", "prime"] (sp_carries K) f7 _ := ⟨ok_carries F7 D2 D3 D6, PySem.W.mg_of X G a7, k7, b7⟩
  have X7 : Def l.prog w K mg base (L2.CX l.prog w) 3 "carries" ["one", "other", "prime"] (sx_carries K ⟨ep, em, el, et, ec⟩) f7 _ := ⟨FnOk.both (FnOk.lift D7.ok) (okx_carries F7 X2 X3 R), PySem.W.mg_of X G a7, k7, b7⟩
  have D8 : Def l.prog w K mg base CX0 3 "order_power" ["number", "prime"] (sp_order_power K) f8 _ := ⟨ok_order_power F8 D2 D3, PySem.W.mg_of X G a8, k8, b8⟩
  have X8 : Def l.prog w K mg base (L2.CX l.prog w) 3 "order_power" ["number", "prime"] (sx_order_power K ⟨ep, em, el, et, ec⟩) f8 _ := ⟨FnOk.both (FnOk.lift D8.ok) (okx_order_power F8 X2 X3 R), PySem.W.mg_of X G a8, k8, b8⟩
  have D11 : Def l.prog w K mg base CX0 3 "rest" ["many", "some", "prime"] (sp_rest K) f11 _ := ⟨ok_rest F11 D2 D3 D9, PySem.W.mg_of X G a11, k11, b11⟩
  have X11 : Def l.prog w K mg base (L2.CX l.prog w) 3 "rest" ["many", "some", "prime"] (sx_rest K ⟨ep, em, el, et, ec⟩) f11 _ := ⟨FnOk.both (FnOk.lift D11.ok) (okx_rest F11 X2 X3 R), PySem.W.mg_of X G a11, k11, b11⟩
  have D12 : Def l.prog w K mg base CX0 3 "power" ["many", "some", "prime"] (sp_power K) f12 _ := ⟨ok_power F12 D2 D3 D6, PySem.W.mg_of X G a12, k12, b12⟩
  have X12 : Def l.prog w K mg base (L2.CX l.prog w) 3 "power" ["many", "some", "prime"] (sx_power K ⟨ep, em, el, et, ec⟩) f12 _ := ⟨FnOk.both (FnOk.lift D12.ok) (okx_power F12 X2 X3 R), PySem.W.mg_of X G a12, k12, b12⟩
  have D15 : Def l.prog w K mg base CX0 3 "last" ["many", "some", "prime"] (sp_last K) f15 _ := ⟨ok_last F15 D2 D3 D6 D13 D14, PySem.W.mg_of X G a15, k15, b15⟩
  have X15 : Def l.prog w K mg base (L2.CX l.prog w) 3 "last" ["many", "some", "prime"] (sx_last K ⟨ep, em, el, et, ec⟩) f15 _ := ⟨FnOk.both (FnOk.lift D15.ok) (okx_last F15 X2 X3 R), PySem.W.mg_of X G a15, k15, b15⟩
  have D18 : Def l.prog w K mg base CX0 3 "free" ["many", "prime"] (sp_free K) f18 _ := ⟨ok_free F18 D2 D3 D16 D4, PySem.W.mg_of X G a18, k18, b18⟩
  have X18 : Def l.prog w K mg base (L2.CX l.prog w) 3 "free" ["many", "prime"] (sx_free K ⟨ep, em, el, et, ec⟩) f18 _ := ⟨FnOk.both (FnOk.lift D18.ok) (okx_free F18 X2 X3 R), PySem.W.mg_of X G a18, k18, b18⟩
  have D20 : Def l.prog w K mg base CX0 3 "next_free" ["many", "place", "prime"] (sp_next_free K) f20 _ := ⟨ok_next_free F20 D2 D3 D4 D19 D17 (PySem.W.mg_none_of X G z_max) (PySem.W.mg_none_of X G z_len) (PySem.W.mg_none_of X G z_range), PySem.W.mg_of X G a20, k20, b20⟩
  have X20 : Def l.prog w K mg base (L2.CX l.prog w) 3 "next_free" ["many", "place", "prime"] (sx_next_free K ⟨ep, em, el, et, ec⟩) f20 _ := ⟨FnOk.both (FnOk.lift D20.ok) (okx_next_free F20 X2 X3 R), PySem.W.mg_of X G a20, k20, b20⟩
  have D21 : Def l.prog w K mg base CX0 3 "free_ahead" ["many", "place", "prime"] (sp_free_ahead K) f21 _ := ⟨ok_free_ahead F21 D2 D3 D4 D19 D16 (PySem.W.mg_none_of X G z_reversed) (PySem.W.mg_none_of X G z_max) (PySem.W.mg_none_of X G z_len) (PySem.W.mg_none_of X G z_range) (PySem.W.mg_none_of X G z_min), PySem.W.mg_of X G a21, k21, b21⟩
  have X21 : Def l.prog w K mg base (L2.CX l.prog w) 3 "free_ahead" ["many", "place", "prime"] (sx_free_ahead K ⟨ep, em, el, et, ec⟩) f21 _ := ⟨FnOk.both (FnOk.lift D21.ok) (okx_free_ahead F21 X2 X3 R), PySem.W.mg_of X G a21, k21, b21⟩
  have D22 : Def l.prog w K mg base CX0 3 "free_at" ["many", "number", "prime"] (sp_free_at K) f22 _ := ⟨ok_free_at F22 D2 D3 D4 D17 D16, PySem.W.mg_of X G a22, k22, b22⟩
  have X22 : Def l.prog w K mg base (L2.CX l.prog w) 3 "free_at" ["many", "number", "prime"] (sx_free_at K ⟨ep, em, el, et, ec⟩) f22 _ := ⟨FnOk.both (FnOk.lift D22.ok) (FnOk.both (okx_free_at F22 X2 X3 R) (okp_free_at F22 X2 X3 D4 D16 R)), PySem.W.mg_of X G a22, k22, b22⟩
  have D23 : Def l.prog w K mg base CX0 3 "is_bare" ["many", "prime"] (sp_is_bare K) f23 _ := ⟨ok_is_bare F23 D2 D3 D4 (PySem.W.mg_none_of X G z_all), PySem.W.mg_of X G a23, k23, b23⟩
  have X23 : Def l.prog w K mg base (L2.CX l.prog w) 3 "is_bare" ["many", "prime"] (sx_is_bare K ⟨ep, em, el, et, ec⟩) f23 _ := ⟨FnOk.both (FnOk.lift D23.ok) (okx_is_bare F23 X2 X3 R), PySem.W.mg_of X G a23, k23, b23⟩
  have D24 : Def l.prog w K mg base CX0 3 "is_full" ["many", "prime"] (sp_is_full K) f24 _ := ⟨ok_is_full F24 D2 D3 D16 D4, PySem.W.mg_of X G a24, k24, b24⟩
  have X24 : Def l.prog w K mg base (L2.CX l.prog w) 3 "is_full" ["many", "prime"] (sx_is_full K ⟨ep, em, el, et, ec⟩) f24 _ := ⟨FnOk.both (FnOk.lift D24.ok) (okx_is_full F24 X2 X3 R), PySem.W.mg_of X G a24, k24, b24⟩
  have D32 : Def l.prog w K mg base CX0 3 "_law_choosing" ["many", "some"] (sp__law_choosing K) f32 _ := ⟨ok__law_choosing F32 X10 D28 R, PySem.W.mg_of X G a32, k32, b32⟩
  have X29 : Def l.prog w K mg base (L2.CX l.prog w) 4 "_law_first" ["which", "many", "prime"] (sx__law_first K ⟨ep, em, el, et, ec⟩) f29 _ := ⟨okx__law_first F29 X5 X7 X8 X11 X12 X15 R, PySem.W.mg_of X G a29, k29, b29⟩
  have X30 : Def l.prog w K mg base (L2.CX l.prog w) 4 "_law_second" ["which", "many", "prime", "number"] (sx__law_second K ⟨ep, em, el, et, ec⟩) f30 _ := ⟨okx__law_second F30 X18 X20 X21 X23 X24 X22 R, PySem.W.mg_of X G a30, k30, b30⟩
  have D31 : Def l.prog w K mg base CX0 5 "_law_tried" ["which", "many", "prime", "number"] (sp__law_tried K) f31 _ := ⟨ok__law_tried F31 X29 X30 D28 R, PySem.W.mg_of X G a31, k31, b31⟩
  exact ok_law F33 D26 D27 D25 D18 D31 D32 (PySem.W.mg_none_of X G z_range)
end Ch
open PySem PySem.W PyProof.Rows
set_option maxHeartbeats 0 in
theorem PySem.Challenge.cw_choicefigures_k14_refused_holds : PySem.Challenge.rw_choicefigures_k14_refused.Holds := by
  w_on; o_law; k_head; (case hw => w_witness2)
  k_fill
  refine L2.walk_of (l := PySem.Challenge.rw_choicefigures_k14_refused) (n := 63) (k := 6) (x := "script") (CX := fun _ => L2.CX0) (sp := fun w => Ch.sp_law _) rfl (by decide) rfl ⟨rfl, by decide, by decide⟩ (fun w h Y => PySem.W.kIn_of Y) ?F (fun _ _ a ns hl _ hS => ⟨a, ns, rfl, hS, hl, fun _ => rfl⟩) (fun _ _ _ _ _ h => h)
  case F =>
    intro w mg fa h KX G hmg
    refine' Ch.all_mk KX G hmg ?a1 ?l1 ?c1 ?k1 ?a2 ?l2 ?c2 ?k2 ?a3 ?l3 ?c3 ?k3 ?a4 ?l4 ?c4 ?k4 ?a5 ?l5 ?c5 ?k5 ?a6 ?l6 ?c6 ?k6 ?a7 ?l7 ?c7 ?k7 ?a8 ?l8 ?c8 ?k8 ?a9 ?l9 ?c9 ?k9 ?a10 ?l10 ?c10 ?k10 ?a11 ?l11 ?c11 ?k11 ?a12 ?l12 ?c12 ?k12 ?a13 ?l13 ?c13 ?k13 ?a14 ?l14 ?c14 ?k14 ?a15 ?l15 ?c15 ?k15 ?a16 ?l16 ?c16 ?k16 ?a17 ?l17 ?c17 ?k17 ?a18 ?l18 ?c18 ?k18 ?a19 ?l19 ?c19 ?k19 ?a20 ?l20 ?c20 ?k20 ?a21 ?l21 ?c21 ?k21 ?a22 ?l22 ?c22 ?k22 ?a23 ?l23 ?c23 ?k23 ?a24 ?l24 ?c24 ?k24 ?a25 ?l25 ?c25 ?k25 ?a26 ?l26 ?c26 ?k26 ?a27 ?l27 ?c27 ?k27 ?a28 ?l28 ?c28 ?k28 ?a29 ?l29 ?c29 ?k29 ?a30 ?l30 ?c30 ?k30 ?a31 ?l31 ?c31 ?k31 ?a32 ?l32 ?c32 ?k32 ?a33 ?l33 ?c33 ?k33 ?z_all ?z_range ?z_int ?z_reversed ?z_len ?z_max ?z_min ?z_isinstance ?z_ValueError ?g_GREATEST_PRIME ?g_GREATEST ?g_MOST ?a_p ?a_m ?a_l ?a_t ?a_c ?b_p ?t_p ?d_p ?b_m ?t_m ?d_m ?b_l ?t_l ?d_l ?b_t ?t_t ?d_t ?b_c ?t_c ?d_c ?x_p ?k_p ?v_p ?sc_p ?ga_p ?gt_p ?gc_p ?mo_p ?s_pp ?s_pm ?s_pl ?s_pt ?x_m ?k_m ?v_m ?sc_m ?ga_m ?gt_m ?gc_m ?mo_m ?s_mp ?s_mm ?s_ml ?s_mt ?x_l ?k_l ?v_l ?sc_l ?ga_l ?gt_l ?gc_l ?mo_l ?s_lp ?s_lm ?s_ll ?s_lt ?x_t ?k_t ?v_t ?sc_t ?ga_t ?gt_t ?gc_t ?mo_t ?s_tp ?s_tm ?s_tl ?s_tt ?hn ?ht
    (case a1 => k_is); (case l1 => k_is); (case c1 => k_is); (case k1 => k_is); (case a2 => k_is); (case l2 => k_is)
    (case c2 => k_is); (case k2 => k_is); (case a3 => k_is); (case l3 => k_is); (case c3 => k_is); (case k3 => k_is)
    (case a4 => k_is); (case l4 => k_is); (case c4 => k_is); (case k4 => k_is); (case a5 => k_is); (case l5 => k_is)
    (case c5 => k_is); (case k5 => k_is); (case a6 => k_is); (case l6 => k_is); (case c6 => k_is); (case k6 => k_is)
    (case a7 => k_is); (case l7 => k_is); (case c7 => k_is); (case k7 => k_is); (case a8 => k_is); (case l8 => k_is)
    (case c8 => k_is); (case k8 => k_is); (case a9 => k_is); (case l9 => k_is); (case c9 => k_is); (case k9 => k_is)
    (case a10 => k_is); (case l10 => k_is); (case c10 => k_is); (case k10 => k_is); (case a11 => k_is); (case l11 => k_is)
    (case c11 => k_is); (case k11 => k_is); (case a12 => k_is); (case l12 => k_is); (case c12 => k_is); (case k12 => k_is)
    (case a13 => k_is); (case l13 => k_is); (case c13 => k_is); (case k13 => k_is); (case a14 => k_is); (case l14 => k_is)
    (case c14 => k_is); (case k14 => k_is); (case a15 => k_is); (case l15 => k_is); (case c15 => k_is); (case k15 => k_is)
    (case a16 => k_is); (case l16 => k_is); (case c16 => k_is); (case k16 => k_is); (case a17 => k_is); (case l17 => k_is)
    (case c17 => k_is); (case k17 => k_is); (case a18 => k_is); (case l18 => k_is); (case c18 => k_is); (case k18 => k_is)
    (case a19 => k_is); (case l19 => k_is); (case c19 => k_is); (case k19 => k_is); (case a20 => k_is); (case l20 => k_is)
    (case c20 => k_is); (case k20 => k_is); (case a21 => k_is); (case l21 => k_is); (case c21 => k_is); (case k21 => k_is)
    (case a22 => k_is); (case l22 => k_is); (case c22 => k_is); (case k22 => k_is); (case a23 => k_is); (case l23 => k_is)
    (case c23 => k_is); (case k23 => k_is); (case a24 => k_is); (case l24 => k_is); (case c24 => k_is); (case k24 => k_is)
    (case a25 => k_is); (case l25 => k_is); (case c25 => k_is); (case k25 => k_is); (case a26 => k_is); (case l26 => k_is)
    (case c26 => k_is); (case k26 => k_is); (case a27 => k_is); (case l27 => k_is); (case c27 => k_is); (case k27 => k_is)
    (case a28 => k_is); (case l28 => k_is); (case c28 => k_is); (case k28 => k_is); (case a29 => k_is); (case l29 => k_is)
    (case c29 => k_is); (case k29 => k_is); (case a30 => k_is); (case l30 => k_is); (case c30 => k_is); (case k30 => k_is)
    (case a31 => k_is); (case l31 => k_is); (case c31 => k_is); (case k31 => k_is); (case a32 => k_is); (case l32 => k_is)
    (case c32 => k_is); (case k32 => k_is); (case a33 => k_is); (case l33 => k_is); (case c33 => k_is); (case k33 => k_is)
    (case z_all => k_is); (case z_range => k_is); (case z_int => k_is); (case z_reversed => k_is); (case z_len => k_is); (case z_max => k_is)
    (case z_min => k_is); (case z_isinstance => k_is); (case z_ValueError => k_is); (case g_GREATEST_PRIME => k_is); (case g_GREATEST => k_is); (case g_MOST => k_is)
    (case a_p => k_is); (case a_m => k_is); (case a_l => k_is); (case a_t => k_is); (case a_c => k_is); (case b_p => k_is)
    (case t_p => k_is); (case d_p => k_is); (case b_m => k_is); (case t_m => k_is); (case d_m => k_is); (case b_l => k_is)
    (case t_l => k_is); (case d_l => k_is); (case b_t => k_is); (case t_t => k_is); (case d_t => k_is); (case b_c => k_is)
    (case t_c => k_is); (case d_c => k_is); (case x_p => k_exc); (case k_p => k_is); (case v_p => k_is); (case sc_p => k_is)
    (case ga_p => k_is); (case gt_p => k_is); (case gc_p => k_is); (case mo_p => k_is); (case s_pp => k_is); (case s_pm => k_is)
    (case s_pl => k_is); (case s_pt => k_is); (case x_m => k_exc); (case k_m => k_is); (case v_m => k_is); (case sc_m => k_is)
    (case ga_m => k_is); (case gt_m => k_is); (case gc_m => k_is); (case mo_m => k_is); (case s_mp => k_is); (case s_mm => k_is)
    (case s_ml => k_is); (case s_mt => k_is); (case x_l => k_exc); (case k_l => k_is); (case v_l => k_is); (case sc_l => k_is)
    (case ga_l => k_is); (case gt_l => k_is); (case gc_l => k_is); (case mo_l => k_is); (case s_lp => k_is); (case s_lm => k_is)
    (case s_ll => k_is); (case s_lt => k_is); (case x_t => k_exc); (case k_t => k_is); (case v_t => k_is); (case sc_t => k_is)
    (case ga_t => k_is); (case gt_t => k_is); (case gc_t => k_is); (case mo_t => k_is); (case s_tp => k_is); (case s_tm => k_is)
    (case s_tl => k_is); (case s_tt => k_is); (case hn => k_is); (case ht => k_is)
