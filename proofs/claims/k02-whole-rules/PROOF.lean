import PyProof.Rows.All
import Wide.All
import OpenK.AllK
import Wide.FinOn
import HandS.ForMost
import HandS.Evl
import HandS.Wide
import HandS.IsInst
import HandS.RevRange
import HandS.SortKw
import PySem.Challenge.RW_choicefigures_k02_whole_rules_of_choices
set_option Elab.async false
set_option linter.all false
set_option maxRecDepth 100000
set_option maxHeartbeats 4000000
namespace Ch
/-! ### choices -/
def C : Nat → Nat → Nat
  | _, 0 => 1
  | 0, _ + 1 => 0
  | n + 1, k + 1 => C n k + C n (k + 1)
theorem C_0r (n : Nat) : C n 0 = 1 := by cases n <;> rfl
theorem C_0s (k : Nat) : C 0 (k + 1) = 0 := rfl
theorem C_ss (n k : Nat) : C (n + 1) (k + 1) = C n k + C n (k + 1) := rfl
theorem C_gt : ∀ {n k : Nat}, n < k → C n k = 0
  | 0, k + 1, _ => rfl
  | n + 1, k + 1, h => by rw [C_ss, C_gt (show n < k by omega), C_gt (show n < k + 1 by omega)]
theorem C_self : ∀ n : Nat, C n n = 1
  | 0 => rfl
  | n + 1 => by rw [C_ss, C_self n, C_gt (Nat.lt_succ_self n)]
theorem C_pos : ∀ {n k : Nat}, k ≤ n → 0 < C n k
  | n, 0, _ => by rw [C_0r]; exact Nat.one_pos
  | n + 1, k + 1, h => by
    rw [C_ss]
    have := C_pos (show k ≤ n by omega)
    omega
/-- so many times the choices of one thing more, of one chosen more -/
theorem C_abs : ∀ n k : Nat, (k + 1) * C (n + 1) (k + 1) = (n + 1) * C n k
  | 0, 0 => rfl
  | 0, k + 1 => by rw [C_ss, C_0s, C_0s]; simp
  | n + 1, 0 => by
    have h := C_abs n 0
    rw [C_0r] at h
    rw [C_ss (n + 1) 0, C_0r]
    omega
  | n + 1, k + 1 => by
    have h1 := C_abs n k
    have h2 := C_abs n (k + 1)
    rw [C_ss (n + 1) (k + 1)]
    have h3 := C_ss n k
    grind
theorem C_step (n k : Nat) (h : k ≤ n) : (k + 1) * C n (k + 1) = (n - k) * C n k := by
  have h1 := C_abs n k
  rw [C_ss] at h1
  obtain ⟨d, rfl⟩ : ∃ d, n = k + d := ⟨n - k, by omega⟩
  rw [Nat.add_sub_cancel_left]
  grind
theorem C_symm : ∀ n k : Nat, k ≤ n → C n (n - k) = C n k
  | 0, 0, _ => rfl
  | n + 1, 0, _ => by rw [C_0r, Nat.sub_zero, C_self]
  | n + 1, k + 1, h => by
    rw [Nat.add_sub_add_right]
    by_cases e : k = n
    · subst e
      rw [Nat.sub_self, C_0r, C_self]
    · obtain ⟨d, hd⟩ : ∃ d, n - k = d + 1 := ⟨n - k - 1, by omega⟩
      have a1 := C_symm n k (by omega)
      have a2 := C_symm n (k + 1) (by omega)
      rw [show n - (k + 1) = d by omega] at a2
      rw [hd] at a1
      rw [hd, C_ss, C_ss, a1, a2]
      omega
/-! ### the primes -/
def ps : List Nat := [2, 3, 5, 7, 11, 13, 17, 19, 23, 29, 31, 37, 41, 43, 47, 53, 59, 61, 67, 71, 73, 79, 83, 89, 97]
def IsP (p : Nat) : Prop := p ∈ ps
theorem IsP.ge {p : Nat} (h : IsP p) : 2 ≤ p := (show ∀ p ∈ ps, 2 ≤ p by decide) p h
theorem IsP.le {p : Nat} (h : IsP p) : p ≤ 97 := (show ∀ p ∈ ps, p ≤ 97 by decide) p h
theorem IsP.dvd {p : Nat} (h : IsP p) {d : Nat} (hd : d ∣ p) : d = 1 ∨ d = p := by
  have hp := h.ge
  have hl := h.le
  have hle := Nat.le_of_dvd (by omega) hd
  exact (show ∀ p ∈ ps, ∀ d, d < 98 → d ∣ p → d = 1 ∨ d = p by decide +kernel) p h d (by omega) hd
theorem IsP.cop {p : Nat} (h : IsP p) {a : Nat} (ha : a % p ≠ 0) : Nat.Coprime p a := by
  rcases h.dvd (Nat.gcd_dvd_left p a) with e | e
  · exact e
  · exact absurd (Nat.mod_eq_zero_of_dvd (e ▸ Nat.gcd_dvd_right p a)) ha
theorem IsP.mul {p : Nat} (h : IsP p) {a b : Nat} (ha : a % p ≠ 0) (hb : b % p ≠ 0) : a * b % p ≠ 0 := fun e =>
  hb (Nat.mod_eq_zero_of_dvd ((h.cop ha).dvd_of_dvd_mul_left (Nat.dvd_of_mod_eq_zero e)))
/-- a factor that the prime does not go into may be dropped -/
theorem IsP.cancel {p : Nat} (h : IsP p) {a b c : Nat} (hc : c % p ≠ 0) (e : a * c % p = b * c % p) : a % p = b % p := by
  have key : ∀ a b : Nat, a ≤ b → a * c % p = b * c % p → a % p = b % p := fun a b hab e => by
    have d : p ∣ (b - a) * c := by
      rw [Nat.sub_mul]
      exact Nat.dvd_of_mod_eq_zero (Nat.sub_mod_eq_zero_of_mod_eq e.symm)
    obtain ⟨t, ht⟩ := (h.cop hc).dvd_of_dvd_mul_right d
    have hb : b = a + p * t := by omega
    rw [hb, Nat.add_mul_mod_self_left]
  rcases Nat.le_total a b with hab | hab
  · exact key a b hab e
  · exact (key b a hab e.symm).symm
end Ch

namespace Ch
open PySem L2 Evl
/-! ### a def that stands and keeps its promise -/
structure Def (P : Program) (w : World) (K : PySem.W.Frag) (mg : Str → Option Value) (base : Heap) (CX : CXT) (k : Nat) (x : Str) (ps : List Str) (sp : Sp) (f : Addr) (fd : FuncData) : Prop where
  ok : FnOk P w K mg base CX k f fd ps sp
  g : mg x = some (.ref f)
  kp : PySem.W.keepIn K (.ref f) = true
  b : Binds K fd ps []
/-! ### what evaluates to what: some value with a property; a list that stands -/
def EvP (te : TE) (σ : L2.St) (H : Hp) (P : V → Prop) : Prop := ∀ H1, Ex H H1 → ∀ Q : VK, (∀ v H2, P v → Ex H1 H2 → Q v H2) → te σ H1 Q
def EvK (te : TE) (σ : L2.St) (H : Hp) (xs : List V) : Prop := ∀ H1, Ex H H1 → ∀ Q : VK, (∀ p H2, Ex H1 H2 → H2 p = some (.lst xs) → Q (.ref p) H2) → te σ H1 Q
def SpP (sp : Sp) (vs : List V) (H : Hp) (P : V → Prop) : Prop := ∀ H1, Ex H H1 → ∀ Q : VK, (∀ v H2, P v → Ex H1 H2 → Q v H2) → ∀ E : XK, sp vs H1 Q E
section
variable {K : PySem.W.Frag} {σ : L2.St} {H H' : Hp} {ta tb te tx : TE} {t u : TT} {x y z v : V} {r : R2} {P : V → Prop} {D : Ends} {tz tu tw : TS}
theorem EvP.of (h : Ev te σ H v) (p : P v) : EvP te σ H P := fun H1 e Q q => h H1 e Q fun H2 e2 => q v H2 p e2
theorem evp_call {sp : Sp} {dvs vs : List V} {E : XK} {ta : TA} (h : EvA ta σ H vs) (hs : SpP sp (vs ++ dvs) H P) : EvP (tCall sp dvs E ta) σ H P := fun H1 e Q q =>
  h H1 e _ fun H2 e2 => hs H2 (e.trans e2) Q (fun v H3 p e3 => q v H3 p (e2.trans e3)) E
theorem s_asgP {i : Nat} (h : EvP te σ H P) (k : ∀ v H1, P v → Ex H H1 → D.nx (σ.set i (some v)) H1) : tAsg te (gName i) D σ H := h H (Ex.refl H) _ fun v H1 p e => k v H1 p e
theorem q_asgP {i : Nat} (h : EvP te σ H P) (k : ∀ v H1, P v → Ex H H1 → tz D (σ.set i (some v)) H1) : tSeq (tAsg te (gName i)) tz D σ H := s_asgP (D := { D with nx := tz D }) h k
/-- a step on values behind a part of which a property is known -/
theorem evp_bind {f : TE} (h : EvP ta σ H P) {P2 : V → Prop} {r : V → Hp → VK → Prop} (hr : ∀ v H1, P v → Ex H H1 → ∀ Q : VK, (∀ w H2, P2 w → Ex H1 H2 → Q w H2) → r v H1 Q) : EvP (fun σ H Q => ta σ H fun v H1 => r v H1 Q) σ H P2 := fun H1 e Q q =>
  h H1 e _ fun v H2 p e2 => hr v H2 p (e.trans e2) Q fun w H3 p2 e3 => q w H3 p2 (e2.trans e3)
theorem EvK.of (h : EvL te σ H xs) : EvK te σ H xs := fun H1 e Q q => h H1 e Q fun p H2 _ e2 hp => q p H2 e2 hp
theorem ek_var {p : Addr} {xs : List V} (h : Ev te σ H (.ref p)) (hp : H p = some (.lst xs)) : EvK te σ H xs := fun H1 e Q q => h H1 e Q fun H2 e2 => q p H2 e2 (e2 p _ (e p _ hp))
theorem EvK.mono {xs : List V} (e : Ex H H') (h : EvK te σ H xs) : EvK te σ H' xs := fun H1 a Q q => h H1 (e.trans a) Q q
/-- xs + ys -/
theorem el_cat {xs ys : List V} (ha : EvK ta σ H xs) (hb : EvK tb σ H ys) (hz : xs.length + ys.length ≤ 100000) : EvL (tOp rCat ta tb) σ H (xs ++ ys) := fun H1 e Q k =>
  ha H1 e _ fun p H2 e2 hp => hb H2 (e.trans e2) _ fun q H3 e3 hq => ⟨p, q, xs, ys, rfl, rfl, e3 p _ hp, hq, sz_of hz, fun l hl => k l _ (fresh_back (e2.trans e3) hl) ((e2.trans e3).trans (Ex.new hl)) upd_same⟩
/-- len, sum, all, min, max of a list; int(bool) -/
theorem ev_lenK {xs : List V} (ha : EvK ta σ H xs) : Ev (tCB (rLenS K) (tCons ta tNil)) σ H (.int (xs.length : Int)) := fun H1 e Q q =>
  ha H1 e _ fun p H2 e2 h2 => ⟨p, xs, rfl, Or.inl (sq_of h2), q H2 e2⟩
theorem ev_sumK {ns : List Int} (ha : EvK ta σ H (ns.map V.int)) : Ev (tCB (rSum K) (tCons ta tNil)) σ H (.int ns.sum) := fun H1 e Q q =>
  ha H1 e _ fun p H2 e2 h2 => ⟨p, ns, rfl, sq_of h2, q H2 e2⟩
theorem ev_allK {bs : List Bool} (ha : EvK ta σ H (bs.map V.bl)) : Ev (tCB (rAll K) (tCons ta tNil)) σ H (.bl (bs.all id)) := fun H1 e Q q =>
  ha H1 e _ fun p H2 e2 h2 => ⟨p, bs, rfl, sq_of h2, q H2 e2⟩
def rMin2 : List V → Hp → VK → Prop := fun xs H Q => ∃ i j, xs = [.int i, .int j] ∧ Q (.int (if j < i then j else i)) H
theorem ev_min2 {i j : Int} (ha : Ev ta σ H (.int i)) (hb : Ev tb σ H (.int j)) : Ev (tCB rMin2 (tCons ta (tCons tb tNil))) σ H (.int (if j < i then j else i)) := fun H1 e Q q =>
  ha H1 e _ fun H2 e2 => hb H2 (e.trans e2) _ fun H3 e3 => ⟨i, j, rfl, q H3 (e2.trans e3)⟩
def rInt1 : List V → Hp → VK → Prop := fun xs H Q => (∃ i, xs = [.int i] ∧ Q (.int i) H) ∨ ∃ k, xs = [.bl k] ∧ Q (.int (if k then 1 else 0)) H
theorem ev_intB {b : Bool} (ha : Ev ta σ H (.bl b)) : Ev (tCB rInt1 (tCons ta tNil)) σ H (.int (if b then 1 else 0)) := fun H1 e Q q =>
  ha H1 e _ fun H2 e2 => Or.inr ⟨b, rfl, q H2 e2⟩
/-- isinstance(n, int), of an int | of a bool; isinstance(n, bool) -/
theorem ev_isi {x : V} {T : String} {t : Value} {b : Bool} (ha : Ev ta σ H x) (hb : Ev tb σ H (.ty T)) (ht : ∀ H1, TyX K H1 x t) (hk : PySem.W.kitOne K t (.type T) = some b) : Ev (tCB (rIsi K) (tCons ta (tCons tb tNil))) σ H (.bl b) := fun H1 e Q q =>
  ha H1 e _ fun H2 e2 => hb H2 (e.trans e2) _ fun H3 e3 => ⟨x, .ty T, t, .type T, b, rfl, .ty T, ht H3, hk, q H3 (e2.trans e3)⟩
/-- a < b < c -/
theorem ev_chain {r r' : R2} {te' : TE} {z : V} {a b : Bool} (ha : Ev ta σ H x) (hb : Ev tb σ H y) (hr : RV r x y H (.bl a)) (hc : a = true → Ev tx σ H z) (hr' : a = true → RV r' y z H (.bl b)) : Ev (tChain r r' ta tb tx) σ H (.bl (a && b)) := fun H1 e Q q =>
  ha H1 e _ fun H2 e2 => hb H2 (e.trans e2) _ fun H3 e3 => hr H3 ((e.trans e2).trans e3) _ fun H4 e4 => ⟨a, rfl, by
    have E4 := ((e.trans e2).trans e3).trans e4
    have E1 := (e2.trans e3).trans e4
    cases a with
    | true =>
      show tx σ H4 fun w' H5 => r' y w' H5 Q
      exact hc rfl H4 E4 _ fun H5 e5 => hr' rfl H5 (E4.trans e5) Q fun H6 e6 => q H6 ((E1.trans e5).trans e6)
    | false =>
      show Q (.bl false) H4
      exact q H4 E1⟩
theorem et_yes : EvT tYes σ H true := fun H1 _ _ q => q H1 (Ex.refl H1)
/-- None -/
theorem rv_isN {x : V} : RV (fun x y H Q => y = .non ∧ Q (.bl (decide (x = .non))) H) x .non H (.bl (decide (x = .non))) := fun H1 _ _ q => ⟨rfl, q H1 (Ex.refl H1)⟩
/-! ### comprehensions -/
def Cl (H : Hp) (xs : List V) (Dl : Addr) (H' : Hp) : Prop := H Dl = none ∧ Ex H H' ∧ H' Dl = some (.lst xs)
theorem cl_turn {H H' : Hp} {xs : List V} {b : Bool} {w : V} {Dl : Addr} {σ2 : L2.St} (p : Cl H xs Dl H') (hi : xs.length < 50000) (ht : EvT t σ2 H b) (he : b = true → Ev te σ2 H w) :
    t σ2 H' fun b' H3 => if b' = true then te σ2 H3 fun y H4 => ∃ acc, H4 Dl = some (.lst acc) ∧ acc.length < sizeLine ∧ Cl H (xs ++ (if b = true then [w] else [])) Dl (upd H4 Dl (.lst (acc ++ [y]))) else Cl H (xs ++ (if b = true then [w] else [])) Dl H3 := by
  obtain ⟨p1, p2, p3⟩ := p
  refine ht H' p2 _ fun H3 e3 => ?_
  cases b with
  | true =>
    refine he rfl H3 (p2.trans e3) _ fun H4 e4 => ⟨xs, e4 Dl _ (e3 Dl _ p3), sz_lt (by omega), p1, Ex.mut ((p2.trans e3).trans e4) p1, ?_⟩
    exact upd_same
  | false =>
    refine ⟨p1, p2.trans e3, ?_⟩
    show H3 Dl = some (.lst (xs ++ []))
    rw [List.append_nil]
    exact e3 Dl _ p3
theorem fm_more {α : Type} {l : List α} {b : α → Bool} {ψ : α → V} {i : Nat} {a : α} (h : l[i]? = some a) : ((l.take i).filter b).map ψ ++ (if b a = true then [ψ a] else []) = ((l.take (i + 1)).filter b).map ψ := by
  rw [List.take_add_one, h, List.filter_append, List.map_append]
  cases hb : b a <;> simp [hb]
theorem fm_len {α : Type} {l : List α} {b : α → Bool} {ψ : α → V} (i : Nat) : (((l.take i).filter b).map ψ).length ≤ l.length := by
  rw [List.length_map]
  have h := List.length_filter_le b (l.take i)
  rw [List.length_take] at h
  omega
/-- over a list whose items are φ of l's -/
theorem el_fm {α : Type} {l : List α} {φ : α → V} {tl : TE} {j : Nat} {vs : List Nat} (b : α → Bool) (ψ : α → V) (h : EvK tl σ H (l.map φ)) (hz : l.length ≤ 40000) (hw : ∀ x, wipe ((wipe σ vs).set j (some x)) vs = wipe σ vs)
    (ht : ∀ a H1, Ex H H1 → a ∈ l → EvT t ((wipe σ vs).set j (some (φ a))) H1 (b a)) (he : ∀ a H1, Ex H H1 → a ∈ l → b a = true → Ev te ((wipe σ vs).set j (some (φ a))) H1 (ψ a)) :
    EvL (tLc (iList K tl) (gName j) t te vs) σ H ((l.filter b).map ψ) := fun H0 e Q q => h H0 e _ fun a H1 e1 hx => ⟨a, rfl, ⟨l.map φ, sq_of hx⟩, fun Dl hD =>
  lc_list (xs := l.map φ) (fun i H' => Cl H1 (((l.take i).filter b).map ψ) Dl H') ⟨hD, Ex.new hD, upd_same⟩ (fun i H' _ p => sq_of (p.2.1 a _ hx)) (fun i x H' hi p => by
    rw [List.getElem?_map] at hi
    cases hl : l[i]? with
    | none =>
      rw [hl] at hi
      cases hi
    | some c =>
      rw [hl] at hi
      have ex : φ c = x := Option.some.inj hi
      subst ex
      have hm : c ∈ l := List.mem_of_getElem? hl
      refine ⟨hw _, ?_⟩
      rw [← fm_more hl]
      exact cl_turn p (by have := fm_len (l := l) (b := b) (ψ := ψ) i; omega) (ht c H1 (e.trans e1) hm) (fun hf => he c H1 (e.trans e1) hm hf)) (fun H' p => by
        rw [List.length_map, List.take_length] at p
        exact q Dl H' (fresh_back e1 p.1) (e1.trans p.2.1) p.2.2)⟩
/-- over a range -/
theorem el_fmR1 {n : Nat} {ta : TA} {j : Nat} {vs : List Nat} (b : Nat → Bool) (ψ : Nat → V) (h : EvA ta σ H [.int (n : Int)]) (hz : n ≤ 40000) (hw : ∀ x, wipe ((wipe σ vs).set j (some x)) vs = wipe σ vs)
    (ht : ∀ (a : Nat) H1, Ex H H1 → a < n → EvT t ((wipe σ vs).set j (some (.int (a : Int)))) H1 (b a)) (he : ∀ (a : Nat) H1, Ex H H1 → a < n → b a = true → Ev te ((wipe σ vs).set j (some (.int (a : Int)))) H1 (ψ a)) :
    EvL (tLc (iRng1 ta) (gName j) t te vs) σ H (((List.range n).filter b).map ψ) := fun H0 e Q q => h H0 e _ fun H1 e1 => ⟨(n : Int), rfl, by omega, by omega, fun Dl hD => by
  rw [Int.toNat_natCast]
  exact lc_range (lo := 0) (n := n) (fun i H' => Cl H1 ((((List.range n).take i).filter b).map ψ) Dl H') ⟨hD, Ex.new hD, upd_same⟩ (fun i H' hi p => by
    have hl : (List.range n)[i]? = some i := by simp [hi]
    have e0 : (0 : Int) + (i : Int) = (i : Int) := Int.zero_add _
    rw [e0]
    refine ⟨hw _, ?_⟩
    rw [← fm_more hl]
    exact cl_turn p (by have := fm_len (l := List.range n) (b := b) (ψ := ψ) i; rw [List.length_range] at this; omega) (ht i H1 (e.trans e1) hi) (fun hf => he i H1 (e.trans e1) hi hf)) (fun H' p => by
      have ee : (List.range n).take n = List.range n := List.take_of_length_le (by simp)
      rw [ee] at p
      exact q Dl H' (fresh_back e1 p.1) (e1.trans p.2.1) p.2.2)⟩
theorem el_fmR2 {lo hi : Int} {n : Nat} {ta : TA} {j : Nat} {vs : List Nat} (b : Nat → Bool) (ψ : Nat → V) (h : EvA ta σ H [.int lo, .int hi]) (hn : n = (hi - lo).toNat) (hz : n ≤ 40000) (hb : -1000000 ≤ lo ∧ lo ≤ 1000000 ∧ -1000000 ≤ hi ∧ hi ≤ 1000000) (hw : ∀ x, wipe ((wipe σ vs).set j (some x)) vs = wipe σ vs)
    (ht : ∀ (a : Nat) H1, Ex H H1 → a < n → EvT t ((wipe σ vs).set j (some (.int (lo + (a : Int))))) H1 (b a)) (he : ∀ (a : Nat) H1, Ex H H1 → a < n → b a = true → Ev te ((wipe σ vs).set j (some (.int (lo + (a : Int))))) H1 (ψ a)) :
    EvL (tLc (iRng2 ta) (gName j) t te vs) σ H (((List.range n).filter b).map ψ) := fun H0 e Q q => h H0 e _ fun H1 e1 => ⟨lo, hi, rfl, ⟨by omega, by omega, by omega, by omega⟩, fun Dl hD => by
  subst hn
  exact lc_range (lo := lo) (n := (hi - lo).toNat) (fun i H' => Cl H1 ((((List.range (hi - lo).toNat).take i).filter b).map ψ) Dl H') ⟨hD, Ex.new hD, upd_same⟩ (fun i H' hi' p => by
    have hl : (List.range (hi - lo).toNat)[i]? = some i := by simp [hi']
    refine ⟨hw _, ?_⟩
    rw [← fm_more hl]
    exact cl_turn p (by have := fm_len (l := List.range (hi - lo).toNat) (b := b) (ψ := ψ) i; rw [List.length_range] at this; omega) (ht i H1 (e.trans e1) hi') (fun hf => he i H1 (e.trans e1) hi' hf)) (fun H' p => by
      have ee : (List.range (hi - lo).toNat).take (hi - lo).toNat = List.range (hi - lo).toNat := List.take_of_length_le (by simp)
      rw [ee] at p
      exact q Dl H' (fresh_back e1 p.1) (e1.trans p.2.1) p.2.2)⟩
theorem fl_true {α : Type} (l : List α) : l.filter (fun _ => true) = l := List.filter_eq_self.mpr fun _ _ => rfl
/-- without a test -/
theorem el_mp {α : Type} {l : List α} {φ : α → V} {tl : TE} {j : Nat} {vs : List Nat} (ψ : α → V) (h : EvK tl σ H (l.map φ)) (hz : l.length ≤ 40000) (hw : ∀ x, wipe ((wipe σ vs).set j (some x)) vs = wipe σ vs)
    (he : ∀ a H1, Ex H H1 → a ∈ l → Ev te ((wipe σ vs).set j (some (φ a))) H1 (ψ a)) : EvL (tLc (iList K tl) (gName j) tYes te vs) σ H (l.map ψ) := by
  have z := el_fm (t := tYes) (te := te) (K := K) (fun _ => true) ψ h hz hw (fun _ _ _ _ => et_yes) (fun a H1 e hm _ => he a H1 e hm)
  rw [fl_true] at z
  exact z
theorem el_mpR1 {n : Nat} {ta : TA} {j : Nat} {vs : List Nat} (ψ : Nat → V) (h : EvA ta σ H [.int (n : Int)]) (hz : n ≤ 40000) (hw : ∀ x, wipe ((wipe σ vs).set j (some x)) vs = wipe σ vs)
    (he : ∀ (a : Nat) H1, Ex H H1 → a < n → Ev te ((wipe σ vs).set j (some (.int (a : Int)))) H1 (ψ a)) : EvL (tLc (iRng1 ta) (gName j) tYes te vs) σ H ((List.range n).map ψ) := by
  have z := el_fmR1 (t := tYes) (te := te) (fun _ => true) ψ h hz hw (fun _ _ _ _ => et_yes) (fun a H1 e hm _ => he a H1 e hm)
  rw [fl_true] at z
  exact z
theorem el_mpR2 {lo hi : Int} {n : Nat} {ta : TA} {j : Nat} {vs : List Nat} (ψ : Nat → V) (h : EvA ta σ H [.int lo, .int hi]) (hn : n = (hi - lo).toNat) (hz : n ≤ 40000) (hb : -1000000 ≤ lo ∧ lo ≤ 1000000 ∧ -1000000 ≤ hi ∧ hi ≤ 1000000) (hw : ∀ x, wipe ((wipe σ vs).set j (some x)) vs = wipe σ vs)
    (he : ∀ (a : Nat) H1, Ex H H1 → a < n → Ev te ((wipe σ vs).set j (some (.int (lo + (a : Int))))) H1 (ψ a)) : EvL (tLc (iRng2 ta) (gName j) tYes te vs) σ H ((List.range n).map ψ) := by
  have z := el_fmR2 (t := tYes) (te := te) (fun _ => true) ψ h hn hz hb hw (fun _ _ _ _ => et_yes) (fun a H1 e hm _ => he a H1 e hm)
  rw [fl_true] at z
  exact z
/-! ### items -/
theorem atI_map {α : Type} {l : List α} {φ : α → V} {i : Nat} {a : α} {z : Int} (e : z = (i : Int)) (h : l[i]? = some a) : atI (l.map φ) z = some (φ a) := by
  subst e
  exact atI_nat (by rw [List.getElem?_map, h] <;> rfl)
theorem ev_ixK {xs : List V} {i : Int} (ha : EvK ta σ H xs) (hb : Ev tb σ H (.int i)) (h : atI xs i = some v) : Ev (tOp (rIxL K) ta tb) σ H v := fun H1 e Q q =>
  ha H1 e _ fun p H2 e2 hp => hb H2 (e.trans e2) _ fun H3 e3 => ⟨p, xs, i, v, rfl, rfl, sq_of (e3 p _ hp), h, q H3 (e2.trans e3)⟩
theorem el_slK {tl th : TO} {xs : List V} {lo hi : Option Int} (h : EvK te σ H xs) (h1 : EvO tl σ H lo) (h2 : EvO th σ H hi) : EvL (tSl (rSlL K) te tl th) σ H (cutV xs lo hi) := fun H1 e _ q =>
  h H1 e _ fun a H2 e2 hp => h1 H2 (e.trans e2) _ fun H3 e3 => h2 H3 ((e.trans e2).trans e3) _ fun H4 e4 =>
    ⟨a, xs, rfl, sq_of (e4 a _ (e3 a _ hp)), fun p hp => q p _ (fresh_back ((e2.trans e3).trans e4) hp) (((e2.trans e3).trans e4).trans (Ex.new hp)) upd_same⟩
theorem ek_list {xs : List V} (ha : EvK ta σ H xs) : EvL (tCB (rListS K) (tCons ta tNil)) σ H xs := fun H1 e Q q =>
  ha H1 e _ fun p H2 e2 h2 => ⟨p, xs, rfl, Or.inl (sq_of h2), fun l hl => q l _ (fresh_back e2 hl) (e2.trans (Ex.new hl)) upd_same⟩
theorem el_callL {sp : Sp} {dvs vs xs : List V} {E : XK} {ta : TA} (h : EvA ta σ H vs) (hs : SpL sp (vs ++ dvs) H xs) : EvL (tCall sp dvs E ta) σ H xs := el_call h hs
/-- a call one of whose arguments is a list that is made on the way -/
theorem ev_callL1 {sp : Sp} {E : XK} {xs : List V} (h : EvK te σ H xs) (hs : ∀ p H1, H1 p = some (.lst xs) → Ex H H1 → SpV sp [.ref p] H1 z) : Ev (tCall sp [] E (tCons te tNil)) σ H z := fun H1 e Q q =>
  h H1 e _ fun p H2 e2 hp => hs p H2 hp (e.trans e2) H2 (Ex.refl H2) Q (fun H3 e3 => q H3 (e2.trans e3)) E
theorem ev_callL2 {sp : Sp} {E : XK} {xs : List V} (h : EvK te σ H xs) (hx : Ev tx σ H x) (hs : ∀ p H1, H1 p = some (.lst xs) → Ex H H1 → SpV sp [.ref p, x] H1 z) : Ev (tCall sp [] E (tCons te (tCons tx tNil))) σ H z := fun H1 e Q q =>
  h H1 e _ fun p H2 e2 hp => hx H2 (e.trans e2) _ fun H3 e3 => hs p H3 (e3 p _ hp) ((e.trans e2).trans e3) H3 (Ex.refl H3) Q (fun H4 e4 => q H4 ((e2.trans e3).trans e4)) E
/-- a list's own name as an argument -/
theorem ea_list {ns : List V} {p : Addr} (h : Ev te σ H (.ref p)) : Ev te σ H (.ref p) := h
/-! ### loops that leave what stood as it was -/
/-- over a list -/
theorem s_forK {α : Type} {l : List α} {φ : α → V} {tl : TE} {j : Nat} (h : EvK tl σ H (l.map φ)) (Pv : Nat → L2.St → Prop) (h0 : Pv 0 σ)
    (hs : ∀ H1 i a σ' H', Ex H H1 → Ex H1 H' → l[i]? = some a → Pv i σ' → tu { D with nx := fun σ2 H2 => Ex H1 H2 ∧ Pv (i + 1) σ2, ct := fun σ2 H2 => Ex H1 H2 ∧ Pv (i + 1) σ2, bk := D.nx } (σ'.set j (some (φ a))) H')
    (hd : ∀ σ' H', Ex H H' → Pv l.length σ' → D.nx σ' H') : tFor (iList K tl) (gName j) tu D σ H :=
  h H (Ex.refl H) _ fun p H1 e hx => ⟨p, rfl, ⟨l.map φ, sq_of hx⟩, for_list (fun i σ' H' => Ex H1 H' ∧ Pv i σ') ⟨Ex.refl H1, h0⟩ (fun i σ' H' _ q => sq_of (q.1 p _ hx)) (fun i x σ' H' hi q => by
    rw [List.getElem?_map] at hi
    cases hl : l[i]? with
    | none =>
      rw [hl] at hi
      cases hi
    | some c =>
      rw [hl] at hi
      have ex : φ c = x := Option.some.inj hi
      subst ex
      exact hs H1 i c σ' H' e q.1 hl q.2) (fun σ' H' q => hd σ' H' (e.trans q.1) (by
        have q2 := q.2
        rw [List.length_map] at q2
        exact q2))⟩
/-- over a list from its end: Pv by how many are left -/
theorem s_forRev {α : Type} {l : List α} {φ : α → V} {tl : TE} {j : Nat} (h : EvK tl σ H (l.map φ)) (Pv : Nat → L2.St → Prop) (h0 : Pv l.length σ)
    (hs : ∀ H1 i a σ' H', Ex H H1 → Ex H1 H' → l[i]? = some a → Pv (i + 1) σ' → tu { D with nx := fun σ2 H2 => Ex H1 H2 ∧ Pv i σ2, ct := fun σ2 H2 => Ex H1 H2 ∧ Pv i σ2, bk := D.nx } (σ'.set j (some (φ a))) H')
    (hd : ∀ σ' H', Ex H H' → Pv 0 σ' → D.nx σ' H') : tFor (iRev K (tCons tl tNil)) (gName j) tu D σ H :=
  h H (Ex.refl H) _ fun p H1 e hx => by
    refine ⟨p, l.map φ, rfl, sq_of hx, fun i m σ' H' => m + i = l.length ∧ Pv m σ' ∧ Ex H1 H', ⟨l.length, rfl, h0, Ex.refl H1⟩, fun i m σ' H' hw => ?_⟩
    obtain ⟨hm, hp, hE⟩ := hw
    have hq : SqL K H' p (l.map φ) := sq_of (hE p _ hx)
    cases m with
    | zero => exact .inl ⟨by show (l.map φ).length ≤ i; rw [List.length_map]; omega, hd σ' H' (e.trans hE) hp⟩
    | succ m =>
      have hlt : m < l.length := by omega
      have hl : l[m]? = some l[m] := List.getElem?_eq_getElem hlt
      have hix : (l.map φ).length - 1 - i = m := by rw [List.length_map]; omega
      have hg : (l.map φ)[(l.map φ).length - 1 - i]? = some (φ l[m]) := by
        rw [hix, List.getElem?_map, hl]
        rfl
      refine .inr ⟨⟨by show i < (l.map φ).length; rw [List.length_map]; omega, l.map φ, φ l[m], hq, hg⟩, fun σ2 H2 => Ex H1 H2 ∧ Pv m σ2, fun σ2 H2 hN => ⟨m, Nat.lt_succ_self m, by omega, hN.2, hN.1⟩, fun x H2 hy => ?_⟩
      obtain ⟨rfl, fy⟩ := hy
      have ex : φ l[m] = x := Option.some.inj (hg.symm.trans (fy _ hq))
      subst ex
      exact hs H1 m l[m] σ' H2 e hE hl hp
/-- over reversed(range(n)): Pv by how many are left -/
theorem s_forRevR {n : Nat} {ta : TE} {j : Nat} (h : Ev ta σ H (.int (n : Int))) (hn : n ≤ 100000) (Pv : Nat → L2.St → Prop) (h0 : Pv n σ)
    (hs : ∀ H1 (i : Nat) σ' H', Ex H H1 → Ex H1 H' → i < n → Pv (i + 1) σ' → tu { D with nx := fun σ2 H2 => Ex H1 H2 ∧ Pv i σ2, ct := fun σ2 H2 => Ex H1 H2 ∧ Pv i σ2, bk := D.nx } (σ'.set j (some (.int (i : Int)))) H')
    (hd : ∀ σ' H', Ex H H' → Pv 0 σ' → D.nx σ' H') : tFor (iRevR (tRg1 ta)) (gName j) tu D σ H :=
  h H (Ex.refl H) _ fun H1 e => by
    refine ⟨(n : Int), rfl, by omega, by omega, by omega, by omega, fun i m σ' H' => m + i = n ∧ Pv m σ' ∧ Ex H1 H', ⟨n, rfl, h0, Ex.refl H1⟩, fun i m σ' H' hw => ?_⟩
    obtain ⟨hm, hp, hE⟩ := hw
    cases m with
    | zero => exact .inl ⟨by show ((n : Int) - 0).toNat ≤ i; omega, hd σ' H' (e.trans hE) hp⟩
    | succ m =>
      refine .inr ⟨by show i < ((n : Int) - 0).toNat; omega, fun σ2 H2 => Ex H1 H2 ∧ Pv m σ2, fun σ2 H2 hN => ⟨m, Nat.lt_succ_self m, by omega, hN.2, hN.1⟩, fun x H2 hy => ?_⟩
      obtain ⟨rfl, rfl⟩ := hy
      have ei : (0 : Int) + (((((n : Int) - 0).toNat : Nat) : Int)) - 1 + (i : Nat) * (-1) = (m : Int) := by omega
      show tu _ (σ'.set j (some (.int ((0 : Int) + (((((n : Int) - 0).toNat : Nat) : Int)) - 1 + (i : Nat) * (-1))))) H2
      rw [ei]
      exact hs H1 m σ' H2 e hE (by omega) hp
/-- over range(n) | range(lo, hi) -/
theorem s_forN1 {n : Nat} {ta : TA} {j : Nat} (h : EvA ta σ H [.int (n : Int)]) (hn : n ≤ 100000) (Pv : Nat → L2.St → Prop) (h0 : Pv 0 σ)
    (hs : ∀ H1 (i : Nat) σ' H', Ex H H1 → Ex H1 H' → i < n → Pv i σ' → tu { D with nx := fun σ2 H2 => Ex H1 H2 ∧ Pv (i + 1) σ2, ct := fun σ2 H2 => Ex H1 H2 ∧ Pv (i + 1) σ2, bk := D.nx } (σ'.set j (some (.int (i : Int)))) H')
    (hd : ∀ σ' H', Ex H H' → Pv n σ' → D.nx σ' H') : tFor (iRng1 ta) (gName j) tu D σ H :=
  h H (Ex.refl H) _ fun H1 e => ⟨(n : Int), rfl, by omega, by omega, by
    rw [Int.toNat_natCast]
    exact for_range (lo := 0) (n := n) (fun i σ' H' => Ex H1 H' ∧ Pv i σ') ⟨Ex.refl H1, h0⟩ (fun i σ' H' hi q => by
      have e0 : (0 : Int) + (i : Int) = (i : Int) := Int.zero_add _
      show tu _ (σ'.set j (some (.int ((0 : Int) + (i : Int))))) H'
      rw [e0]
      exact hs H1 i σ' H' e q.1 hi q.2) (fun σ' H' q => hd σ' H' (e.trans q.1) q.2)⟩
theorem s_forN2 {lo hi : Int} {n : Nat} {ta : TA} {j : Nat} (h : EvA ta σ H [.int lo, .int hi]) (hn : n = (hi - lo).toNat) (hb : -1000000 ≤ lo ∧ lo ≤ 1000000 ∧ -1000000 ≤ hi ∧ hi ≤ 1000000) (Pv : Nat → L2.St → Prop) (h0 : Pv 0 σ)
    (hs : ∀ H1 (i : Nat) σ' H', Ex H H1 → Ex H1 H' → i < n → Pv i σ' → tu { D with nx := fun σ2 H2 => Ex H1 H2 ∧ Pv (i + 1) σ2, ct := fun σ2 H2 => Ex H1 H2 ∧ Pv (i + 1) σ2, bk := D.nx } (σ'.set j (some (.int (lo + (i : Int))))) H')
    (hd : ∀ σ' H', Ex H H' → Pv n σ' → D.nx σ' H') : tFor (iRng2 ta) (gName j) tu D σ H :=
  h H (Ex.refl H) _ fun H1 e => ⟨lo, hi, rfl, ⟨by omega, by omega, by omega, by omega⟩, by
    subst hn
    exact for_range (lo := lo) (n := (hi - lo).toNat) (fun i σ' H' => Ex H1 H' ∧ Pv i σ') ⟨Ex.refl H1, h0⟩ (fun i σ' H' hi' q => hs H1 i σ' H' e q.1 hi' q.2) (fun σ' H' q => hd σ' H' (e.trans q.1) q.2)⟩
/-- while -/
theorem s_whileK (W : Nat → L2.St → Prop) (m0 : Nat) (h0 : W m0 σ)
    (hs : ∀ m σ' H', Ex H H' → W m σ' → ∃ b, EvT t σ' H' b ∧ (b = true → ∀ H1, Ex H' H1 → tu { D with nx := fun σ2 H2 => Ex H1 H2 ∧ ∃ m', m' < m ∧ W m' σ2, ct := fun σ2 H2 => Ex H1 H2 ∧ ∃ m', m' < m ∧ W m' σ2, bk := D.nx } σ' H1) ∧ (b = false → ∀ H1, Ex H H1 → D.nx σ' H1)) : tWhile t tu D σ H :=
  s_while (fun m σ' H' => Ex H H' ∧ W m σ') m0 ⟨Ex.refl H, h0⟩ fun m σ' H' hw => by
    obtain ⟨hE, hw⟩ := hw
    obtain ⟨b, hb, h1, h2⟩ := hs m σ' H' hE hw
    exact ⟨b, hb, fun hb H1 e => ⟨_, fun σ2 H2 hN => by
      obtain ⟨e2, m', hm, hW⟩ := hN
      exact ⟨m', hm, (hE.trans e).trans e2, hW⟩, h1 hb H1 e⟩, fun hb H1 e => h2 hb H1 (hE.trans e)⟩
theorem q_forK {α : Type} {l : List α} {φ : α → V} {tl : TE} {j : Nat} (h : EvK tl σ H (l.map φ)) (Pv : Nat → L2.St → Prop) (h0 : Pv 0 σ)
    (hs : ∀ H1 i a σ' H', Ex H H1 → Ex H1 H' → l[i]? = some a → Pv i σ' → tu { D with nx := fun σ2 H2 => Ex H1 H2 ∧ Pv (i + 1) σ2, ct := fun σ2 H2 => Ex H1 H2 ∧ Pv (i + 1) σ2, bk := tz D } (σ'.set j (some (φ a))) H')
    (hd : ∀ σ' H', Ex H H' → Pv l.length σ' → tz D σ' H') : tSeq (tFor (iList K tl) (gName j) tu) tz D σ H := s_forK (D := { D with nx := tz D }) h Pv h0 hs hd
theorem q_forRev {α : Type} {l : List α} {φ : α → V} {tl : TE} {j : Nat} (h : EvK tl σ H (l.map φ)) (Pv : Nat → L2.St → Prop) (h0 : Pv l.length σ)
    (hs : ∀ H1 i a σ' H', Ex H H1 → Ex H1 H' → l[i]? = some a → Pv (i + 1) σ' → tu { D with nx := fun σ2 H2 => Ex H1 H2 ∧ Pv i σ2, ct := fun σ2 H2 => Ex H1 H2 ∧ Pv i σ2, bk := tz D } (σ'.set j (some (φ a))) H')
    (hd : ∀ σ' H', Ex H H' → Pv 0 σ' → tz D σ' H') : tSeq (tFor (iRev K (tCons tl tNil)) (gName j) tu) tz D σ H := s_forRev (D := { D with nx := tz D }) h Pv h0 hs hd
theorem q_forRevR {n : Nat} {ta : TE} {j : Nat} (h : Ev ta σ H (.int (n : Int))) (hn : n ≤ 100000) (Pv : Nat → L2.St → Prop) (h0 : Pv n σ)
    (hs : ∀ H1 (i : Nat) σ' H', Ex H H1 → Ex H1 H' → i < n → Pv (i + 1) σ' → tu { D with nx := fun σ2 H2 => Ex H1 H2 ∧ Pv i σ2, ct := fun σ2 H2 => Ex H1 H2 ∧ Pv i σ2, bk := tz D } (σ'.set j (some (.int (i : Int)))) H')
    (hd : ∀ σ' H', Ex H H' → Pv 0 σ' → tz D σ' H') : tSeq (tFor (iRevR (tRg1 ta)) (gName j) tu) tz D σ H := s_forRevR (D := { D with nx := tz D }) h hn Pv h0 hs hd
theorem q_forN1 {n : Nat} {ta : TA} {j : Nat} (h : EvA ta σ H [.int (n : Int)]) (hn : n ≤ 100000) (Pv : Nat → L2.St → Prop) (h0 : Pv 0 σ)
    (hs : ∀ H1 (i : Nat) σ' H', Ex H H1 → Ex H1 H' → i < n → Pv i σ' → tu { D with nx := fun σ2 H2 => Ex H1 H2 ∧ Pv (i + 1) σ2, ct := fun σ2 H2 => Ex H1 H2 ∧ Pv (i + 1) σ2, bk := tz D } (σ'.set j (some (.int (i : Int)))) H')
    (hd : ∀ σ' H', Ex H H' → Pv n σ' → tz D σ' H') : tSeq (tFor (iRng1 ta) (gName j) tu) tz D σ H := s_forN1 (D := { D with nx := tz D }) h hn Pv h0 hs hd
theorem q_forN2 {lo hi : Int} {n : Nat} {ta : TA} {j : Nat} (h : EvA ta σ H [.int lo, .int hi]) (hn : n = (hi - lo).toNat) (hb : -1000000 ≤ lo ∧ lo ≤ 1000000 ∧ -1000000 ≤ hi ∧ hi ≤ 1000000) (Pv : Nat → L2.St → Prop) (h0 : Pv 0 σ)
    (hs : ∀ H1 (i : Nat) σ' H', Ex H H1 → Ex H1 H' → i < n → Pv i σ' → tu { D with nx := fun σ2 H2 => Ex H1 H2 ∧ Pv (i + 1) σ2, ct := fun σ2 H2 => Ex H1 H2 ∧ Pv (i + 1) σ2, bk := tz D } (σ'.set j (some (.int (lo + (i : Int))))) H')
    (hd : ∀ σ' H', Ex H H' → Pv n σ' → tz D σ' H') : tSeq (tFor (iRng2 ta) (gName j) tu) tz D σ H := s_forN2 (D := { D with nx := tz D }) h hn hb Pv h0 hs hd
theorem q_whileK (W : Nat → L2.St → Prop) (m0 : Nat) (h0 : W m0 σ)
    (hs : ∀ m σ' H', Ex H H' → W m σ' → ∃ b, EvT t σ' H' b ∧ (b = true → ∀ H1, Ex H' H1 → tu { D with nx := fun σ2 H2 => Ex H1 H2 ∧ ∃ m', m' < m ∧ W m' σ2, ct := fun σ2 H2 => Ex H1 H2 ∧ ∃ m', m' < m ∧ W m' σ2, bk := tz D } σ' H1) ∧ (b = false → ∀ H1, Ex H H1 → tz D σ' H1)) : tSeq (tWhile t tu) tz D σ H :=
  s_whileK (D := { D with nx := tz D }) W m0 h0 hs
end
theorem drawn {x m : Int} (h : 0 < m) : ∃ k, 0 ≤ k ∧ k < m ∧ x % m = k := ⟨x % m, Int.emod_nonneg _ (by omega), Int.emod_lt_of_pos _ h, rfl⟩
theorem cmul_l {i j : Int} (h : -18446744073709551616 < i ∧ i < 18446744073709551616) : CMul i j := .inl h
theorem cmul_r {i j : Int} (h : -18446744073709551616 < j ∧ j < 18446744073709551616) : CMul i j := .inr h
theorem cdiv_of {i j : Int} (h : 0 < j) (h2 : j < 1073741824) : CDiv i j := ⟨h, h2⟩
theorem ex_at {H H' : Hp} {p : Addr} {o : HO} (e : Ex H H') (h : H p = some o) : H' p = some o := e p o h
end Ch
namespace Ch
open PySem L2 Evl
local macro_rules | `(tactic| walk_at "side") => `(tactic| first | omega | (with_reducible assumption) | decide | (constructor <;> first | omega | (with_reducible assumption)))
local macro_rules | `(tactic| walk_at "list") => `(tactic| first | assumption | (refine ex_at (by assumption) ?_; walk_at "list"))
local macro_rules | `(tactic| walk_at "sq") => `(tactic| first | assumption | (refine sq_of ?_; assumption) | (refine ex_l (by assumption) ?_; walk_at "sq"))
local macro_rules | `(tactic| walk_at "op_mod") => `(tactic| first | omega | (with_reducible assumption))
local macro_rules | `(tactic| walk_at "op_fdiv") => `(tactic| exact cdiv_of (by omega) (by omega))
local macro_rules | `(tactic| walk_at "op_mul") => `(tactic| first | exact cmul_l (by omega) | exact cmul_r (by omega))
local macro_rules | `(tactic| walk_at "op_pow") => `(tactic| decide)
local macro_rules | `(tactic| walk_at "sv__law_cell_at") => `(tactic| exact ⟨by walk_at "sq", by decide⟩)
local macro_rules | `(tactic| walk_at "len") => `(tactic| (simp only [List.length_append, List.length_map, List.length_cons, List.length_nil, List.length_range, List.length_take]; omega))

def topS (i : Nat) : Stmt := PySem.Challenge.pw_choicefigures_k02_whole_rules_of_choices.main.body.getD i (.Pass ⟨0, 0, 0, 0⟩)
/-! ### asked_many -/
abbrev s_asked_many : Stmt := topS 6
theorem sc_asked_many : FnScope ["many"] ["many"] (defScope s_asked_many) := ⟨rfl, rfl, rfl, by decide +kernel, rfl, by decide +kernel, by decide +kernel⟩
def sp_asked_many (K : PySem.W.Frag) : Sp := fun vs H Q _ => ∃ n : Int, vs = [.int n] ∧ 0 ≤ n ∧ n ≤ 1000000000000000000000000000000 ∧ RetV .non H Q
theorem sv_asked_many {K : PySem.W.Frag} {H : Hp} {n : Int} (h : 0 ≤ n ∧ n ≤ 1000000000000000000000000000000) : SpV (sp_asked_many K) [.int n] H .non := fun H1 _ Q q _ => ⟨n, rfl, h.1, h.2, q⟩
theorem ok_asked_many {P : Program} {w : World} {K : PySem.W.Frag} {mg : Str → Option Value} {base : Heap} {f : Addr} {fd : FuncData} {t_GREATEST : Tok} (F : Fun K "asked_many" "asked_many" s_asked_many f fd) (g_GREATEST : mg "GREATEST" = some (.int 1000000000000000000000000000000 t_GREATEST)) :
    FnOk P w K mg base CX0 1 f fd ["many"] (sp_asked_many K) := by
  refine F.ok sc_asked_many (fun vs H Q E h => ?_) (fun cdv A outer s H vs Q E hr h => ?_)
  · obtain ⟨n, rfl, h0, h1, q⟩ := h
    rfl
  · obtain ⟨n, rfl, h0, h1, q⟩ := h
    refine ⟨_, (pss_one (ps_if (PW.pt (pw_or (pt_cmpR op_lt (pv 0) pe_int (nomark _)) (pw_or1 (pt_cmpR op_gt (pv 0) (pe_glob (v := .int 1000000000000000000000000000000) rfl g_GREATEST ⟨_, rfl⟩) (nomark _))))) (pss_one ps_never) pss_nil)), ?_⟩
    refine s_when (et_or (et_test (ev_op (ev_var rfl) ev_c rv_I0)) (fun _ => (et_test (ev_op (ev_var rfl) ev_c rv_I0)))) (fun hb => ?_) (fun _ H1 e1 => q H1 e1)
    have : ¬ (n < 0) := by omega
    have : ¬ (1000000000000000000000000000000 < n) := by omega
    simp_all
/-! ### count -/
abbrev s_count : Stmt := topS 9
theorem sc_count : FnScope ["many", "some", "found", "k"] ["many", "some"] (defScope s_count) := ⟨rfl, rfl, rfl, by decide +kernel, rfl, by decide +kernel, by decide +kernel⟩
/-- the choices, of whole numbers -/
def Ci (n k : Int) : Int := if k < 0 ∨ k > n then 0 else ((C n.toNat k.toNat : Nat) : Int)
def sp_count (K : PySem.W.Frag) : Sp := fun vs H Q _ => ∃ n k : Int, vs = [.int n, .int k] ∧ n ≤ 400 ∧ RetV (.int (Ci n k)) H Q
theorem sv_count {K : PySem.W.Frag} {H : Hp} {n k : Int} (h : n ≤ 400) : SpV (sp_count K) [.int n, .int k] H (.int (Ci n k)) := fun H1 _ Q q _ => ⟨n, k, rfl, h, q⟩
theorem Ci_nat {n k : Nat} : Ci n k = (C n k : Nat) := by
  unfold Ci
  by_cases h : k ≤ n
  · rw [if_neg (by omega), Int.toNat_natCast, Int.toNat_natCast]
  · rw [if_pos (by omega), C_gt (by omega)]
    rfl
theorem Ci_out {n k : Int} (h : k < 0 ∨ k > n) : Ci n k = 0 := if_pos h
theorem ok_count {P : Program} {w : World} {K : PySem.W.Frag} {mg : Str → Option Value} {base : Heap} {f : Addr} {fd : FuncData} (F : Fun K "count" "count" s_count f fd) (z_range : mg "range" = none) :
    FnOk P w K mg base CX0 1 f fd ["many", "some"] (sp_count K) := by
  refine F.ok sc_count (fun vs H Q E h => ?_) (fun cdv A outer s H vs Q E hr h => ?_)
  · obtain ⟨n, k, rfl, hn, q⟩ := h
    rfl
  · obtain ⟨n, k, rfl, hn, q⟩ := h
    refine ⟨_, (pss_cons (ps_if (PW.pt (pw_or (pt_cmpR op_lt (pv 1) pe_int (nomark _)) (pw_or1 (pt_cmpR op_gt (pv 1) (pv 0) (nomark _))))) (pss_one (ps_ret pe_int)) pss_nil)
      (pss_cons (ps_set (i := 2) sc_count.nd rfl (Or.inl rfl) pe_int)
      (pss_cons (ps_for PassesOwn.never rfl (pi_range1 (by rfl) z_range (pa_cons (pv 1) pa_nil)) (pg_name (i := 3) sc_count.nd rfl (Or.inl rfl)) (pss_one (ps_set (i := 2) sc_count.nd rfl (Or.inl rfl) (pe_op op_fdiv (pe_op op_mul (pv 2) (pe_op op_sub (pv 0) (pv 3))) (pe_op op_add (pv 3) pe_int)))))
      (pss_one (ps_ret (pv 2)))))), ?_⟩
    refine q_when (et_or (et_test (ev_op (ev_var rfl) ev_c rv_I0)) (fun _ => (et_test (ev_op (ev_var rfl) (ev_var rfl) rv_I0)))) (fun hb H1 e1 => ?_) (fun hb H1 e1 => ?_)
    · refine s_ret ev_c fun H2 e2 => ?_
      rw [Bool.or_eq_true, decide_eq_true_eq, decide_eq_true_eq] at hb
      have z := q H2 (e1.trans e2)
      rw [Ci_out hb] at z
      exact z
    · rw [Bool.or_eq_false_iff, decide_eq_false_iff_not, decide_eq_false_iff_not] at hb
      obtain ⟨m, rfl⟩ : ∃ m : Nat, n = m := ⟨n.toNat, by omega⟩
      obtain ⟨j, rfl⟩ : ∃ j : Nat, k = j := ⟨k.toNat, by omega⟩
      rw [Ci_nat] at q
      refine q_asg ev_c fun H2 e2 => ?_
      refine q_forN1 (ea_cons (ev_var rfl) ea_nil) (by omega) (fun i σ => ∃ y, σ = [some (.int (m : Int)), some (.int (j : Int)), some (.int ((C m i : Nat) : Int)), y]) ⟨_, by rw [C_0r] <;> rfl⟩ (fun H3 i σ H4 e3 e4 hi hw => ?_) (fun σ H3 e3 hw => ?_)
      · obtain ⟨y, rfl⟩ := hw
        refine s_asg (ev_op (ev_op (ev_var rfl) (ev_op (ev_var rfl) (ev_var rfl) rv_I0) (rv_I (by walk_at "op_mul"))) (ev_op (ev_var rfl) ev_c rv_I0) (rv_I (by walk_at "op_fdiv"))) fun H5 e5 => ⟨e4.trans e5, some (.int (i : Int)), ?_⟩
        have e : ((C m i : Nat) : Int) * ((m : Int) - (i : Int)) / ((i : Int) + 1) = ((C m (i + 1) : Nat) : Int) := by
          have h := C_step m i (by omega)
          have h2 : ((C m i : Nat) : Int) * ((m : Int) - (i : Int)) = ((i : Int) + 1) * ((C m (i + 1) : Nat) : Int) := by
            rw [show ((m : Int) - (i : Int)) = ((m - i : Nat) : Int) by omega]
            have h3 : C m i * (m - i) = (i + 1) * C m (i + 1) := by rw [h, Nat.mul_comm]
            exact_mod_cast h3
          rw [h2, Int.mul_ediv_cancel_left _ (by omega)]
        rw [e]
        rfl
      · obtain ⟨y, rfl⟩ := hw
        exact s_ret (ev_var rfl) fun H4 e4 => q H4 (((e1.trans e2).trans e3).trans e4)
/-! ### _law_cell_at -/
abbrev s__law_cell_at : Stmt := topS 12
theorem sc__law_cell_at : FnScope ["script", "k"] ["script", "k"] (defScope s__law_cell_at) := ⟨rfl, rfl, rfl, by decide +kernel, rfl, by decide +kernel, by decide +kernel⟩
/-- the script's cell, nought behind its end -/
def cell (ns : List Int) (k : Int) : Int := ns.getD k.toNat 0
def sp__law_cell_at (K : PySem.W.Frag) : Sp := fun vs H Q _ => ∃ (a : Addr) (ns : List Int) (k : Int), vs = [.ref a, .int k] ∧ SqL K H a (ns.map V.int) ∧ 0 ≤ k ∧ RetV (.int (cell ns k)) H Q
theorem sv__law_cell_at {K : PySem.W.Frag} {H : Hp} {a : Addr} {ns : List Int} {k : Int} (h : SqL K H a (ns.map V.int) ∧ 0 ≤ k) : SpV (sp__law_cell_at K) [.ref a, .int k] H (.int (cell ns k)) := fun H1 e Q q _ => ⟨a, ns, k, rfl, ex_l e h.1, h.2, q⟩
theorem ok__law_cell_at {P : Program} {w : World} {K : PySem.W.Frag} {mg : Str → Option Value} {base : Heap} {f : Addr} {fd : FuncData} (F : Fun K "_law_cell_at" "_law_cell_at" s__law_cell_at f fd) (z_len : mg "len" = none) :
    FnOk P w K mg base CX0 1 f fd ["script", "k"] (sp__law_cell_at K) := by
  refine F.ok sc__law_cell_at (fun vs H Q E h => ?_) (fun cdv A outer s H vs Q E hr h => ?_)
  · obtain ⟨a, ns, k, rfl, hS, hk, q⟩ := h
    rfl
  · obtain ⟨a, ns, k, rfl, hS, hk, q⟩ := h
    refine ⟨_, (pss_cons (ps_if (pt_cmpR op_lt (pv 1) (pe_callB call_len_seq (by rfl) z_len PySem.boot_len (pa_cons (pv 0) pa_nil)) (nomark _)) (pss_one (ps_ret (pe_ix ix_list (pv 0) (pv 1) (fun _ _ => rfl)))) pss_nil)
      (pss_one (ps_ret pe_int))), ?_⟩
    obtain ⟨j, rfl⟩ : ∃ j : Nat, k = j := ⟨k.toNat, by omega⟩
    have hc : cell ns (j : Int) = ns.getD j 0 := rfl
    rw [hc] at q
    refine q_when (et_test (ev_op (ev_var rfl) (ev_len (ev_var rfl) hS) rv_I0)) (fun hb H1 e1 => ?_) (fun hb H1 e1 => ?_)
    · rw [decide_eq_true_eq, List.length_map] at hb
      have hj : j < ns.length := by omega
      refine s_ret (ev_op (ev_var rfl) (ev_var rfl) (rv_ixL (v := .int ns[j]) (ex_l e1 hS) (atI_map rfl (List.getElem?_eq_getElem hj)))) fun H2 e2 => ?_
      have z := q H2 (e1.trans e2)
      rw [List.getD_eq_getElem?_getD, List.getElem?_eq_getElem hj] at z
      exact z
    · rw [decide_eq_false_iff_not, List.length_map] at hb
      refine s_ret ev_c fun H2 e2 => ?_
      have z := q H2 (e1.trans e2)
      rw [List.getD_eq_getElem?_getD, List.getElem?_eq_none (by omega)] at z
      exact z
/-! ### _law_whole -/
abbrev s__law_whole : Stmt := topS 13
theorem sc__law_whole : FnScope ["found"] ["found"] (defScope s__law_whole) := ⟨rfl, rfl, rfl, by decide +kernel, rfl, by decide +kernel, by decide +kernel⟩
def sp__law_whole (K : PySem.W.Frag) : Sp := fun vs H Q _ => ∃ n : Int, vs = [.int n] ∧ RetV (.bl true) H Q
theorem sv__law_whole {K : PySem.W.Frag} {H : Hp} {n : Int} : SpV (sp__law_whole K) [.int n] H (.bl true) := fun H1 e Q q _ => ⟨n, rfl, q⟩
theorem ok__law_whole {P : Program} {w : World} {K : PySem.W.Frag} {mg : Str → Option Value} {base : Heap} {f : Addr} {fd : FuncData} (F : Fun K "_law_whole" "_law_whole" s__law_whole f fd) (z_isinstance : mg "isinstance" = none) (z_int : mg "int" = none) (z_bool : mg "bool" = none) :
    FnOk P w K mg base CX0 1 f fd ["found"] (sp__law_whole K) := by
  refine F.ok sc__law_whole (fun vs H Q E h => ?_) (fun cdv A outer s H vs Q E hr h => ?_)
  · obtain ⟨n, rfl, q⟩ := h
    rfl
  · obtain ⟨n, rfl, q⟩ := h
    refine ⟨_, (pss_one (ps_ret (pe_and (pe_callB call_isi (by rfl) z_isinstance (by decide +kernel) (pa_cons (pv 0) (pa_cons (pe_bltn (v := .ty "int") rfl z_int (by decide +kernel) rfl) pa_nil))) (pe_one (pe_not (pe_callB call_isi (by rfl) z_isinstance (by decide +kernel) (pa_cons (pv 0) (pa_cons (pe_bltn (v := .ty "bool") rfl z_bool (by decide +kernel) rfl) pa_nil)))))))), ?_⟩
    exact s_ret (ev_andV (ev_isi (t := .type "int") (b := true) (ev_var rfl) ev_c (fun _ => .base (.int _)) (kit_ty (by decide +kernel))) (fun _ => ev_notV (ev_isi (t := .type "int") (b := false) (ev_var rfl) ev_c (fun _ => .base (.int _)) (kit_ty (by decide +kernel))))) fun H1 e1 => q H1 e1
/-! ### choices -/
abbrev s_choices : Stmt := topS 10
theorem sc_choices : FnScope ["many", "some"] ["many", "some"] (defScope s_choices) := ⟨rfl, rfl, rfl, by decide +kernel, rfl, by decide +kernel, by decide +kernel⟩
def sp_choices (K : PySem.W.Frag) : Sp := fun vs H Q _ => ∃ n k : Int, vs = [.int n, .int k] ∧ (0 ≤ n ∧ n ≤ 400) ∧ RetV (.int (Ci n k)) H Q
theorem sv_choices {K : PySem.W.Frag} {H : Hp} {n k : Int} (h : 0 ≤ n ∧ n ≤ 400) : SpV (sp_choices K) [.int n, .int k] H (.int (Ci n k)) := fun H1 _ Q q _ => ⟨n, k, rfl, h, q⟩
theorem ok_choices {P : Program} {w : World} {K : PySem.W.Frag} {mg : Str → Option Value} {base : Heap} {f : Addr} {fd : FuncData} {f_asked_many : Addr} {fd_asked_many : FuncData} {f_count : Addr} {fd_count : FuncData} {t_MOST : Tok} (F : Fun K "choices" "choices" s_choices f fd)
    (D_asked_many : Def P w K mg base CX0 1 "asked_many" ["many"] (sp_asked_many K) f_asked_many fd_asked_many)
    (D_count : Def P w K mg base CX0 1 "count" ["many", "some"] (sp_count K) f_count fd_count) (g_MOST : mg "MOST" = some (.int 400 t_MOST)) :
    FnOk P w K mg base CX0 2 f fd ["many", "some"] (sp_choices K) := by
  refine F.ok sc_choices (fun vs H Q E h => ?_) (fun cdv A outer s H vs Q E hr h => ?_)
  · obtain ⟨n, k, rfl, hn, q⟩ := h
    rfl
  · obtain ⟨n, k, rfl, hn, q⟩ := h
    refine ⟨_, (pss_cons (ps_expr (pe_call D_asked_many.ok (hr.mono (by decide)) (by rfl) D_asked_many.g D_asked_many.kp D_asked_many.b .nil pass0 (pa_cons (pv 0) pa_nil)))
      (pss_cons (ps_if (pt_cmpR op_gt (pv 0) (pe_glob (v := .int 400) rfl g_MOST ⟨_, rfl⟩) (nomark _)) (pss_one ps_never) pss_nil)
      (pss_one (ps_ret (pe_call D_count.ok (hr.mono (by decide)) (by rfl) D_count.g D_count.kp D_count.b .nil pass0 (pa_cons (pv 0) (pa_cons (pv 1) pa_nil))))))), ?_⟩
    refine q_drop (ev_call (ea_cons (ev_var rfl) ea_nil) (sv_asked_many (by omega))) fun H1 e1 => ?_
    refine q_when (et_test (ev_op (ev_var rfl) ev_c rv_I0)) (fun hb => ?_) (fun _ H2 e2 => ?_)
    · have : ¬ (400 < n) := by omega
      simp_all
    · exact s_ret (ev_call (ea_cons (ev_var rfl) (ea_cons (ev_var rfl) ea_nil)) (sv_count hn.2)) fun H3 e3 => q H3 ((e1.trans e2).trans e3)
/-! ### law -/
abbrev s_law : Stmt := topS 14
theorem sc_law : FnScope ["script", "many", "some", "found", "without", "fewer"] ["script"] (defScope s_law) := ⟨rfl, rfl, rfl, by decide +kernel, rfl, by decide +kernel, by decide +kernel⟩
def sp_law (K : PySem.W.Frag) : Sp := fun vs H Q _ => ∃ (a : Addr) (ns : List Int), vs = [.ref a] ∧ SqL K H a (ns.map V.int) ∧ ns.length ≤ 63 ∧ ∀ H', Q (.bl true) H'
theorem k02_a {n k : Int} (h0 : 1 ≤ n) : Ci n k = Ci (n - 1) k + Ci (n - 1) (k - 1) := by
  obtain ⟨m, rfl⟩ : ∃ m : Nat, n = ((m + 1 : Nat) : Int) := ⟨n.toNat - 1, by omega⟩
  rw [show (((m + 1 : Nat) : Int) - 1) = (m : Int) by omega]
  by_cases h : k < 0
  · rw [Ci_out (.inl h), Ci_out (.inl h), Ci_out (by omega)]
    rfl
  · obtain ⟨j, rfl⟩ : ∃ j : Nat, k = j := ⟨k.toNat, by omega⟩
    cases j with
    | zero =>
      rw [Ci_nat, Ci_nat, Ci_out (by omega), C_0r, C_0r]
      rfl
    | succ j =>
      rw [show (((j + 1 : Nat) : Int) - 1) = (j : Int) by omega, Ci_nat, Ci_nat, Ci_nat, C_ss]
      omega
theorem k02_b {n k : Int} (h0 : 1 ≤ n) : k * Ci n k = n * Ci (n - 1) (k - 1) := by
  obtain ⟨m, rfl⟩ : ∃ m : Nat, n = ((m + 1 : Nat) : Int) := ⟨n.toNat - 1, by omega⟩
  rw [show (((m + 1 : Nat) : Int) - 1) = (m : Int) by omega]
  by_cases h : k < 0
  · rw [Ci_out (.inl h), Ci_out (by omega)]
    omega
  · obtain ⟨j, rfl⟩ : ∃ j : Nat, k = j := ⟨k.toNat, by omega⟩
    cases j with
    | zero =>
      rw [Ci_out (n := (m : Int)) (by omega)]
      show (0 : Int) * _ = _ * 0
      rw [Int.zero_mul, Int.mul_zero]
    | succ j =>
      rw [show (((j + 1 : Nat) : Int) - 1) = (j : Int) by omega, Ci_nat, Ci_nat]
      have h := C_abs m j
      exact_mod_cast h
theorem ok_law {P : Program} {w : World} {K : PySem.W.Frag} {mg : Str → Option Value} {base : Heap} {f : Addr} {fd : FuncData} {f_choices : Addr} {fd_choices : FuncData} {f__law_cell_at : Addr} {fd__law_cell_at : FuncData} {f__law_whole : Addr} {fd__law_whole : FuncData} (F : Fun K "law" "law" s_law f fd)
    (D_choices : Def P w K mg base CX0 2 "choices" ["many", "some"] (sp_choices K) f_choices fd_choices)
    (D__law_cell_at : Def P w K mg base CX0 1 "_law_cell_at" ["script", "k"] (sp__law_cell_at K) f__law_cell_at fd__law_cell_at)
    (D__law_whole : Def P w K mg base CX0 1 "_law_whole" ["found"] (sp__law_whole K) f__law_whole fd__law_whole) :
    FnOk P w K mg base CX0 3 f fd ["script"] (sp_law K) := by
  refine F.ok sc_law (fun vs H Q E h => ?_) (fun cdv A outer s H vs Q E hr h => ?_)
  · obtain ⟨a, ns, rfl, hS, hlen, q⟩ := h
    rfl
  · obtain ⟨a, ns, rfl, hS, hlen, q⟩ := h
    refine ⟨_, (pss_cons (ps_set (i := 1) sc_law.nd rfl (Or.inl rfl) (pe_op op_add pe_int (pe_op op_mod (pe_call D__law_cell_at.ok (hr.mono (by decide)) (by rfl) D__law_cell_at.g D__law_cell_at.kp D__law_cell_at.b .nil pass0 (pa_cons (pv 0) (pa_cons pe_int pa_nil))) pe_int)))
      (pss_cons (ps_set (i := 2) sc_law.nd rfl (Or.inl rfl) (pe_op op_sub (pe_op op_mod (pe_call D__law_cell_at.ok (hr.mono (by decide)) (by rfl) D__law_cell_at.g D__law_cell_at.kp D__law_cell_at.b .nil pass0 (pa_cons (pv 0) (pa_cons pe_int pa_nil))) (pe_op op_add (pv 1) pe_int)) pe_int))
      (pss_cons (ps_set (i := 3) sc_law.nd rfl (Or.inl rfl) (pe_call D_choices.ok (hr.mono (by decide)) (by rfl) D_choices.g D_choices.kp D_choices.b .nil pass0 (pa_cons (pv 1) (pa_cons (pv 2) pa_nil))))
      (pss_cons (ps_set (i := 4) sc_law.nd rfl (Or.inl rfl) (pe_call D_choices.ok (hr.mono (by decide)) (by rfl) D_choices.g D_choices.kp D_choices.b .nil pass0 (pa_cons (pe_op op_sub (pv 1) pe_int) (pa_cons (pv 2) pa_nil))))
      (pss_cons (ps_set (i := 5) sc_law.nd rfl (Or.inl rfl) (pe_call D_choices.ok (hr.mono (by decide)) (by rfl) D_choices.g D_choices.kp D_choices.b .nil pass0 (pa_cons (pe_op op_sub (pv 1) pe_int) (pa_cons (pe_op op_sub (pv 2) pe_int) pa_nil))))
      (pss_cons (ps_if (PW.pt (pw_or (pt_not (pt_val (pe_call D__law_whole.ok (hr.mono (by decide)) (by rfl) D__law_whole.g D__law_whole.kp D__law_whole.b .nil pass0 (pa_cons (pv 3) pa_nil)))) (pw_or (pt_not (pt_val (pe_call D__law_whole.ok (hr.mono (by decide)) (by rfl) D__law_whole.g D__law_whole.kp D__law_whole.b .nil pass0 (pa_cons (pv 4) pa_nil)))) (pw_or1 (pt_not (pt_val (pe_call D__law_whole.ok (hr.mono (by decide)) (by rfl) D__law_whole.g D__law_whole.kp D__law_whole.b .nil pass0 (pa_cons (pv 5) pa_nil)))))))) (pss_one (ps_ret pe_bl)) pss_nil)
      (pss_one (ps_ret (pe_and (pe_cmpR op_eq (pv 3) (pe_op op_add (pv 4) (pv 5)) (nomark _)) (pe_one (pe_cmpR op_eq (pe_op op_mul (pv 2) (pv 3)) (pe_op op_mul (pv 1) (pv 5)) (nomark _)))))))))))), ?_⟩
    refine q_asg (ev_op ev_c (ev_op (ev_call (ea_cons (ev_var rfl) (ea_cons ev_c ea_nil)) (sv__law_cell_at (by walk_at "sv__law_cell_at"))) ev_c (rv_I (by walk_at "op_mod"))) rv_I0) fun H1 e1 => ?_
    obtain ⟨n, hn, h0, h1⟩ : ∃ n, 1 + cell ns 0 % 400 = n ∧ 1 ≤ n ∧ n ≤ 400 := ⟨_, rfl, by omega, by omega⟩
    rw [hn]
    refine q_asg (ev_op (ev_op (ev_call (ea_cons (ev_var rfl) (ea_cons ev_c ea_nil)) (sv__law_cell_at (by walk_at "sv__law_cell_at"))) (ev_op (ev_var rfl) ev_c rv_I0) (rv_I (by walk_at "op_mod"))) ev_c rv_I0) fun H2 e2 => ?_
    obtain ⟨k, k0, k1, hk⟩ := drawn (x := cell ns 1) (m := n + 7) (by omega)
    rw [hk]
    refine q_asg (ev_call (ea_cons (ev_var rfl) (ea_cons (ev_var rfl) ea_nil)) (sv_choices (by walk_at "side"))) fun H3 e3 => ?_
    refine q_asg (ev_call (ea_cons (ev_op (ev_var rfl) ev_c rv_I0) (ea_cons (ev_var rfl) ea_nil)) (sv_choices (by walk_at "side"))) fun H4 e4 => ?_
    refine q_asg (ev_call (ea_cons (ev_op (ev_var rfl) ev_c rv_I0) (ea_cons (ev_op (ev_var rfl) ev_c rv_I0) ea_nil)) (sv_choices (by walk_at "side"))) fun H5 e5 => ?_
    refine q_when (et_or (et_not (et_B (ev_call (ea_cons (ev_var rfl) ea_nil) sv__law_whole))) (fun _ => (et_or (et_not (et_B (ev_call (ea_cons (ev_var rfl) ea_nil) sv__law_whole))) (fun _ => (et_not (et_B (ev_call (ea_cons (ev_var rfl) ea_nil) sv__law_whole))))))) (fun hb => ?_) (fun _ H6 e6 => ?_)
    · simp at hb
    · refine s_ret (ev_andV (ev_op (ev_var rfl) (ev_op (ev_var rfl) (ev_var rfl) rv_I0) (rv_eq rfl)) (fun _ => (ev_op (ev_op (ev_var rfl) (ev_var rfl) (rv_I (by walk_at "op_mul"))) (ev_op (ev_var rfl) (ev_var rfl) (rv_I (by walk_at "op_mul"))) (rv_eq rfl)))) fun H7 e7 => ?_
      rw [← k02_a h0, k02_b h0, decide_eq_true rfl, decide_eq_true rfl]
      exact q _

/-! ### what the top has written -/
theorem all_mk {l : PySem.W.OpenLaw} {w : World} {K : PySem.W.Frag} {h : Heap} {mg : Str → Option Value} {fa f1 f2 f3 f4 f5 f6 : Addr} (X : K.In h) (G : h.Ns mainGlobals mg) (hfa : mg "law" = some (.ref fa))
    {od1 an1 od2 an2 od3 an3 od4 an4 od5 an5 od6 an6 : Option Addr} {sl1 sl2 sl3 sl4 sl5 sl6 : Array (Option Value)} {oc1 kV1 dc1 pm1 cd1 ct1 oc2 kV2 dc2 pm2 cd2 ct2 oc3 kV3 dc3 pm3 cd3 ct3 oc4 kV4 dc4 pm4 cd4 ct4 oc5 kV5 dc5 pm5 cd5 ct5 oc6 kV6 dc6 pm6 cd6 ct6 : Value} {t_GREATEST t_MOST : Tok}
    (a1 : PySem.W.nsIn K mainGlobals "asked_many" = some (some (.ref f1))) (l1 : K.lookup f1 = some ⟨oc1, od1, .func (PySem.W.fnOf "asked_many" "asked_many" (defArgs s_asked_many) (defBody s_asked_many) (defScope s_asked_many) .none kV1 dc1 pm1 an1 cd1 ct1), sl1⟩) (c1 : PySem.W.codeIn K cd1 "asked_many" = true) (k1 : PySem.W.keepIn K (.ref f1) = true)
    (a2 : PySem.W.nsIn K mainGlobals "count" = some (some (.ref f2))) (l2 : K.lookup f2 = some ⟨oc2, od2, .func (PySem.W.fnOf "count" "count" (defArgs s_count) (defBody s_count) (defScope s_count) .none kV2 dc2 pm2 an2 cd2 ct2), sl2⟩) (c2 : PySem.W.codeIn K cd2 "count" = true) (k2 : PySem.W.keepIn K (.ref f2) = true)
    (a3 : PySem.W.nsIn K mainGlobals "choices" = some (some (.ref f3))) (l3 : K.lookup f3 = some ⟨oc3, od3, .func (PySem.W.fnOf "choices" "choices" (defArgs s_choices) (defBody s_choices) (defScope s_choices) .none kV3 dc3 pm3 an3 cd3 ct3), sl3⟩) (c3 : PySem.W.codeIn K cd3 "choices" = true) (k3 : PySem.W.keepIn K (.ref f3) = true)
    (a4 : PySem.W.nsIn K mainGlobals "_law_cell_at" = some (some (.ref f4))) (l4 : K.lookup f4 = some ⟨oc4, od4, .func (PySem.W.fnOf "_law_cell_at" "_law_cell_at" (defArgs s__law_cell_at) (defBody s__law_cell_at) (defScope s__law_cell_at) .none kV4 dc4 pm4 an4 cd4 ct4), sl4⟩) (c4 : PySem.W.codeIn K cd4 "_law_cell_at" = true) (k4 : PySem.W.keepIn K (.ref f4) = true)
    (a5 : PySem.W.nsIn K mainGlobals "_law_whole" = some (some (.ref f5))) (l5 : K.lookup f5 = some ⟨oc5, od5, .func (PySem.W.fnOf "_law_whole" "_law_whole" (defArgs s__law_whole) (defBody s__law_whole) (defScope s__law_whole) .none kV5 dc5 pm5 an5 cd5 ct5), sl5⟩) (c5 : PySem.W.codeIn K cd5 "_law_whole" = true) (k5 : PySem.W.keepIn K (.ref f5) = true)
    (a6 : PySem.W.nsIn K mainGlobals "law" = some (some (.ref f6))) (l6 : K.lookup f6 = some ⟨oc6, od6, .func (PySem.W.fnOf "law" "law" (defArgs s_law) (defBody s_law) (defScope s_law) .none kV6 dc6 pm6 an6 cd6 ct6), sl6⟩) (c6 : PySem.W.codeIn K cd6 "law" = true) (k6 : PySem.W.keepIn K (.ref f6) = true)
    (z_range : PySem.W.nsIn K mainGlobals "range" = some none)
    (z_len : PySem.W.nsIn K mainGlobals "len" = some none)
    (z_isinstance : PySem.W.nsIn K mainGlobals "isinstance" = some none)
    (z_int : PySem.W.nsIn K mainGlobals "int" = some none)
    (z_bool : PySem.W.nsIn K mainGlobals "bool" = some none)
    (g_GREATEST : PySem.W.nsIn K mainGlobals "GREATEST" = some (some (.int 1000000000000000000000000000000 t_GREATEST)))
    (g_MOST : PySem.W.nsIn K mainGlobals "MOST" = some (some (.int 400 t_MOST)))
    : ∃ fd : FuncData, (∀ (s : Shared) (v : Value), BindsTo s fd ⟨[v], []⟩ [("script", v)]) ∧ ∀ base : Heap, K.In base → base.Ns mainGlobals mg → FnOk l.prog w K mg base CX0 3 fa fd ["script"] (sp_law K) := by
  have e := hfa.symm.trans (PySem.W.mg_of X G a6)
  cases e
  have F1 := fun_mk (st := s_asked_many) l1 c1 k1
  have b1 := F1.binds (ps := ["many"]) fun _ _ _ _ _ _ us hl => match us, hl with | [_], _ => rfl
  have F2 := fun_mk (st := s_count) l2 c2 k2
  have b2 := F2.binds (ps := ["many", "some"]) fun _ _ _ _ _ _ us hl => match us, hl with | [_, _], _ => rfl
  have F3 := fun_mk (st := s_choices) l3 c3 k3
  have b3 := F3.binds (ps := ["many", "some"]) fun _ _ _ _ _ _ us hl => match us, hl with | [_, _], _ => rfl
  have F4 := fun_mk (st := s__law_cell_at) l4 c4 k4
  have b4 := F4.binds (ps := ["script", "k"]) fun _ _ _ _ _ _ us hl => match us, hl with | [_, _], _ => rfl
  have F5 := fun_mk (st := s__law_whole) l5 c5 k5
  have b5 := F5.binds (ps := ["found"]) fun _ _ _ _ _ _ us hl => match us, hl with | [_], _ => rfl
  have F6 := fun_mk (st := s_law) l6 c6 k6
  refine ⟨PySem.W.fnOf "law" "law" (defArgs s_law) (defBody s_law) (defScope s_law) .none kV6 dc6 pm6 an6 cd6 ct6, fun s v => .of_eq rfl, fun base _ _ => ?_⟩
  have D1 : Def l.prog w K mg base CX0 1 "asked_many" ["many"] (sp_asked_many K) f1 _ := ⟨ok_asked_many F1 (PySem.W.mg_of X G g_GREATEST), PySem.W.mg_of X G a1, k1, b1⟩
  have D2 : Def l.prog w K mg base CX0 1 "count" ["many", "some"] (sp_count K) f2 _ := ⟨ok_count F2 (PySem.W.mg_none_of X G z_range), PySem.W.mg_of X G a2, k2, b2⟩
  have D4 : Def l.prog w K mg base CX0 1 "_law_cell_at" ["script", "k"] (sp__law_cell_at K) f4 _ := ⟨ok__law_cell_at F4 (PySem.W.mg_none_of X G z_len), PySem.W.mg_of X G a4, k4, b4⟩
  have D5 : Def l.prog w K mg base CX0 1 "_law_whole" ["found"] (sp__law_whole K) f5 _ := ⟨ok__law_whole F5 (PySem.W.mg_none_of X G z_isinstance) (PySem.W.mg_none_of X G z_int) (PySem.W.mg_none_of X G z_bool), PySem.W.mg_of X G a5, k5, b5⟩
  have D3 : Def l.prog w K mg base CX0 2 "choices" ["many", "some"] (sp_choices K) f3 _ := ⟨ok_choices F3 D1 D2 (PySem.W.mg_of X G g_MOST), PySem.W.mg_of X G a3, k3, b3⟩
  exact ok_law F6 D3 D4 D5
end Ch
open PySem PySem.W PyProof.Rows
set_option maxHeartbeats 0 in
theorem PySem.Challenge.cw_choicefigures_k02_whole_rules_of_choices_holds : PySem.Challenge.rw_choicefigures_k02_whole_rules_of_choices.Holds := by
  w_on; o_law; k_head; (case hw => w_witness2)
  k_fill
  refine L2.walk_of (l := PySem.Challenge.rw_choicefigures_k02_whole_rules_of_choices) (n := 63) (k := 3) (x := "script") (CX := fun _ => L2.CX0) (sp := fun w => Ch.sp_law _) rfl (by decide) rfl ⟨rfl, by decide, by decide⟩ (fun w h Y => PySem.W.kIn_of Y) ?F (fun _ _ a ns hl _ hS => ⟨a, ns, rfl, hS, hl, fun _ => rfl⟩) (fun _ _ _ _ _ h => h)
  case F =>
    intro w mg fa h KX G hmg
    refine' Ch.all_mk KX G hmg ?a1 ?l1 ?c1 ?k1 ?a2 ?l2 ?c2 ?k2 ?a3 ?l3 ?c3 ?k3 ?a4 ?l4 ?c4 ?k4 ?a5 ?l5 ?c5 ?k5 ?a6 ?l6 ?c6 ?k6 ?z_range ?z_len ?z_isinstance ?z_int ?z_bool ?g_GREATEST ?g_MOST
    (case a1 => k_is); (case l1 => k_is); (case c1 => k_is); (case k1 => k_is); (case a2 => k_is); (case l2 => k_is)
    (case c2 => k_is); (case k2 => k_is); (case a3 => k_is); (case l3 => k_is); (case c3 => k_is); (case k3 => k_is)
    (case a4 => k_is); (case l4 => k_is); (case c4 => k_is); (case k4 => k_is); (case a5 => k_is); (case l5 => k_is)
    (case c5 => k_is); (case k5 => k_is); (case a6 => k_is); (case l6 => k_is); (case c6 => k_is); (case k6 => k_is)
    (case z_range => k_is); (case z_len => k_is); (case z_isinstance => k_is); (case z_int => k_is); (case z_bool => k_is); (case g_GREATEST => k_is)
    (case g_MOST => k_is)
