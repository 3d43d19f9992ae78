import PyProof.Rows.All
import Wide.All
import OpenK.AllK
import Wide.FinOn
import HandS.ForMost
import HandS.Wide
import HandS.Gcd
import HandS.Property
import HandS.IsInst
import HandS.Defaults
import PySem.Challenge.RW_certsums_k24_whole_systems_decided
set_option Elab.async false
set_option linter.all false
/-! part KsMath -/
set_option maxHeartbeats 1000000
namespace Ks
/-! ### sums -/
def sm : Nat → (Nat → Rat) → Rat
  | 0, _ => 0
  | n + 1, f => sm n f + f n
theorem sm_congr {n : Nat} {f g : Nat → Rat} (h : ∀ i, i < n → f i = g i) : sm n f = sm n g := by
  induction n with
  | zero => rfl
  | succ n ih =>
    simp only [sm]
    rw [ih fun i hi => h i (Nat.lt_succ_of_lt hi), h n (Nat.lt_succ_self n)]
theorem sm_zero {n : Nat} {f : Nat → Rat} (h : ∀ i, i < n → f i = 0) : sm n f = 0 := by
  induction n with
  | zero => rfl
  | succ n ih =>
    simp only [sm]
    rw [ih fun i hi => h i (Nat.lt_succ_of_lt hi), h n (Nat.lt_succ_self n)]
    grind
theorem sm_lin {n : Nat} {f g : Nat → Rat} (a : Rat) : sm n (fun i => f i - a * g i) = sm n f - a * sm n g := by
  induction n with
  | zero => simp only [sm]; grind
  | succ n ih => simp only [sm]; rw [ih]; grind
theorem sm_div {n : Nat} {f : Nat → Rat} (a : Rat) : sm n (fun i => f i / a) = sm n f / a := by
  induction n with
  | zero => simp only [sm]; grind
  | succ n ih => simp only [sm]; rw [ih]; grind
theorem sm_single {n : Nat} {f : Nat → Rat} {j : Nat} (hj : j < n) (h : ∀ i, i < n → i ≠ j → f i = 0) : sm n f = f j := by
  induction n with
  | zero => omega
  | succ n ih =>
    simp only [sm]
    by_cases e : j = n
    · subst e
      rw [sm_zero fun i hi => h i (Nat.lt_succ_of_lt hi) (by omega)]
      grind
    · rw [ih (by omega) fun i hi => h i (Nat.lt_succ_of_lt hi), h n (Nat.lt_succ_self n) (fun z => e z.symm)]
      grind
/-! ### elimination -/
def src (F : Nat → Nat → Rat) (r p : Nat) (i : Nat) : Nat → Rat := if i = p then F r else F i
def step (F : Nat → Nat → Rat) (r p c : Nat) : Nat → Nat → Rat := fun i j =>
  if i = r then F p j / F p c else src F r p i j - src F r p i c * (F p j / F p c)
def init (n : Nat) (A : Nat → Nat → Rat) : Nat → Nat → Rat := fun i j => if j < n then A i j else if i = j - n then 1 else 0
structure Red (m n : Nat) (A F : Nat → Nat → Rat) (pv : List Nat) (c : Nat) : Prop where
  comb : ∀ i, i < m → ∀ j, j < n → F i j = sm m (fun k => F i (n + k) * A k j)
  inj : ∀ (b x : Nat → Rat), (∀ i, i < m → sm n (fun j => F i j * x j) = sm m (fun k => F i (n + k) * b k)) → ∀ i, i < m → sm n (fun j => A i j * x j) = b i
  len : pv.length ≤ m
  lenc : pv.length ≤ c
  unit : ∀ i q, pv[i]? = some q → q < c ∧ ∀ k, k < m → F k q = if k = i then 1 else 0
  zero : ∀ i, pv.length ≤ i → i < m → ∀ j, j < c → F i j = 0
theorem src_mem {F : Nat → Nat → Rat} {r p i m : Nat} (hr : r < m) (hi : i < m) : ∃ k, k < m ∧ src F r p i = F k := by
  unfold src
  split
  · exact ⟨r, hr, rfl⟩
  · exact ⟨i, hi, rfl⟩
theorem red_init (m n : Nat) (A : Nat → Nat → Rat) : Red m n A (init n A) [] 0 where
  comb := fun i hi j hj => by
    rw [sm_single (j := i) hi]
    · simp only [init]
      rw [if_pos hj, if_neg (by omega), if_pos (by omega)]
      grind
    · intro k hk hne
      simp only [init]
      rw [if_neg (by omega), if_neg (by omega)]
      grind
  inj := fun b x h i hi => by
    have e := h i hi
    rw [sm_single (n := m) (j := i) hi] at e
    · have e2 : init n A i (n + i) = 1 := by
        simp only [init]
        rw [if_neg (by omega), if_pos (by omega)]
      rw [e2] at e
      have e3 : sm n (fun j => init n A i j * x j) = sm n (fun j => A i j * x j) := sm_congr fun j hj => by
        simp only [init]
        rw [if_pos hj]
      rw [← e3, e]
      grind
    · intro k hk hne
      simp only [init]
      rw [if_neg (by omega), if_neg (by omega)]
      grind
  len := Nat.zero_le _
  lenc := Nat.zero_le _
  unit := fun i q h => by simp at h
  zero := fun i _ _ j hj => by omega
theorem Red.skip {m n : Nat} {A F : Nat → Nat → Rat} {pv : List Nat} {c : Nat} (R : Red m n A F pv c) (h : ∀ i, pv.length ≤ i → i < m → F i c = 0) : Red m n A F pv (c + 1) where
  comb := R.comb
  inj := R.inj
  len := R.len
  lenc := Nat.le_succ_of_le R.lenc
  unit := fun i q e => ⟨Nat.lt_succ_of_lt (R.unit i q e).1, (R.unit i q e).2⟩
  zero := fun i h1 h2 j hj => by
    by_cases e : j = c
    · subst e; exact h i h1 h2
    · exact R.zero i h1 h2 j (by omega)
theorem Red.step {m n : Nat} {A F : Nat → Nat → Rat} {pv : List Nat} {c p : Nat} (R : Red m n A F pv c) (h1 : pv.length ≤ p) (h2 : p < m) (hc : F p c ≠ 0) :
    Red m n A (step F pv.length p c) (pv ++ [c]) (c + 1) := by
  have hr : pv.length < m := by omega
  have hself : F p c / F p c = 1 := by grind
  refine ⟨fun i hi j hj => ?_, fun b x h => R.inj b x ?_, by simp; omega, by simp; exact R.lenc, fun i q e => ?_, fun i hi1 hi2 j hj => ?_⟩
  · have key : ∀ k, k < m → F k j = sm m (fun l => F k (n + l) * A l j) := fun k hk => R.comb k hk j hj
    simp only [Ks.step]
    by_cases e : i = pv.length
    · simp only [if_pos e]
      have : sm m (fun k => F p (n + k) / F p c * A k j) = sm m (fun k => (F p (n + k) * A k j) / F p c) := sm_congr fun k _ => by grind
      rw [this, sm_div, ← key p h2]
    · simp only [if_neg e]
      obtain ⟨k, hk, ek⟩ := src_mem (F := F) (p := p) hr hi
      rw [ek]
      have : sm m (fun l => (F k (n + l) - F k c * (F p (n + l) / F p c)) * A l j) = sm m (fun l => F k (n + l) * A l j - (F k c / F p c) * (F p (n + l) * A l j)) := sm_congr fun l _ => by grind
      rw [this, sm_lin, ← key p h2, ← key k hk]
      grind
  · -- rows of the old table
    have lr := h pv.length hr
    simp only [Ks.step, if_pos] at lr
    have e1 : sm n (fun j => F p j / F p c * x j) = sm n (fun j => F p j * x j) / F p c := by
      rw [← sm_div]; exact sm_congr fun k _ => by grind
    have e2 : sm m (fun k => F p (n + k) / F p c * b k) = sm m (fun k => F p (n + k) * b k) / F p c := by
      rw [← sm_div]; exact sm_congr fun k _ => by grind
    rw [e1, e2] at lr
    have lp : sm n (fun j => F p j * x j) = sm m (fun k => F p (n + k) * b k) := by grind
    have lo : ∀ i, i < m → i ≠ pv.length → sm n (fun j => src F pv.length p i j * x j) = sm m (fun k => src F pv.length p i (n + k) * b k) := fun i hi hne => by
      have q := h i hi
      simp only [Ks.step, if_neg hne] at q
      have e3 : sm n (fun j => (src F pv.length p i j - src F pv.length p i c * (F p j / F p c)) * x j) = sm n (fun j => src F pv.length p i j * x j - (src F pv.length p i c / F p c) * (F p j * x j)) := sm_congr fun l _ => by grind
      have e4 : sm m (fun k => (src F pv.length p i (n + k) - src F pv.length p i c * (F p (n + k) / F p c)) * b k) = sm m (fun k => src F pv.length p i (n + k) * b k - (src F pv.length p i c / F p c) * (F p (n + k) * b k)) := sm_congr fun l _ => by grind
      rw [e3, e4, sm_lin, sm_lin, lp] at q
      grind
    intro i hi
    by_cases ep : i = p
    · subst ep; exact lp
    · by_cases er : i = pv.length
      · have q := lo p h2 (by omega)
        simp only [src, if_pos] at q
        rw [er]; exact q
      · have q := lo i hi er
        simp only [src, if_neg ep] at q
        exact q
  · by_cases hi : i < pv.length
    · rw [List.getElem?_append_left hi] at e
      obtain ⟨u1, u2⟩ := R.unit i q e
      refine ⟨Nat.lt_succ_of_lt u1, fun k hk => ?_⟩
      have up : F p q = 0 := by rw [u2 p h2, if_neg (by omega)]
      simp only [Ks.step]
      by_cases ek : k = pv.length
      · rw [if_pos ek, up, if_neg (by omega)]; grind
      · rw [if_neg ek, up]
        simp only [src]
        by_cases ekp : k = p
        · simp only [if_pos ekp]
          rw [u2 _ hr, if_neg (by omega), if_neg (by omega)]; grind
        · simp only [if_neg ekp]
          rw [u2 _ hk]; grind
    · have hi2 : i = pv.length := by
        have := (List.getElem?_eq_some_iff.mp e).1
        simp at this; omega
      subst hi2
      simp at e
      subst e
      refine ⟨Nat.lt_succ_self _, fun k hk => ?_⟩
      simp only [Ks.step]
      by_cases ek : k = pv.length
      · rw [if_pos ek, if_pos ek]; exact hself
      · rw [if_neg ek, if_neg ek, hself]; grind
  · simp at hi1
    simp only [Ks.step]
    rw [if_neg (by omega)]
    have sz : ∀ j, j < c → src F pv.length p i j = 0 := fun j hj => by
      simp only [src]
      split
      · exact R.zero _ (Nat.le_refl _) hr j hj
      · exact R.zero _ (by omega) hi2 j hj
    by_cases e : j = c
    · subst e; rw [hself]; grind
    · rw [sz j (by omega), R.zero p h1 h2 j (by omega)]; grind
theorem Red.dist {m n : Nat} {A F : Nat → Nat → Rat} {pv : List Nat} {c : Nat} (R : Red m n A F pv c) {i k q : Nat} (h1 : pv[i]? = some q) (h2 : pv[k]? = some q) : i = k := by
  have l := R.len
  have hi := (List.getElem?_eq_some_iff.mp h1).1
  have a := (R.unit i q h1).2 i (by omega)
  have b := (R.unit k q h2).2 i (by omega)
  rw [if_pos rfl] at a
  by_cases e : i = k
  · exact e
  · rw [if_neg e, a] at b
    exact absurd b (by decide)
theorem Red.refut {m n : Nat} {A F : Nat → Nat → Rat} {pv : List Nat} (R : Red m n A F pv n) {i : Nat} (h1 : pv.length ≤ i) (h2 : i < m) {j : Nat} (hj : j < n) : sm m (fun k => F i (n + k) * A k j) = 0 := by
  rw [← R.comb i h2 j hj]; exact R.zero i h1 h2 j hj
theorem Red.sol {m n : Nat} {A F : Nat → Nat → Rat} {pv : List Nat} (R : Red m n A F pv n) {b x : Nat → Rat} (h0 : ∀ i, pv.length ≤ i → i < m → sm m (fun k => F i (n + k) * b k) = 0)
    (h1 : ∀ i q, pv[i]? = some q → x q = sm m (fun k => F i (n + k) * b k)) (h2 : ∀ j, j < n → j ∉ pv → x j = 0) : ∀ i, i < m → sm n (fun j => A i j * x j) = b i := by
  refine R.inj b x fun i hi => ?_
  by_cases e : i < pv.length
  · obtain ⟨q, hq⟩ : ∃ q, pv[i]? = some q := ⟨_, List.getElem?_eq_getElem e⟩
    obtain ⟨u1, u2⟩ := R.unit i q hq
    rw [sm_single (j := q) u1]
    · rw [u2 i hi, if_pos rfl, h1 i q hq]; grind
    · intro j hj hne
      by_cases hm : j ∈ pv
      · obtain ⟨k, hk⟩ := List.getElem?_of_mem hm
        have hki : i ≠ k := fun z => by subst z; rw [hq] at hk; exact hne (Option.some.inj hk).symm
        rw [(R.unit k j hk).2 i hi, if_neg hki]; grind
      · rw [h2 j hj hm]; grind
  · rw [h0 i (by omega) hi]
    exact sm_zero fun j hj => by rw [R.zero i (by omega) hi j hj]; grind
end Ks
/-! part KsSize -/
set_option maxHeartbeats 1000000
namespace Ks
/-! ### Fraction's own arithmetic -/
theorem gcd_int (num den : Int) : ((Nat.gcd num.natAbs den.natAbs : Nat) : Int) = (Int.gcd num den : Int) := rfl
/-- num // divisor and den // divisor in __init__ -/
theorem init_num {num den : Int} (h : den ≠ 0) : num.fdiv (if den < 0 then -((Nat.gcd num.natAbs den.natAbs : Nat) : Int) else ((Nat.gcd num.natAbs den.natAbs : Nat) : Int)) = (Rat.divInt num den).num := by
  have hg : 0 < Nat.gcd num.natAbs den.natAbs := Nat.gcd_pos_of_pos_right _ (by omega)
  have hd : ((Nat.gcd num.natAbs den.natAbs : Nat) : Int) ∣ num := Int.ofNat_dvd_left.mpr (Nat.gcd_dvd_left _ _)
  rw [Rat.num_divInt]
  have e : ((den.gcd num : Nat) : Int) = ((Nat.gcd num.natAbs den.natAbs : Nat) : Int) := by rw [Int.gcd_comm]; rfl
  rw [e]
  generalize ((Nat.gcd num.natAbs den.natAbs : Nat) : Int) = g at hd
  obtain ⟨k, rfl⟩ := hd
  by_cases h0 : den < 0
  · rw [if_pos h0, Int.sign_eq_neg_one_of_neg h0]
    by_cases hz : g = 0
    · subst hz; simp
    · have e1 : g * k = -g * -k := by rw [Int.neg_mul_neg]
      have e2 : -1 * (g * k) = g * -k := by rw [Int.mul_neg]; omega
      rw [e2, Int.mul_ediv_cancel_left _ hz]
      conv => lhs; rw [e1]
      rw [Int.fdiv_eq_ediv_of_dvd ⟨-k, rfl⟩, Int.mul_ediv_cancel_left _ (by omega)]
  · rw [if_neg h0, Int.sign_eq_one_of_pos (by omega)]
    by_cases hz : g = 0
    · subst hz; simp
    · rw [Int.one_mul, Int.fdiv_eq_ediv_of_dvd ⟨k, rfl⟩]
theorem init_den {num den : Int} (h : den ≠ 0) : den.fdiv (if den < 0 then -((Nat.gcd num.natAbs den.natAbs : Nat) : Int) else ((Nat.gcd num.natAbs den.natAbs : Nat) : Int)) = ((Rat.divInt num den).den : Int) := by
  have hg : 0 < Nat.gcd num.natAbs den.natAbs := Nat.gcd_pos_of_pos_right _ (by omega)
  have hd : ((Nat.gcd num.natAbs den.natAbs : Nat) : Int) ∣ den := Int.ofNat_dvd_left.mpr (Nat.gcd_dvd_right _ _)
  rw [Rat.den_divInt, if_neg h]
  have e : den.gcd num = Nat.gcd num.natAbs den.natAbs := by rw [Int.gcd_comm]; rfl
  rw [e]
  rw [Int.natCast_ediv]
  have hgz : ((Nat.gcd num.natAbs den.natAbs : Nat) : Int) ≠ 0 := by omega
  generalize ((Nat.gcd num.natAbs den.natAbs : Nat) : Int) = g at hd hgz
  obtain ⟨k, rfl⟩ := hd
  by_cases h0 : g * k < 0
  · rw [if_pos h0]
    have e1 : g * k = -g * -k := by rw [Int.neg_mul_neg]
    have e2 : ((g * k).natAbs : Int) = g * -k := by rw [Int.mul_neg]; omega
    rw [e2, Int.mul_ediv_cancel_left _ hgz]
    conv => lhs; rw [e1]
    rw [Int.fdiv_eq_ediv_of_dvd ⟨-k, rfl⟩, Int.mul_ediv_cancel_left _ (by omega)]
  · rw [if_neg h0]
    have e2 : ((g * k).natAbs : Int) = g * k := by omega
    rw [e2, Int.fdiv_eq_ediv_of_dvd ⟨k, rfl⟩]
theorem divInt_add {x y : Rat} : Rat.divInt (x.num * y.den + y.num * x.den) (x.den * y.den) = x + y := by
  rw [Rat.add_def', ← Int.natCast_mul, Rat.divInt_ofNat]
theorem divInt_sub {x y : Rat} : Rat.divInt (x.num * y.den - y.num * x.den) (x.den * y.den) = x - y := by
  rw [Rat.sub_def', ← Int.natCast_mul, Rat.divInt_ofNat]
theorem divInt_mul {x y : Rat} : Rat.divInt (x.num * y.num) (x.den * y.den) = x * y := by
  rw [Rat.mul_def', ← Int.natCast_mul, Rat.divInt_ofNat]
theorem divInt_over {x y : Rat} : Rat.divInt (x.num * y.den) (x.den * y.num) = x / y := by
  rw [Rat.div_def, Rat.inv_def]
  conv => rhs; lhs; rw [← Rat.num_divInt_den x]
  rw [Rat.divInt_mul_divInt]
theorem divInt_one (n : Int) : Rat.divInt n 1 = (n : Rat) := by
  rw [Rat.divInt_eq_div]
  have : ((1 : Int) : Rat) = 1 := rfl
  rw [this]; grind
theorem den_pos (x : Rat) : (0 : Int) < (x.den : Int) := by have := x.den_nz; omega
/-- a fraction, its numerator and its denominator -/
theorem cast_ne {z : Int} (h : z ≠ 0) : (z : Rat) ≠ 0 := fun e => h (by
  have : ((z : Rat)).num = (0 : Rat).num := by rw [e]
  exact this)
theorem num_eq (x : Rat) : x * ((x.den : Int) : Rat) = (x.num : Rat) := by
  have h := Rat.num_divInt_den x
  rw [Rat.divInt_eq_div] at h
  have h2 := cast_ne (show (x.den : Int) ≠ 0 by have := den_pos x; omega)
  generalize ((x.den : Int) : Rat) = d at *
  generalize (x.num : Rat) = n at *
  grind
/-! ### algebra -/
theorem mul_cancel {a b c : Rat} (hc : c ≠ 0) (h : a * c = b * c) : a = b := by
  have : (a - b) * c = 0 := by grind
  rcases Rat.mul_eq_zero.mp this with z | z
  · grind
  · exact absurd z hc
theorem algx {uc vc uc' vc' uj vj d pj pc x : Rat} (huc : uc ≠ 0) (hd : d ≠ 0) (hx : x * pc = pj) (wj : pj * (d * uc) = vj * uc - vc * uj) (w : pc * (d * uc) = vc' * uc - vc * uc') : x * (vc' * uc - vc * uc') = vj * uc - vc * uj := by
  rw [← w, ← wj, ← hx, Rat.mul_assoc]
theorem alg1 {uc vc uc' vc' uj vj d x kj kc : Rat} (hx : x * (vc' * uc - vc * uc') = vj * uc - vc * uj) (z1 : kj * uc = uj) (z2 : kc * uc = uc') :
    (kj - kc * x) * (d * (vc' * uc - vc * uc')) = d * (uj * vc' - uc' * vj) := by
  have e : (kj - kc * x) * (d * (vc' * uc - vc * uc')) = d * (kj * (vc' * uc - vc * uc') - kc * (x * (vc' * uc - vc * uc'))) := by grind
  rw [e, hx]
  subst z1 z2
  grind
theorem alg2 {uc vc uc' vc' uj vj d x kj kc xj xc xc' : Rat} (huc : uc ≠ 0) (hx : x * (vc' * uc - vc * uc') = vj * uc - vc * uj) (z1 : kj * (d * uc) = xj * uc - xc * uj) (z2 : kc * (d * uc) = xc' * uc - xc * uc') :
    (kj - kc * x) * (d * (vc' * uc - vc * uc')) = uc * (xj * vc' - xc' * vj) - vc * (xj * uc' - xc' * uj) - xc * (uj * vc' - uc' * vj) := by
  refine mul_cancel huc ?_
  have e : (kj - kc * x) * (d * (vc' * uc - vc * uc')) * uc = (kj * (d * uc)) * (vc' * uc - vc * uc') - (kc * (d * uc)) * (x * (vc' * uc - vc * uc')) := by grind
  rw [e, hx, z1, z2]
  grind
theorem div_self_mul {a b : Rat} (h : b ≠ 0) : a / b * b = a := Rat.div_mul_cancel h
/-! ### sizes -/
/-- below 2 ^ b -/
def Bz (b : Nat) (z : Int) : Prop := z.natAbs < 2 ^ b
instance (b : Nat) (z : Int) : Decidable (Bz b z) := by unfold Bz; infer_instance
theorem Bz.mono {a b : Nat} {z : Int} (h : Bz a z) (hab : a ≤ b) : Bz b z := Nat.lt_of_lt_of_le h (Nat.pow_le_pow_right (by decide) hab)
theorem Bz.mul {a b : Nat} {x y : Int} (hx : Bz a x) (hy : Bz b y) : Bz (a + b) (x * y) := by
  unfold Bz at *
  rw [Int.natAbs_mul, Nat.pow_add]
  exact Nat.mul_lt_mul'' hx hy
theorem Bz.add {a : Nat} {x y : Int} (hx : Bz a x) (hy : Bz a y) : Bz (a + 1) (x + y) := by
  unfold Bz at *
  rw [Nat.pow_succ]
  omega
theorem Bz.sub {a : Nat} {x y : Int} (hx : Bz a x) (hy : Bz a y) : Bz (a + 1) (x - y) := by
  unfold Bz at *
  rw [Nat.pow_succ]
  omega
theorem bz_zero {a : Nat} : Bz a 0 := by
  unfold Bz
  exact Nat.pow_pos (by decide)
/-- a fraction's size -/
def Sz (b : Nat) (q : Rat) : Prop := Bz b q.num ∧ Bz b (q.den : Int)
theorem Sz.mono {a b : Nat} {q : Rat} (h : Sz a q) (hab : a ≤ b) : Sz b q := ⟨h.1.mono hab, h.2.mono hab⟩
theorem cast_inj {a b : Int} (h : (a : Rat) = (b : Rat)) : a = b := by
  have : ((a : Rat)).num = ((b : Rat)).num := by rw [h]
  exact this
theorem sz_of {b : Nat} {q : Rat} {D X : Int} (hD : D ≠ 0) (bD : Bz b D) (bX : Bz b X) (h : q * (D : Rat) = (X : Rat)) : Sz b q := by
  have e := num_eq q
  have k : q.num * D = X * (q.den : Int) := cast_inj (by
    rw [Rat.intCast_mul, Rat.intCast_mul, ← e, ← h]; grind)
  have co := q.reduced
  have kn : q.num.natAbs * D.natAbs = X.natAbs * q.den := by
    have := congrArg Int.natAbs k
    rw [Int.natAbs_mul, Int.natAbs_mul] at this
    simpa using this
  have d1 : q.den ∣ D.natAbs := Nat.Coprime.dvd_of_dvd_mul_left co.symm ⟨X.natAbs, by rw [kn, Nat.mul_comm]⟩
  have d2 : q.num.natAbs ∣ X.natAbs := Nat.Coprime.dvd_of_dvd_mul_right co ⟨D.natAbs, by rw [← kn]⟩
  have pD : 0 < D.natAbs := by omega
  refine ⟨?_, ?_⟩
  · unfold Bz
    by_cases hX : X.natAbs = 0
    · rw [hX, Nat.zero_mul] at kn
      have : q.num.natAbs = 0 := by
        rcases Nat.mul_eq_zero.mp kn with z | z <;> omega
      rw [this]; exact Nat.pow_pos (by decide)
    · exact Nat.lt_of_le_of_lt (Nat.le_of_dvd (by omega) d2) bX
  · unfold Bz
    have := Nat.le_of_dvd pD d1
    exact Nat.lt_of_le_of_lt (by simpa using this) bD
/-- a row over a common denominator -/
def RF (b N : Nat) (f : Nat → Rat) : Prop := ∃ (D : Int) (X : Nat → Int), D ≠ 0 ∧ Bz b D ∧ ∀ j, j < N → Bz b (X j) ∧ f j * (D : Rat) = (X j : Rat)
theorem RF.sz {b N : Nat} {f : Nat → Rat} (h : RF b N f) {j : Nat} (hj : j < N) : Sz b (f j) := by
  obtain ⟨D, X, h0, h1, h2⟩ := h
  exact sz_of h0 h1 (h2 j hj).1 (h2 j hj).2
theorem RF.mono {a b N : Nat} {f : Nat → Rat} (h : RF a N f) (hab : a ≤ b) : RF b N f := by
  obtain ⟨D, X, h0, h1, h2⟩ := h
  exact ⟨D, X, h0, h1.mono hab, fun j hj => ⟨(h2 j hj).1.mono hab, (h2 j hj).2⟩⟩
def Ev (b m N : Nat) (F : Nat → Nat → Rat) : Prop := ∃ D : Int, D ≠ 0 ∧ Bz b D ∧ ∀ i, i < m → ∃ X : Nat → Int, ∀ j, j < N → Bz b (X j) ∧ F i j * (D : Rat) = (X j : Rat)
def Od (b r m N : Nat) (F : Nat → Nat → Rat) : Prop := ∃ (D : Int) (u : Nat → Int) (c : Nat), D ≠ 0 ∧ Bz b D ∧ c < N ∧ u c ≠ 0 ∧ (∀ j, j < N → Bz b (u j)) ∧
  ∀ i, i < m → (i < r ∧ ∀ j, j < N → F i j * (u c : Rat) = (u j : Rat)) ∨ (∃ v : Nat → Int, ∀ j, j < N → Bz b (v j) ∧ F i j * ((D : Rat) * (u c : Rat)) = (v j : Rat) * (u c : Rat) - (v c : Rat) * (u j : Rat))
theorem Ev.rf {b m N : Nat} {F : Nat → Nat → Rat} (h : Ev b m N F) {i : Nat} (hi : i < m) : RF b N (F i) := by
  obtain ⟨D, h0, h1, h2⟩ := h
  obtain ⟨X, hX⟩ := h2 i hi
  exact ⟨D, X, h0, h1, hX⟩
theorem Od.rf {b r m N : Nat} {F : Nat → Nat → Rat} (h : Od b r m N F) {i : Nat} (hi : i < m) : RF (2 * b + 1) N (F i) := by
  obtain ⟨D, u, c, h0, h1, hc, huc, hu, h2⟩ := h
  rcases h2 i hi with ⟨_, h3⟩ | ⟨v, h3⟩
  · exact ⟨u c, u, huc, (hu c hc).mono (by omega), fun j hj => ⟨(hu j hj).mono (by omega), h3 j hj⟩⟩
  · refine ⟨D * u c, fun j => v j * u c - v c * u j, Int.mul_ne_zero h0 huc, (h1.mul (hu c hc)).mono (by omega), fun j hj => ⟨?_, ?_⟩⟩
    · exact (((h3 j hj).1.mul (hu c hc)).sub ((h3 c hc).1.mul (hu j hj))).mono (by omega)
    · rw [Rat.intCast_mul, Rat.intCast_sub, Rat.intCast_mul, Rat.intCast_mul]
      exact (h3 j hj).2
theorem Ev.step {b m N r p c : Nat} {F : Nat → Nat → Rat} (h : Ev b m N F) (hr : r < m) (hp : p < m) (hc : c < N) (hpc : F p c ≠ 0) : Od b (r + 1) m N (step F r p c) := by
  obtain ⟨D, h0, h1, h2⟩ := h
  obtain ⟨u, hu⟩ := h2 p hp
  have huc := (hu c hc).2
  have hD := cast_ne h0
  have hucz : (u c : Rat) ≠ 0 := by rw [← huc]; grind
  have hucI : u c ≠ 0 := fun z => hucz (by rw [z]; rfl)
  refine ⟨D, u, c, h0, h1, hc, hucI, fun j hj => (hu j hj).1, fun i hi => ?_⟩
  by_cases e : i = r
  · refine .inl ⟨by omega, fun j hj => ?_⟩
    simp only [Ks.step, if_pos e]
    rw [← huc, ← (hu j hj).2]
    grind
  · obtain ⟨k, hk, ek⟩ := src_mem (F := F) (p := p) hr hi
    obtain ⟨v, hv⟩ := h2 k hk
    refine .inr ⟨v, fun j hj => ⟨(hv j hj).1, ?_⟩⟩
    simp only [Ks.step, if_neg e, ek]
    have a1 := (hu j hj).2
    have a2 := (hv j hj).2
    have a3 := (hv c hc).2
    rw [← a1, ← a2, ← a3, ← huc]
    grind
theorem Od.step {b m N r p c' : Nat} {F : Nat → Nat → Rat} (h : Od b r m N F) (hr : r < m) (hrp : r ≤ p) (hp : p < m) (hc' : c' < N) (hpc : F p c' ≠ 0) : Ev (3 * b + 3) m N (step F r p c') := by
  obtain ⟨D, u, c, h0, h1, hc, hucI, hu, h2⟩ := h
  rcases h2 p hp with ⟨z, _⟩ | ⟨v0, hv0⟩
  · omega
  have hD := cast_ne h0
  have huc := cast_ne hucI
  have w := (hv0 c' hc').2
  have hDel : v0 c' * u c - v0 c * u c' ≠ 0 := fun z => by
    have z2 : ((v0 c' * u c - v0 c * u c' : Int) : Rat) = 0 := by rw [z]; rfl
    rw [Rat.intCast_sub, Rat.intCast_mul, Rat.intCast_mul, ← w] at z2
    rcases Rat.mul_eq_zero.mp z2 with q | q
    · exact hpc q
    · rcases Rat.mul_eq_zero.mp q with q | q
      · exact hD q
      · exact huc q
  have bw : ∀ j, j < N → Bz (2 * b + 1) (v0 j * u c - v0 c * u j) := fun j hj => (((hv0 j hj).1.mul (hu c hc)).sub ((hv0 c hc).1.mul (hu j hj))).mono (by omega)
  have hx : ∀ j, j < N → F p j / F p c' * ((v0 c' : Rat) * (u c : Rat) - (v0 c : Rat) * (u c' : Rat)) = (v0 j : Rat) * (u c : Rat) - (v0 c : Rat) * (u j : Rat) := fun j hj =>
    algx huc hD (div_self_mul hpc) (hv0 j hj).2 w
  refine ⟨D * (v0 c' * u c - v0 c * u c'), Int.mul_ne_zero h0 hDel, (h1.mul (bw c' hc')).mono (by omega), fun i hi => ?_⟩
  by_cases e : i = r
  · refine ⟨fun j => D * (v0 j * u c - v0 c * u j), fun j hj => ⟨(h1.mul (bw j hj)).mono (by omega), ?_⟩⟩
    simp only [Ks.step, if_pos e, Rat.intCast_mul, Rat.intCast_sub]
    rw [← hx j hj]
    generalize F p j / F p c' = x
    grind
  · obtain ⟨k, hk, ek⟩ := src_mem (F := F) (p := p) hr hi
    rcases h2 k hk with ⟨_, h3⟩ | ⟨v, h3⟩
    · refine ⟨fun j => D * (u j * v0 c' - u c' * v0 j), fun j hj => ⟨(h1.mul (((hu j hj).mul (hv0 c' hc').1).sub ((hu c' hc').mul (hv0 j hj).1))).mono (by omega), ?_⟩⟩
      simp only [Ks.step, if_neg e, ek, Rat.intCast_mul, Rat.intCast_sub]
      exact alg1 (hx j hj) (h3 j hj) (h3 c' hc')
    · refine ⟨fun j => u c * (v j * v0 c' - v c' * v0 j) - v0 c * (v j * u c' - v c' * u j) - v c * (u j * v0 c' - u c' * v0 j), fun j hj => ⟨?_, ?_⟩⟩
      · have t1 := (hu c hc).mul (((h3 j hj).1.mul (hv0 c' hc').1).sub ((h3 c' hc').1.mul (hv0 j hj).1))
        have t2 := (hv0 c hc).1.mul (((h3 j hj).1.mul (hu c' hc')).sub ((h3 c' hc').1.mul (hu j hj)))
        have t3 := (h3 c hc).1.mul (((hu j hj).mul (hv0 c' hc').1).sub ((hu c' hc').mul (hv0 j hj).1))
        exact ((t1.sub t2).sub (t3.mono (by omega))).mono (by omega)
      · simp only [Ks.step, if_neg e, ek, Rat.intCast_mul, Rat.intCast_sub]
        exact alg2 huc (hx j hj) (h3 j hj).2 (h3 c' hc').2
end Ks
/-! part KsLaw -/
set_option maxHeartbeats 1000000
namespace Ks
/-! ### the chain of sizes -/
def ev : Nat → Nat
  | 0 => 7
  | t + 1 => 3 * ev t + 3
/-- after k pivots -/
def Szs (k m N : Nat) (F : Nat → Nat → Rat) : Prop := (∃ t, k = 2 * t ∧ Ev (ev t) m N F) ∨ (∃ t, k = 2 * t + 1 ∧ Od (ev t) k m N F)
theorem ev_le {s t : Nat} (h : s ≤ t) : ev s ≤ ev t := by
  induction t with
  | zero => have : s = 0 := by omega
            subst this; exact Nat.le_refl _
  | succ t ih =>
    by_cases e : s = t + 1
    · subst e; exact Nat.le_refl _
    · have := ih (by omega)
      simp only [ev]; omega
theorem Szs.step {k m N p c : Nat} {F : Nat → Nat → Rat} (h : Szs k m N F) (hk : k < m) (hkp : k ≤ p) (hp : p < m) (hc : c < N) (hpc : F p c ≠ 0) : Szs (k + 1) m N (step F k p c) := by
  rcases h with ⟨t, e, h⟩ | ⟨t, e, h⟩
  · refine .inr ⟨t, by omega, h.step hk hp hc hpc⟩
  · refine .inl ⟨t + 1, by omega, ?_⟩
    have := h.step hk hkp hp hc hpc
    exact this
theorem Szs.rf10 {k m N : Nat} {F : Nat → Nat → Rat} (h : Szs k m N F) (hk : k ≤ 10) {i : Nat} (hi : i < m) : RF 2064 N (F i) := by
  rcases h with ⟨t, e, h⟩ | ⟨t, e, h⟩
  · exact (h.rf hi).mono (Nat.le_trans (ev_le (show t ≤ 5 by omega)) (by decide))
  · have := ev_le (show t ≤ 4 by omega)
    have e4 : ev 4 = 687 := by decide
    exact (h.rf hi).mono (by omega)
theorem Szs.rf11 {k m N : Nat} {F : Nat → Nat → Rat} (h : Szs k m N F) (hk : k ≤ 11) {i : Nat} (hi : i < m) : RF 4129 N (F i) := by
  rcases h with ⟨t, e, h⟩ | ⟨t, e, h⟩
  · have := ev_le (show t ≤ 5 by omega)
    have e4 : ev 5 = 2064 := by decide
    exact (h.rf hi).mono (by omega)
  · have := ev_le (show t ≤ 5 by omega)
    have e4 : ev 5 = 2064 := by decide
    exact (h.rf hi).mono (by omega)
/-- an entry of the given matrix -/
def Gd (q : Rat) : Prop := ∃ G : Int, Bz 7 G ∧ q * ((12 : Int) : Rat) = (G : Rat)
theorem Gd.sz {q : Rat} (h : Gd q) : Sz 7 q := by
  obtain ⟨G, h1, h2⟩ := h
  exact sz_of (by decide) (by decide) h1 h2
theorem gd_zero : Gd 0 := ⟨0, bz_zero, by rw [Rat.zero_mul]; rfl⟩
theorem gd_one : Gd 1 := ⟨12, by decide, by rw [Rat.one_mul]⟩
theorem szs_init {m n : Nat} {A : Nat → Nat → Rat} (h : ∀ i, i < m → ∀ j, j < n → Gd (A i j)) : Szs 0 m (n + m) (init n A) := by
  refine .inl ⟨0, rfl, 12, by decide, by decide, fun i hi => ?_⟩
  have key : ∀ j, ∃ G : Int, Bz 7 G ∧ init n A i j * ((12 : Int) : Rat) = (G : Rat) := fun j => by
    unfold init
    split
    · rename_i hj; exact h i hi j hj
    · split
      · exact gd_one
      · exact gd_zero
  exact ⟨fun j => Classical.choose (key j), fun j _ => Classical.choose_spec (key j)⟩
/-- partial sums of a row with entries of the right side -/
theorem RF.part {b N n m : Nat} {f g : Nat → Rat} (h : RF b N f) (hN : n + m ≤ N) (hm : m ≤ 16) (hg : ∀ k, k < m → Gd (g k)) {t : Nat} (ht : t ≤ m) : Sz (b + 12) (sm t (fun k => f (n + k) * g k)) := by
  obtain ⟨D, X, h0, h1, h2⟩ := h
  have key : ∀ t, t ≤ m → ∃ Y : Int, Y.natAbs ≤ t * 2 ^ (b + 7) ∧ sm t (fun k => f (n + k) * g k) * ((D * 12 : Int) : Rat) = (Y : Rat) := by
    intro t
    induction t with
    | zero => intro _; exact ⟨0, by simp, by simp only [sm]; rw [Rat.zero_mul]; rfl⟩
    | succ t ih =>
      intro ht
      obtain ⟨Y, y1, y2⟩ := ih (by omega)
      obtain ⟨G, g1, g2⟩ := hg t (by omega)
      obtain ⟨x1, x2⟩ := h2 (n + t) (by omega)
      refine ⟨Y + X (n + t) * G, ?_, ?_⟩
      · have q : (X (n + t) * G).natAbs < 2 ^ (b + 7) := x1.mul g1
        rw [Nat.succ_mul]
        omega
      · simp only [sm]
        rw [Rat.add_mul, y2, Rat.intCast_add, Rat.intCast_mul, Rat.intCast_mul, ← x2, ← g2]
        grind
  obtain ⟨Y, y1, y2⟩ := key t ht
  refine sz_of (D := D * 12) (X := Y) (Int.mul_ne_zero h0 (by decide)) ?_ ?_ y2
  · exact (h1.mul (show Bz 4 12 by decide)).mono (by omega)
  · unfold Bz
    have e : 2 ^ (b + 12) = 32 * 2 ^ (b + 7) := by rw [show b + 12 = (b + 7) + 5 by omega, Nat.pow_add 2 (b + 7) 5, Nat.mul_comm]
    have p : 0 < 2 ^ (b + 7) := Nat.pow_pos (by decide)
    have : t * 2 ^ (b + 7) ≤ 16 * 2 ^ (b + 7) := Nat.mul_le_mul_right _ (by omega)
    omega
/-! ### the law's own pairs -/
/-- a given pair -/
def Pr (p : Int × Int) : Prop := p.1.natAbs ≤ 9 ∧ 1 ≤ p.2 ∧ p.2 ≤ 4
def pq (p : Int × Int) : Rat := Rat.divInt p.1 p.2
theorem pq_eq {p : Int × Int} : pq p = (p.1 : Rat) / (p.2 : Rat) := Rat.divInt_eq_div _ _
theorem pq_mul {p : Int × Int} (h : p.2 ≠ 0) : pq p * (p.2 : Rat) = (p.1 : Rat) := by
  rw [pq_eq]; exact Rat.div_mul_cancel (cast_ne h)
theorem Pr.gd {p : Int × Int} (h : Pr p) : Gd (pq p) := by
  obtain ⟨h1, h2, h3⟩ := h
  obtain ⟨a, d⟩ := p
  simp only at h1 h2 h3
  have e := pq_mul (p := (a, d)) (show d ≠ 0 by omega)
  simp only at e
  have hd : d = 1 ∨ d = 2 ∨ d = 3 ∨ d = 4 := by omega
  rcases hd with rfl | rfl | rfl | rfl
  · exact ⟨a * 12, by unfold Bz; omega, by rw [Rat.intCast_mul, ← e]; grind⟩
  · refine ⟨a * 6, by unfold Bz; omega, ?_⟩
    rw [Rat.intCast_mul, ← e, Rat.mul_assoc, ← Rat.intCast_mul]; rfl
  · refine ⟨a * 4, by unfold Bz; omega, ?_⟩
    rw [Rat.intCast_mul, ← e, Rat.mul_assoc, ← Rat.intCast_mul]; rfl
  · refine ⟨a * 3, by unfold Bz; omega, ?_⟩
    rw [Rat.intCast_mul, ← e, Rat.mul_assoc, ← Rat.intCast_mul]; rfl
/-- _law_is -/
theorem is_pq {p : Int × Int} (h : p.2 ≠ 0) : (pq p).num * p.2 = p.1 * ((pq p).den : Int) := by
  have e := num_eq (pq p)
  have e2 := pq_mul h
  exact cast_inj (by rw [Rat.intCast_mul, Rat.intCast_mul, ← e, ← e2]; grind)
/-- a pair that stands for a number: N over D, within b bits -/
structure Vl (b : Nat) (N D : Int) (q : Rat) : Prop where
  pos : 0 < D
  bN : Bz b N
  bD : Bz b D
  eq : q * (D : Rat) = (N : Rat)
theorem Vl.mono {a b : Nat} {N D : Int} {q : Rat} (h : Vl a N D q) (hab : a ≤ b) : Vl b N D q := ⟨h.pos, h.bN.mono hab, h.bD.mono hab, h.eq⟩
theorem vl_zero : Vl 1 0 1 0 := ⟨by decide, by decide, by decide, by rw [Rat.zero_mul]; rfl⟩
theorem Vl.times {a b : Nat} {N D M E : Int} {q r : Rat} (h : Vl a N D q) (k : Vl b M E r) : Vl (a + b) (N * M) (D * E) (q * r) :=
  ⟨Int.mul_pos h.pos k.pos, h.bN.mul k.bN, h.bD.mul k.bD, by rw [Rat.intCast_mul, Rat.intCast_mul, ← h.eq, ← k.eq]; grind⟩
theorem Vl.plus {a b : Nat} {N D M E : Int} {q r : Rat} (h : Vl a N D q) (k : Vl b M E r) : Vl (a + b + 1) (N * E + M * D) (D * E) (q + r) :=
  ⟨Int.mul_pos h.pos k.pos, (h.bN.mul k.bD).add ((k.bN.mul h.bD).mono (by omega)), (h.bD.mul k.bD).mono (by omega), by rw [Rat.intCast_add, Rat.intCast_mul, Rat.intCast_mul, Rat.intCast_mul, ← h.eq, ← k.eq]; grind⟩
theorem Vl.zero {b : Nat} {N D : Int} {q : Rat} (h : Vl b N D q) : N = 0 ↔ q = 0 := by
  have e := h.eq
  have hD := cast_ne (show D ≠ 0 by have := h.pos; omega)
  constructor
  · rintro rfl
    rcases Rat.mul_eq_zero.mp (e.trans rfl) with z | z
    · exact z
    · exact absurd z hD
  · rintro rfl
    rw [Rat.zero_mul] at e
    exact (cast_inj (e.symm.trans rfl))
theorem Vl.cross {a b : Nat} {N D M E : Int} {q : Rat} (h : Vl a N D q) (k : Vl b M E q) : N * E = M * D := cast_inj (by
  rw [Rat.intCast_mul, Rat.intCast_mul, ← h.eq, ← k.eq]; grind)
theorem Pr.vl {p : Int × Int} (h : Pr p) : Vl 4 p.1 p.2 (pq p) := by
  obtain ⟨h1, h2, h3⟩ := h
  exact ⟨by omega, by unfold Bz; omega, by unfold Bz; omega, pq_mul (by omega)⟩
theorem Sz.vl {b : Nat} {q : Rat} (h : Sz b q) : Vl b q.num (q.den : Int) q := ⟨den_pos q, h.1, h.2, num_eq q⟩
end Ks
/-! part KsA -/
set_option maxRecDepth 100000
set_option maxHeartbeats 4000000
namespace Ks
open PySem L2
/-! ### the text by places -/
def top (i : Nat) : Stmt := PySem.Challenge.pw_certsums_k24_whole_systems_decided.main.body.getD i (.Pass ⟨0, 0, 0, 0⟩)
abbrev sInit : Stmt := inClass (top 6) 0
abbrev sZero : Stmt := inClass (top 6) 1
abbrev sAdd : Stmt := inClass (top 6) 4
abbrev sSub : Stmt := inClass (top 6) 5
abbrev sMul : Stmt := inClass (top 6) 6
abbrev sOver : Stmt := inClass (top 6) 8
abbrev sDot : Stmt := top 8
abbrev sIdent : Stmt := top 9
abbrev sPivot : Stmt := top 11
abbrev sWm : Stmt := top 12
abbrev sClear : Stmt := top 13
abbrev sReduced : Stmt := top 14
abbrev sSolve : Stmt := top 15
abbrev sCell : Stmt := top 17
abbrev sDigits : Stmt := top 18
abbrev sSize : Stmt := top 19
abbrev sPair : Stmt := top 20
abbrev sPairs : Stmt := top 21
abbrev sPlus : Stmt := top 22
abbrev sTimes : Stmt := top 23
abbrev sLdot : Stmt := top 24
abbrev sVector : Stmt := top 25
abbrev sMatrix : Stmt := top 26
abbrev sWhole : Stmt := top 27
abbrev sNumber : Stmt := top 28
abbrev sIs : Stmt := top 29
abbrev sIsVec : Stmt := top 30
abbrev sIsMat : Stmt := top 31
abbrev sRead : Stmt := top 32
abbrev sIsSol : Stmt := top 33
abbrev sIsRef : Stmt := top 34
abbrev sLaw : Stmt := top 35
def lcS : Expr → Scope
  | .ListComp _ _ sc _ => sc
  | _ => defScope (.Pass ⟨0, 0, 0, 0⟩)
def lcE : Expr → Expr
  | .ListComp e _ _ _ => e
  | e => e
def retE : List Stmt → Expr
  | [.Return (some e) _] => e
  | _ => .Constant .none 0 ⟨0, 0, 0, 0⟩
/-! ### the data -/
theorem knd : ¬ (("num" : Str) = "den") := by decide +kernel
/-- a Fraction's attributes -/
def ff (n d : Int) : List (Str × V) := putF "den" (.int d) (putF "num" (.int n) [])
theorem ff_eq (n d : Int) : ff n d = ([("num", V.int n), ("den", V.int d)] : List (Str × V)) := by
  show (if ("num" : Str) = "den" then [(("num" : Str), V.int d)] else (("num" : Str), V.int n) :: putF "den" (V.int d) []) = ([("num", V.int n), ("den", V.int d)] : List (Str × V))
  rw [if_neg knd]
  all_goals rfl
theorem ff_num (n d : Int) : (ff n d).lookup ("num" : Str) = some (.int n) := by
  unfold ff
  rw [lookup_putF, if_neg knd, lookup_putF, if_pos rfl]
theorem ff_den (n d : Int) : (ff n d).lookup ("den" : Str) = some (.int d) := by
  unfold ff
  rw [lookup_putF, if_pos rfl]
theorem ff_no (n d : Int) {m : Str} (h1 : ¬ m = "den") (h2 : ¬ m = "num") : (ff n d).lookup m = none := by
  unfold ff
  rw [lookup_putF, if_neg h1, lookup_putF, if_neg h2]
  all_goals rfl
/-- a Fraction stands at a: the number q -/
def Fr (C : Addr) (H : Hp) (a : Addr) (q : Rat) : Prop := ∃ dx, H a = some (.ins C dx (ff q.num (q.den : Int)))
theorem Fr.same {C : Addr} {H H' : Hp} {a : Addr} {q : Rat} (h : Fr C H a q) (s : Same H H') : Fr C H' a q := let ⟨dx, e⟩ := h; ⟨dx, s _ _ e⟩
theorem same_upd {H : Hp} {p : Addr} {o : HO} (h : H p = none) : Same H (upd H p o) := fun b x e => by
  rw [upd_ne (ne_of_none e h)]
  exact e
/-- the heap without D -/
def hide (H : Hp) (D : Addr) : Hp := fun b => if b = D then none else H b
theorem hide_ne {H : Hp} {D b : Addr} (h : b ≠ D) : hide H D b = H b := by unfold hide; rw [if_neg h]
theorem hide_same {H : Hp} {D : Addr} : hide H D D = none := by unfold hide; rw [if_pos rfl]
theorem hide_sub (H : Hp) (D : Addr) : Same (hide H D) H := fun b o e => by
  by_cases h : b = D
  · subst h; rw [hide_same] at e; cases e
  · rw [hide_ne h] at e; exact e
theorem hide_mono {H H' : Hp} {D : Addr} (s : Same H H') : Same (hide H D) (hide H' D) := fun b o e => by
  by_cases h : b = D
  · subst h; rw [hide_same] at e; cases e
  · rw [hide_ne h] at e ⊢; exact s _ _ e
theorem hide_upd {H : Hp} {D : Addr} {o : HO} : hide (upd H D o) D = hide H D := by
  funext b
  by_cases h : b = D
  · subst h; rw [hide_same, hide_same]
  · rw [hide_ne h, hide_ne h, upd_ne h]
theorem hide_of {H0 H : Hp} {D : Addr} (s : Same H0 H) (h : H0 D = none) : Same H0 (hide H D) := fun b o e => by
  rw [hide_ne (ne_of_none e h)]; exact s _ _ e
/-- a list of n objects, the i-th as P says -/
abbrev Pd := Nat → Addr → Hp → Prop
def Mon (P : Pd) : Prop := ∀ i b H H', Same H H' → P i b H → P i b H'
def LstOf (P : Pd) (H : Hp) (a : Addr) (n : Nat) : Prop := ∃ xs : List V, H a = some (.lst xs) ∧ xs.length = n ∧ ∀ i, i < n → ∃ b, xs[i]? = some (.ref b) ∧ P i b H
theorem LstOf.same {P : Pd} (m : Mon P) {H H' : Hp} {a : Addr} {n : Nat} (h : LstOf P H a n) (s : Same H H') : LstOf P H' a n := by
  obtain ⟨xs, e, l, k⟩ := h
  exact ⟨xs, s _ _ e, l, fun i hi => let ⟨b, h1, h2⟩ := k i hi; ⟨b, h1, m _ _ _ _ s h2⟩⟩
theorem LstOf.imp {P P' : Pd} {H : Hp} {a : Addr} {n : Nat} (h : LstOf P H a n) (f : ∀ i, i < n → ∀ b, P i b H → P' i b H) : LstOf P' H a n := by
  obtain ⟨xs, e, l, k⟩ := h
  exact ⟨xs, e, l, fun i hi => let ⟨b, h1, h2⟩ := k i hi; ⟨b, h1, f i hi b h2⟩⟩
/-- in the making: i objects stand in the list at D -/
def Bld (P : Pd) (H1 : Hp) (D : Addr) (i : Nat) (H : Hp) : Prop := Same H1 H ∧ ∃ xs : List V, H D = some (.lst xs) ∧ xs.length = i ∧ ∀ k, k < i → ∃ b, xs[k]? = some (.ref b) ∧ P k b (hide H D)
theorem bld_zero {P : Pd} {H1 : Hp} {D : Addr} (h : H1 D = none) : Bld P H1 D 0 (upd H1 D (.lst [])) := ⟨same_upd h, [], upd_same, rfl, fun k hk => absurd hk (Nat.not_lt_zero k)⟩
theorem Bld.put {P : Pd} (m : Mon P) {H1 H H4 : Hp} {D b : Addr} {i : Nat} (B : Bld P H1 D i H) (hD : H1 D = none) (s : Same H H4) (p : P i b (hide H4 D)) (hi : i < 1000) :
    ∃ acc, H4 D = some (.lst acc) ∧ acc.length < sizeLine ∧ Bld P H1 D (i + 1) (upd H4 D (.lst (acc ++ [.ref b]))) := by
  obtain ⟨s1, xs, e, l, k⟩ := B
  refine ⟨xs, s _ _ e, small1000 (by omega), fun c o hc => ?_, xs ++ [.ref b], upd_same, by simp [l], fun j hj => ?_⟩
  · rw [upd_ne (ne_of_none hc hD)]; exact s _ _ (s1 _ _ hc)
  · rw [hide_upd]
    by_cases h : j < i
    · obtain ⟨c, h1, h2⟩ := k j h
      exact ⟨c, by rw [List.getElem?_append_left (by omega)]; exact h1, m _ _ _ _ (hide_mono s) h2⟩
    · have : j = i := by omega
      subst this
      exact ⟨b, by rw [← l, List.getElem?_concat_length], p⟩
theorem Bld.done {P : Pd} (m : Mon P) {H1 H : Hp} {D : Addr} {n : Nat} (B : Bld P H1 D n H) : Same H1 H ∧ LstOf P H D n := by
  obtain ⟨s1, xs, e, l, k⟩ := B
  exact ⟨s1, xs, e, l, fun i hi => let ⟨b, h1, h2⟩ := k i hi; ⟨b, h1, m _ _ _ _ (hide_sub _ _) h2⟩⟩
/-- a list of fractions: f 0 .. f (n - 1) -/
abbrev pFr (C : Addr) (f : Nat → Rat) : Pd := fun i b H => Fr C H b (f i)
abbrev Row (C : Addr) (H : Hp) (a : Addr) (n : Nat) (f : Nat → Rat) : Prop := LstOf (pFr C f) H a n
abbrev pRow (C : Addr) (n : Nat) (F : Nat → Nat → Rat) : Pd := fun i b H => Row C H b n (F i)
abbrev Tab (C : Addr) (H : Hp) (a : Addr) (m n : Nat) (F : Nat → Nat → Rat) : Prop := LstOf (pRow C n F) H a m
theorem mon_fr (C : Addr) (f : Nat → Rat) : Mon (pFr C f) := fun _ _ _ _ s h => h.same s
theorem Row.same {C : Addr} {H H' : Hp} {a : Addr} {n : Nat} {f : Nat → Rat} (h : Row C H a n f) (s : Same H H') : Row C H' a n f := LstOf.same (mon_fr C f) h s
theorem mon_row (C : Addr) (n : Nat) (F : Nat → Nat → Rat) : Mon (pRow C n F) := fun _ _ _ _ s h => Row.same h s
theorem Tab.same {C : Addr} {H H' : Hp} {a : Addr} {m n : Nat} {F : Nat → Nat → Rat} (h : Tab C H a m n F) (s : Same H H') : Tab C H' a m n F := LstOf.same (mon_row C n F) h s
theorem Row.congr {C : Addr} {H : Hp} {a : Addr} {n : Nat} {f g : Nat → Rat} (h : Row C H a n f) (e : ∀ i, i < n → f i = g i) : Row C H a n g := h.imp fun i hi b hb => by
  show Fr C H b (g i)
  rw [← e i hi]; exact hb
theorem Tab.congr {C : Addr} {H : Hp} {a : Addr} {m n : Nat} {F G : Nat → Nat → Rat} (h : Tab C H a m n F) (e : ∀ i, i < m → ∀ j, j < n → F i j = G i j) : Tab C H a m n G := h.imp fun i hi b hb => Row.congr hb (e i hi)
theorem Fr.hide {C : Addr} {H : Hp} {b D : Addr} {q : Rat} {xs : List V} (h : Fr C H b q) (hD : H D = some (.lst xs)) : Fr C (hide H D) b q := by
  obtain ⟨dx, e⟩ := h
  exact ⟨dx, by rw [hide_ne (ne_of e hD (by intro z; cases z))]; exact e⟩
theorem Row.hide {C : Addr} {H : Hp} {a D : Addr} {n : Nat} {f : Nat → Rat} {xs : List V} (h : Row C H a n f) (hD : H D = some (.lst xs)) (ne : a ≠ D) : Row C (hide H D) a n f := by
  obtain ⟨ys, e, l, k⟩ := h
  exact ⟨ys, by rw [hide_ne ne]; exact e, l, fun i hi => let ⟨b, h1, h2⟩ := k i hi; ⟨b, h1, Fr.hide h2 hD⟩⟩
/-- what a caller wants of a new fraction -/
def Wants (C : Addr) (H : Hp) (q : Rat) (Q : VK) : Prop := ∀ x H', Same H H' → H x = none → Fr C H' x q → Q (.ref x) H'
/-! ### the promises of Fraction -/
def spInit (C : Addr) : Sp := fun vs H Q _ => ∃ (p dx : Addr) (n d : Int), vs = [.ref p, .int n, .int d] ∧ H p = some (.ins C dx []) ∧ d ≠ 0 ∧ Bz 9000 d ∧ Q .non (upd H p (.ins C dx (ff (Rat.divInt n d).num ((Rat.divInt n d).den : Int))))
def spZero (C : Addr) : Sp := fun vs H Q _ => ∃ (p : Addr) (q : Rat), vs = [.ref p] ∧ Fr C H p q ∧ Q (.bl (decide (q = 0))) H
def spBin (C : Addr) (op : Rat → Rat → Rat) : Sp := fun vs H Q _ => ∃ (x y : Addr) (p q : Rat) (a b : Nat), vs = [.ref x, .ref y] ∧ Fr C H x p ∧ Fr C H y q ∧ Sz a p ∧ Sz b q ∧ a + b ≤ 9000 ∧ Wants C H (op p q) Q
def spOver (C : Addr) : Sp := fun vs H Q _ => ∃ (x y : Addr) (p q : Rat) (a b : Nat), vs = [.ref x, .ref y] ∧ Fr C H x p ∧ Fr C H y q ∧ Sz a p ∧ Sz b q ∧ a + b ≤ 9000 ∧ q ≠ 0 ∧ Wants C H (p / q) Q
/-- what the walk asks of the class -/
structure Txt (K : PySem.W.Frag) (mg : Str → Option Value) (C : Addr) : Prop where
  cl : Cls K C
  nN : NoAttr K C "num"
  nD : NoAttr K C "den"
  mgC : mg "Fraction" = some (.ref C)
  gcd : mg "gcd" = some (.builtin "math.gcd")
  ha : PySem.W.findIn K (.ref C) "__class__" = some (some (.builtin "object.__class__"))
  hn : PySem.W.specialIn K (.builtin "object.__class__") "__get__" = some (some (.builtin "getset_descriptor.__get__"))
  htk : PySem.W.takesIn K (.builtin "object.__class__") = some true
  hm : PySem.W.mroIn K C (.type "object") = some true
  sf : PySem.W.selfFirst K C = true
/-- a fraction made: from the reading of C(n, d) to what is wanted -/
theorem make_ok {C : Addr} {H : Hp} {n d : Int} {R : Addr → Hp → Prop} {E : XK} (hd : d ≠ 0) (hb : Bz 9000 d) (h : ∀ x H', Same H H' → H x = none → Fr C H' x (Rat.divInt n d) → R x H') :
    ∀ x dx, H x = none → H dx = none → dx ≠ x → spInit C [.ref x, .int n, .int d] (upd (upd H dx (.own x)) x (.ins C dx [])) (fun v H2 => v = .non ∧ R x H2) E := by
  intro x dx nx nd ne
  refine ⟨x, dx, n, d, rfl, upd_same, hd, hb, rfl, h x _ (fun b o e => ?_) nx ⟨dx, upd_same⟩⟩
  rw [upd_ne (ne_of_none e nx), upd_ne (ne_of_none e nx), upd_ne (ne_of_none e nd)]
  exact e
section
variable {X : Cx}
/-- // of great ints by a divisor of any sign below 2 ^ 9000 -/
theorem op_fdivG : OpR X (binaryOp .FloorDiv) (rI (fun _ j => j ≠ 0 ∧ j.natAbs.log2 < 9000) fun i j => .int (i.fdiv j)) := opI fun i j _ _ _ _ _ hc q => PyProof.Rows.floordiv_int hc.1 q (.inl (PyProof.noPylong_of_log2 hc.2))
/-- a binary operation of two fractions -/
def rFr (C : Addr) (sp : Sp) : R2 := fun x y H Q => ∃ a b dx dy fs gs, x = .ref a ∧ y = .ref b ∧ H a = some (.ins C dx fs) ∧ H b = some (.ins C dy gs) ∧ sp [.ref a, .ref b] H Q E0
theorem rel_back {x : V} {u : Value} {Q : Value → Shared → Prop} {s : Shared} (r : RelV x u) (q : Q u s) : PySem.W.CmpBack Q u s := by
  cases x with
  | non => cases r; exact q
  | bl b => cases r; exact q
  | int i => obtain ⟨t, rfl⟩ := r; exact q
  | str z => obtain ⟨t, rfl⟩ := r; exact q
  | byt b => obtain ⟨t, rfl⟩ := r; exact q
  | flt b => obtain ⟨t, rfl⟩ := r; exact q
  | ref a => cases r; exact q
  | ty n => cases r; exact q
theorem op_own {op : Operator} {C f : Addr} {fd : FuncData} {ps : List Str} {sp : Sp} {k : Nat} (F : FnOk X.prog X.w X.K X.mg X.base CX0 k f fd ps sp) (hc : PySem.W.selfFirst X.K C = true)
    (hs : PySem.W.findIn X.K (.ref C) (PySem.dunder op.info.2) = some (some (.ref f))) (hf : PySem.W.isFn X.K (.ref f) = true) (hr : Room k X.A) (hb : Binds X.K fd ps []) : OpR X (binaryOp op) (rFr C sp) := by
  intro pins s σ H x y v u Q I rx ry h
  obtain ⟨a, b, dx, dy, fs, gs, rfl, rfl, ha, hb', h⟩ := h
  cases rx
  cases ry
  obtain ⟨mA, J, _⟩ := ins_get I.hok ha
  obtain ⟨mB, J', _⟩ := ins_get I.hok hb'
  obtain ⟨od, J, _⟩ := J.look
  obtain ⟨od', J', _⟩ := J'.look
  obtain ⟨m, hF⟩ := I.fr
  refine PySem.W.binop_K hF I.ok.mod.kin J J'.type hc hs hf ?_
  refine wpAny_mono (run_fn (us := [.ref a, .ref b]) (vs := [.ref a, .ref b]) F hr hb .nil pass0 I (.cons rfl (.cons rfl .nil)) h) (fun v s' q => ?_) fun _ _ z => z
  obtain ⟨z, H', I', rz, qz⟩ := q
  exact rel_back rz ⟨z, H', I', rz, qz⟩
end
end Ks
/-! part KsB -/
set_option maxRecDepth 100000
set_option maxHeartbeats 4000000
namespace Ks
open PySem L2
theorem num_zero {x : Rat} : x.num = 0 ↔ x = 0 := Rat.num_eq_zero
theorem log_of {b : Nat} {z : Int} (h : Bz b z) (h0 : 0 < b) : z.natAbs.log2 < b := PySem.Flt.log2_lt_of h0 h
section
variable {P : Program} {w : World} {K : PySem.W.Frag} {mg : Str → Option Value} {base : Heap}
theorem scI : FnScope ["self", "num", "den", "divisor"] ["self", "num", "den"] (defScope sInit) := ⟨rfl, rfl, rfl, by decide +kernel, rfl, by decide +kernel, by decide +kernel⟩
theorem ok_init {f C : Addr} {fd : FuncData} (F : FunD K "__init__" "Fraction.__init__" (defArgs sInit) (defBody sInit) (defScope sInit) [.int 1] [] f fd) (T : Txt K mg C) : FnOk P w K mg base CX0 1 f fd ["self", "num", "den"] (spInit C) := by
  refine F.ok scI (fun vs H Q E h => ?_) (fun cdv A outer s H vs Q E hr h => ?_)
  · obtain ⟨p, dx, n, d, rfl, _⟩ := h
    rfl
  · obtain ⟨p, dx, n, d, rfl, hp, hd, hb, q⟩ := h
    refine ⟨_, PSs.nox (pss_cons (ps_if (pt_cmpR op_eq (pv 2) pe_int (nomark _)) pss_never pss_nil)
      (pss_cons (ps_set (i := 3) scI.nd rfl (.inl rfl) (pe_callBfun cr_gcd (by rfl) T.gcd (pa_cons (pv 1) (pa_cons (pv 2) pa_nil))))
      (pss_cons (ps_if (pt_cmpR op_lt (pv 2) pe_int (nomark _)) (pss_one (ps_set (i := 3) scI.nd rfl (.inl rfl) (pe_un un_neg (pv 3)))) pss_nil)
      (pss_cons (ps_fld (pv 0) (pe_op op_fdivG (pv 1) (pv 3)) rfl)
      (pss_one (ps_fld (pv 0) (pe_op op_fdivG (pv 2) (pv 3)) rfl)))))), ?_⟩
    have hg : 0 < Nat.gcd n.natAbs d.natAbs := Nat.gcd_pos_of_pos_right _ (by omega)
    have hgl : Nat.gcd n.natAbs d.natAbs ≤ d.natAbs := Nat.gcd_le_right _ (by omega)
    have bg : ∀ z : Int, z.natAbs = Nat.gcd n.natAbs d.natAbs → z ≠ 0 ∧ z.natAbs.log2 < 9000 := fun z hz => ⟨by omega, log_of (b := 9000) (by unfold Bz at *; omega) (by decide)⟩
    refine ⟨_, rfl, rfl, _, rfl, ite2 (fun e => absurd (V.int.inj (of_decide_eq_true e)) hd) fun _ => ?_⟩
    refine ⟨_, rfl, _, rfl, n, d, rfl, ?_⟩
    have e1 := init_num (num := n) hd
    have e2 := init_den (num := n) hd
    refine ⟨_, rfl, _, _, rfl, rfl, _, rfl, ite2 (fun e => ?_) fun e => ?_⟩
    · have hlt : d < 0 := of_decide_eq_true e
      rw [if_pos hlt] at e1 e2
      refine ⟨_, rfl, _, rfl, ?_⟩
      refine ⟨_, rfl, _, rfl, _, _, rfl, rfl, bg _ (by omega), _, rfl, p, C, dx, [], rfl, hp, T.cl, T.nN, (by show 0 < 1000; decide), ?_⟩
      refine ⟨_, rfl, _, rfl, _, _, rfl, rfl, bg _ (by omega), _, rfl, p, C, dx, _, rfl, upd_same, T.cl, T.nD, (by show 1 < 1000; decide), ?_⟩
      rw [← e1, ← e2] at q
      rw [upd_upd]
      exact q
    · have hlt : ¬ d < 0 := fun z => e (decide_eq_true z)
      rw [if_neg hlt] at e1 e2
      refine ⟨_, rfl, _, rfl, _, _, rfl, rfl, bg _ (by omega), _, rfl, p, C, dx, [], rfl, hp, T.cl, T.nN, (by show 0 < 1000; decide), ?_⟩
      refine ⟨_, rfl, _, rfl, _, _, rfl, rfl, bg _ (by omega), _, rfl, p, C, dx, _, rfl, upd_same, T.cl, T.nD, (by show 1 < 1000; decide), ?_⟩
      rw [← e1, ← e2] at q
      rw [upd_upd]
      exact q
/-! is_zero -/
theorem scZ : FnScope ["self"] ["self"] (defScope sZero) := ⟨rfl, rfl, rfl, by decide +kernel, rfl, by decide +kernel, by decide +kernel⟩
theorem ok_zero {f C : Addr} {fd : FuncData} (F : Fun K "is_zero" "Fraction.is_zero" sZero f fd) (T : Txt K mg C) : FnOk P w K mg base CX0 1 f fd ["self"] (spZero C) := by
  refine F.ok scZ (fun vs H Q E h => ?_) (fun cdv A outer s H vs Q E hr h => ?_)
  · obtain ⟨p, r, rfl, _⟩ := h
    rfl
  · obtain ⟨p, r, rfl, ⟨dx, hp⟩, q⟩ := h
    refine ⟨_, pss_one (ps_ret (pe_cmpR op_eq (pe_fld (pv 0) rfl) pe_int (nomark _))), ?_⟩
    refine ⟨_, rfl, p, C, dx, _, _, rfl, hp, T.cl, T.nN, ff_num _ _, rfl, ?_⟩
    have e : decide (V.int r.num = V.int 0) = decide (r = 0) := by
      by_cases h : r = 0
      · rw [decide_eq_true h, decide_eq_true (by rw [num_zero.mpr h])]
      · rw [decide_eq_false h, decide_eq_false fun z => h (num_zero.mp (V.int.inj z))]
    show Q (.bl (decide (V.int r.num = V.int 0))) H
    rw [e]
    exact q
/-! + - * -/
/-- what the arithmetic of two fractions needs -/
structure Mkr (K : PySem.W.Frag) (C fI : Addr) (fdI : FuncData) : Prop where
  made : Mk K C fI
  F : FunD K "__init__" "Fraction.__init__" (defArgs sInit) (defBody sInit) (defScope sInit) [.int 1] [] fI fdI
  b : Binds K fdI ["self", "num", "den"] []
  b1 : ∃ ds, Vals [V.int 1] ds ∧ Binds K fdI ["self", "num", "den"] ds
theorem Mkr.of {C fI : Addr} {fdI : FuncData} (mk : Mk K C fI) (F : FunD K "__init__" "Fraction.__init__" (defArgs sInit) (defBody sInit) (defScope sInit) [.int 1] [] fI fdI) : Mkr K C fI fdI := by
  refine ⟨mk, F, ?_, F.binds1 (ps := ["self", "num", "den"]) 2 0 (List.cons_ne_nil _ _) rfl fun T kV doc pm an cdv ct us its h1 h2 => match us, its, h1, h2 with | [_, _], [_], _, _ => ⟨_, rfl, rfl⟩⟩
  obtain ⟨ds, v, b⟩ := F.binds1 (ps := ["self", "num", "den"]) 3 1 (List.cons_ne_nil _ _) rfl fun T kV doc pm an cdv ct us its h1 h2 => match us, its, h1, h2 with | [_, _, _], [_], _, _ => ⟨_, rfl, rfl⟩
  cases (show Vals [] ds from v)
  exact b
theorem scAd : FnScope ["self", "other"] ["self", "other"] (defScope sAdd) := ⟨rfl, rfl, rfl, by decide +kernel, rfl, by decide +kernel, by decide +kernel⟩
theorem ok_add {f C fI : Addr} {fd fdI : FuncData} (F : Fun K "__add__" "Fraction.__add__" sAdd f fd) (T : Txt K mg C) (M : Mkr K C fI fdI) : FnOk P w K mg base CX0 3 f fd ["self", "other"] (spBin C (· + ·)) := by
  refine F.ok scAd (fun vs H Q E h => ?_) (fun cdv A outer s H vs Q E hr h => ?_)
  · obtain ⟨x, y, p, q, a, b, rfl, _⟩ := h
    rfl
  · obtain ⟨x, y, p, q, a, b, rfl, ⟨dx, hx⟩, ⟨dy, hy⟩, sp, sq, hab, k⟩ := h
    refine ⟨_, pss_one (ps_ret (pe_make M.made (ok_init M.F T) hr rfl T.mgC M.b .nil pass0
      (pa_cons (pe_op op_add (pe_op op_mulW (pe_fld (pv 0) rfl) (pe_fld (pv 1) rfl)) (pe_op op_mulW (pe_fld (pv 1) rfl) (pe_fld (pv 0) rfl)))
      (pa_cons (pe_op op_mulW (pe_fld (pv 0) rfl) (pe_fld (pv 1) rfl)) pa_nil)))), ?_⟩
    have fx : ∀ (n : Str) (v : V), (ff p.num (p.den : Int)).lookup n = some v → True := fun _ _ _ => trivial
    have wm : ∀ {i j : Int} {a b : Nat}, Bz a i → Bz b j → a + b ≤ 9000 → CMulW i j := fun {i j a b} h1 h2 h3 => wide_mul (h1.mono (Nat.le_succ a)) (h2.mono (Nat.le_succ b)) (by omega) (by omega) (by omega)
    refine ⟨_, rfl, x, C, dx, _, _, rfl, hx, T.cl, T.nN, ff_num _ _, _, rfl, y, C, dy, _, _, rfl, hy, T.cl, T.nD, ff_den _ _, _, _, rfl, rfl, wm sp.1 sq.2 hab, ?_⟩
    refine ⟨_, rfl, y, C, dy, _, _, rfl, hy, T.cl, T.nN, ff_num _ _, _, rfl, x, C, dx, _, _, rfl, hx, T.cl, T.nD, ff_den _ _, _, _, rfl, rfl, wm sq.1 sp.2 (by omega), ?_⟩
    refine ⟨_, _, rfl, rfl, ?_⟩
    refine ⟨_, rfl, x, C, dx, _, _, rfl, hx, T.cl, T.nD, ff_den _ _, _, rfl, y, C, dy, _, _, rfl, hy, T.cl, T.nD, ff_den _ _, _, _, rfl, rfl, wm sp.2 sq.2 hab, ?_⟩
    refine make_ok (Int.mul_ne_zero (by have := den_pos p; omega) (by have := den_pos q; omega)) ((sp.2.mul sq.2).mono hab) ?_
    exact (divInt_add (x := p) (y := q)) ▸ k
theorem scSb : FnScope ["self", "other"] ["self", "other"] (defScope sSub) := ⟨rfl, rfl, rfl, by decide +kernel, rfl, by decide +kernel, by decide +kernel⟩
theorem ok_sub {f C fI : Addr} {fd fdI : FuncData} (F : Fun K "__sub__" "Fraction.__sub__" sSub f fd) (T : Txt K mg C) (M : Mkr K C fI fdI) : FnOk P w K mg base CX0 3 f fd ["self", "other"] (spBin C (· - ·)) := by
  refine F.ok scSb (fun vs H Q E h => ?_) (fun cdv A outer s H vs Q E hr h => ?_)
  · obtain ⟨x, y, p, q, a, b, rfl, _⟩ := h
    rfl
  · obtain ⟨x, y, p, q, a, b, rfl, ⟨dx, hx⟩, ⟨dy, hy⟩, sp, sq, hab, k⟩ := h
    refine ⟨_, pss_one (ps_ret (pe_make M.made (ok_init M.F T) hr rfl T.mgC M.b .nil pass0
      (pa_cons (pe_op op_sub (pe_op op_mulW (pe_fld (pv 0) rfl) (pe_fld (pv 1) rfl)) (pe_op op_mulW (pe_fld (pv 1) rfl) (pe_fld (pv 0) rfl)))
      (pa_cons (pe_op op_mulW (pe_fld (pv 0) rfl) (pe_fld (pv 1) rfl)) pa_nil)))), ?_⟩
    have wm : ∀ {i j : Int} {a b : Nat}, Bz a i → Bz b j → a + b ≤ 9000 → CMulW i j := fun {i j a b} h1 h2 h3 => wide_mul (h1.mono (Nat.le_succ a)) (h2.mono (Nat.le_succ b)) (by omega) (by omega) (by omega)
    refine ⟨_, rfl, x, C, dx, _, _, rfl, hx, T.cl, T.nN, ff_num _ _, _, rfl, y, C, dy, _, _, rfl, hy, T.cl, T.nD, ff_den _ _, _, _, rfl, rfl, wm sp.1 sq.2 hab, ?_⟩
    refine ⟨_, rfl, y, C, dy, _, _, rfl, hy, T.cl, T.nN, ff_num _ _, _, rfl, x, C, dx, _, _, rfl, hx, T.cl, T.nD, ff_den _ _, _, _, rfl, rfl, wm sq.1 sp.2 (by omega), ?_⟩
    refine ⟨_, _, rfl, rfl, ?_⟩
    refine ⟨_, rfl, x, C, dx, _, _, rfl, hx, T.cl, T.nD, ff_den _ _, _, rfl, y, C, dy, _, _, rfl, hy, T.cl, T.nD, ff_den _ _, _, _, rfl, rfl, wm sp.2 sq.2 hab, ?_⟩
    refine make_ok (Int.mul_ne_zero (by have := den_pos p; omega) (by have := den_pos q; omega)) ((sp.2.mul sq.2).mono hab) ?_
    exact (divInt_sub (x := p) (y := q)) ▸ k
theorem scMu : FnScope ["self", "other"] ["self", "other"] (defScope sMul) := ⟨rfl, rfl, rfl, by decide +kernel, rfl, by decide +kernel, by decide +kernel⟩
theorem ok_mul {f C fI : Addr} {fd fdI : FuncData} (F : Fun K "__mul__" "Fraction.__mul__" sMul f fd) (T : Txt K mg C) (M : Mkr K C fI fdI) : FnOk P w K mg base CX0 3 f fd ["self", "other"] (spBin C (· * ·)) := by
  refine F.ok scMu (fun vs H Q E h => ?_) (fun cdv A outer s H vs Q E hr h => ?_)
  · obtain ⟨x, y, p, q, a, b, rfl, _⟩ := h
    rfl
  · obtain ⟨x, y, p, q, a, b, rfl, ⟨dx, hx⟩, ⟨dy, hy⟩, sp, sq, hab, k⟩ := h
    refine ⟨_, pss_one (ps_ret (pe_make M.made (ok_init M.F T) hr rfl T.mgC M.b .nil pass0
      (pa_cons (pe_op op_mulW (pe_fld (pv 0) rfl) (pe_fld (pv 1) rfl))
      (pa_cons (pe_op op_mulW (pe_fld (pv 0) rfl) (pe_fld (pv 1) rfl)) pa_nil)))), ?_⟩
    have wm : ∀ {i j : Int} {a b : Nat}, Bz a i → Bz b j → a + b ≤ 9000 → CMulW i j := fun {i j a b} h1 h2 h3 => wide_mul (h1.mono (Nat.le_succ a)) (h2.mono (Nat.le_succ b)) (by omega) (by omega) (by omega)
    refine ⟨_, rfl, x, C, dx, _, _, rfl, hx, T.cl, T.nN, ff_num _ _, _, rfl, y, C, dy, _, _, rfl, hy, T.cl, T.nN, ff_num _ _, _, _, rfl, rfl, wm sp.1 sq.1 hab, ?_⟩
    refine ⟨_, rfl, x, C, dx, _, _, rfl, hx, T.cl, T.nD, ff_den _ _, _, rfl, y, C, dy, _, _, rfl, hy, T.cl, T.nD, ff_den _ _, _, _, rfl, rfl, wm sp.2 sq.2 hab, ?_⟩
    refine make_ok (Int.mul_ne_zero (by have := den_pos p; omega) (by have := den_pos q; omega)) ((sp.2.mul sq.2).mono hab) ?_
    exact (divInt_mul (x := p) (y := q)) ▸ k
/-! over -/
theorem scOv : FnScope ["self", "other"] ["self", "other"] (defScope sOver) := ⟨rfl, rfl, rfl, by decide +kernel, rfl, by decide +kernel, by decide +kernel⟩
theorem ok_over {f C fI : Addr} {fd fdI : FuncData} (F : Fun K "over" "Fraction.over" sOver f fd) (T : Txt K mg C) (M : Mkr K C fI fdI) : FnOk P w K mg base CX0 3 f fd ["self", "other"] (spOver C) := by
  refine F.ok scOv (fun vs H Q E h => ?_) (fun cdv A outer s H vs Q E hr h => ?_)
  · obtain ⟨x, y, p, q, a, b, rfl, _⟩ := h
    rfl
  · obtain ⟨x, y, p, q, a, b, rfl, ⟨dx, hx⟩, ⟨dy, hy⟩, sp, sq, hab, hq, k⟩ := h
    refine ⟨_, pss_cons (ps_if (pt_cmpR op_eq (pe_fld (pv 1) rfl) pe_int (nomark _)) pss_never pss_nil)
      (pss_one (ps_ret (pe_make M.made (ok_init M.F T) hr rfl T.mgC M.b .nil pass0
      (pa_cons (pe_op op_mulW (pe_fld (pv 0) rfl) (pe_fld (pv 1) rfl))
      (pa_cons (pe_op op_mulW (pe_fld (pv 0) rfl) (pe_fld (pv 1) rfl)) pa_nil))))), ?_⟩
    have wm : ∀ {i j : Int} {a b : Nat}, Bz a i → Bz b j → a + b ≤ 9000 → CMulW i j := fun {i j a b} h1 h2 h3 => wide_mul (h1.mono (Nat.le_succ a)) (h2.mono (Nat.le_succ b)) (by omega) (by omega) (by omega)
    have hn : q.num ≠ 0 := fun z => hq (num_zero.mp z)
    refine ⟨_, rfl, y, C, dy, _, _, rfl, hy, T.cl, T.nN, ff_num _ _, rfl, _, rfl, ite2 (fun e => absurd (V.int.inj (of_decide_eq_true e)) hn) fun _ => ?_⟩
    refine ⟨_, rfl, x, C, dx, _, _, rfl, hx, T.cl, T.nN, ff_num _ _, _, rfl, y, C, dy, _, _, rfl, hy, T.cl, T.nD, ff_den _ _, _, _, rfl, rfl, wm sp.1 sq.2 hab, ?_⟩
    refine ⟨_, rfl, x, C, dx, _, _, rfl, hx, T.cl, T.nD, ff_den _ _, _, rfl, y, C, dy, _, _, rfl, hy, T.cl, T.nN, ff_num _ _, _, _, rfl, rfl, wm sp.2 sq.1 hab, ?_⟩
    refine make_ok (Int.mul_ne_zero (by have := den_pos p; omega) hn) ((sp.2.mul sq.1).mono hab) ?_
    exact (divInt_over (x := p) (y := q)) ▸ k
end
end Ks
/-! part KsC -/
set_option maxRecDepth 100000
set_option maxHeartbeats 4000000
namespace Ks
open PySem L2
/-- all that the walk uses of Fraction and of the built-in names -/
structure Tools (P : Program) (w : World) (K : PySem.W.Frag) (mg : Str → Option Value) (base : Heap) (C : Addr) where
  T : Txt K mg C
  fI : Addr
  fdI : FuncData
  M : Mkr K C fI fdI
  fA : Addr
  fdA : FuncData
  GA : FnOk P w K mg base CX0 3 fA fdA ["self", "other"] (spBin C (· + ·))
  bA : Binds K fdA ["self", "other"] []
  sA : PySem.W.findIn K (.ref C) (PySem.dunder Operator.Add.info.2) = some (some (.ref fA))
  iA : PySem.W.isFn K (.ref fA) = true
  fS : Addr
  fdS : FuncData
  GS : FnOk P w K mg base CX0 3 fS fdS ["self", "other"] (spBin C (· - ·))
  bS : Binds K fdS ["self", "other"] []
  sS : PySem.W.findIn K (.ref C) (PySem.dunder Operator.Sub.info.2) = some (some (.ref fS))
  iS : PySem.W.isFn K (.ref fS) = true
  fM : Addr
  fdM : FuncData
  GM : FnOk P w K mg base CX0 3 fM fdM ["self", "other"] (spBin C (· * ·))
  bM : Binds K fdM ["self", "other"] []
  sM : PySem.W.findIn K (.ref C) (PySem.dunder Operator.Mult.info.2) = some (some (.ref fM))
  iM : PySem.W.isFn K (.ref fM) = true
  fO : Addr
  fdO : FuncData
  GO : FnOk P w K mg base CX0 3 fO fdO ["self", "other"] (spOver C)
  bO : Binds K fdO ["self", "other"] []
  mO : Meth K C "over" fO
  fZ : Addr
  zp : Addr
  fdZ : FuncData
  GZ : FnOk P w K mg base CX0 1 fZ fdZ ["self"] (spZero C)
  bZ : Binds K fdZ ["self"] []
  pZ : PropOf K C "is_zero" zp fZ
  len : mg "len" = none
  rng : mg "range" = none
  lst : mg "list" = none
  int : mg "int" = none
  abs : mg "abs" = none
  isi : mg "isinstance" = none
  tup : mg "tuple" = none
  bool : mg "bool" = none
theorem bin_ok {C : Addr} {op : Rat → Rat → Rat} {H : Hp} {x y : Addr} {p q : Rat} {a b : Nat} {Q : VK} (hx : Fr C H x p) (hy : Fr C H y q) (sp : Sz a p) (sq : Sz b q) (hab : a + b ≤ 9000) (k : Wants C H (op p q) Q) :
    rFr C (spBin C op) (.ref x) (.ref y) H Q := by
  obtain ⟨dx, ex⟩ := id hx
  obtain ⟨dy, ey⟩ := id hy
  exact ⟨x, y, dx, dy, _, _, rfl, rfl, ex, ey, x, y, p, q, a, b, rfl, hx, hy, sp, sq, hab, k⟩
theorem zero_ok {C : Addr} {H : Hp} {x : Addr} {q : Rat} {Q : VK} {E : XK} (hx : Fr C H x q) (k : Q (.bl (decide (q = 0))) H) :
    ∃ a dx fs, V.ref x = .ref a ∧ H a = some (.ins C dx fs) ∧ spZero C (.ref a :: []) H Q E := by
  obtain ⟨dx, ex⟩ := id hx
  exact ⟨x, dx, _, rfl, ex, x, q, rfl, hx, k⟩
/-- a new number from one whole number -/
theorem make1_ok {C : Addr} {H : Hp} {n : Int} {R : Addr → Hp → Prop} {E : XK} (h : ∀ x H', Same H H' → H x = none → Fr C H' x (n : Rat) → R x H') :
    ∀ x dx, H x = none → H dx = none → dx ≠ x → spInit C [.ref x, .int n, .int 1] (upd (upd H dx (.own x)) x (.ins C dx [])) (fun v H2 => v = .non ∧ R x H2) E :=
  make_ok (by decide) (show Bz 9000 1 by exact Bz.mono (a := 1) (by decide) (by decide)) (by rw [divInt_one]; exact h)
/-- a row's item -/
theorem LstOf.at {P : Pd} {H : Hp} {a : Addr} {n : Nat} (h : LstOf P H a n) : ∃ xs, H a = some (.lst xs) ∧ xs.length = n ∧ ∀ i, i < n → ∃ b, atI xs (i : Int) = some (.ref b) ∧ P i b H := by
  obtain ⟨xs, e, l, k⟩ := h
  exact ⟨xs, e, l, fun i hi => let ⟨b, h1, h2⟩ := k i hi; ⟨b, atI_nat h1, h2⟩⟩
theorem yesT {σ : St} {H : Hp} {A B : Hp → Prop} (h : A H) : tYes σ H (fun b H3 => if b = true then A H3 else B H3) := by
  show if true = true then A H else B H
  rw [if_pos rfl]
  exact h
/-- 2^62 -/
theorem small62 {n : Nat} (h : n ≤ 1000) : -(2 ^ 62) ≤ (n : Int) ∧ (n : Int) < 2 ^ 62 := by omega
def spDot (C : Addr) : Sp := fun vs H Q _ => ∃ (a b : Addr) (n : Nat) (f g : Nat → Rat) (sa sb s : Nat), vs = [.ref a, .ref b] ∧ n ≤ 1000 ∧ Row C H a n f ∧ Row C H b n g ∧ (∀ i, i < n → Sz sa (f i)) ∧ (∀ i, i < n → Sz sb (g i)) ∧
  (∀ t, t ≤ n → Sz s (sm t fun i => f i * g i)) ∧ s + (sa + sb) ≤ 9000 ∧ Wants C H (sm n fun i => f i * g i) Q
theorem sz_mul {a b : Nat} {p q : Rat} (hp : Sz a p) (hq : Sz b q) : Sz (a + b) (p * q) := by
  refine sz_of (D := (p.den : Int) * (q.den : Int)) (X := p.num * q.num) (Int.mul_ne_zero (by have := den_pos p; omega) (by have := den_pos q; omega)) (hp.2.mul hq.2) (hp.1.mul hq.1) ?_
  rw [Rat.intCast_mul, Rat.intCast_mul, ← num_eq p, ← num_eq q]
  grind
section
variable {P : Program} {w : World} {K : PySem.W.Frag} {mg : Str → Option Value} {base : Heap}
theorem scDot : FnScope ["first", "second", "total", "index"] ["first", "second"] (defScope sDot) := ⟨rfl, rfl, rfl, by decide +kernel, rfl, by decide +kernel, by decide +kernel⟩
theorem ok_dot {f C : Addr} {fd : FuncData} (F : Fun K "dot" "dot" sDot f fd) (W : Tools P w K mg base C) : FnOk P w K mg base CX0 4 f fd ["first", "second"] (spDot C) := by
  refine F.ok scDot (fun vs H Q E h => ?_) (fun cdv A outer s H vs Q E hr h => ?_)
  · obtain ⟨a, b, n, f, g, sa, sb, s, rfl, _⟩ := h
    rfl
  · obtain ⟨a, b, n, f, g, sa, sb, s, rfl, hn, ra, rb, za, zb, zs, hs, k⟩ := h
    obtain ⟨ds, v1, b1⟩ := W.M.b1
    refine ⟨_, pss_cons (ps_set (i := 2) scDot.nd rfl (.inl rfl) (pe_make W.M.made (ok_init W.M.F W.T) (hr.mono (by decide)) rfl W.T.mgC b1 v1 pass0 (pa_cons pe_int pa_nil)))
      (pss_cons (ps_for PassesOwn.never rfl (pi_range1 (by rfl) W.rng (pa_cons (pe_callB call_len_seq (by rfl) W.len PySem.boot_len (pa_cons (pv 0) pa_nil)) pa_nil)) (pg_name (i := 3) scDot.nd rfl (.inl rfl))
        (pss_one (ps_set (i := 2) scDot.nd rfl (.inl rfl) (pe_op (op_own W.GA W.T.sf W.sA W.iA hr W.bA) (pv 2)
          (pe_op (op_own W.GM W.T.sf W.sM W.iM hr W.bM) (pe_ix ix_list (pv 0) (pv 3) (fun _ _ => rfl)) (pe_ix ix_list (pv 1) (pv 3) (fun _ _ => rfl)))))))
      (pss_one (ps_ret (pv 2)))), ?_⟩
    obtain ⟨xs, ea, la, ka⟩ := ra.at
    obtain ⟨ys, eb, lb, kb⟩ := rb.at
    refine make1_ok fun x H1 s1 nx hx => ?_
    refine ⟨_, rfl, a, xs, rfl, .inl (SqL.of (s1 _ _ ea)), _, rfl, (small62 (n := xs.length) (by omega)).1, (small62 (n := xs.length) (by omega)).2, ?_⟩
    refine for_range (fun i σ H' => ∃ x v3, σ = [some (.ref a), some (.ref b), some (.ref x), v3] ∧ Same H H' ∧ H x = none ∧ Fr C H' x (sm i fun i => f i * g i)) ⟨x, none, rfl, s1, nx, hx⟩ ?_ ?_
    · rintro i σ H2 hi ⟨z, v3, rfl, s2, nz, hz⟩
      have hi' : i < n := by omega
      obtain ⟨c, c1, c2⟩ := ka i hi'
      obtain ⟨d, d1, d2⟩ := kb i hi'
      have e0 : (0 : Int) + (i : Int) = (i : Int) := by omega
      refine ⟨_, rfl, _, rfl, _, rfl, a, xs, _, _, rfl, rfl, SqL.of (s2 _ _ ea), (by rw [e0]; exact c1), ?_⟩
      refine ⟨_, rfl, _, rfl, b, ys, _, _, rfl, rfl, SqL.of (s2 _ _ eb), (by rw [e0]; exact d1), ?_⟩
      refine bin_ok (Fr.same c2 s2) (Fr.same d2 s2) (za i hi') (zb i hi') (by omega) fun y H3 s3 ny hy => ?_
      refine bin_ok (hz.same s3) hy (zs i (by omega)) (sz_mul (za i hi') (zb i hi')) (by omega) fun u H4 s4 nu hu => ?_
      exact ⟨u, _, rfl, (s2.trans s3).trans s4, (s2.trans s3).free nu, hu⟩
    · rintro σ H2 ⟨z, v3, rfl, s2, nz, hz⟩
      have en : (xs.length : Int).toNat = n := by omega
      rw [en] at hz
      exact ⟨_, rfl, k z H2 s2 nz hz⟩
/-! identity -/
def spIdent (C : Addr) : Sp := fun vs H Q _ => ∃ (m : Nat), vs = [.int (m : Int)] ∧ m ≤ 100 ∧ ∀ a H', Same H H' → H a = none → Tab C H' a m m (fun i j => if i = j then 1 else 0) → Q (.ref a) H'
theorem scId : FnScope ["size", "row", "column"] ["size"] (defScope sIdent) := ⟨rfl, rfl, rfl, by decide +kernel, rfl, by decide +kernel, by decide +kernel⟩
theorem ok_ident {f C : Addr} {fd : FuncData} (F : Fun K "identity" "identity" sIdent f fd) (W : Tools P w K mg base C) : FnOk P w K mg base CX0 4 f fd ["size"] (spIdent C) := by
  refine F.ok scId (fun vs H Q E h => ?_) (fun cdv A outer s H vs Q E hr h => ?_)
  · obtain ⟨m, rfl, _⟩ := h
    rfl
  · obtain ⟨m, rfl, hm, k⟩ := h
    obtain ⟨ds, v1, b1⟩ := W.M.b1
    refine ⟨_, pss_one (ps_ret (pe_lc (own := [("row", 1)]) (g := gName 1) (tt := tYes) rfl scId.nd (pi_range1 (by rfl) W.rng (pa_cons (pv 0) pa_nil)) (blkOk_by (N := ["size", "row", "column"]) (sc := defScope sIdent) (by decide +kernel)) (fun _ _ _ _ _ => pg_name (i := 1) scId.nd rfl (Or.inr rfl)) (fun _ _ _ _ _ => pts_nil)
      (fun _ _ _ _ _ => pe_lc (own := [("column", 2)]) (g := gName 2) (tt := tYes) rfl scId.nd (pi_range1 (by rfl) W.rng (pa_cons (pv 0) pa_nil)) (blkOk_by (N := ["size", "row", "column"]) (sc := relS (lcS (retE (defBody sIdent))) (defScope sIdent)) (by decide +kernel)) (fun _ _ _ _ _ => pg_name (i := 2) scId.nd rfl (Or.inl rfl)) (fun _ _ _ _ _ => pts_nil)
        (fun _ _ _ _ _ => pe_make W.M.made (ok_init W.M.F W.T) (hr.mono (by decide)) (by rfl) W.T.mgC b1 v1 pass0 (pa_cons (pe_callTy call_int1 (by rfl) W.int (by decide +kernel) (pa_cons (pe_cmpR op_eq (pv 1) (pv 2) (nomark _)) pa_nil)) pa_nil))))), ?_⟩
    refine ⟨_, rfl, _, rfl, (small62 (n := m) (by omega)).1, (small62 (n := m) (by omega)).2, ?_⟩
    intro D nD
    refine lc_range (Bld (pRow C m fun i j => if i = j then 1 else 0) H D) (bld_zero nD) ?_ ?_
    · intro i H1 hi B
      refine ⟨rfl, yesT ?_⟩
      refine ⟨_, rfl, _, rfl, (small62 (n := m) (by omega)).1, (small62 (n := m) (by omega)).2, ?_⟩
      intro D2 nD2
      refine lc_range (Bld (pFr C fun j => if i = j then 1 else 0) H1 D2) (bld_zero nD2) ?_ ?_
      · intro j H2 hj B2
        refine ⟨rfl, yesT ?_⟩
        refine ⟨_, rfl, _, rfl, rfl, .inr ⟨_, rfl, ?_⟩⟩
        refine make1_ok fun x H3 s3 nx hx => ?_
        have e1 : ((if decide (V.int (0 + (i : Int)) = V.int (0 + (j : Int))) = true then (1 : Int) else 0 : Int) : Rat) = (if i = j then 1 else 0 : Rat) := by
          by_cases h : i = j
          · subst h; rw [if_pos rfl, decide_eq_true rfl]; rfl
          · rw [if_neg h, decide_eq_false (by intro z; have := V.int.inj z; omega)]; rfl
        refine B2.put (mon_fr _ _) nD2 s3 ?_ (by omega)
        obtain ⟨_, ys, ey, _⟩ := B2
        have hx' : Fr C H3 x (if i = j then 1 else 0 : Rat) := by rw [← e1]; exact hx
        exact hx'.hide (s3 _ _ ey)
      · intro H2 B2
        obtain ⟨s2, L2⟩ := B2.done (mon_fr _ _)
        obtain ⟨_, xs, ex, _⟩ := id B
        have em : (m : Int).toNat = m := by omega
        rw [em] at L2
        have nDD : D2 ≠ D := (ne_of_none ex nD2).symm
        exact B.put (mon_row _ _ _) nD s2 (Row.hide L2 (s2 _ _ ex) nDD) (by omega)
    · intro H1 B
      obtain ⟨s1, L⟩ := B.done (mon_row _ _ _)
      have em : (m : Int).toNat = m := by omega
      rw [em] at L
      exact k D H1 s1 nD L
end
end Ks
/-! part KsD -/
set_option maxRecDepth 100000
set_option maxHeartbeats 4000000
namespace Ks
open PySem L2
def spPivot (C : Addr) : Sp := fun vs H Q _ => ∃ (t : Addr) (m N r c : Nat) (F : Nat → Nat → Rat), vs = [.ref t, .int (r : Int), .int (c : Int)] ∧ m ≤ 1000 ∧ r ≤ m ∧ c < N ∧ Tab C H t m N F ∧
  (∀ p, r ≤ p → p < m → F p c ≠ 0 → Q (.int (p : Int)) H) ∧ ((∀ i, r ≤ i → i < m → F i c = 0) → Q .non H)
def spWm (C : Addr) : Sp := fun vs H Q _ => ∃ (a b s : Addr) (N : Nat) (f g : Nat → Rat) (k : Rat) (sa sb sc : Nat), vs = [.ref a, .ref b, .ref s] ∧ N ≤ 900 ∧ Row C H a N f ∧ Fr C H b k ∧ Row C H s N g ∧
  (∀ j, j < N → Sz sa (f j)) ∧ Sz sb k ∧ (∀ j, j < N → Sz sc (g j)) ∧ sa + (sb + sc) ≤ 9000 ∧ ∀ x H', Same H H' → (x = a ∨ H x = none) → Row C H' x N (fun j => f j - k * g j) → Q (.ref x) H'
def spClear (C : Addr) : Sp := fun vs H Q _ => ∃ (t : Addr) (m N r p c : Nat) (F : Nat → Nat → Rat), vs = [.ref t, .int (r : Int), .int (p : Int), .int (c : Int)] ∧ m ≤ 900 ∧ N ≤ 900 ∧ r ≤ p ∧ p < m ∧ c < N ∧ Tab C H t m N F ∧ F p c ≠ 0 ∧
  (∀ i, i < m → ∀ j, j < N → Sz 2064 (F i j)) ∧ (∀ j, j < N → Sz 4129 (F p j / F p c)) ∧ ∀ x H', Same H H' → H x = none → Tab C H' x m N (step F r p c) → Q (.ref x) H'
theorem sz_one : Sz 1 1 := ⟨by decide, by decide⟩
theorem sz_inv {b : Nat} {q : Rat} (h : Sz b q) (h0 : q ≠ 0) : Sz b (1 / q) := by
  have hn : q.num ≠ 0 := fun z => h0 (num_zero.mp z)
  refine sz_of (D := q.num) (X := (q.den : Int)) hn h.1 h.2 ?_
  rw [← num_eq q]
  have := Rat.mul_inv_cancel q h0
  rw [Rat.div_def]
  generalize ((q.den : Int) : Rat) = d
  grind
section
variable {P : Program} {w : World} {K : PySem.W.Frag} {mg : Str → Option Value} {base : Heap}
theorem scPivot : FnScope ["table", "rank", "column", "place"] ["table", "rank", "column"] (defScope sPivot) := ⟨rfl, rfl, rfl, by decide +kernel, rfl, by decide +kernel, by decide +kernel⟩
theorem ok_pivot {f C : Addr} {fd : FuncData} (F : Fun K "pivot_place" "pivot_place" sPivot f fd) (W : Tools P w K mg base C) : FnOk P w K mg base CX0 3 f fd ["table", "rank", "column"] (spPivot C) := by
  refine F.ok scPivot (fun vs H Q E h => ?_) (fun cdv A outer s H vs Q E hr h => ?_)
  · obtain ⟨t, m, N, r, c, G, rfl, _⟩ := h
    rfl
  · obtain ⟨t, m, N, r, c, G, rfl, hm, hrm, hc, tb, k1, k2⟩ := h
    refine ⟨_, pss_cons (ps_for PassesOwn.never rfl (pi_range2 (by rfl) W.rng (pa_cons (pv 1) (pa_cons (pe_callB call_len_seq (by rfl) W.len PySem.boot_len (pa_cons (pv 0) pa_nil)) pa_nil))) (pg_name (i := 3) scPivot.nd rfl (.inl rfl))
        (pss_one (ps_if (pt_not (pt_val (pe_prop (pe_ix ix_list (pe_ix ix_list (pv 0) (pv 3) (fun _ _ => rfl)) (pv 2) (fun _ _ => rfl)) W.T.cl W.pZ W.GZ hr W.bZ .nil pass0 rfl))) (pss_one (ps_ret (pv 3))) pss_nil)))
      (pss_one (ps_ret pe_non)), ?_⟩
    obtain ⟨xs, et, lt, kt⟩ := tb.at
    refine ⟨_, rfl, _, rfl, t, xs, rfl, .inl (SqL.of et), _, _, rfl, ⟨(small62 (n := r) (by omega)).1, (small62 (n := r) (by omega)).2, (small62 (n := xs.length) (by omega)).1, (small62 (n := xs.length) (by omega)).2⟩, ?_⟩
    refine for_range (fun i σ H' => ∃ v3, σ = [some (.ref t), some (.int r), some (.int c), v3] ∧ H' = H ∧ ∀ k, r ≤ k → k < r + i → G k c = 0) ⟨none, rfl, rfl, fun k h1 h2 => by omega⟩ ?_ ?_
    · rintro i σ H2 hi ⟨v3, rfl, rfl, z⟩
      have hi' : r + i < m := by omega
      obtain ⟨b, b1, rb⟩ := kt (r + i) hi'
      obtain ⟨ys, eb, lb, kb⟩ := LstOf.at rb
      obtain ⟨d, d1, hd⟩ := kb c hc
      have e0 : (r : Int) + (i : Int) = ((r + i : Nat) : Int) := by omega
      refine ⟨_, rfl, _, rfl, t, xs, _, _, rfl, rfl, SqL.of et, (by rw [e0]; exact b1), _, rfl, b, ys, _, _, rfl, rfl, SqL.of eb, d1, ?_⟩
      refine zero_ok hd ⟨_, rfl, ?_⟩
      by_cases h0 : G (r + i) c = 0
      · rw [decide_eq_true h0]
        refine iteF ?_
        exact ⟨_, rfl, rfl, fun k h1 h2 => by
          by_cases h : k = r + i
          · rw [h]; exact h0
          · exact z k h1 (by omega)⟩
      · rw [decide_eq_false h0]
        refine iteT ?_
        refine ⟨_, rfl, ?_⟩
        show Q (.int ((r : Int) + (i : Int))) H2
        rw [e0]
        exact k1 (r + i) (by omega) hi' h0
    · rintro σ H2 ⟨v3, rfl, rfl, z⟩
      exact k2 fun i h1 h2 => z i h1 (by omega)
theorem scWm : FnScope ["row", "factor", "source", "index"] ["row", "factor", "source"] (defScope sWm) := ⟨rfl, rfl, rfl, by decide +kernel, rfl, by decide +kernel, by decide +kernel⟩
theorem ok_wm {f C : Addr} {fd : FuncData} (F : Fun K "without_multiple" "without_multiple" sWm f fd) (W : Tools P w K mg base C) : FnOk P w K mg base CX0 4 f fd ["row", "factor", "source"] (spWm C) := by
  refine F.ok scWm (fun vs H Q E h => ?_) (fun cdv A outer s H vs Q E hr h => ?_)
  · obtain ⟨a, b, s, N, f, g, k, sa, sb, sc, rfl, _⟩ := h
    rfl
  · obtain ⟨a, b, s, N, f, g, k, sa, sb, sc, rfl, hN, ra, hb, rs, za, zb, zc, hz, q⟩ := h
    refine ⟨_, pss_cons (ps_if (pt_val (pe_prop (pv 1) W.T.cl W.pZ W.GZ (hr.mono (by decide)) W.bZ .nil pass0 rfl)) (pss_one (ps_ret (pv 0))) pss_nil)
      (pss_one (ps_ret (pe_lc (own := [("index", 3)]) (g := gName 3) (tt := tYes) rfl scWm.nd (pi_range1 (by rfl) W.rng (pa_cons (pe_callB call_len_seq (by rfl) W.len PySem.boot_len (pa_cons (pv 0) pa_nil)) pa_nil)) (blkOk_by (N := ["row", "factor", "source", "index"]) (sc := defScope sWm) (by decide +kernel)) (fun _ _ _ _ _ => pg_name (i := 3) scWm.nd rfl (Or.inl rfl)) (fun _ _ _ _ _ => pts_nil)
        (fun _ _ _ _ _ => pe_op (op_own W.GS W.T.sf W.sS W.iS hr W.bS) (pe_ix (r := rIxL K) ix_list (pv 0) (pv 3) (fun _ _ => rfl)) (pe_op (op_own W.GM W.T.sf W.sM W.iM hr W.bM) (pv 1) (pe_ix (r := rIxL K) ix_list (pv 2) (pv 3) (fun _ _ => rfl))))))), ?_⟩
    refine ⟨_, rfl, zero_ok hb ⟨_, rfl, ?_⟩⟩
    by_cases h0 : k = 0
    · rw [decide_eq_true h0]
      refine iteT ?_
      refine ⟨_, rfl, q a H (Same.refl H) (.inl rfl) (ra.congr fun i hi => ?_)⟩
      rw [h0]; grind
    · rw [decide_eq_false h0]
      refine iteF ?_
      obtain ⟨xs, ea, la, ka⟩ := ra.at
      obtain ⟨ys, es, ls, ks⟩ := rs.at
      refine ⟨_, rfl, a, xs, rfl, .inl (SqL.of ea), _, rfl, (small62 (n := xs.length) (by omega)).1, (small62 (n := xs.length) (by omega)).2, ?_⟩
      intro D nD
      refine lc_range (Bld (pFr C fun j => f j - k * g j) H D) (bld_zero nD) ?_ ?_
      · intro i H1 hi B
        have hi' : i < N := by omega
        obtain ⟨c, c1, hc⟩ := ka i hi'
        obtain ⟨d, d1, hd⟩ := ks i hi'
        have s1 : Same H H1 := B.1
        have e0 : (0 : Int) + (i : Int) = (i : Int) := by omega
        refine ⟨rfl, yesT ?_⟩
        refine ⟨_, rfl, _, rfl, a, xs, _, _, rfl, rfl, SqL.of (s1 _ _ ea), (by rw [e0]; exact c1), ?_⟩
        refine ⟨_, rfl, _, rfl, _, rfl, s, ys, _, _, rfl, rfl, SqL.of (s1 _ _ es), (by rw [e0]; exact d1), ?_⟩
        refine bin_ok (hb.same s1) (Fr.same hd s1) zb (zc i hi') (by omega) fun y H3 s3 ny hy => ?_
        refine bin_ok ((Fr.same hc s1).same s3) hy (za i hi') (sz_mul zb (zc i hi')) (by omega) fun u H4 s4 nu hu => ?_
        obtain ⟨_, zs, ez, _⟩ := id B
        exact B.put (mon_fr _ _) nD (s3.trans s4) (hu.hide (s4 _ _ (s3 _ _ ez))) (by omega)
      · intro H1 B
        obtain ⟨s1, L⟩ := B.done (mon_fr _ _)
        have en : (xs.length : Int).toNat = N := by omega
        rw [en] at L
        exact q D H1 s1 (.inr nD) L
end
end Ks
/-! part KsE -/
set_option maxRecDepth 100000
set_option maxHeartbeats 4000000
namespace Ks
open PySem L2
theorem ixN_nat {n j : Nat} (h : j < n) : ixN n (j : Int) = some j := by
  unfold ixN
  rw [if_pos (by omega), if_pos (by omega)]
  simp
section
variable {P : Program} {w : World} {K : PySem.W.Frag} {mg : Str → Option Value} {base : Heap}
theorem scClear : FnScope ["table", "rank", "place", "column", "rows", "pivot", "factor", "result", "index", "entry"] ["table", "rank", "place", "column"] (defScope sClear) := ⟨rfl, rfl, rfl, by decide +kernel, rfl, by decide +kernel, by decide +kernel⟩
theorem ok_clear {f C fW : Addr} {fd fdW : FuncData} (F : Fun K "cleared" "cleared" sClear f fd) (W : Tools P w K mg base C) (FW : Fun K "without_multiple" "without_multiple" sWm fW fdW) (bW : Binds K fdW ["row", "factor", "source"] [])
    (mW : mg "without_multiple" = some (.ref fW)) : FnOk P w K mg base CX0 5 f fd ["table", "rank", "place", "column"] (spClear C) := by
  have GW : FnOk P w K mg base CX0 4 fW fdW ["row", "factor", "source"] (spWm C) := ok_wm FW W
  refine F.ok scClear (fun vs H Q E h => ?_) (fun cdv A outer s H vs Q E hr h => ?_)
  · obtain ⟨t, m, N, r, p, c, G, rfl, _⟩ := h
    rfl
  · obtain ⟨t, m, N, r, p, c, G, rfl, hm, hN, hrp, hpm, hc, tb, hpc, z1, z2, q⟩ := h
    obtain ⟨ds, v1, b1⟩ := W.M.b1
    refine ⟨_, pss_cons (ps_set (i := 4) scClear.nd rfl (.inl rfl) (pe_callTy call_list_of (by rfl) W.lst (by decide +kernel) (pa_cons (pv 0) pa_nil)))
      (pss_cons (ps_set (i := 5) scClear.nd rfl (.inl rfl) (pe_ix ix_list (pv 4) (pv 2) (fun _ _ => rfl)))
      (pss_cons (ps_asg (pe_ix ix_list (pv 4) (pv 1) (fun _ _ => rfl)) (pg_sub (pv 4) (pv 2) set_list))
      (pss_cons (ps_set (i := 6) scClear.nd rfl (.inr rfl) (pe_meth (pe_make W.M.made (ok_init W.M.F W.T) (hr.mono (by decide)) rfl W.T.mgC b1 v1 pass0 (pa_cons pe_int pa_nil)) W.T.cl W.mO W.GO (hr.mono (by decide)) W.bO .nil pass0 (pa_cons (pe_ix ix_list (pv 5) (pv 3) (fun _ _ => rfl)) pa_nil)))
      (pss_cons (ps_setLc (i := 5) (own := [("entry", 9)]) (g := gName 9) (tt := tYes) rfl scClear.nd rfl rfl (sw_true rfl rfl rfl (by decide +kernel)) (pi_list (pv 5)) (blkOk_by (N := ["table", "rank", "place", "column", "rows", "pivot", "factor", "result", "index", "entry"]) (sc := defScope sClear) (by decide +kernel)) (fun _ _ _ _ _ => pg_name (i := 9) scClear.nd rfl (Or.inl rfl)) (fun _ _ _ _ _ => pts_nil)
        (fun _ _ _ _ _ => pe_op (op_own W.GM W.T.sf W.sM W.iM (hr.mono (by decide)) W.bM) (pv 6) (pv 9)))
      (pss_cons (ps_set (i := 7) scClear.nd rfl (.inl rfl) (pe_lst pa_nil))
      (pss_cons (ps_for PassesOwn.never rfl (pi_range1 (by rfl) W.rng (pa_cons (pe_callB call_len_seq (by rfl) W.len PySem.boot_len (pa_cons (pv 4) pa_nil)) pa_nil)) (pg_name (i := 8) scClear.nd rfl (.inl rfl))
        (pss_one (ps_if (pt_cmpR op_eq (pv 8) (pv 1) (nomark _))
          (pss_one (ps_expr (pe_bm PySem.F.plainAttrs_list PySem.F.slot_list_append PySem.F.type_list_append mt_append (pv 7) (pa_cons (pv 5) pa_nil))))
          (pss_one (ps_expr (pe_bm PySem.F.plainAttrs_list PySem.F.slot_list_append PySem.F.type_list_append mt_append (pv 7) (pa_cons (pe_call GW hr (by rfl) mW FW.kp bW .nil pass0
            (pa_cons (pe_ix ix_list (pv 4) (pv 8) (fun _ _ => rfl)) (pa_cons (pe_ix ix_list (pe_ix ix_list (pv 4) (pv 8) (fun _ _ => rfl)) (pv 3) (fun _ _ => rfl)) (pa_cons (pv 5) pa_nil)))) pa_nil)))))))
      (pss_one (ps_ret (pv 7))))))))), ?_⟩
    have hrm : r < m := by omega
    obtain ⟨xs, et, lt, kt⟩ := tb
    obtain ⟨bp, bp1, rp⟩ := kt p hpm
    obtain ⟨br, br1, rr⟩ := kt r hrm
    refine ⟨_, rfl, t, xs, rfl, .inl (SqL.of et), fun l nl => ?_⟩
    have s0 : Same H (upd H l (.lst xs)) := same_upd nl
    refine ⟨_, rfl, _, rfl, l, xs, _, _, rfl, rfl, SqL.of upd_same, atI_nat bp1, ?_⟩
    refine ⟨_, rfl, _, rfl, l, xs, _, _, rfl, rfl, SqL.of upd_same, atI_nat br1, ?_⟩
    refine ⟨_, rfl, _, rfl, l, xs, _, p, rfl, rfl, upd_same, ixN_nat (by omega), ?_⟩
    rw [upd_upd]
    have s1 : Same H (upd H l (.lst (xs.set p (.ref br)))) := same_upd nl
    have el : upd H l (.lst (xs.set p (.ref br))) l = some (.lst (xs.set p (.ref br))) := upd_same
    generalize upd H l (.lst (xs.set p (.ref br))) = H1 at s1 el
    have kl : ∀ i, i < m → ∃ b, (xs.set p (.ref br))[i]? = some (.ref b) ∧ Row C H b N (src G r p i) := fun i hi => by
      unfold src
      by_cases e : i = p
      · subst e
        exact ⟨br, by rw [List.getElem?_set_self (by omega)], by rw [if_pos rfl]; exact rr⟩
      · obtain ⟨b, h1, h2⟩ := kt i hi
        exact ⟨b, by rw [List.getElem?_set_ne (fun z => e z.symm)]; exact h1, by rw [if_neg e]; exact h2⟩
    have ll : (xs.set p (V.ref br)).length = m := by rw [List.length_set]; exact lt
    generalize xs.set p (V.ref br) = ys at el kl ll
    obtain ⟨zs, ep, lp, kp⟩ := LstOf.at rp
    obtain ⟨bc, bc1, hbc⟩ := kp c hc
    refine make1_ok fun x1 H2 s2 nx1 hx1 => ?_
    obtain ⟨dx1, ex1⟩ := id hx1
    refine ⟨x1, dx1, _, rfl, ex1, ff_no _ _ (by decide +kernel) (by decide +kernel), ?_⟩
    refine ⟨_, rfl, _, rfl, bp, zs, _, _, rfl, rfl, SqL.of (s2 _ _ (s1 _ _ ep)), bc1, ?_⟩
    refine ⟨x1, bc, 1, G p c, 1, 2064, rfl, hx1, Fr.same (Fr.same hbc s1) s2, sz_one, z1 p hpm c hc, by decide, hpc, fun x2 H3 s3 nx2 hx2 => ?_⟩
    have s13 : Same H H3 := (s1.trans s2).trans s3
    have zfac : Sz 2064 (1 / G p c) := sz_inv (z1 p hpm c hc) hpc
    refine ⟨_, rfl, bp, rfl, ⟨zs, SqL.of (s13 _ _ ep)⟩, ?_⟩
    intro D nD
    refine lc_list (K := K) (a := bp) (xs := zs) (Bld (pFr C fun j => G p j / G p c) H3 D) (bld_zero nD) (fun i H4 _ B => SqL.of (B.1 _ _ (s13 _ _ ep))) ?_ ?_
    · intro j y H4 hy B
      have hj : j < N := by rw [← lp]; exact (List.getElem?_eq_some_iff.mp hy).1
      obtain ⟨bj, bj1, hbj⟩ := kp j hj
      have ey : y = .ref bj := by
        have := atI_nat hy
        rw [bj1] at this
        exact (Option.some.inj this).symm
      subst ey
      refine ⟨rfl, yesT ?_⟩
      refine ⟨_, rfl, _, rfl, ?_⟩
      refine bin_ok (hx2.same B.1) (Fr.same (Fr.same hbj s13) B.1) zfac (z1 p hpm j hj) (by decide) fun u H5 s5 nu hu => ?_
      obtain ⟨_, ws, ew, _⟩ := id B
      have hu' : Fr C H5 u (G p j / G p c) := by
        have e : 1 / G p c * G p j = G p j / G p c := by rw [Rat.div_def, Rat.div_def]; grind
        rw [← e]; exact hu
      exact B.put (mon_fr _ _) nD s5 (hu'.hide (s5 _ _ ew)) (by omega)
    intro H4 B4
    rw [lp] at B4
    obtain ⟨s4, rD⟩ := B4.done (mon_fr _ _)
    have s14 : Same H H4 := s13.trans s4
    obtain ⟨dsx, eD, lD, kD⟩ := id rD
    refine ⟨Nat.zero_le _, fun R nR => ?_⟩
    have eys : H4 l = some (.lst ys) := s4 _ _ (s3 _ _ (s2 _ _ el))
    have lR : l ≠ R := ne_of_none eys nR
    refine ⟨_, rfl, l, ys, rfl, .inl (SqL.of (by rw [upd_ne lR]; exact eys)), _, rfl, (small62 (n := ys.length) (by omega)).1, (small62 (n := ys.length) (by omega)).2, ?_⟩
    refine for_range (fun i σ H' => ∃ v8, σ = [some (.ref t), some (.int r), some (.int p), some (.int c), some (.ref l), some (.ref D), some (.ref x2), some (.ref R), v8, none] ∧ Bld (pRow C N (step G r p c)) H4 R i H') ⟨none, rfl, bld_zero nR⟩ ?_ ?_
    · rintro i σ H5 hi ⟨v8, rfl, B⟩
      have hi' : i < m := by omega
      have e0 : (0 : Int) + (i : Int) = (i : Int) := by omega
      obtain ⟨s5, rs, eR, lR', _⟩ := id B
      refine ⟨_, rfl, _, rfl, rfl, _, rfl, ite2 (fun e => ?_) fun e => ?_⟩
      · have ei : i = r := by have := V.int.inj (of_decide_eq_true e); omega
        obtain ⟨acc, g1, g2, g3⟩ := B.put (b := D) (mon_row _ _ _) nR (Same.refl H5) (by
          have rD5 : Row C H5 D N (step G r p c i) := Row.congr (Row.same rD s5) fun j hj => by
            simp only [step, if_pos ei]
          exact Row.hide rD5 eR (ne_of_none eD nR)) (by omega)
        refine ⟨_, rfl, .inl ⟨rfl, _, SqL.of eR⟩, _, rfl, R, acc, _, rfl, rfl, g1, g2, ?_⟩
        exact ⟨_, rfl, g3⟩
      · have ei : i ≠ r := fun z => e (decide_eq_true (by rw [e0, z]))
        obtain ⟨bi, bi1, ri⟩ := kl i hi'
        have sH5 : Same H H5 := s14.trans s5
        obtain ⟨as, ea, la, ka⟩ := LstOf.at ri
        obtain ⟨bk, bk1, hbk⟩ := ka c hc
        have ey5 : H5 l = some (.lst ys) := s5 _ _ eys
        obtain ⟨k', hk', ek'⟩ := src_mem (F := G) (p := p) hrm hi'
        refine ⟨_, rfl, .inl ⟨rfl, _, SqL.of eR⟩, ?_⟩
        refine ⟨_, rfl, _, rfl, l, ys, _, _, rfl, rfl, SqL.of ey5, (by rw [e0]; exact atI_nat bi1), ?_⟩
        refine ⟨_, rfl, _, rfl, l, ys, _, _, rfl, rfl, SqL.of ey5, (by rw [e0]; exact atI_nat bi1), _, rfl, bi, as, _, _, rfl, rfl, SqL.of (sH5 _ _ ea), bk1, ?_⟩
        refine ⟨_, rfl, ?_⟩
        refine ⟨bi, bk, D, N, src G r p i, (fun j => G p j / G p c), src G r p i c, 2064, 2064, 4129, rfl, hN, Row.same ri sH5, Fr.same hbk sH5, Row.same rD s5, ?_, ?_, z2, by decide, fun x H6 s6 hx rx => ?_⟩
        · intro j hj; rw [ek']; exact z1 k' hk' j hj
        · rw [ek']; exact z1 k' hk' c hc
        · have xR : x ≠ R := by
            rcases hx with rfl | hx
            · exact ne_of_none (s14 _ _ ea) nR
            · exact (ne_of_none eR hx).symm
          obtain ⟨acc, g1, g2, g3⟩ := B.put (b := x) (mon_row _ _ _) nR s6 (by
            have rx' : Row C H6 x N (step G r p c i) := Row.congr rx fun j hj => by
              simp only [step, if_neg ei]
            exact Row.hide rx' (s6 _ _ eR) xR) (by omega)
          refine ⟨R, acc, _, rfl, rfl, g1, g2, ?_⟩
          exact ⟨_, rfl, g3⟩
    · rintro σ H5 ⟨v8, rfl, B⟩
      obtain ⟨s5, L⟩ := B.done (mon_row _ _ _)
      have en : (ys.length : Int).toNat = m := by omega
      rw [en] at L
      exact ⟨_, rfl, q R H5 (s14.trans s5) (s14.free nR) L⟩
end
end Ks
/-! part KsF -/
set_option maxRecDepth 100000
set_option maxHeartbeats 4000000
namespace Ks
open PySem L2
abbrev rListOf (K : PySem.W.Frag) : List V → Hp → VK → Prop := fun xs H Q => ∃ p ys, xs = [.ref p] ∧ (SqL K H p ys ∨ SqT K H p ys) ∧ ∀ l, H l = none → Q (.ref l) (upd H l (.lst ys))
abbrev qI : Nat → V := fun q => .int (q : Int)
theorem Tab.hideI {C : Addr} {H : Hp} {t l : Addr} {m N : Nat} {F : Nat → Nat → Rat} {pv : List Nat} (h : Tab C H t m N F) (el : H l = some (.lst (pv.map qI))) (ne : t ≠ l) (hN : 0 < m → 0 < N) : Tab C (hide H l) t m N F := by
  obtain ⟨xs, et, lt, kt⟩ := h
  refine ⟨xs, by rw [hide_ne ne]; exact et, lt, fun i hi => ?_⟩
  obtain ⟨b, b1, rb⟩ := kt i hi
  refine ⟨b, b1, Row.hide rb el ?_⟩
  intro e
  subst e
  obtain ⟨ys, ey, ly, ky⟩ := rb
  obtain ⟨d, d1, _⟩ := ky 0 (hN (by omega))
  rw [ey] at el
  have e2 : ys = pv.map qI := by injection (Option.some.inj el)
  rw [e2, List.getElem?_map] at d1
  cases h : pv[0]? with
  | none => rw [h] at d1; cases d1
  | some z => rw [h] at d1; cases d1
/-- a row of a matrix and a row of the identity behind it -/
theorem Row.cat {C : Addr} {H H' : Hp} {a b p : Addr} {n m : Nat} {f g h : Nat → Rat} {xs zs : List V} (sH : Same H H') (ea : xs.length = n) (ka : ∀ i, i < n → ∃ b, xs[i]? = some (.ref b) ∧ Fr C H b (f i)) (eb : zs.length = m)
    (kb : ∀ i, i < m → ∃ b, zs[i]? = some (.ref b) ∧ Fr C H b (g i)) (ep : H' p = some (.lst (xs ++ zs))) (hf : ∀ i, i < n → h i = f i) (hg : ∀ i, i < m → h (n + i) = g i) : Row C H' p (n + m) h := by
  refine ⟨_, ep, by rw [List.length_append]; omega, fun i hi => ?_⟩
  by_cases e : i < n
  · obtain ⟨c, c1, c2⟩ := ka i e
    exact ⟨c, by rw [List.getElem?_append_left (by omega)]; exact c1, by show Fr C H' c (h i); rw [hf i e]; exact c2.same sH⟩
  · obtain ⟨c, c1, c2⟩ := kb (i - n) (by omega)
    refine ⟨c, by rw [List.getElem?_append_right (by omega), ea]; exact c1, ?_⟩
    show Fr C H' c (h i)
    have := hg (i - n) (by omega)
    rw [show n + (i - n) = i by omega] at this
    rw [this]
    exact c2.same sH
def spReduced (C : Addr) : Sp := fun vs H Q _ => ∃ (a : Addr) (m n : Nat) (A : Nat → Nat → Rat), vs = [.ref a, .int (n : Int)] ∧ m ≤ 11 ∧ n ≤ 11 ∧ Tab C H a m n A ∧ (∀ i, i < m → ∀ j, j < n → Gd (A i j)) ∧
  ∀ (p t l : Addr) (pv : List Nat) (F : Nat → Nat → Rat) (H' : Hp), Same H H' → H' p = some (.tup [.ref t, .ref l]) → H' l = some (.lst (pv.map qI)) → Tab C H' t m (n + m) F → Red m n A F pv n → Szs pv.length m (n + m) F → Q (.ref p) H'
def asgE : Stmt → Expr
  | .Assign _ e _ => e
  | _ => .Constant .none 0 ⟨0, 0, 0, 0⟩
section
variable {P : Program} {w : World} {K : PySem.W.Frag} {mg : Str → Option Value} {base : Heap}
theorem scRed : FnScope ["rows", "width", "unit", "table", "pivots", "column", "place", "index"] ["rows", "width"] (defScope sReduced) := ⟨rfl, rfl, rfl, by decide +kernel, rfl, by decide +kernel, by decide +kernel⟩
theorem ok_reduced {f C fD fP fC fW : Addr} {fd fdD fdP fdC fdW : FuncData} (F : Fun K "reduced" "reduced" sReduced f fd) (W : Tools P w K mg base C)
    (FD : Fun K "identity" "identity" sIdent fD fdD) (bD : Binds K fdD ["size"] []) (mD : mg "identity" = some (.ref fD))
    (FP : Fun K "pivot_place" "pivot_place" sPivot fP fdP) (bP : Binds K fdP ["table", "rank", "column"] []) (mP : mg "pivot_place" = some (.ref fP))
    (FC : Fun K "cleared" "cleared" sClear fC fdC) (bC : Binds K fdC ["table", "rank", "place", "column"] []) (mC : mg "cleared" = some (.ref fC))
    (FW : Fun K "without_multiple" "without_multiple" sWm fW fdW) (bW : Binds K fdW ["row", "factor", "source"] []) (mW : mg "without_multiple" = some (.ref fW)) :
    FnOk P w K mg base CX0 6 f fd ["rows", "width"] (spReduced C) := by
  have GD : FnOk P w K mg base CX0 4 fD fdD ["size"] (spIdent C) := ok_ident FD W
  have GP : FnOk P w K mg base CX0 3 fP fdP ["table", "rank", "column"] (spPivot C) := ok_pivot FP W
  have GC : FnOk P w K mg base CX0 5 fC fdC ["table", "rank", "place", "column"] (spClear C) := ok_clear FC W FW bW mW
  refine F.ok scRed (fun vs H Q E h => ?_) (fun cdv A outer s H vs Q E hr h => ?_)
  · obtain ⟨a, m, n, A, rfl, _⟩ := h
    rfl
  · obtain ⟨a, m, n, M, rfl, hm, hn, tb, gd, q⟩ := h
    refine ⟨_, pss_cons (ps_set (i := 2) scRed.nd rfl (.inr rfl) (pe_call GD (hr.mono (by decide)) (by rfl) mD FD.kp bD .nil pass0 (pa_cons (pe_callB call_len_seq (by rfl) W.len PySem.boot_len (pa_cons (pv 0) pa_nil)) pa_nil)))
      (pss_cons (ps_setLc (i := 3) (own := [("index", 7)]) (g := gName 7) (tt := tYes) rfl scRed.nd rfl rfl (sw_true rfl rfl rfl (by decide +kernel)) (pi_range1 (by rfl) W.rng (pa_cons (pe_callB call_len_seq (by rfl) W.len PySem.boot_len (pa_cons (pv 0) pa_nil)) pa_nil))
        (blkOk_by (N := ["rows", "width", "unit", "table", "pivots", "column", "place", "index"]) (sc := defScope sReduced) (by decide +kernel)) (fun _ _ _ _ _ => pg_name (i := 7) scRed.nd rfl (Or.inl rfl)) (fun _ _ _ _ _ => pts_nil)
        (fun _ _ _ _ _ => pe_op op_cat (pe_callTy (r := rListOf K) call_list_of (by rfl) W.lst (by decide +kernel) (pa_cons (pe_ix (r := rIxL K) ix_list (pv 0) (pv 7) (fun _ _ => rfl)) pa_nil)) (pe_ix (r := rIxL K) ix_list (pv 2) (pv 7) (fun _ _ => rfl))))
      (pss_cons (ps_set (i := 4) scRed.nd rfl (.inl rfl) (pe_lst pa_nil))
      (pss_cons (ps_for PassesOwn.never rfl (pi_range1 (by rfl) W.rng (pa_cons (pv 1) pa_nil)) (pg_name (i := 5) scRed.nd rfl (.inl rfl))
        (pss_cons (ps_set (i := 6) scRed.nd rfl (.inl rfl) (pe_call GP (hr.mono (by decide)) (by rfl) mP FP.kp bP .nil pass0 (pa_cons (pv 3) (pa_cons (pe_callB call_len_seq (by rfl) W.len PySem.boot_len (pa_cons (pv 4) pa_nil)) (pa_cons (pv 5) pa_nil)))))
        (pss_one (ps_if (pt_cmp (pc_notN (pv 6)))
          (pss_cons (ps_set (i := 3) scRed.nd rfl (.inl rfl) (pe_call GC hr (by rfl) mC FC.kp bC .nil pass0 (pa_cons (pv 3) (pa_cons (pe_callB call_len_seq (by rfl) W.len PySem.boot_len (pa_cons (pv 4) pa_nil)) (pa_cons (pv 6) (pa_cons (pv 5) pa_nil))))))
          (pss_one (ps_expr (pe_bm PySem.F.plainAttrs_list PySem.F.slot_list_append PySem.F.type_list_append mt_append (pv 4) (pa_cons (pv 5) pa_nil)))))
          pss_nil))))
      (pss_one (ps_ret (pe_tup (pa_cons (pv 3) (pa_cons (pv 4) pa_nil)))))))), ?_⟩
    obtain ⟨xs, ea, la, ka⟩ := id tb
    refine ⟨_, rfl, a, xs, rfl, .inl (SqL.of ea), m, (by show [V.int (xs.length : Int)] ++ [] = [V.int (m : Int)]; rw [la]; rfl), by omega, fun u H1 s1 nu tu => ?_⟩
    obtain ⟨us, eu, lu, ku⟩ := id tu
    refine ⟨_, rfl, a, xs, rfl, .inl (SqL.of (s1 _ _ ea)), _, rfl, (small62 (n := xs.length) (by omega)).1, (small62 (n := xs.length) (by omega)).2, ?_⟩
    intro D nD
    refine lc_range (Bld (pRow C (n + m) (init n M)) H1 D) (bld_zero nD) ?_ ?_
    · intro i H2 hi B
      have hi' : i < m := by omega
      have e0 : (0 : Int) + (i : Int) = (i : Int) := by omega
      obtain ⟨b, b1, rb⟩ := ka i hi'
      obtain ⟨as, eb, lb, kb⟩ := id rb
      obtain ⟨c, c1, rc⟩ := ku i hi'
      obtain ⟨cs, ec, lc, kc⟩ := id rc
      obtain ⟨s2, rs, eR, _, _⟩ := id B
      have s12 := s1.trans s2
      refine ⟨rfl, yesT ?_⟩
      refine ⟨_, rfl, _, rfl, a, xs, _, _, rfl, rfl, SqL.of (s12 _ _ ea), (by rw [e0]; exact atI_nat b1), ?_⟩
      refine ⟨b, as, rfl, .inl (SqL.of (s12 _ _ eb)), fun l nl => ?_⟩
      have s3 : Same H2 (upd H2 l (.lst as)) := same_upd nl
      refine ⟨_, rfl, _, rfl, u, us, _, _, rfl, rfl, SqL.of (s3 _ _ (s2 _ _ eu)), (by rw [e0]; exact atI_nat c1), ?_⟩
      refine ⟨l, c, as, cs, rfl, rfl, upd_same, s3 _ _ (s2 _ _ ec), (by rw [lb, lc]; exact Nat.le_of_lt (small1000 (by omega))), fun p np => ?_⟩
      have s4 : Same (upd H2 l (.lst as)) (upd (upd H2 l (.lst as)) p (.lst (as ++ cs))) := same_upd np
      have s34 := s3.trans s4
      refine B.put (mon_row _ _ _) nD s34 (Row.hide (Row.cat (b := b) (a := b) (H := H2) (f := M i) (g := fun j => if i = j then 1 else 0) s34 lb (fun j hj => ?_) lc (fun j hj => ?_) upd_same ?_ ?_) (s34 _ _ eR) (ne_of_none (s3 _ _ eR) np).symm) (by omega)
      · obtain ⟨d, d1, d2⟩ := kb j hj
        exact ⟨d, d1, Fr.same d2 s12⟩
      · obtain ⟨d, d1, d2⟩ := kc j hj
        exact ⟨d, d1, Fr.same d2 s2⟩
      · intro j hj
        simp only [init, if_pos hj]
      · intro j hj
        simp only [init]
        rw [if_neg (by omega), show n + j - n = j by omega]
    intro H2 B2
    obtain ⟨s2, t2⟩ := B2.done (mon_row _ _ _)
    rw [show (xs.length : Int).toNat = m by omega] at t2
    obtain ⟨ts2, et2, _, _⟩ := id t2
    refine ⟨Nat.zero_le _, fun l nl => ?_⟩
    have sl : Same H2 (upd H2 l (.lst [])) := same_upd nl
    have s02 := s1.trans s2
    refine ⟨_, rfl, _, rfl, (small62 (n := n) (by omega)).1, (small62 (n := n) (by omega)).2, ?_⟩
    refine for_range (fun i σ H' => ∃ t v5 v6 pv F, σ = [some (.ref a), some (.int n), some (.ref u), some (.ref t), some (.ref l), v5, v6, none] ∧ Same H2 H' ∧ t ≠ l ∧ Tab C (hide H' l) t m (n + m) F ∧ H' l = some (.lst (pv.map qI)) ∧
        Red m n M F pv i ∧ Szs pv.length m (n + m) F)
      ⟨D, none, none, [], init n M, rfl, sl, ne_of_none et2 nl, Tab.hideI (pv := []) (t2.same (mon_row _ _ _) sl) upd_same (ne_of_none et2 nl) (fun h => by omega), upd_same, red_init m n M, szs_init gd⟩ ?_ ?_
    · rintro c σ H3 hc ⟨t, v5, v6, pv, G, rfl, s3, ntl, tt, el, R, Z⟩
      have hc' : c < n := by omega
      have e0 : (0 : Int) + (c : Int) = (c : Int) := by omega
      have ell : ((pv.map qI).length : Int) = (pv.length : Int) := by rw [List.length_map]
      have tt' : Tab C H3 t m (n + m) G := Tab.same tt (hide_sub _ _)
      refine ⟨_, rfl, _, rfl, l, _, rfl, .inl (SqL.of el), _, rfl, ?_⟩
      refine ⟨t, m, n + m, pv.length, c, G, (by show [V.ref t, V.int ((pv.map qI).length : Int), V.int (0 + (c : Int))] ++ [] = [V.ref t, V.int (pv.length : Int), V.int (c : Int)]; rw [e0, ell]; rfl), by omega, R.len, by omega, tt', fun p h1 h2 hpc => ?_, fun hz => ?_⟩
      · -- a pivot
        have hk : pv.length ≤ 10 := by have := R.lenc; omega
        have Zs := Z.step (c := c) (p := p) (by omega) h1 h2 (by omega) hpc
        refine ⟨_, rfl, _, rfl, iteT ?_⟩
        refine ⟨_, rfl, _, rfl, l, _, rfl, .inl (SqL.of el), _, rfl, _, rfl, ?_⟩
        refine ⟨t, m, n + m, pv.length, p, c, G, (by show [V.ref t, V.int ((pv.map qI).length : Int), V.int (p : Int), V.int (0 + (c : Int))] ++ [] = [V.ref t, V.int (pv.length : Int), V.int (p : Int), V.int (c : Int)]; rw [e0, ell]; rfl), by omega, by omega, h1, h2, by omega, tt', hpc, fun i hi j hj => (Z.rf10 hk hi).sz hj, fun j hj => ?_, fun x H4 s4 nx tx => ?_⟩
        · have := (Zs.rf11 (by omega) (i := pv.length) (by omega)).sz hj
          simp only [step, if_pos] at this
          exact this
        · have el4 := s4 _ _ el
          have nxl : x ≠ l := (ne_of_none el nx).symm
          refine ⟨_, rfl, .inl ⟨rfl, _, SqL.of el4⟩, _, rfl, l, _, _, rfl, rfl, el4, (by rw [List.length_map]; exact small1000 (by omega)), ?_⟩
          refine ⟨x, _, _, pv ++ [c], _, rfl, fun b o e => ?_, nxl, ?_, ?_, R.step h1 h2 hpc, (by rw [List.length_append]; exact Zs)⟩
          · rw [upd_ne (ne_of_none e nl)]
            exact s4 _ _ (s3 _ _ e)
          · rw [hide_upd]
            exact Tab.hideI tx el4 nxl (fun _ => by omega)
          · rw [upd_same, List.map_append]
            show some (HO.lst (pv.map qI ++ [V.int (0 + (c : Int))])) = _
            rw [e0]
            rfl
      · -- no pivot
        refine ⟨_, rfl, _, rfl, iteF ?_⟩
        exact ⟨t, _, _, pv, G, rfl, s3, ntl, tt, el, R.skip hz, Z⟩
    · rintro σ H3 ⟨t, v5, v6, pv, G, rfl, s3, ntl, tt, el, R, Z⟩
      refine ⟨_, rfl, _, rfl, (by show 2 ≤ sizeLine; decide), fun p np => ?_⟩
      have s4 : Same H3 (upd H3 p (.tup [.ref t, .ref l])) := same_upd np
      rw [show (n : Int).toNat = n by omega] at R
      exact q p t l pv G _ ((s02.trans s3).trans s4) upd_same (s4 _ _ el) (Tab.same (Tab.same tt (hide_sub _ _)) s4) R Z
end
end Ks
/-! part KsG -/
set_option maxRecDepth 100000
set_option maxHeartbeats 4000000
namespace Ks
open PySem L2
theorem cut_nat {xs : List V} {n : Nat} (h : n ≤ xs.length) : cutV xs (some (n : Int)) none = xs.drop n := by
  unfold cutV
  rw [HT.sIx_nat, HT.sIx_none, Nat.min_eq_left h]
  refine List.take_of_length_le ?_
  rw [List.length_drop]
  exact Nat.le_refl _
/-- a row's entries from n on, in a new list -/
theorem Row.cut {C : Addr} {H : Hp} {a p : Addr} {n m N : Nat} {f : Nat → Rat} (h : Row C H a N f) (e : n + m = N) (np : H p = none) : ∃ xs, H a = some (.lst xs) ∧ Row C (upd H p (.lst (cutV xs (some (n : Int)) none))) p m (fun k => f (n + k)) := by
  obtain ⟨xs, ea, la, ka⟩ := h
  refine ⟨xs, ea, _, upd_same, ?_, fun i hi => ?_⟩
  · rw [cut_nat (by omega), List.length_drop]; omega
  · obtain ⟨b, b1, b2⟩ := ka (n + i) (by omega)
    exact ⟨b, by rw [cut_nat (by omega), List.getElem?_drop]; exact b1, Fr.same b2 (same_upd np)⟩
theorem Row.set {C : Addr} {H : Hp} {a y : Addr} {n j : Nat} {f g : Nat → Rat} (h : Row C H a n f) (hy : Fr C H y (g j)) (hj : j < n) (hg : ∀ i, i ≠ j → g i = f i) :
    ∃ xs, H a = some (.lst xs) ∧ xs.length = n ∧ Row C (upd H a (.lst (xs.set j (.ref y)))) a n g := by
  obtain ⟨xs, ea, la, ka⟩ := h
  have st : ∀ {b : Addr} {q : Rat}, Fr C H b q → Fr C (upd H a (.lst (xs.set j (.ref y)))) b q := fun {b q} ⟨dx, e⟩ => ⟨dx, by rw [upd_ne (ne_of e ea (by intro z; cases z))]; exact e⟩
  refine ⟨xs, ea, la, _, upd_same, by rw [List.length_set]; exact la, fun i hi => ?_⟩
  by_cases e : i = j
  · subst e
    exact ⟨y, by rw [List.getElem?_set_self (by omega)], st hy⟩
  · obtain ⟨b, b1, b2⟩ := ka i hi
    refine ⟨b, by rw [List.getElem?_set_ne (fun z => e z.symm)]; exact b1, ?_⟩
    show Fr C _ b (g i)
    rw [hg i e]
    exact st b2
def spSolve (C : Addr) : Sp := fun vs H Q _ => ∃ (a b : Addr) (m n : Nat) (A : Nat → Nat → Rat) (g : Nat → Rat), vs = [.ref a, .ref b, .int (n : Int)] ∧ m ≤ 11 ∧ n ≤ 11 ∧ Tab C H a m n A ∧ Row C H b m g ∧
  (∀ i, i < m → ∀ j, j < n → Gd (A i j)) ∧ (∀ i, i < m → Gd (g i)) ∧
  (∀ (p x : Addr) (f : Nat → Rat) (H' : Hp), Same H H' → H' p = some (.tup [.str "solution", .ref x]) → Row C H' x n f → (∀ j, j < n → Sz 4141 (f j)) → (∀ i, i < m → sm n (fun j => A i j * f j) = g i) → Q (.ref p) H') ∧
  (∀ (p x : Addr) (f : Nat → Rat) (H' : Hp), Same H H' → H' p = some (.tup [.str "refuted", .ref x]) → Row C H' x m f → (∀ j, j < m → Sz 4141 (f j)) → (∀ j, j < n → sm m (fun k => f k * A k j) = 0) → sm m (fun k => f k * g k) ≠ 0 → Q (.ref p) H')
section
variable {P : Program} {w : World} {K : PySem.W.Frag} {mg : Str → Option Value} {base : Heap}
theorem scSolve : FnScope ["rows", "right", "width", "table", "pivots", "index", "refutation", "solution", "_"] ["rows", "right", "width"] (defScope sSolve) := ⟨rfl, rfl, rfl, by decide +kernel, rfl, by decide +kernel, by decide +kernel⟩
theorem ok_solve {f C fR fT : Addr} {fd fdR fdT : FuncData} (F : Fun K "solve" "solve" sSolve f fd) (W : Tools P w K mg base C)
    (GR : FnOk P w K mg base CX0 6 fR fdR ["rows", "width"] (spReduced C)) (kR : PySem.W.keepIn K (.ref fR) = true) (bR : Binds K fdR ["rows", "width"] []) (mR : mg "reduced" = some (.ref fR))
    (GT : FnOk P w K mg base CX0 4 fT fdT ["first", "second"] (spDot C)) (kT : PySem.W.keepIn K (.ref fT) = true) (bT : Binds K fdT ["first", "second"] []) (mT : mg "dot" = some (.ref fT)) :
    FnOk P w K mg base CX0 7 f fd ["rows", "right", "width"] (spSolve C) := by
  refine F.ok scSolve (fun vs H Q E h => ?_) (fun cdv A outer s H vs Q E hr h => ?_)
  · obtain ⟨a, b, m, n, A, g, rfl, _⟩ := h
    rfl
  · obtain ⟨a, b, m, n, M, g, rfl, hm, hn, tb, rb, gA, gg, q1, q2⟩ := h
    obtain ⟨ds, v1, b1⟩ := W.M.b1
    refine ⟨_, pss_cons (ps_asg (pe_call GR hr (by rfl) mR kR bR .nil pass0 (pa_cons (pv 0) (pa_cons (pv 2) pa_nil))) (pg_tup (by rfl) (pgs_cons (pg_name (i := 3) scSolve.nd rfl (.inl rfl)) (pgs_cons (pg_name (i := 4) scSolve.nd rfl (.inl rfl)) pgs_nil))))
      (pss_cons (ps_for PassesOwn.never rfl (pi_range2 (by rfl) W.rng (pa_cons (pe_callB call_len_seq (by rfl) W.len PySem.boot_len (pa_cons (pv 4) pa_nil)) (pa_cons (pe_callB call_len_seq (by rfl) W.len PySem.boot_len (pa_cons (pv 3) pa_nil)) pa_nil))) (pg_name (i := 5) scSolve.nd rfl (.inl rfl))
        (pss_cons (ps_set (i := 6) scSolve.nd rfl (.inl rfl) (pe_slice sl_list (pe_ix ix_list (pv 3) (pv 5) (fun _ _ => rfl)) (po_some (pv 2)) po_none))
        (pss_one (ps_if (pt_not (pt_val (pe_prop (pe_call GT (hr.mono (by decide)) (by rfl) mT kT bT .nil pass0 (pa_cons (pv 6) (pa_cons (pv 1) pa_nil))) W.T.cl W.pZ W.GZ (hr.mono (by decide)) W.bZ .nil pass0 rfl)))
          (pss_one (ps_ret (pe_tup (pa_cons pe_str (pa_cons (pv 6) pa_nil))))) pss_nil))))
      (pss_cons (ps_setLc (i := 7) (own := [("_", 8)]) (g := gName 8) (tt := tYes) rfl scSolve.nd rfl rfl (sw_true rfl rfl rfl (by decide +kernel)) (pi_range1 (by rfl) W.rng (pa_cons (pv 2) pa_nil))
        (blkOk_by (N := ["rows", "right", "width", "table", "pivots", "index", "refutation", "solution", "_"]) (sc := defScope sSolve) (by decide +kernel)) (fun _ _ _ _ _ => pg_name (i := 8) scSolve.nd rfl (Or.inl rfl)) (fun _ _ _ _ _ => pts_nil)
        (fun _ _ _ _ _ => pe_make W.M.made (ok_init W.M.F W.T) (hr.mono (by decide)) (by rfl) W.T.mgC b1 v1 pass0 (pa_cons pe_int pa_nil)))
      (pss_cons (ps_for PassesOwn.never rfl (pi_range1 (by rfl) W.rng (pa_cons (pe_callB call_len_seq (by rfl) W.len PySem.boot_len (pa_cons (pv 4) pa_nil)) pa_nil)) (pg_name (i := 5) scSolve.nd rfl (.inl rfl))
        (pss_one (ps_asg (pe_call GT (hr.mono (by decide)) (by rfl) mT kT bT .nil pass0 (pa_cons (pe_slice sl_list (pe_ix ix_list (pv 3) (pv 5) (fun _ _ => rfl)) (po_some (pv 2)) po_none) (pa_cons (pv 1) pa_nil)))
          (pg_sub (pv 7) (pe_ix ix_list (pv 4) (pv 5) (fun _ _ => rfl)) set_list))))
      (pss_one (ps_ret (pe_tup (pa_cons pe_str (pa_cons (pv 7) pa_nil)))))))), ?_⟩
    refine ⟨_, rfl, _, rfl, a, m, n, M, rfl, hm, hn, tb, gA, fun p0 t l pv G H1 s1 ep0 el tt R Z => ?_⟩
    refine ⟨p0, _, rfl, SqT.of ep0, rfl, _, _, rfl, _, _, rfl, rfl, ?_⟩
    obtain ⟨ts, et, lt, kt⟩ := id tt
    have hpm := R.len
    have hpn := R.lenc
    have ell : (pv.map qI).length = pv.length := List.length_map _
    have zrow : ∀ i, i < m → RF 4129 (n + m) (G i) := fun i hi => Z.rf11 (by omega) hi
    have zent : ∀ i, i < m → ∀ k, k < m → Sz 4129 (G i (n + k)) := fun i hi k hk => (zrow i hi).sz (by omega)
    have zpart : ∀ i, i < m → ∀ t, t ≤ m → Sz 4141 (sm t fun k => G i (n + k) * g k) := fun i hi t ht => (zrow i hi).part (Nat.le_refl _) (by omega) gg ht
    refine ⟨_, rfl, l, _, rfl, .inl (SqL.of el), _, rfl, t, ts, rfl, .inl (SqL.of et), _, _, rfl, ⟨(small62 (n := (pv.map qI).length) (by omega)).1, (small62 (n := (pv.map qI).length) (by omega)).2, (small62 (n := ts.length) (by omega)).1, (small62 (n := ts.length) (by omega)).2⟩, ?_⟩
    refine for_range (fun i σ H' => ∃ v5 v6, σ = [some (.ref a), some (.ref b), some (.int n), some (.ref t), some (.ref l), v5, v6, none, none] ∧ Same H1 H' ∧ ∀ k, pv.length ≤ k → k < pv.length + i → sm m (fun j => G k (n + j) * g j) = 0)
      ⟨none, none, rfl, Same.refl H1, fun k h1 h2 => by omega⟩ ?_ ?_
    · rintro i σ H2 hi ⟨v5, v6, rfl, s2, z⟩
      have hi' : pv.length + i < m := by omega
      have e0 : ((pv.map qI).length : Int) + (i : Int) = ((pv.length + i : Nat) : Int) := by omega
      obtain ⟨c, c1, rc⟩ := kt (pv.length + i) hi'
      have rc2 := Row.same rc s2
      obtain ⟨cs, ec, _⟩ := id rc2
      refine ⟨_, rfl, _, rfl, t, ts, _, _, rfl, rfl, SqL.of (s2 _ _ et), (by rw [e0]; exact atI_nat c1), _, rfl, _, rfl, c, cs, rfl, SqL.of ec, fun p np => ?_⟩
      obtain ⟨cs', ec', rp⟩ := Row.cut rc2 rfl np
      have ecs : cs = cs' := by rw [ec] at ec'; injection (Option.some.inj ec')
      subst ecs
      have s3 : Same H2 (upd H2 p (.lst (cutV cs (some (n : Int)) none))) := same_upd np
      refine ⟨_, rfl, _, rfl, ?_⟩
      refine ⟨p, b, m, _, g, 4129, 7, 4141, rfl, by omega, rp, Row.same (Row.same (Row.same rb s1) s2) s3, fun k hk => zent _ hi' k hk, fun k hk => (gg k hk).sz, fun t ht => zpart _ hi' t ht, by decide, fun y H4 s4 ny hy => ?_⟩
      refine zero_ok hy ⟨_, rfl, ?_⟩
      by_cases h0 : sm m (fun k => G (pv.length + i) (n + k) * g k) = 0
      · rw [decide_eq_true h0]
        refine iteF ?_
        exact ⟨_, _, rfl, (s2.trans s3).trans s4, fun k h1 h2 => by
          by_cases h : k = pv.length + i
          · rw [h]; exact h0
          · exact z k h1 (by omega)⟩
      · rw [decide_eq_false h0]
        refine iteT ?_
        refine ⟨_, rfl, (by show 2 ≤ sizeLine; decide), fun p2 np2 => ?_⟩
        have s5 : Same H4 (upd H4 p2 (.tup [.str "refuted", .ref p])) := same_upd np2
        exact q2 p2 p _ _ (s1.trans ((s2.trans s3).trans (s4.trans s5))) upd_same (Row.same (Row.same rp s4) s5) (fun k hk => (zent _ hi' k hk).mono (by decide)) (fun j hj => R.refut (by omega) hi' hj) h0
    · rintro σ H2 ⟨v5, v6, rfl, s2, z⟩
      have hz : ∀ k, pv.length ≤ k → k < m → sm m (fun j => G k (n + j) * g j) = 0 := fun k h1 h2 => z k h1 (by omega)
      refine ⟨_, rfl, _, rfl, (small62 (n := n) (by omega)).1, (small62 (n := n) (by omega)).2, ?_⟩
      intro D nD
      refine lc_range (Bld (pFr C fun _ => 0) H2 D) (bld_zero nD) ?_ ?_
      · intro j H3 hj B
        refine ⟨rfl, yesT ?_⟩
        refine make1_ok fun x H4 s4 nx hx => ?_
        obtain ⟨_, ys, ey, _⟩ := id B
        have hx' : Fr C H4 x 0 := hx
        exact B.put (mon_fr _ _) nD s4 (hx'.hide (s4 _ _ ey)) (by omega)
      intro H3 B3
      obtain ⟨s3, r3⟩ := B3.done (mon_fr _ _)
      rw [show (n : Int).toNat = n by omega] at r3
      have nD1 : H1 D = none := s2.free nD
      have el2 := s2 _ _ el
      refine ⟨_, rfl, l, _, rfl, .inl (SqL.of (s3 _ _ el2)), _, rfl, (small62 (n := (pv.map qI).length) (by omega)).1, (small62 (n := (pv.map qI).length) (by omega)).2, ?_⟩
      refine for_range (fun i σ H' => ∃ v5 v6 f, σ = [some (.ref a), some (.ref b), some (.int n), some (.ref t), some (.ref l), v5, v6, some (.ref D), none] ∧ Same H1 H' ∧ Row C H' D n f ∧ (∀ j, Sz 4141 (f j)) ∧
          (∀ k q, k < i → pv[k]? = some q → f q = sm m (fun j => G k (n + j) * g j)) ∧ ∀ j, j ∉ pv → f j = 0)
        ⟨_, _, fun _ => 0, rfl, s2.trans s3, r3, fun _ => show Sz 4141 0 from Sz.mono (a := 7) gd_zero.sz (by decide), fun k q hk => by omega, fun _ _ => rfl⟩ ?_ ?_
      · rintro i σ H4 hi ⟨w5, w6, f, rfl, s4, rf, zf, hf, hf0⟩
        have hi' : i < pv.length := by omega
        have him : i < m := by omega
        have e0 : (0 : Int) + (i : Int) = (i : Int) := by omega
        obtain ⟨c, c1, rc⟩ := kt i him
        have rc2 := Row.same rc s4
        obtain ⟨cs, ec, _⟩ := id rc2
        obtain ⟨qq, hqq⟩ : ∃ q, pv[i]? = some q := ⟨_, List.getElem?_eq_getElem hi'⟩
        have hqn : qq < n := (R.unit i qq hqq).1
        refine ⟨_, rfl, _, rfl, t, ts, _, _, rfl, rfl, SqL.of (s4 _ _ et), (by rw [e0]; exact atI_nat c1), _, rfl, _, rfl, c, cs, rfl, SqL.of ec, fun p np => ?_⟩
        obtain ⟨cs', ec', rp⟩ := Row.cut rc2 rfl np
        have ecs : cs = cs' := by rw [ec] at ec'; injection (Option.some.inj ec')
        subst ecs
        have s5 : Same H4 (upd H4 p (.lst (cutV cs (some (n : Int)) none))) := same_upd np
        refine ⟨_, rfl, ?_⟩
        refine ⟨p, b, m, _, g, 4129, 7, 4141, rfl, by omega, rp, Row.same (Row.same (Row.same rb s1) s4) s5, fun k hk => zent _ him k hk, fun k hk => (gg k hk).sz, fun t ht => zpart _ him t ht, by decide, fun y H6 s6 ny hy => ?_⟩
        have s56 := s5.trans s6
        refine ⟨_, rfl, _, rfl, _, rfl, l, _, _, _, rfl, rfl, SqL.of (s56 _ _ (s4 _ _ el)), (by rw [e0]; exact atI_nat (by rw [List.getElem?_map, hqq]; rfl)), ?_⟩
        obtain ⟨xs, ex, lx, rx⟩ := Row.set (j := qq) (g := fun j => if j = qq then sm m (fun j => G i (n + j) * g j) else f j) (Row.same rf s56) (by simp only [if_pos]; exact hy) hqn (fun j hj => by simp only [if_neg hj])
        refine ⟨D, xs, _, qq, rfl, rfl, ex, ixN_nat (by omega), ?_⟩
        refine ⟨_, _, _, rfl, fun b o e => ?_, rx, fun j => ?_, fun k q hk hq => ?_, fun j hj => ?_⟩
        · rw [upd_ne (ne_of_none e nD1)]
          exact s56 _ _ (s4 _ _ e)
        · by_cases h : j = qq
          · simp only [if_pos h]; exact zpart i him m (Nat.le_refl _)
          · simp only [if_neg h]; exact zf j
        · by_cases h : k = i
          · subst h
            have : q = qq := Option.some.inj (hq.symm.trans hqq)
            simp only [if_pos this]
          · have : q ≠ qq := fun z => h (R.dist hq (by rw [z]; exact hqq))
            simp only [if_neg this]
            exact hf k q (by omega) hq
        · have : j ≠ qq := fun z => hj (by rw [z]; exact List.mem_of_getElem? hqq)
          simp only [if_neg this]
          exact hf0 j hj
      · rintro σ H4 ⟨w5, w6, f, rfl, s4, rf, zf, hf, hf0⟩
        refine ⟨_, rfl, (by show 2 ≤ sizeLine; decide), fun p2 np2 => ?_⟩
        have s5 : Same H4 (upd H4 p2 (.tup [.str "solution", .ref D])) := same_upd np2
        exact q1 p2 D f _ (s1.trans (s4.trans s5)) upd_same (Row.same rf s5) (fun j _ => zf j) (R.sol hz (fun k q hq => hf k q (by
          have := (List.getElem?_eq_some_iff.mp hq).1
          omega) hq) (fun j _ hj => hf0 j hj))
end
end Ks
/-! part KsH -/
set_option maxRecDepth 100000
set_option maxHeartbeats 4000000
namespace Ks
open PySem L2
/-! ### the law's own pairs -/
abbrev Pa (H : Hp) (b : Addr) (p : Int × Int) : Prop := H b = some (.tup [.int p.1, .int p.2])
abbrev pGP : Pd := fun _ b H => ∃ p, Pa H b p ∧ Pr p
abbrev GRow (H : Hp) (a : Addr) (n : Nat) : Prop := LstOf pGP H a n
theorem mon_gp : Mon pGP := fun _ _ _ _ s ⟨p, h, g⟩ => ⟨p, s _ _ h, g⟩
abbrev pPa (g : Nat → Int × Int) : Pd := fun i b H => Pa H b (g i)
abbrev PRow (H : Hp) (a : Addr) (n : Nat) (g : Nat → Int × Int) : Prop := LstOf (pPa g) H a n
theorem mon_pa (g : Nat → Int × Int) : Mon (pPa g) := fun _ _ _ _ s h => s _ _ h
theorem PRow.same {H H' : Hp} {a : Addr} {n : Nat} {g : Nat → Int × Int} (h : PRow H a n g) (s : Same H H') : PRow H' a n g := LstOf.same (mon_pa g) h s
abbrev PTab (H : Hp) (a : Addr) (m n : Nat) (G : Nat → Nat → Int × Int) : Prop := LstOf (fun i b H => PRow H b n (G i)) H a m
theorem PTab.same {H H' : Hp} {a : Addr} {m n : Nat} {G : Nat → Nat → Int × Int} (h : PTab H a m n G) (s : Same H H') : PTab H' a m n G := LstOf.same (P := fun i b H => PRow H b n (G i)) (fun _ _ _ _ s h => PRow.same h s) h s
theorem hide_tup {H : Hp} {b D : Addr} {zs xs : List V} (h : H b = some (.tup zs)) (hD : H D = some (.lst xs)) : hide H D b = some (.tup zs) := by
  rw [hide_ne (ne_of h hD (by intro z; cases z))]; exact h
theorem nat_of_int {z : Int} (h : 0 ≤ z) : ∃ k : Nat, z = (k : Int) := ⟨z.toNat, by omega⟩
def spCell (K : PySem.W.Frag) : Sp := fun vs H Q _ => ∃ (a : Addr) (ns : List Int) (k : Nat), vs = [.ref a, .int (k : Int)] ∧ SqL K H a (ns.map V.int) ∧ k ≤ 1000 ∧ ∀ z, Q (.int z) H
def spDigits : Sp := fun vs H Q _ => ∃ (z lim : Int) (c : Nat), vs = [.int z, .int lim, .int (c : Int)] ∧ 0 < lim ∧ lim ≤ 1000 ∧ c ≤ 500 ∧
  ∀ (ds : List Int) (p : Addr) (H' : Hp), Same H H' → H p = none → H' p = some (.lst (ds.map V.int)) → ds.length = c → (∀ d ∈ ds, 0 ≤ d ∧ d < lim) → Q (.ref p) H'
def spSize : Sp := fun vs H Q _ => ∃ d : Int, vs = [.int d] ∧ 0 ≤ d ∧ ∀ k : Nat, k ≤ 11 → Q (.int (k : Int)) H
def spPair : Sp := fun vs H Q _ => ∃ d s : Int, vs = [.int d, .int s] ∧ ∀ (p : Addr) (pr : Int × Int) (H' : Hp), Same H H' → H p = none → Pa H' p pr → Pr pr → Q (.ref p) H'
def spPairs : Sp := fun vs H Q _ => ∃ (z s : Int) (c : Nat), vs = [.int z, .int (c : Int), .int s] ∧ c ≤ 500 ∧ ∀ (p : Addr) (H' : Hp), Same H H' → H p = none → GRow H' p c → Q (.ref p) H'
section
variable {P : Program} {w : World} {K : PySem.W.Frag} {mg : Str → Option Value} {base : Heap}
theorem scCell : FnScope ["_law_script", "_law_k"] ["_law_script", "_law_k"] (defScope sCell) := ⟨rfl, rfl, rfl, by decide +kernel, rfl, by decide +kernel, by decide +kernel⟩
theorem ok_cell {f C : Addr} {fd : FuncData} (F : Fun K "_law_cell" "_law_cell" sCell f fd) (W : Tools P w K mg base C) : FnOk P w K mg base CX0 1 f fd ["_law_script", "_law_k"] (spCell K) := by
  refine F.ok scCell (fun vs H Q E h => ?_) (fun cdv A outer s H vs Q E hr h => ?_)
  · obtain ⟨a, ns, k, rfl, _⟩ := h
    rfl
  · obtain ⟨a, ns, k, rfl, hS, hk, q⟩ := h
    refine ⟨_, pss_cons (ps_if (pt_cmpR op_lt (pv 1) (pe_callB call_len_seq (by rfl) W.len PySem.boot_len (pa_cons (pv 0) pa_nil)) (nomark _)) (pss_one (ps_ret (pe_ix ix_list (pv 0) (pv 1) (fun _ _ => rfl)))) pss_nil)
      (pss_cons (ps_if (pt_cmpR op_eq (pe_callB call_len_seq (by rfl) W.len PySem.boot_len (pa_cons (pv 0) pa_nil)) pe_int (nomark _)) (pss_one (ps_ret (pe_op op_mul pe_int (pv 1)))) pss_nil)
      (pss_one (ps_ret (pe_op op_add (pe_op op_mul (pe_callTy call_int1 (by rfl) W.int (by decide +kernel) (pa_cons (pe_ix ix_list (pv 0) pe_int (fun _ _ => rfl)) pa_nil)) pe_int) (pe_op op_mul pe_int (pv 1)))))), ?_⟩
    refine ⟨_, rfl, _, rfl, a, _, rfl, .inl hS, _, _, rfl, rfl, _, rfl, ite2 (fun e => ?_) fun e => ?_⟩
    · have hlt : (k : Int) < ((ns.map V.int).length : Int) := of_decide_eq_true e
      rw [List.length_map] at hlt
      have hk' : k < ns.length := by omega
      refine ⟨_, rfl, _, rfl, a, _, _, _, rfl, rfl, hS, atI_nat (v := .int ns[k]) (by rw [List.getElem?_map, List.getElem?_eq_getElem hk']; rfl), q _⟩
    · refine ⟨_, rfl, a, _, rfl, .inl hS, rfl, _, rfl, ite2 (fun e2 => ?_) fun e2 => ?_⟩
      · exact ⟨_, rfl, _, _, rfl, rfl, .inl ⟨by decide, by decide⟩, q _⟩
      · have h0 : 0 < ns.length := by
          cases ns with
          | nil => exact absurd (decide_eq_true rfl) e2
          | cons x r => exact Nat.succ_pos _
        refine ⟨_, rfl, a, _, _, _, rfl, rfl, hS, atI_nat (j := 0) (v := .int ns[0]) (by rw [List.getElem?_map, List.getElem?_eq_getElem h0]; rfl), .inl ⟨_, rfl, ?_⟩⟩
        exact ⟨_, _, rfl, rfl, .inr ⟨by decide, by decide⟩, _, rfl, _, _, rfl, rfl, .inl ⟨by decide, by decide⟩, _, _, rfl, rfl, q _⟩
theorem scDigits : FnScope ["_law_cell_here", "_law_limit", "_law_count", "_law_rest", "_law_whole", "_law_found", "_law_k", "_law_mixed"] ["_law_cell_here", "_law_limit", "_law_count"] (defScope sDigits) := ⟨rfl, rfl, rfl, by decide +kernel, rfl, by decide +kernel, by decide +kernel⟩
theorem ok_digits {f C : Addr} {fd : FuncData} (F : Fun K "_law_digits" "_law_digits" sDigits f fd) (W : Tools P w K mg base C) : FnOk P w K mg base CX0 1 f fd ["_law_cell_here", "_law_limit", "_law_count"] spDigits := by
  refine F.ok scDigits (fun vs H Q E h => ?_) (fun cdv A outer s H vs Q E hr h => ?_)
  · obtain ⟨z, lim, c, rfl, _⟩ := h
    rfl
  · obtain ⟨z, lim, c, rfl, h0, h1, hc, q⟩ := h
    refine ⟨_, pss_cons (ps_set (i := 3) scDigits.nd rfl (.inl rfl) (pe_callB call_abs (by rfl) W.abs (by decide +kernel) (pa_cons (pv 0) pa_nil)))
      (pss_cons (ps_set (i := 4) scDigits.nd rfl (.inl rfl) (pe_cmpR op_ge (pv 3) (pe_op op_pow pe_int pe_int) (nomark _)))
      (pss_cons (ps_set (i := 5) scDigits.nd rfl (.inl rfl) (pe_lst pa_nil))
      (pss_cons (ps_for PassesOwn.never rfl (pi_range1 (by rfl) W.rng (pa_cons (pv 2) pa_nil)) (pg_name (i := 6) scDigits.nd rfl (.inl rfl))
        (pss_one (ps_if (PW.pt (pw_and (pt_val (pv 4)) (pw_and1 (pt_cmpR op_gt (pv 3) pe_int (nomark _)))))
          (pss_cons (ps_expr (pe_bm PySem.F.plainAttrs_list PySem.F.slot_list_append PySem.F.type_list_append mt_append (pv 5) (pa_cons (pe_op op_mod (pe_callTy call_int1 (by rfl) W.int (by decide +kernel) (pa_cons (pv 3) pa_nil)) (pv 1)) pa_nil)))
          (pss_one (ps_set (i := 3) scDigits.nd rfl (.inl rfl) (pe_op op_fdiv (pv 3) (pv 1)))))
          (pss_cons (ps_set (i := 7) scDigits.nd rfl (.inl rfl) (pe_op op_mod (pe_callTy call_int1 (by rfl) W.int (by decide +kernel) (pa_cons (pe_op op_add (pe_op op_mul (pe_op op_add (pe_callB call_abs (by rfl) W.abs (by decide +kernel) (pa_cons (pv 0) pa_nil)) pe_int) pe_int) (pe_op op_mul (pv 6) pe_int)) pa_nil)) pe_int))
          (pss_cons (ps_set (i := 7) scDigits.nd rfl (.inl rfl) (pe_op op_mod (pe_callTy call_int1 (by rfl) W.int (by decide +kernel) (pa_cons (pe_op op_add (pe_op op_mul (pv 7) pe_int) (pe_op op_mul pe_int (pv 6))) pa_nil)) pe_int))
          (pss_one (ps_expr (pe_bm PySem.F.plainAttrs_list PySem.F.slot_list_append PySem.F.type_list_append mt_append (pv 5) (pa_cons (pe_op op_mod (pe_callTy call_int1 (by rfl) W.int (by decide +kernel) (pa_cons (pe_op op_fdiv (pv 7) pe_int) pa_nil)) (pv 1)) pa_nil)))))))))
      (pss_one (ps_ret (pv 5)))))), ?_⟩
    refine ⟨_, rfl, _, rfl, ?_⟩
    refine ⟨_, rfl, _, _, rfl, rfl, ⟨by decide, by decide, by decide⟩, _, _, rfl, rfl, ?_⟩
    refine ⟨Nat.zero_le _, fun D nD => ?_⟩
    refine ⟨_, rfl, _, rfl, (small62 (n := c) (by omega)).1, (small62 (n := c) (by omega)).2, ?_⟩
    refine for_range (fun i σ H' => ∃ (rest : Int) (wb : Bool) (v6 v7 : Option V) (ds : List Int), σ = [some (.int z), some (.int lim), some (.int c), some (.int rest), some (.bl wb), some (.ref D), v6, v7] ∧ Same H H' ∧ H' D = some (.lst (ds.map V.int)) ∧ ds.length = i ∧ ∀ d ∈ ds, 0 ≤ d ∧ d < lim)
      ⟨_, _, none, none, [], rfl, same_upd nD, upd_same, rfl, fun d hd => by cases hd⟩ ?_ ?_
    · rintro i σ H2 hi ⟨rest, wb, v6, v7, ds, rfl, s2, eD, ld, hd⟩
      have put : ∀ z : Int, Same H (upd H2 D (.lst (ds.map V.int ++ [.int (z % lim)]))) ∧ upd H2 D (.lst (ds.map V.int ++ [.int (z % lim)])) D = some (.lst ((ds ++ [z % lim]).map V.int)) ∧ (ds ++ [z % lim]).length = i + 1 ∧ ∀ d ∈ ds ++ [z % lim], 0 ≤ d ∧ d < lim := fun z => by
        refine ⟨fun b o e => ?_, by rw [upd_same, List.map_append]; rfl, by simp [ld], fun d hdm => ?_⟩
        · rw [upd_ne (ne_of_none e nD)]; exact s2 _ _ e
        · rcases List.mem_append.mp hdm with h | h
          · exact hd d h
          · have : d = z % lim := by simpa using h
            subst this
            exact ⟨Int.emod_nonneg _ (by omega), Int.emod_lt_of_pos _ h0⟩
      have hll : (ds.map V.int).length < sizeLine := by rw [List.length_map]; exact small1000 (by omega)
      have other : ∀ (b : Bool), b = false → True := fun _ _ => trivial
      refine ⟨_, rfl, wb, rfl, ?_⟩
      cases wb with
      | false =>
        refine iteF (iteF ?_)
        refine ⟨_, rfl, _, rfl, _, _, rfl, rfl, _, _, rfl, rfl, .inr ⟨by decide, by decide⟩, _, rfl, _, _, rfl, rfl, .inr ⟨by decide, by decide⟩, _, _, rfl, rfl, .inl ⟨_, rfl, _, _, rfl, rfl, (by show (0 : Int) < 2147483647; decide), ?_⟩⟩
        refine ⟨_, rfl, _, _, rfl, rfl, .inr ⟨by decide, by decide⟩, _, rfl, _, _, rfl, rfl, .inl ⟨by decide, by decide⟩, _, _, rfl, rfl, .inl ⟨_, rfl, _, _, rfl, rfl, (by show (0 : Int) < 2147483629; decide), ?_⟩⟩
        refine ⟨_, rfl, .inl ⟨rfl, _, SqL.of eD⟩, _, rfl, _, _, rfl, rfl, ⟨by decide, by decide⟩, .inl ⟨_, rfl, _, rfl, _, _, rfl, rfl, h0, D, _, _, rfl, rfl, eD, hll, ?_⟩⟩
        obtain ⟨p1, p2, p3, p4⟩ := put _
        exact ⟨rest, false, _, _, _, rfl, p1, p2, p3, p4⟩
      | true =>
        refine iteT ⟨_, rfl, _, _, rfl, rfl, _, rfl, ite2 (fun e => ?_) fun e => ?_⟩
        · refine ⟨_, rfl, .inl ⟨rfl, _, SqL.of eD⟩, _, rfl, .inl ⟨_, rfl, _, rfl, _, _, rfl, rfl, h0, D, _, _, rfl, rfl, eD, hll, ?_⟩⟩
          refine ⟨_, rfl, _, rfl, _, _, rfl, rfl, ⟨h0, by omega⟩, ?_⟩
          obtain ⟨p1, p2, p3, p4⟩ := put _
          exact ⟨_, true, _, _, _, rfl, p1, p2, p3, p4⟩
        · refine ⟨_, rfl, _, rfl, _, _, rfl, rfl, _, _, rfl, rfl, .inr ⟨by decide, by decide⟩, _, rfl, _, _, rfl, rfl, .inr ⟨by decide, by decide⟩, _, _, rfl, rfl, .inl ⟨_, rfl, _, _, rfl, rfl, (by show (0 : Int) < 2147483647; decide), ?_⟩⟩
          refine ⟨_, rfl, _, _, rfl, rfl, .inr ⟨by decide, by decide⟩, _, rfl, _, _, rfl, rfl, .inl ⟨by decide, by decide⟩, _, _, rfl, rfl, .inl ⟨_, rfl, _, _, rfl, rfl, (by show (0 : Int) < 2147483629; decide), ?_⟩⟩
          refine ⟨_, rfl, .inl ⟨rfl, _, SqL.of eD⟩, _, rfl, _, _, rfl, rfl, ⟨by decide, by decide⟩, .inl ⟨_, rfl, _, rfl, _, _, rfl, rfl, h0, D, _, _, rfl, rfl, eD, hll, ?_⟩⟩
          obtain ⟨p1, p2, p3, p4⟩ := put _
          exact ⟨rest, true, _, _, _, rfl, p1, p2, p3, p4⟩
    · rintro σ H2 ⟨rest, wb, v6, v7, ds, rfl, s2, eD, ld, hd⟩
      exact ⟨_, rfl, q ds D H2 s2 nD eD (by omega) hd⟩
theorem scSize : FnScope ["_law_d"] ["_law_d"] (defScope sSize) := ⟨rfl, rfl, rfl, by decide +kernel, rfl, by decide +kernel, by decide +kernel⟩
theorem ok_size {f C : Addr} {fd : FuncData} (F : Fun K "_law_size" "_law_size" sSize f fd) (W : Tools P w K mg base C) : FnOk P w K mg base CX0 1 f fd ["_law_d"] spSize := by
  refine F.ok scSize (fun vs H Q E h => ?_) (fun cdv A outer s H vs Q E hr h => ?_)
  · obtain ⟨d, rfl, _⟩ := h
    rfl
  · obtain ⟨d, rfl, hd, q⟩ := h
    refine ⟨_, pss_cons (ps_if (pt_cmpR op_ge (pv 0) pe_int (nomark _)) (pss_one (ps_ret (pe_op op_add pe_int (pe_op op_mod (pe_callTy call_int1 (by rfl) W.int (by decide +kernel) (pa_cons (pv 0) pa_nil)) pe_int)))) pss_nil)
      (pss_one (ps_ret (pe_op op_mod (pe_callTy call_int1 (by rfl) W.int (by decide +kernel) (pa_cons (pv 0) pa_nil)) pe_int))), ?_⟩
    refine ⟨_, rfl, _, _, rfl, rfl, _, rfl, ite2 (fun e => ?_) fun e => ?_⟩
    · refine ⟨_, rfl, .inl ⟨_, rfl, _, _, rfl, rfl, (by show (0 : Int) < 5; decide), _, _, rfl, rfl, ?_⟩⟩
      obtain ⟨k, hk⟩ := nat_of_int (z := 7 + d % 5) (by omega)
      have := q k (by omega)
      rw [← hk] at this
      exact this
    · refine ⟨_, rfl, .inl ⟨_, rfl, _, _, rfl, rfl, (by show (0 : Int) < 7; decide), ?_⟩⟩
      obtain ⟨k, hk⟩ := nat_of_int (z := d % 7) (by omega)
      have := q k (by omega)
      rw [← hk] at this
      exact this
theorem scPair : FnScope ["_law_d", "_law_style"] ["_law_d", "_law_style"] (defScope sPair) := ⟨rfl, rfl, rfl, by decide +kernel, rfl, by decide +kernel, by decide +kernel⟩
theorem ok_pair {f C : Addr} {fd : FuncData} (F : Fun K "_law_pair" "_law_pair" sPair f fd) (W : Tools P w K mg base C) : FnOk P w K mg base CX0 1 f fd ["_law_d", "_law_style"] spPair := by
  refine F.ok scPair (fun vs H Q E h => ?_) (fun cdv A outer s H vs Q E hr h => ?_)
  · obtain ⟨d, st, rfl, _⟩ := h
    rfl
  · obtain ⟨d, st, rfl, q⟩ := h
    refine ⟨_, pss_cons (ps_if (PW.pt (pw_and (pt_cmpR op_eq (pv 1) pe_int (nomark _)) (pw_and1 (pt_cmpR op_eq (pe_op op_mod (pe_callTy call_int1 (by rfl) W.int (by decide +kernel) (pa_cons (pv 0) pa_nil)) pe_int) pe_int (nomark _)))))
        (pss_one (ps_ret (pe_tup (pa_cons pe_int (pa_cons pe_int pa_nil))))) pss_nil)
      (pss_cons (ps_if (pt_cmpR op_eq (pv 1) pe_int (nomark _)) (pss_one (ps_ret (pe_tup (pa_cons (pe_op op_sub (pe_op op_mod (pe_callTy call_int1 (by rfl) W.int (by decide +kernel) (pa_cons (pv 0) pa_nil)) pe_int) pe_int) (pa_cons pe_int pa_nil))))) pss_nil)
      (pss_one (ps_ret (pe_tup (pa_cons (pe_op op_sub (pe_op op_mod (pe_callTy call_int1 (by rfl) W.int (by decide +kernel) (pa_cons (pv 0) pa_nil)) pe_int) pe_int)
        (pa_cons (pe_op op_add (pe_op op_mod (pe_callTy call_int1 (by rfl) W.int (by decide +kernel) (pa_cons (pe_op op_fdiv (pv 0) pe_int) pa_nil)) pe_int) pe_int) pa_nil)))))), ?_⟩
    have fin : ∀ (p : Addr) (x y : Int), H p = none → Pr (x, y) → Q (.ref p) (upd H p (.tup [.int x, .int y])) := fun p x y np h => q p (x, y) _ (same_upd np) np upd_same h
    have zz : ∀ {A B C : Prop}, B → C → (if false = true then A else B) ∧ C := fun b c => ⟨iteF b, c⟩
    refine ⟨_, rfl, rfl, _, rfl, ite2 (fun e1 => ?_) fun e1 => ?_⟩
    · refine ⟨_, rfl, .inl ⟨_, rfl, _, _, rfl, rfl, (by show (0 : Int) < 2; decide), rfl, _, rfl, ite2 (fun e2 => ?_) fun e2 => ?_⟩⟩
      · exact ⟨by show 2 ≤ sizeLine; decide, fun p np => fin p 0 1 np ⟨by decide, by decide, by decide⟩⟩
      · refine ⟨_, rfl, rfl, _, rfl, ite2 (fun e3 => ?_) fun e3 => ?_⟩
        · refine ⟨_, rfl, .inl ⟨_, rfl, _, _, rfl, rfl, (by show (0 : Int) < 3; decide), _, _, rfl, rfl, (by show 2 ≤ sizeLine; decide), fun p np => fin p _ 1 np ⟨?_, Int.le_refl 1, (by show (1 : Int) ≤ 4; decide)⟩⟩⟩
          show (d % 3 - 1).natAbs ≤ 9
          omega
        · refine ⟨_, rfl, .inl ⟨_, rfl, _, _, rfl, rfl, (by show (0 : Int) < 19; decide), _, _, rfl, rfl, _, rfl, _, _, rfl, rfl, ⟨by decide, by decide⟩, .inl ⟨_, rfl, _, _, rfl, rfl, (by show (0 : Int) < 4; decide), _, _, rfl, rfl, (by show 2 ≤ sizeLine; decide), fun p np => fin p _ _ np ⟨?_, ?_, ?_⟩⟩⟩⟩
          · show (d % 19 - 9).natAbs ≤ 9; omega
          · show 1 ≤ d / 19 % 4 + 1; omega
          · show d / 19 % 4 + 1 ≤ 4; omega
    · refine iteF ⟨_, rfl, rfl, _, rfl, ite2 (fun e3 => ?_) fun e3 => ?_⟩
      · refine ⟨_, rfl, .inl ⟨_, rfl, _, _, rfl, rfl, (by show (0 : Int) < 3; decide), _, _, rfl, rfl, (by show 2 ≤ sizeLine; decide), fun p np => fin p _ 1 np ⟨?_, Int.le_refl 1, (by show (1 : Int) ≤ 4; decide)⟩⟩⟩
        show (d % 3 - 1).natAbs ≤ 9
        omega
      · refine ⟨_, rfl, .inl ⟨_, rfl, _, _, rfl, rfl, (by show (0 : Int) < 19; decide), _, _, rfl, rfl, _, rfl, _, _, rfl, rfl, ⟨by decide, by decide⟩, .inl ⟨_, rfl, _, _, rfl, rfl, (by show (0 : Int) < 4; decide), _, _, rfl, rfl, (by show 2 ≤ sizeLine; decide), fun p np => fin p _ _ np ⟨?_, ?_, ?_⟩⟩⟩⟩
        · show (d % 19 - 9).natAbs ≤ 9; omega
        · show 1 ≤ d / 19 % 4 + 1; omega
        · show d / 19 % 4 + 1 ≤ 4; omega
theorem scPairs : FnScope ["_law_cell_here", "_law_count", "_law_style", "_law_d"] ["_law_cell_here", "_law_count", "_law_style"] (defScope sPairs) := ⟨rfl, rfl, rfl, by decide +kernel, rfl, by decide +kernel, by decide +kernel⟩
theorem ok_pairs {f C fD fP : Addr} {fd fdD fdP : FuncData} (F : Fun K "_law_pairs" "_law_pairs" sPairs f fd) (W : Tools P w K mg base C)
    (FD : Fun K "_law_digits" "_law_digits" sDigits fD fdD) (bD : Binds K fdD ["_law_cell_here", "_law_limit", "_law_count"] []) (mD : mg "_law_digits" = some (.ref fD))
    (FP : Fun K "_law_pair" "_law_pair" sPair fP fdP) (bP : Binds K fdP ["_law_d", "_law_style"] []) (mP : mg "_law_pair" = some (.ref fP)) : FnOk P w K mg base CX0 2 f fd ["_law_cell_here", "_law_count", "_law_style"] spPairs := by
  have GD : FnOk P w K mg base CX0 1 fD fdD ["_law_cell_here", "_law_limit", "_law_count"] spDigits := ok_digits FD W
  have GP : FnOk P w K mg base CX0 1 fP fdP ["_law_d", "_law_style"] spPair := ok_pair FP W
  refine F.ok scPairs (fun vs H Q E h => ?_) (fun cdv A outer s H vs Q E hr h => ?_)
  · obtain ⟨z, st, c, rfl, _⟩ := h
    rfl
  · obtain ⟨z, st, c, rfl, hc, q⟩ := h
    refine ⟨_, pss_one (ps_ret (pe_lc (own := [("_law_d", 3)]) (g := gName 3) (tt := tYes) rfl scPairs.nd (pi_list (pe_call GD hr (by rfl) mD FD.kp bD .nil pass0 (pa_cons (pv 0) (pa_cons pe_int (pa_cons (pv 1) pa_nil)))))
      (blkOk_by (N := ["_law_cell_here", "_law_count", "_law_style", "_law_d"]) (sc := defScope sPairs) (by decide +kernel)) (fun _ _ _ _ _ => pg_name (i := 3) scPairs.nd rfl (Or.inl rfl)) (fun _ _ _ _ _ => pts_nil)
      (fun _ _ _ _ _ => pe_call GP hr (by rfl) mP FP.kp bP .nil pass0 (pa_cons (pv 3) (pa_cons (pv 2) pa_nil))))), ?_⟩
    refine ⟨_, rfl, _, rfl, z, 76, c, rfl, by decide, by decide, hc, fun ds p H1 s1 np ep ld hd => ?_⟩
    refine ⟨p, rfl, ⟨_, SqL.of ep⟩, ?_⟩
    intro D nD
    refine lc_list (K := K) (a := p) (xs := ds.map V.int) (Bld pGP H1 D) (bld_zero nD) (fun i H4 _ B => SqL.of (B.1 _ _ ep)) ?_ ?_
    · intro i y H4 hy B
      have hi : i < ds.length := by have := (List.getElem?_eq_some_iff.mp hy).1; rw [List.length_map] at this; exact this
      have ey : y = .int ds[i] := by
        rw [List.getElem?_map, List.getElem?_eq_getElem hi] at hy
        exact (Option.some.inj hy).symm
      subst ey
      refine ⟨rfl, yesT ?_⟩
      refine ⟨_, rfl, _, rfl, _, _, rfl, fun x pr H5 s5 nx hx hp => ?_⟩
      obtain ⟨_, ws, ew, _⟩ := id B
      exact B.put mon_gp nD s5 ⟨pr, hide_tup hx (s5 _ _ ew), hp⟩ (by omega)
    · intro H4 B
      obtain ⟨s4, L⟩ := B.done mon_gp
      rw [List.length_map, ld] at L
      exact q D H4 (s1.trans s4) (s1.free nD) L
end
end Ks
/-! part KsI -/
set_option maxRecDepth 100000
set_option maxHeartbeats 4000000
namespace Ks
open PySem L2
theorem wmul {i j : Int} {a b : Nat} (h1 : Bz a i) (h2 : Bz b j) (h3 : a + b ≤ 900000) : CMulW i j := wide_mul (h1.mono (Nat.le_succ a)) (h2.mono (Nat.le_succ b)) (by omega) (by omega) (by omega)
def spPlus : Sp := fun vs H Q _ => ∃ (a b : Addr) (n d m e : Int) (x y : Nat), vs = [.ref a, .ref b] ∧ Pa H a (n, d) ∧ Pa H b (m, e) ∧ Bz x n ∧ Bz x d ∧ Bz y m ∧ Bz y e ∧ x + y ≤ 900000 ∧
  ∀ (p : Addr) (H' : Hp), Same H H' → Pa H' p (n * e + m * d, d * e) → Q (.ref p) H'
def spTimes : Sp := fun vs H Q _ => ∃ (a b : Addr) (n d m e : Int) (x y : Nat), vs = [.ref a, .ref b] ∧ Pa H a (n, d) ∧ Pa H b (m, e) ∧ Bz x n ∧ Bz x d ∧ Bz y m ∧ Bz y e ∧ x + y ≤ 900000 ∧
  ∀ (p : Addr) (H' : Hp), Same H H' → Pa H' p (n * m, d * e) → Q (.ref p) H'
def spLdot : Sp := fun vs H Q _ => ∃ (a b : Addr) (n : Nat) (g h : Nat → Int × Int) (x y : Nat → Rat) (sx sy : Nat), vs = [.ref a, .ref b] ∧ n ≤ 11 ∧ PRow H a n g ∧ PRow H b n h ∧ (∀ i, i < n → Vl sx (g i).1 (g i).2 (x i)) ∧ (∀ i, i < n → Vl sy (h i).1 (h i).2 (y i)) ∧ sx + sy ≤ 5000 ∧
  ∀ (p : Addr) (N D : Int) (H' : Hp), Same H H' → Pa H' p (N, D) → Vl 60000 N D (sm n fun i => x i * y i) → Q (.ref p) H'
def spVector (C : Addr) : Sp := fun vs H Q _ => ∃ (a : Addr) (n : Nat) (g : Nat → Int × Int), vs = [.ref a] ∧ n ≤ 900 ∧ PRow H a n g ∧ (∀ i, i < n → Pr (g i)) ∧ ∀ x H', Same H H' → H x = none → Row C H' x n (fun i => pq (g i)) → Q (.ref x) H'
def spMatrix (C : Addr) : Sp := fun vs H Q _ => ∃ (a : Addr) (m n : Nat) (G : Nat → Nat → Int × Int), vs = [.ref a] ∧ m ≤ 900 ∧ n ≤ 900 ∧ PTab H a m n G ∧ (∀ i, i < m → ∀ j, j < n → Pr (G i j)) ∧
  ∀ x H', Same H H' → H x = none → Tab C H' x m n (fun i j => pq (G i j)) → Q (.ref x) H'
def spWhole : Sp := fun vs H Q _ => ∃ i : Int, vs = [.int i] ∧ Q (.bl true) H
def spNumber (C : Addr) : Sp := fun vs H Q _ => ∃ (a : Addr) (q : Rat), vs = [.ref a] ∧ Fr C H a q ∧ Q (.bl true) H
def spIs (C : Addr) : Sp := fun vs H Q _ => ∃ (a b : Addr) (p : Int × Int), vs = [.ref a, .ref b] ∧ Fr C H a (pq p) ∧ Pa H b p ∧ Pr p ∧ Q (.bl true) H
def spIsVec (C : Addr) : Sp := fun vs H Q _ => ∃ (a b : Addr) (n : Nat) (g : Nat → Int × Int), vs = [.ref a, .ref b] ∧ n ≤ 900 ∧ Row C H a n (fun i => pq (g i)) ∧ PRow H b n g ∧ (∀ i, i < n → Pr (g i)) ∧ Q (.bl true) H
def spIsMat (C : Addr) : Sp := fun vs H Q _ => ∃ (a b : Addr) (m n : Nat) (G : Nat → Nat → Int × Int), vs = [.ref a, .ref b] ∧ m ≤ 900 ∧ n ≤ 900 ∧ Tab C H a m n (fun i j => pq (G i j)) ∧ PTab H b m n G ∧ (∀ i, i < m → ∀ j, j < n → Pr (G i j)) ∧ Q (.bl true) H
def spRead (C : Addr) : Sp := fun vs H Q _ => ∃ (a : Addr) (n : Nat) (f : Nat → Rat), vs = [.ref a, .int (n : Int)] ∧ n ≤ 900 ∧ Row C H a n f ∧ ∀ (p : Addr) (H' : Hp), Same H H' → H p = none → PRow H' p n (fun i => ((f i).num, ((f i).den : Int))) → Q (.ref p) H'
def spIsSol : Sp := fun vs H Q _ => ∃ (a b c : Addr) (m n : Nat) (f : Nat → Rat) (G : Nat → Nat → Int × Int) (g : Nat → Int × Int), vs = [.ref a, .ref b, .ref c] ∧ m ≤ 11 ∧ n ≤ 11 ∧ PRow H a n (fun i => ((f i).num, ((f i).den : Int))) ∧ PTab H b m n G ∧ PRow H c m g ∧
  (∀ i, i < m → ∀ j, j < n → Pr (G i j)) ∧ (∀ i, i < m → Pr (g i)) ∧ (∀ j, j < n → Sz 4141 (f j)) ∧ (∀ i, i < m → sm n (fun j => pq (G i j) * f j) = pq (g i)) ∧ ∀ H', Same H H' → Q (.bl true) H'
def spIsRef : Sp := fun vs H Q _ => ∃ (a b c : Addr) (m n : Nat) (f : Nat → Rat) (G : Nat → Nat → Int × Int) (g : Nat → Int × Int), vs = [.ref a, .ref b, .ref c, .int (n : Int)] ∧ m ≤ 11 ∧ n ≤ 11 ∧ PRow H a m (fun i => ((f i).num, ((f i).den : Int))) ∧ PTab H b m n G ∧ PRow H c m g ∧
  (∀ i, i < m → ∀ j, j < n → Pr (G i j)) ∧ (∀ i, i < m → Pr (g i)) ∧ (∀ j, j < m → Sz 4141 (f j)) ∧ (∀ j, j < n → sm m (fun k => f k * pq (G k j)) = 0) ∧ sm m (fun k => f k * pq (g k)) ≠ 0 ∧ ∀ H', Same H H' → Q (.bl true) H'
section
variable {P : Program} {w : World} {K : PySem.W.Frag} {mg : Str → Option Value} {base : Heap}
theorem scPlus : FnScope ["_law_a", "_law_b"] ["_law_a", "_law_b"] (defScope sPlus) := ⟨rfl, rfl, rfl, by decide +kernel, rfl, by decide +kernel, by decide +kernel⟩
theorem ok_plus {f : Addr} {fd : FuncData} (F : Fun K "_law_plus" "_law_plus" sPlus f fd) : FnOk P w K mg base CX0 1 f fd ["_law_a", "_law_b"] spPlus := by
  refine F.ok scPlus (fun vs H Q E h => ?_) (fun cdv A outer s H vs Q E hr h => ?_)
  · obtain ⟨a, b, n, d, m, e, x, y, rfl, _⟩ := h
    rfl
  · obtain ⟨a, b, n, d, m, e, x, y, rfl, ha, hb, h1, h2, h3, h4, hxy, q⟩ := h
    refine ⟨_, pss_one (ps_ret (pe_tup (pa_cons (pe_op op_add (pe_op op_mulW (pe_ix ix_tup (pv 0) pe_int (fun _ _ => rfl)) (pe_ix ix_tup (pv 1) pe_int (fun _ _ => rfl))) (pe_op op_mulW (pe_ix ix_tup (pv 1) pe_int (fun _ _ => rfl)) (pe_ix ix_tup (pv 0) pe_int (fun _ _ => rfl))))
      (pa_cons (pe_op op_mulW (pe_ix ix_tup (pv 0) pe_int (fun _ _ => rfl)) (pe_ix ix_tup (pv 1) pe_int (fun _ _ => rfl))) pa_nil)))), ?_⟩
    refine ⟨_, rfl, a, _, _, _, rfl, rfl, SqT.of ha, atI_nat (j := 0) rfl, _, rfl, b, _, _, _, rfl, rfl, SqT.of hb, atI_nat (j := 1) rfl, _, _, rfl, rfl, wmul h1 h4 hxy, ?_⟩
    refine ⟨_, rfl, b, _, _, _, rfl, rfl, SqT.of hb, atI_nat (j := 0) rfl, _, rfl, a, _, _, _, rfl, rfl, SqT.of ha, atI_nat (j := 1) rfl, _, _, rfl, rfl, wmul h3 h2 (by omega), _, _, rfl, rfl, ?_⟩
    refine ⟨_, rfl, a, _, _, _, rfl, rfl, SqT.of ha, atI_nat (j := 1) rfl, _, rfl, b, _, _, _, rfl, rfl, SqT.of hb, atI_nat (j := 1) rfl, _, _, rfl, rfl, wmul h2 h4 hxy, (by show 2 ≤ sizeLine; decide), fun p np => ?_⟩
    exact q p _ (same_upd np) upd_same
theorem scTimes : FnScope ["_law_a", "_law_b"] ["_law_a", "_law_b"] (defScope sTimes) := ⟨rfl, rfl, rfl, by decide +kernel, rfl, by decide +kernel, by decide +kernel⟩
theorem ok_times {f : Addr} {fd : FuncData} (F : Fun K "_law_times" "_law_times" sTimes f fd) : FnOk P w K mg base CX0 1 f fd ["_law_a", "_law_b"] spTimes := by
  refine F.ok scTimes (fun vs H Q E h => ?_) (fun cdv A outer s H vs Q E hr h => ?_)
  · obtain ⟨a, b, n, d, m, e, x, y, rfl, _⟩ := h
    rfl
  · obtain ⟨a, b, n, d, m, e, x, y, rfl, ha, hb, h1, h2, h3, h4, hxy, q⟩ := h
    refine ⟨_, pss_one (ps_ret (pe_tup (pa_cons (pe_op op_mulW (pe_ix ix_tup (pv 0) pe_int (fun _ _ => rfl)) (pe_ix ix_tup (pv 1) pe_int (fun _ _ => rfl)))
      (pa_cons (pe_op op_mulW (pe_ix ix_tup (pv 0) pe_int (fun _ _ => rfl)) (pe_ix ix_tup (pv 1) pe_int (fun _ _ => rfl))) pa_nil)))), ?_⟩
    refine ⟨_, rfl, a, _, _, _, rfl, rfl, SqT.of ha, atI_nat (j := 0) rfl, _, rfl, b, _, _, _, rfl, rfl, SqT.of hb, atI_nat (j := 0) rfl, _, _, rfl, rfl, wmul h1 h3 hxy, ?_⟩
    refine ⟨_, rfl, a, _, _, _, rfl, rfl, SqT.of ha, atI_nat (j := 1) rfl, _, rfl, b, _, _, _, rfl, rfl, SqT.of hb, atI_nat (j := 1) rfl, _, _, rfl, rfl, wmul h2 h4 hxy, (by show 2 ≤ sizeLine; decide), fun p np => ?_⟩
    exact q p _ (same_upd np) upd_same
theorem scLdot : FnScope ["_law_xs", "_law_ys", "_law_total", "_law_k"] ["_law_xs", "_law_ys"] (defScope sLdot) := ⟨rfl, rfl, rfl, by decide +kernel, rfl, by decide +kernel, by decide +kernel⟩
theorem ok_ldot {f C fP fT : Addr} {fd fdP fdT : FuncData} (F : Fun K "_law_dot" "_law_dot" sLdot f fd) (W : Tools P w K mg base C)
    (FP : Fun K "_law_plus" "_law_plus" sPlus fP fdP) (bP : Binds K fdP ["_law_a", "_law_b"] []) (mP : mg "_law_plus" = some (.ref fP))
    (FT : Fun K "_law_times" "_law_times" sTimes fT fdT) (bT : Binds K fdT ["_law_a", "_law_b"] []) (mT : mg "_law_times" = some (.ref fT)) : FnOk P w K mg base CX0 2 f fd ["_law_xs", "_law_ys"] spLdot := by
  have GP : FnOk P w K mg base CX0 1 fP fdP ["_law_a", "_law_b"] spPlus := ok_plus FP
  have GT : FnOk P w K mg base CX0 1 fT fdT ["_law_a", "_law_b"] spTimes := ok_times FT
  refine F.ok scLdot (fun vs H Q E h => ?_) (fun cdv A outer s H vs Q E hr h => ?_)
  · obtain ⟨a, b, n, g, h, x, y, sx, sy, rfl, _⟩ := h
    rfl
  · obtain ⟨a, b, n, g, h, x, y, sx, sy, rfl, hn, ra, rb, vx, vy, hs, q⟩ := h
    refine ⟨_, pss_cons (ps_set (i := 2) scLdot.nd rfl (.inl rfl) (pe_tup (pa_cons pe_int (pa_cons pe_int pa_nil))))
      (pss_cons (ps_for PassesOwn.never rfl (pi_range1 (by rfl) W.rng (pa_cons (pe_callB call_len_seq (by rfl) W.len PySem.boot_len (pa_cons (pv 0) pa_nil)) pa_nil)) (pg_name (i := 3) scLdot.nd rfl (.inl rfl))
        (pss_one (ps_if (PW.pt (pw_and (pt_cmpR op_ne (pe_ix ix_tup (pe_ix ix_list (pv 0) (pv 3) (fun _ _ => rfl)) pe_int (fun _ _ => rfl)) pe_int (nomark _)) (pw_and1 (pt_cmpR op_ne (pe_ix ix_tup (pe_ix ix_list (pv 1) (pv 3) (fun _ _ => rfl)) pe_int (fun _ _ => rfl)) pe_int (nomark _)))))
          (pss_one (ps_set (i := 2) scLdot.nd rfl (.inl rfl) (pe_call GP hr (by rfl) mP FP.kp bP .nil pass0 (pa_cons (pv 2) (pa_cons (pe_call GT hr (by rfl) mT FT.kp bT .nil pass0 (pa_cons (pe_ix ix_list (pv 0) (pv 3) (fun _ _ => rfl)) (pa_cons (pe_ix ix_list (pv 1) (pv 3) (fun _ _ => rfl)) pa_nil))) pa_nil)))))
          pss_nil)))
      (pss_one (ps_ret (pv 2)))), ?_⟩
    obtain ⟨xs, ea, la, ka⟩ := LstOf.at ra
    obtain ⟨ys, eb, lb, kb⟩ := LstOf.at rb
    refine ⟨(by show 2 ≤ sizeLine; decide), fun p0 np0 => ?_⟩
    have s0 : Same H (upd H p0 (.tup [.int 0, .int 1])) := same_upd np0
    refine ⟨_, rfl, a, xs, rfl, .inl (SqL.of (s0 _ _ ea)), _, rfl, (small62 (n := xs.length) (by omega)).1, (small62 (n := xs.length) (by omega)).2, ?_⟩
    refine for_range (fun i σ H' => ∃ (p : Addr) (v3 : Option V) (N D : Int), σ = [some (.ref a), some (.ref b), some (.ref p), v3] ∧ Same H H' ∧ Pa H' p (N, D) ∧ Vl (1 + i * (sx + sy + 1)) N D (sm i fun i => x i * y i))
      ⟨p0, none, 0, 1, rfl, s0, upd_same, by rw [Nat.zero_mul]; exact vl_zero⟩ ?_ ?_
    · rintro i σ H2 hi ⟨p, v3, N, D, rfl, s2, hp, vl⟩
      have hi' : i < n := by omega
      have e0 : (0 : Int) + (i : Int) = (i : Int) := by omega
      obtain ⟨c, c1, hc⟩ := ka i hi'
      obtain ⟨d, d1, hd⟩ := kb i hi'
      have hc2 := s2 _ _ hc
      have hd2 := s2 _ _ hd
      have hxi := vx i hi'
      have hyi := vy i hi'
      have skip : x i * y i = 0 → Vl (1 + (i + 1) * (sx + sy + 1)) N D (sm (i + 1) fun i => x i * y i) := fun hz => by
        have e : (sm (i + 1) fun i => x i * y i) = sm i fun i => x i * y i := by
          show (sm i fun i => x i * y i) + x i * y i = _
          rw [hz]; grind
        rw [e]
        exact vl.mono (by rw [Nat.succ_mul]; omega)
      refine ⟨_, rfl, _, rfl, a, xs, _, _, rfl, rfl, SqL.of (s2 _ _ ea), (by rw [e0]; exact c1), c, _, _, _, rfl, rfl, SqT.of hc2, atI_nat (j := 0) rfl, rfl, _, rfl, ?_⟩
      by_cases z1 : (g i).1 = 0
      · have : decide (V.int (g i).1 = V.int 0) = true := decide_eq_true (by rw [z1])
        show if (!decide (V.int (g i).1 = V.int 0)) = true then _ else _
        rw [this]
        refine iteF (iteF ?_)
        exact ⟨p, _, N, D, rfl, s2, hp, skip (by rw [hxi.zero.mp z1]; exact Rat.zero_mul _)⟩
      · have : decide (V.int (g i).1 = V.int 0) = false := decide_eq_false fun h => z1 (V.int.inj h)
        show if (!decide (V.int (g i).1 = V.int 0)) = true then _ else _
        rw [this]
        refine iteT ?_
        refine ⟨_, rfl, _, rfl, b, ys, _, _, rfl, rfl, SqL.of (s2 _ _ eb), (by rw [e0]; exact d1), d, _, _, _, rfl, rfl, SqT.of hd2, atI_nat (j := 0) rfl, rfl, _, rfl, ?_⟩
        by_cases z2 : (h i).1 = 0
        · have : decide (V.int (h i).1 = V.int 0) = true := decide_eq_true (by rw [z2])
          show if (!decide (V.int (h i).1 = V.int 0)) = true then _ else _
          rw [this]
          refine iteF ?_
          exact ⟨p, _, N, D, rfl, s2, hp, skip (by rw [hyi.zero.mp z2]; exact Rat.mul_zero _)⟩
        · have : decide (V.int (h i).1 = V.int 0) = false := decide_eq_false fun h => z2 (V.int.inj h)
          show if (!decide (V.int (h i).1 = V.int 0)) = true then _ else _
          rw [this]
          refine iteT ?_
          have hb : 1 + i * (sx + sy + 1) ≤ 60000 := by
            have : i * (sx + sy + 1) ≤ 11 * 5001 := Nat.mul_le_mul (by omega) (by omega)
            omega
          refine ⟨_, rfl, _, rfl, _, rfl, a, xs, _, _, rfl, rfl, SqL.of (s2 _ _ ea), (by rw [e0]; exact c1), _, rfl, _, rfl, b, ys, _, _, rfl, rfl, SqL.of (s2 _ _ eb), (by rw [e0]; exact d1), ?_⟩
          refine ⟨c, d, _, _, _, _, sx, sy, rfl, hc2, hd2, hxi.bN, hxi.bD, hyi.bN, hyi.bD, by omega, fun p1 H3 s3 hp1 => ?_⟩
          have t1 := hxi.times hyi
          refine ⟨p, p1, _, _, _, _, _, _, rfl, s3 _ _ hp, hp1, vl.bN, vl.bD, t1.bN, t1.bD, by omega, fun p2 H4 s4 hp2 => ?_⟩
          refine ⟨p2, _, _, _, rfl, (s2.trans s3).trans s4, hp2, (vl.plus t1).mono (by rw [Nat.succ_mul]; omega)⟩
    · rintro σ H2 ⟨p, v3, N, D, rfl, s2, hp, vl⟩
      have en : (xs.length : Int).toNat = n := by omega
      rw [en] at vl
      have hb : 1 + n * (sx + sy + 1) ≤ 60000 := by
        have : n * (sx + sy + 1) ≤ 11 * 5001 := Nat.mul_le_mul (by omega) (by omega)
        omega
      exact ⟨_, rfl, q p N D H2 s2 hp (vl.mono hb)⟩
/-! from pairs to fractions -/
theorem scVector : FnScope ["_law_pairs_here", "_law_pair_here"] ["_law_pairs_here"] (defScope sVector) := ⟨rfl, rfl, rfl, by decide +kernel, rfl, by decide +kernel, by decide +kernel⟩
theorem ok_vector {f C : Addr} {fd : FuncData} (F : Fun K "_law_vector" "_law_vector" sVector f fd) (W : Tools P w K mg base C) : FnOk P w K mg base CX0 3 f fd ["_law_pairs_here"] (spVector C) := by
  refine F.ok scVector (fun vs H Q E h => ?_) (fun cdv A outer s H vs Q E hr h => ?_)
  · obtain ⟨a, n, g, rfl, _⟩ := h
    rfl
  · obtain ⟨a, n, g, rfl, hn, ra, hg, q⟩ := h
    refine ⟨_, pss_one (ps_ret (pe_lc (own := [("_law_pair_here", 1)]) (g := gName 1) (tt := tYes) rfl scVector.nd (pi_list (pv 0)) (blkOk_by (N := ["_law_pairs_here", "_law_pair_here"]) (sc := defScope sVector) (by decide +kernel)) (fun _ _ _ _ _ => pg_name (i := 1) scVector.nd rfl (Or.inl rfl)) (fun _ _ _ _ _ => pts_nil)
      (fun _ _ _ _ _ => pe_make W.M.made (ok_init W.M.F W.T) hr (by rfl) W.T.mgC W.M.b .nil pass0 (pa_cons (pe_ix (r := rIxT K) ix_tup (pv 1) pe_int (fun _ _ => rfl)) (pa_cons (pe_ix (r := rIxT K) ix_tup (pv 1) pe_int (fun _ _ => rfl)) pa_nil))))), ?_⟩
    obtain ⟨xs, ea, la, ka⟩ := ra
    refine ⟨_, rfl, a, rfl, ⟨_, SqL.of ea⟩, ?_⟩
    intro D nD
    refine lc_list (K := K) (a := a) (xs := xs) (Bld (pFr C fun i => pq (g i)) H D) (bld_zero nD) (fun i H4 _ B => SqL.of (B.1 _ _ ea)) ?_ ?_
    · intro i y H4 hy B
      have hi : i < n := by have := (List.getElem?_eq_some_iff.mp hy).1; omega
      obtain ⟨c, c1, hc⟩ := ka i hi
      have ey : y = .ref c := Option.some.inj (hy.symm.trans c1)
      subst ey
      have hc4 := B.1 _ _ hc
      obtain ⟨h1, h2, h3⟩ := hg i hi
      refine ⟨rfl, yesT ?_⟩
      refine ⟨_, rfl, c, _, _, _, rfl, rfl, SqT.of hc4, atI_nat (j := 0) rfl, _, rfl, c, _, _, _, rfl, rfl, SqT.of hc4, atI_nat (j := 1) rfl, ?_⟩
      refine make_ok (by show (g i).2 ≠ 0; omega) (Bz.mono (a := 3) (by show (g i).2.natAbs < 2 ^ 3; omega) (by decide)) fun x H5 s5 nx hx => ?_
      obtain ⟨_, ws, ew, _⟩ := id B
      have hx' : Fr C H5 x (pq (g i)) := hx
      exact B.put (mon_fr _ _) nD s5 (hx'.hide (s5 _ _ ew)) (by omega)
    · intro H4 B
      obtain ⟨s4, L⟩ := B.done (mon_fr _ _)
      rw [la] at L
      exact q D H4 s4 nD L
theorem scMatrix : FnScope ["_law_rows", "_law_row"] ["_law_rows"] (defScope sMatrix) := ⟨rfl, rfl, rfl, by decide +kernel, rfl, by decide +kernel, by decide +kernel⟩
theorem ok_matrix {f C fV : Addr} {fd fdV : FuncData} (F : Fun K "_law_matrix" "_law_matrix" sMatrix f fd) (W : Tools P w K mg base C)
    (FV : Fun K "_law_vector" "_law_vector" sVector fV fdV) (bV : Binds K fdV ["_law_pairs_here"] []) (mV : mg "_law_vector" = some (.ref fV)) : FnOk P w K mg base CX0 4 f fd ["_law_rows"] (spMatrix C) := by
  have GV : FnOk P w K mg base CX0 3 fV fdV ["_law_pairs_here"] (spVector C) := ok_vector FV W
  refine F.ok scMatrix (fun vs H Q E h => ?_) (fun cdv A outer s H vs Q E hr h => ?_)
  · obtain ⟨a, m, n, G, rfl, _⟩ := h
    rfl
  · obtain ⟨a, m, n, G, rfl, hm, hn, ra, hg, q⟩ := h
    refine ⟨_, pss_one (ps_ret (pe_lc (own := [("_law_row", 1)]) (g := gName 1) (tt := tYes) rfl scMatrix.nd (pi_list (pv 0)) (blkOk_by (N := ["_law_rows", "_law_row"]) (sc := defScope sMatrix) (by decide +kernel)) (fun _ _ _ _ _ => pg_name (i := 1) scMatrix.nd rfl (Or.inl rfl)) (fun _ _ _ _ _ => pts_nil)
      (fun _ _ _ _ _ => pe_call GV hr (by rfl) mV FV.kp bV .nil pass0 (pa_cons (pv 1) pa_nil)))), ?_⟩
    obtain ⟨xs, ea, la, ka⟩ := ra
    refine ⟨_, rfl, a, rfl, ⟨_, SqL.of ea⟩, ?_⟩
    intro D nD
    refine lc_list (K := K) (a := a) (xs := xs) (Bld (pRow C n fun i j => pq (G i j)) H D) (bld_zero nD) (fun i H4 _ B => SqL.of (B.1 _ _ ea)) ?_ ?_
    · intro i y H4 hy B
      have hi : i < m := by have := (List.getElem?_eq_some_iff.mp hy).1; omega
      obtain ⟨c, c1, hc⟩ := ka i hi
      have ey : y = .ref c := Option.some.inj (hy.symm.trans c1)
      subst ey
      refine ⟨rfl, yesT ?_⟩
      refine ⟨_, rfl, c, n, G i, rfl, hn, PRow.same hc B.1, hg i hi, fun x H5 s5 nx rx => ?_⟩
      obtain ⟨_, ws, ew, _⟩ := id B
      exact B.put (mon_row _ _ _) nD s5 (Row.hide rx (s5 _ _ ew) (ne_of_none ew nx).symm) (by omega)
    · intro H4 B
      obtain ⟨s4, L⟩ := B.done (mon_row _ _ _)
      rw [la] at L
      exact q D H4 s4 nD L
end
end Ks
/-! part KsJ -/
set_option maxRecDepth 100000
set_option maxHeartbeats 4000000
namespace Ks
open PySem L2
theorem ty_fr {K : PySem.W.Frag} {mg : Str → Option Value} {C a : Addr} {H : Hp} {q : Rat} (T : Txt K mg C) (h : Fr C H a q) : TyX K H (.ref a) (.ref C) := by
  obtain ⟨dx, e⟩ := h
  exact .base (.ins e T.cl T.ha T.hn T.htk T.hm)
theorem kit_same {K : PySem.W.Frag} {t : Value} : PySem.W.kitOne K t t = some true := by
  unfold PySem.W.kitOne
  rw [if_pos (by simp)]
theorem decF {x y : V} (h : x = y) {A B : Prop} (b : B) : if (!decide (x = y)) = true then A else B := by
  rw [decide_eq_true h]
  exact iteF b
section
variable {P : Program} {w : World} {K : PySem.W.Frag} {mg : Str → Option Value} {base : Heap}
theorem scWhole : FnScope ["_law_x"] ["_law_x"] (defScope sWhole) := ⟨rfl, rfl, rfl, by decide +kernel, rfl, by decide +kernel, by decide +kernel⟩
theorem ok_whole {f C : Addr} {fd : FuncData} (F : Fun K "_law_is_whole" "_law_is_whole" sWhole f fd) (W : Tools P w K mg base C) : FnOk P w K mg base CX0 1 f fd ["_law_x"] spWhole := by
  refine F.ok scWhole (fun vs H Q E h => ?_) (fun cdv A outer s H vs Q E hr h => ?_)
  · obtain ⟨i, rfl, _⟩ := h
    rfl
  · obtain ⟨i, rfl, q⟩ := h
    refine ⟨_, pss_one (ps_ret (pe_and (pe_callB call_isi (by rfl) W.isi (by decide +kernel) (pa_cons (pv 0) (pa_cons (pe_bltn (v := .ty "int") (by rfl) W.int (by decide +kernel) rfl) pa_nil)))
      (pe_one (pe_not (pe_callB call_isi (by rfl) W.isi (by decide +kernel) (pa_cons (pv 0) (pa_cons (pe_bltn (v := .ty "bool") (by rfl) W.bool (by decide +kernel) rfl) pa_nil))))))), ?_⟩
    refine ⟨_, rfl, _, _, _, _, true, rfl, .ty "int", .base (.int i), kit_same, true, rfl, iteT ?_⟩
    exact ⟨_, rfl, _, _, _, _, false, rfl, .ty "bool", .base (.int i), kit_ty (by decide +kernel), false, rfl, q⟩
theorem scNumber : FnScope ["_law_x"] ["_law_x"] (defScope sNumber) := ⟨rfl, rfl, rfl, by decide +kernel, rfl, by decide +kernel, by decide +kernel⟩
theorem ok_number {f C fW : Addr} {fd fdW : FuncData} (F : Fun K "_law_is_number" "_law_is_number" sNumber f fd) (W : Tools P w K mg base C)
    (FW : Fun K "_law_is_whole" "_law_is_whole" sWhole fW fdW) (bW : Binds K fdW ["_law_x"] []) (mW : mg "_law_is_whole" = some (.ref fW)) : FnOk P w K mg base CX0 2 f fd ["_law_x"] (spNumber C) := by
  have GW : FnOk P w K mg base CX0 1 fW fdW ["_law_x"] spWhole := ok_whole FW W
  refine F.ok scNumber (fun vs H Q E h => ?_) (fun cdv A outer s H vs Q E hr h => ?_)
  · obtain ⟨a, r, rfl, _⟩ := h
    rfl
  · obtain ⟨a, r, rfl, ha, q⟩ := h
    obtain ⟨dx, ea⟩ := id ha
    refine ⟨_, pss_one (ps_ret (pe_and (pe_callB call_isi (by rfl) W.isi (by decide +kernel) (pa_cons (pv 0) (pa_cons (pe_glob (v := .ref C) (by rfl) W.T.mgC rfl) pa_nil)))
      (pe_and (pe_call GW hr (by rfl) mW FW.kp bW .nil pass0 (pa_cons (pe_fld (pv 0) rfl) pa_nil))
      (pe_and (pe_call GW hr (by rfl) mW FW.kp bW .nil pass0 (pa_cons (pe_fld (pv 0) rfl) pa_nil))
      (pe_one (pe_cmpR op_gt (pe_fld (pv 0) rfl) pe_int (nomark _))))))), ?_⟩
    refine ⟨_, rfl, _, _, _, _, true, rfl, .own C, ty_fr W.T ha, kit_same, true, rfl, iteT ?_⟩
    refine ⟨_, rfl, a, C, dx, _, _, rfl, ea, W.T.cl, W.T.nN, ff_num _ _, _, rfl, true, rfl, iteT ?_⟩
    refine ⟨_, rfl, a, C, dx, _, _, rfl, ea, W.T.cl, W.T.nD, ff_den _ _, _, rfl, true, rfl, iteT ?_⟩
    refine ⟨_, rfl, a, C, dx, _, _, rfl, ea, W.T.cl, W.T.nD, ff_den _ _, _, _, rfl, rfl, ?_⟩
    have e : decide ((0 : Int) < (r.den : Int)) = true := decide_eq_true (den_pos r)
    show Q (.bl (decide ((0 : Int) < (r.den : Int)))) H
    rw [e]
    exact q
theorem scIs : FnScope ["_law_x", "_law_pair_here"] ["_law_x", "_law_pair_here"] (defScope sIs) := ⟨rfl, rfl, rfl, by decide +kernel, rfl, by decide +kernel, by decide +kernel⟩
theorem ok_is {f C fN : Addr} {fd fdN : FuncData} (F : Fun K "_law_is" "_law_is" sIs f fd) (W : Tools P w K mg base C)
    (GN : FnOk P w K mg base CX0 2 fN fdN ["_law_x"] (spNumber C)) (kN : PySem.W.keepIn K (.ref fN) = true) (bN : Binds K fdN ["_law_x"] []) (mN : mg "_law_is_number" = some (.ref fN)) : FnOk P w K mg base CX0 3 f fd ["_law_x", "_law_pair_here"] (spIs C) := by
  refine F.ok scIs (fun vs H Q E h => ?_) (fun cdv A outer s H vs Q E hr h => ?_)
  · obtain ⟨a, b, p, rfl, _⟩ := h
    rfl
  · obtain ⟨a, b, p, rfl, ha, hb, hp, q⟩ := h
    obtain ⟨dx, ea⟩ := id ha
    refine ⟨_, pss_one (ps_ret (pe_and (pe_call GN hr (by rfl) mN kN bN .nil pass0 (pa_cons (pv 0) pa_nil))
      (pe_one (pe_cmpR op_eq (pe_op op_mulW (pe_fld (pv 0) rfl) (pe_ix ix_tup (pv 1) pe_int (fun _ _ => rfl))) (pe_op op_mulW (pe_ix ix_tup (pv 1) pe_int (fun _ _ => rfl)) (pe_fld (pv 0) rfl)) (nomark _))))), ?_⟩
    have vl := hp.vl
    have sz := hp.gd.sz
    obtain ⟨h1, h2, h3⟩ := hp
    refine ⟨_, rfl, a, pq p, rfl, ha, true, rfl, iteT ?_⟩
    refine ⟨_, rfl, a, C, dx, _, _, rfl, ea, W.T.cl, W.T.nN, ff_num _ _, _, rfl, b, _, _, _, rfl, rfl, SqT.of hb, atI_nat (j := 1) rfl, _, _, rfl, rfl, wmul sz.1 vl.bD (by decide), ?_⟩
    refine ⟨_, rfl, b, _, _, _, rfl, rfl, SqT.of hb, atI_nat (j := 0) rfl, _, rfl, a, C, dx, _, _, rfl, ea, W.T.cl, W.T.nD, ff_den _ _, _, _, rfl, rfl, wmul vl.bN sz.2 (by decide), rfl, ?_⟩
    have e : decide (V.int ((pq p).num * p.2) = V.int (p.1 * ((pq p).den : Int))) = true := decide_eq_true (by rw [is_pq (by omega)])
    show Q (.bl (decide (V.int ((pq p).num * p.2) = V.int (p.1 * ((pq p).den : Int))))) H
    rw [e]
    exact q
theorem scIsVec : FnScope ["_law_xs", "_law_pairs_here", "_law_k"] ["_law_xs", "_law_pairs_here"] (defScope sIsVec) := ⟨rfl, rfl, rfl, by decide +kernel, rfl, by decide +kernel, by decide +kernel⟩
theorem ok_isvec {f C fN : Addr} {fd fdN : FuncData} (F : Fun K "_law_is_vector" "_law_is_vector" sIsVec f fd) (W : Tools P w K mg base C)
    (GN : FnOk P w K mg base CX0 3 fN fdN ["_law_x", "_law_pair_here"] (spIs C)) (kN : PySem.W.keepIn K (.ref fN) = true) (bN : Binds K fdN ["_law_x", "_law_pair_here"] []) (mN : mg "_law_is" = some (.ref fN)) : FnOk P w K mg base CX0 4 f fd ["_law_xs", "_law_pairs_here"] (spIsVec C) := by
  refine F.ok scIsVec (fun vs H Q E h => ?_) (fun cdv A outer s H vs Q E hr h => ?_)
  · obtain ⟨a, b, n, g, rfl, _⟩ := h
    rfl
  · obtain ⟨a, b, n, g, rfl, hn, ra, rb, hg, q⟩ := h
    obtain ⟨xs, ea, la, ka⟩ := LstOf.at ra
    obtain ⟨ys, eb, lb, kb⟩ := LstOf.at rb
    refine ⟨_, pss_cons (ps_if (PW.pt (pw_or (pt_not (pt_val (pe_callB call_isi (by rfl) W.isi (by decide +kernel) (pa_cons (pv 0) (pa_cons (pe_bltn (v := .ty "list") (by rfl) W.lst (by decide +kernel) rfl) pa_nil))))) (pw_or1 (pt_cmpR op_ne (pe_callB call_len_seq (by rfl) W.len PySem.boot_len (pa_cons (pv 0) pa_nil)) (pe_callB call_len_seq (by rfl) W.len PySem.boot_len (pa_cons (pv 1) pa_nil)) (nomark _)))))
        (pss_one (ps_ret pe_bl)) pss_nil)
      (pss_cons (ps_for PassesOwn.never rfl (pi_range1 (by rfl) W.rng (pa_cons (pe_callB call_len_seq (by rfl) W.len PySem.boot_len (pa_cons (pv 1) pa_nil)) pa_nil)) (pg_name (i := 2) scIsVec.nd rfl (.inl rfl))
        (pss_one (ps_if (pt_not (pt_val (pe_call GN hr (by rfl) mN kN bN .nil pass0 (pa_cons (pe_ix ix_list (pv 0) (pv 2) (fun _ _ => rfl)) (pa_cons (pe_ix ix_list (pv 1) (pv 2) (fun _ _ => rfl)) pa_nil))))) (pss_one (ps_ret pe_bl)) pss_nil)))
      (pss_one (ps_ret pe_bl))), ?_⟩
    refine ⟨_, rfl, _, _, _, _, true, rfl, .ty "list", .base (.lst ea), kit_same, true, rfl, iteF ?_⟩
    refine ⟨_, rfl, a, xs, rfl, .inl (SqL.of ea), _, rfl, b, ys, rfl, .inl (SqL.of eb), rfl, _, rfl, decF (by rw [la, lb]) ?_⟩
    refine ⟨_, rfl, b, ys, rfl, .inl (SqL.of eb), _, rfl, (small62 (n := ys.length) (by omega)).1, (small62 (n := ys.length) (by omega)).2, ?_⟩
    refine for_range (fun i σ H' => ∃ v2, σ = [some (.ref a), some (.ref b), v2] ∧ H' = H) ⟨none, rfl, rfl⟩ ?_ ?_
    · rintro i σ H2 hi ⟨v2, rfl, rfl⟩
      have hi' : i < n := by omega
      have e0 : (0 : Int) + (i : Int) = (i : Int) := by omega
      obtain ⟨c, c1, hc⟩ := ka i hi'
      obtain ⟨d, d1, hd⟩ := kb i hi'
      refine ⟨_, rfl, _, rfl, a, xs, _, _, rfl, rfl, SqL.of ea, (by rw [e0]; exact c1), _, rfl, _, rfl, b, ys, _, _, rfl, rfl, SqL.of eb, (by rw [e0]; exact d1), ?_⟩
      exact ⟨c, d, g i, rfl, hc, hd, hg i hi', true, rfl, iteF ⟨_, rfl, rfl⟩⟩
    · rintro σ H2 ⟨v2, rfl, rfl⟩
      exact q
theorem scIsMat : FnScope ["_law_xs", "_law_rows", "_law_k"] ["_law_xs", "_law_rows"] (defScope sIsMat) := ⟨rfl, rfl, rfl, by decide +kernel, rfl, by decide +kernel, by decide +kernel⟩
theorem ok_ismat {f C fN : Addr} {fd fdN : FuncData} (F : Fun K "_law_is_matrix" "_law_is_matrix" sIsMat f fd) (W : Tools P w K mg base C)
    (GN : FnOk P w K mg base CX0 4 fN fdN ["_law_xs", "_law_pairs_here"] (spIsVec C)) (kN : PySem.W.keepIn K (.ref fN) = true) (bN : Binds K fdN ["_law_xs", "_law_pairs_here"] []) (mN : mg "_law_is_vector" = some (.ref fN)) : FnOk P w K mg base CX0 5 f fd ["_law_xs", "_law_rows"] (spIsMat C) := by
  refine F.ok scIsMat (fun vs H Q E h => ?_) (fun cdv A outer s H vs Q E hr h => ?_)
  · obtain ⟨a, b, m, n, G, rfl, _⟩ := h
    rfl
  · obtain ⟨a, b, m, n, G, rfl, hm, hn, ra, rb, hg, q⟩ := h
    obtain ⟨xs, ea, la, ka⟩ := LstOf.at ra
    obtain ⟨ys, eb, lb, kb⟩ := LstOf.at rb
    refine ⟨_, pss_cons (ps_if (PW.pt (pw_or (pt_not (pt_val (pe_callB call_isi (by rfl) W.isi (by decide +kernel) (pa_cons (pv 0) (pa_cons (pe_bltn (v := .ty "list") (by rfl) W.lst (by decide +kernel) rfl) pa_nil))))) (pw_or1 (pt_cmpR op_ne (pe_callB call_len_seq (by rfl) W.len PySem.boot_len (pa_cons (pv 0) pa_nil)) (pe_callB call_len_seq (by rfl) W.len PySem.boot_len (pa_cons (pv 1) pa_nil)) (nomark _)))))
        (pss_one (ps_ret pe_bl)) pss_nil)
      (pss_cons (ps_for PassesOwn.never rfl (pi_range1 (by rfl) W.rng (pa_cons (pe_callB call_len_seq (by rfl) W.len PySem.boot_len (pa_cons (pv 1) pa_nil)) pa_nil)) (pg_name (i := 2) scIsMat.nd rfl (.inl rfl))
        (pss_one (ps_if (pt_not (pt_val (pe_call GN hr (by rfl) mN kN bN .nil pass0 (pa_cons (pe_ix ix_list (pv 0) (pv 2) (fun _ _ => rfl)) (pa_cons (pe_ix ix_list (pv 1) (pv 2) (fun _ _ => rfl)) pa_nil))))) (pss_one (ps_ret pe_bl)) pss_nil)))
      (pss_one (ps_ret pe_bl))), ?_⟩
    refine ⟨_, rfl, _, _, _, _, true, rfl, .ty "list", .base (.lst ea), kit_same, true, rfl, iteF ?_⟩
    refine ⟨_, rfl, a, xs, rfl, .inl (SqL.of ea), _, rfl, b, ys, rfl, .inl (SqL.of eb), rfl, _, rfl, decF (by rw [la, lb]) ?_⟩
    refine ⟨_, rfl, b, ys, rfl, .inl (SqL.of eb), _, rfl, (small62 (n := ys.length) (by omega)).1, (small62 (n := ys.length) (by omega)).2, ?_⟩
    refine for_range (fun i σ H' => ∃ v2, σ = [some (.ref a), some (.ref b), v2] ∧ H' = H) ⟨none, rfl, rfl⟩ ?_ ?_
    · rintro i σ H2 hi ⟨v2, rfl, rfl⟩
      have hi' : i < m := by omega
      have e0 : (0 : Int) + (i : Int) = (i : Int) := by omega
      obtain ⟨c, c1, hc⟩ := ka i hi'
      obtain ⟨d, d1, hd⟩ := kb i hi'
      refine ⟨_, rfl, _, rfl, a, xs, _, _, rfl, rfl, SqL.of ea, (by rw [e0]; exact c1), _, rfl, _, rfl, b, ys, _, _, rfl, rfl, SqL.of eb, (by rw [e0]; exact d1), ?_⟩
      exact ⟨c, d, n, G i, rfl, hn, hc, hd, hg i hi', true, rfl, iteF ⟨_, rfl, rfl⟩⟩
    · rintro σ H2 ⟨v2, rfl, rfl⟩
      exact q
theorem scRead : FnScope ["_law_xs", "_law_count", "_law_x"] ["_law_xs", "_law_count"] (defScope sRead) := ⟨rfl, rfl, rfl, by decide +kernel, rfl, by decide +kernel, by decide +kernel⟩
theorem ok_read {f C fN : Addr} {fd fdN : FuncData} (F : Fun K "_law_read" "_law_read" sRead f fd) (W : Tools P w K mg base C)
    (GN : FnOk P w K mg base CX0 2 fN fdN ["_law_x"] (spNumber C)) (kN : PySem.W.keepIn K (.ref fN) = true) (bN : Binds K fdN ["_law_x"] []) (mN : mg "_law_is_number" = some (.ref fN)) : FnOk P w K mg base CX0 3 f fd ["_law_xs", "_law_count"] (spRead C) := by
  refine F.ok scRead (fun vs H Q E h => ?_) (fun cdv A outer s H vs Q E hr h => ?_)
  · obtain ⟨a, n, g, rfl, _⟩ := h
    rfl
  · obtain ⟨a, n, g, rfl, hn, ra, q⟩ := h
    obtain ⟨xs, ea, la, ka⟩ := id ra
    refine ⟨_, pss_cons (ps_if (PW.pt (pw_or (pt_not (pt_val (pe_callB call_isi (by rfl) W.isi (by decide +kernel) (pa_cons (pv 0) (pa_cons (pe_bltn (v := .ty "list") (by rfl) W.lst (by decide +kernel) rfl) pa_nil))))) (pw_or1 (pt_cmpR op_ne (pe_callB call_len_seq (by rfl) W.len PySem.boot_len (pa_cons (pv 0) pa_nil)) (pv 1) (nomark _)))))
        (pss_one (ps_ret pe_non)) pss_nil)
      (pss_cons (ps_for PassesOwn.never rfl (pi_list (pv 0)) (pg_name (i := 2) scRead.nd rfl (.inl rfl))
        (pss_one (ps_if (pt_not (pt_val (pe_call GN hr (by rfl) mN kN bN .nil pass0 (pa_cons (pv 2) pa_nil)))) (pss_one (ps_ret pe_non)) pss_nil)))
      (pss_one (ps_ret (pe_lc (own := [("_law_x", 2)]) (g := gName 2) (tt := tYes) rfl scRead.nd (pi_list (pv 0)) (blkOk_by (N := ["_law_xs", "_law_count", "_law_x"]) (sc := defScope sRead) (by decide +kernel)) (fun _ _ _ _ _ => pg_name (i := 2) scRead.nd rfl (Or.inl rfl)) (fun _ _ _ _ _ => pts_nil)
        (fun _ _ _ _ _ => pe_tup (pa_cons (te := tFld K (tVar 2) "num") (pe_fld (pv 2) rfl) (pa_cons (te := tFld K (tVar 2) "den") (pe_fld (pv 2) rfl) pa_nil))))))), ?_⟩
    refine ⟨_, rfl, _, _, _, _, true, rfl, .ty "list", .base (.lst ea), kit_same, true, rfl, iteF ?_⟩
    refine ⟨_, rfl, a, xs, rfl, .inl (SqL.of ea), _, rfl, rfl, _, rfl, decF (by rw [la]) ?_⟩
    refine ⟨_, rfl, a, rfl, ⟨_, SqL.of ea⟩, for_list (K := K) (a := a) (xs := xs) (fun i σ H' => ∃ v2, σ = [some (.ref a), some (.int n), v2] ∧ H' = H) ⟨none, rfl, rfl⟩ (fun i σ H' _ ⟨_, _, e⟩ => by rw [e]; exact SqL.of ea) ?_ ?_⟩
    · rintro i y σ H2 hy ⟨v2, rfl, rfl⟩
      have hi : i < n := by have := (List.getElem?_eq_some_iff.mp hy).1; omega
      obtain ⟨c, c1, hc⟩ := ka i hi
      have ey : y = .ref c := Option.some.inj (hy.symm.trans c1)
      subst ey
      exact ⟨_, rfl, c, g i, rfl, hc, true, rfl, iteF ⟨_, rfl, rfl⟩⟩
    · rintro σ H2 ⟨v2, rfl, rfl⟩
      refine ⟨_, rfl, a, rfl, ⟨_, SqL.of ea⟩, ?_⟩
      intro D nD
      refine lc_list (K := K) (a := a) (xs := xs) (Bld (pPa fun i => ((g i).num, ((g i).den : Int))) H2 D) (bld_zero nD) (fun i H4 _ B => SqL.of (B.1 _ _ ea)) ?_ ?_
      · intro i y H4 hy B
        have hi : i < n := by have := (List.getElem?_eq_some_iff.mp hy).1; omega
        obtain ⟨c, c1, hc⟩ := ka i hi
        have ey : y = .ref c := Option.some.inj (hy.symm.trans c1)
        subst ey
        obtain ⟨dx, ec⟩ := Fr.same hc B.1
        refine ⟨rfl, yesT ?_⟩
        refine ⟨_, rfl, c, C, dx, _, _, rfl, ec, W.T.cl, W.T.nN, ff_num _ _, _, rfl, c, C, dx, _, _, rfl, ec, W.T.cl, W.T.nD, ff_den _ _, (by show 2 ≤ sizeLine; decide), fun p np => ?_⟩
        obtain ⟨_, ws, ew, _⟩ := id B
        have s5 : Same H4 (upd H4 p (.tup [.int (g i).num, .int ((g i).den : Int)])) := same_upd np
        exact B.put (mon_pa _) nD s5 (hide_tup upd_same (s5 _ _ ew)) (by omega)
      · intro H4 B
        obtain ⟨s4, L⟩ := B.done (mon_pa _)
        rw [la] at L
        exact q D H4 s4 nD L
theorem scIsSol : FnScope ["_law_found", "_law_rows", "_law_right", "_law_k", "_law_product"] ["_law_found", "_law_rows", "_law_right"] (defScope sIsSol) := ⟨rfl, rfl, rfl, by decide +kernel, rfl, by decide +kernel, by decide +kernel⟩
theorem ok_issol {f C fD : Addr} {fd fdD : FuncData} (F : Fun K "_law_is_solution" "_law_is_solution" sIsSol f fd) (W : Tools P w K mg base C)
    (GD : FnOk P w K mg base CX0 2 fD fdD ["_law_xs", "_law_ys"] spLdot) (kD : PySem.W.keepIn K (.ref fD) = true) (bD : Binds K fdD ["_law_xs", "_law_ys"] []) (mD : mg "_law_dot" = some (.ref fD)) : FnOk P w K mg base CX0 3 f fd ["_law_found", "_law_rows", "_law_right"] spIsSol := by
  refine F.ok scIsSol (fun vs H Q E h => ?_) (fun cdv A outer s H vs Q E hr h => ?_)
  · obtain ⟨a, b, c, m, n, x, G, g, rfl, _⟩ := h
    rfl
  · obtain ⟨a, b, c, m, n, x, G, g, rfl, hm, hn, ra, rb, rc, pG, pg, sx, eq, q⟩ := h
    obtain ⟨ys, eb, lb, kb⟩ := LstOf.at rb
    obtain ⟨zs, ec, lc, kc⟩ := LstOf.at rc
    refine ⟨_, pss_cons (ps_for PassesOwn.never rfl (pi_range1 (by rfl) W.rng (pa_cons (pe_callB call_len_seq (by rfl) W.len PySem.boot_len (pa_cons (pv 1) pa_nil)) pa_nil)) (pg_name (i := 3) scIsSol.nd rfl (.inl rfl))
        (pss_cons (ps_set (i := 4) scIsSol.nd rfl (.inl rfl) (pe_call GD hr (by rfl) mD kD bD .nil pass0 (pa_cons (pe_ix ix_list (pv 1) (pv 3) (fun _ _ => rfl)) (pa_cons (pv 0) pa_nil))))
        (pss_one (ps_if (pt_cmpR op_ne (pe_op op_mulW (pe_ix ix_tup (pv 4) pe_int (fun _ _ => rfl)) (pe_ix ix_tup (pe_ix ix_list (pv 2) (pv 3) (fun _ _ => rfl)) pe_int (fun _ _ => rfl))) (pe_op op_mulW (pe_ix ix_tup (pe_ix ix_list (pv 2) (pv 3) (fun _ _ => rfl)) pe_int (fun _ _ => rfl)) (pe_ix ix_tup (pv 4) pe_int (fun _ _ => rfl))) (nomark _))
          (pss_one (ps_ret pe_bl)) pss_nil))))
      (pss_one (ps_ret pe_bl)), ?_⟩
    refine ⟨_, rfl, b, ys, rfl, .inl (SqL.of eb), _, rfl, (small62 (n := ys.length) (by omega)).1, (small62 (n := ys.length) (by omega)).2, ?_⟩
    refine for_range (fun i σ H' => ∃ v3 v4, σ = [some (.ref a), some (.ref b), some (.ref c), v3, v4] ∧ Same H H') ⟨none, none, rfl, Same.refl H⟩ ?_ ?_
    · rintro i σ H2 hi ⟨v3, v4, rfl, s2⟩
      have hi' : i < m := by omega
      have e0 : (0 : Int) + (i : Int) = (i : Int) := by omega
      obtain ⟨r, r1, hr'⟩ := kb i hi'
      obtain ⟨d, d1, hd⟩ := kc i hi'
      refine ⟨_, rfl, _, rfl, b, ys, _, _, rfl, rfl, SqL.of (s2 _ _ eb), (by rw [e0]; exact r1), _, rfl, ?_⟩
      refine ⟨r, a, n, G i, _, (fun j => pq (G i j)), x, 4, 4141, rfl, hn, PRow.same hr' s2, PRow.same ra s2, fun j hj => (pG i hi' j hj).vl, fun j hj => (sx j hj).vl, by decide, fun p N D H3 s3 hp vl => ?_⟩
      rw [eq i hi'] at vl
      have s23 := s2.trans s3
      have v2 := (pg i hi').vl
      refine ⟨_, rfl, p, _, _, _, rfl, rfl, SqT.of hp, atI_nat (j := 0) rfl, _, rfl, _, rfl, c, zs, _, _, rfl, rfl, SqL.of (s23 _ _ ec), (by rw [e0]; exact d1), d, _, _, _, rfl, rfl, SqT.of (s23 _ _ hd), atI_nat (j := 1) rfl, _, _, rfl, rfl, wmul vl.bN v2.bD (by decide), ?_⟩
      refine ⟨_, rfl, _, rfl, c, zs, _, _, rfl, rfl, SqL.of (s23 _ _ ec), (by rw [e0]; exact d1), d, _, _, _, rfl, rfl, SqT.of (s23 _ _ hd), atI_nat (j := 0) rfl, _, rfl, p, _, _, _, rfl, rfl, SqT.of hp, atI_nat (j := 1) rfl, _, _, rfl, rfl, wmul v2.bN vl.bD (by decide), rfl, _, rfl, decF (congrArg V.int (vl.cross v2)) ?_⟩
      exact ⟨_, _, rfl, s23⟩
    · rintro σ H2 ⟨v3, v4, rfl, s2⟩
      exact q H2 s2
theorem scIsRef : FnScope ["_law_found", "_law_rows", "_law_right", "_law_width", "_law_k", "_law_row"] ["_law_found", "_law_rows", "_law_right", "_law_width"] (defScope sIsRef) := ⟨rfl, rfl, rfl, by decide +kernel, rfl, by decide +kernel, by decide +kernel⟩
theorem ok_isref {f C fD : Addr} {fd fdD : FuncData} (F : Fun K "_law_is_refutation" "_law_is_refutation" sIsRef f fd) (W : Tools P w K mg base C)
    (GD : FnOk P w K mg base CX0 2 fD fdD ["_law_xs", "_law_ys"] spLdot) (kD : PySem.W.keepIn K (.ref fD) = true) (bD : Binds K fdD ["_law_xs", "_law_ys"] []) (mD : mg "_law_dot" = some (.ref fD)) : FnOk P w K mg base CX0 3 f fd ["_law_found", "_law_rows", "_law_right", "_law_width"] spIsRef := by
  refine F.ok scIsRef (fun vs H Q E h => ?_) (fun cdv A outer s H vs Q E hr h => ?_)
  · obtain ⟨a, b, c, m, n, x, G, g, rfl, _⟩ := h
    rfl
  · obtain ⟨a, b, c, m, n, x, G, g, rfl, hm, hn, ra, rb, rc, pG, pg, sx, eq, hne, q⟩ := h
    obtain ⟨ys, eb, lb, kb⟩ := id rb
    refine ⟨_, pss_cons (ps_for PassesOwn.never rfl (pi_range1 (by rfl) W.rng (pa_cons (pv 3) pa_nil)) (pg_name (i := 4) scIsRef.nd rfl (.inr rfl))
        (pss_one (ps_if (pt_cmpR op_ne (pe_ix ix_tup (pe_call GD hr (by rfl) mD kD bD .nil pass0 (pa_cons (pv 0) (pa_cons
            (pe_lc (own := [("_law_row", 5)]) (g := gName 5) (tt := tYes) rfl scIsRef.nd (pi_list (pv 1)) (blkOk_by (N := ["_law_found", "_law_rows", "_law_right", "_law_width", "_law_k", "_law_row"]) (sc := defScope sIsRef) (by decide +kernel)) (fun _ _ _ _ _ => pg_name (i := 5) scIsRef.nd rfl (Or.inl rfl)) (fun _ _ _ _ _ => pts_nil)
              (fun _ _ _ _ _ => pe_ix (r := rIxL K) ix_list (pv 5) (pv 4) (fun _ _ => rfl))) pa_nil))) pe_int (fun _ _ => rfl)) pe_int (nomark _))
          (pss_one (ps_ret pe_bl)) pss_nil)))
      (pss_one (ps_ret (pe_cmpR op_ne (pe_ix ix_tup (pe_call GD hr (by rfl) mD kD bD .nil pass0 (pa_cons (pv 0) (pa_cons (pv 2) pa_nil))) pe_int (fun _ _ => rfl)) pe_int (nomark _)))), ?_⟩
    refine ⟨_, rfl, _, rfl, (small62 (n := n) (by omega)).1, (small62 (n := n) (by omega)).2, ?_⟩
    refine for_range (fun i σ H' => ∃ v4, σ = [some (.ref a), some (.ref b), some (.ref c), some (.int n), v4, none] ∧ Same H H') ⟨none, rfl, Same.refl H⟩ ?_ ?_
    · rintro j σ H2 hj ⟨v4, rfl, s2⟩
      have hj' : j < n := by omega
      have e0 : (0 : Int) + (j : Int) = (j : Int) := by omega
      refine ⟨_, rfl, _, rfl, b, rfl, ⟨_, SqL.of (s2 _ _ eb)⟩, ?_⟩
      intro D nD
      refine lc_list (K := K) (a := b) (xs := ys) (Bld (pPa fun i => G i j) H2 D) (bld_zero nD) (fun i H4 _ B => SqL.of (B.1 _ _ (s2 _ _ eb))) ?_ ?_
      · intro i y H4 hy B
        have hi : i < m := by have := (List.getElem?_eq_some_iff.mp hy).1; omega
        obtain ⟨r, r1, hr'⟩ := kb i hi
        have ey : y = .ref r := Option.some.inj (hy.symm.trans r1)
        subst ey
        have s24 := s2.trans B.1
        obtain ⟨us, eu, lu, ku⟩ := LstOf.at hr'
        obtain ⟨d, d1, hd⟩ := ku j hj'
        refine ⟨rfl, yesT ?_⟩
        refine ⟨_, rfl, _, rfl, r, us, _, _, rfl, rfl, SqL.of (s24 _ _ eu), (by rw [e0]; exact d1), ?_⟩
        obtain ⟨_, ws, ew, _⟩ := id B
        exact B.put (mon_pa _) nD (Same.refl H4) (hide_tup (s24 _ _ hd) ew) (by omega)
      · intro H4 B
        obtain ⟨s4, L⟩ := B.done (mon_pa _)
        rw [lb] at L
        have s24 := s2.trans s4
        refine ⟨a, D, m, _, _, x, (fun i => pq (G i j)), 4141, 4, rfl, hm, PRow.same ra s24, L, fun i hi => (sx i hi).vl, fun i hi => (pG i hi j hj').vl, by decide, fun p N E' H5 s5 hp vl => ?_⟩
        rw [eq j hj'] at vl
        refine ⟨p, _, _, _, rfl, rfl, SqT.of hp, atI_nat (j := 0) rfl, rfl, _, rfl, decF (congrArg V.int (vl.zero.mpr rfl)) ?_⟩
        exact ⟨_, rfl, s24.trans s5⟩
    · rintro σ H2 ⟨v4, rfl, s2⟩
      refine ⟨_, rfl, _, rfl, ?_⟩
      refine ⟨a, c, m, _, g, x, (fun i => pq (g i)), 4141, 4, rfl, hm, PRow.same ra s2, PRow.same rc s2, fun i hi => (sx i hi).vl, fun i hi => (pg i hi).vl, by decide, fun p N E' H5 s5 hp vl => ?_⟩
      refine ⟨p, _, _, _, rfl, rfl, SqT.of hp, atI_nat (j := 0) rfl, rfl, ?_⟩
      have hN : N ≠ 0 := fun z => hne (vl.zero.mp z)
      have e : (!decide (V.int N = V.int 0)) = true := by rw [decide_eq_false fun h => hN (V.int.inj h)]; rfl
      show Q (.bl (!decide (V.int N = V.int 0))) H5
      rw [e]
      exact q H5 (s2.trans s5)
end
end Ks
/-! part KsK -/
set_option maxRecDepth 100000
set_option maxHeartbeats 4000000
namespace Ks
open PySem L2
/-- a def of the top that keeps its promise -/
structure Fnc (P : Program) (w : World) (K : PySem.W.Frag) (mg : Str → Option Value) (base : Heap) (x : Str) (k : Nat) (ps : List Str) (sp : Sp) where
  f : Addr
  fd : FuncData
  G : FnOk P w K mg base CX0 k f fd ps sp
  kp : PySem.W.keepIn K (.ref f) = true
  b : Binds K fd ps []
  m : mg x = some (.ref f)
def spLaw (K : PySem.W.Frag) : Sp := fun vs H Q _ => ∃ (a : Addr) (ns : List Int), vs = [.ref a] ∧ SqL K H a (ns.map V.int) ∧ ns.length ≤ 63 ∧ ∀ H', Q (.bl true) H'
abbrev NL : List Str := ["_law_script", "_law_sizes", "_law_height", "_law_width", "_law_style", "_law_copies", "_law_rows", "_law_right", "_law_row", "_law_handed", "_law_actual", "_law_found", "_law_d", "_law_k"]
theorem scLaw : FnScope NL ["_law_script"] (defScope sLaw) := ⟨rfl, rfl, rfl, by decide +kernel, rfl, by decide +kernel, by decide +kernel⟩
/-! ### the rows while they may change -/
theorem hide_upd_ne {H : Hp} {D r : Addr} {o : HO} (h : r ≠ D) : hide (upd H r o) D = upd (hide H D) r o := by
  funext b
  by_cases e : b = D
  · subst e; rw [hide_same, upd_ne (fun z => h z.symm), hide_same]
  · rw [hide_ne e]
    by_cases e2 : b = r
    · subst e2; rw [upd_same, upd_same]
    · rw [upd_ne e2, upd_ne e2, hide_ne e]
theorem grow_upd {H : Hp} {b r : Addr} {n k : Nat} {ys ys' : List V} (h : GRow H b n) (hr : H r = some (.lst ys)) (l : ys.length = k) (l' : ys'.length = k) (g : ∀ i, i < k → ∃ t, ys'[i]? = some (.ref t) ∧ ∃ p, Pa H t p ∧ Pr p) : GRow (upd H r (.lst ys')) b n := by
  have st : ∀ {t : Addr} {p : Int × Int}, Pa H t p → Pa (upd H r (.lst ys')) t p := fun {t p} e => by
    show upd H r (.lst ys') t = _
    rw [upd_ne (ne_of e hr (by intro z; cases z))]; exact e
  obtain ⟨zs, ez, lz, kz⟩ := h
  by_cases e : b = r
  · subst e
    rw [hr] at ez
    have e2 : ys = zs := by injection (Option.some.inj ez)
    subst e2
    refine ⟨ys', upd_same, by omega, fun i hi => ?_⟩
    obtain ⟨t, t1, p, t2, t3⟩ := g i (by omega)
    exact ⟨t, t1, p, st t2, t3⟩
  · refine ⟨zs, by rw [upd_ne e]; exact ez, lz, fun i hi => ?_⟩
    obtain ⟨t, t1, p, t2, t3⟩ := kz i hi
    exact ⟨t, t1, p, st t2, t3⟩
/-- one item stored over another one -/
theorem good_set {H : Hp} {ys : List V} {k i j : Nat} {y : V} (l : ys.length = k) (g : ∀ i, i < k → ∃ t, ys[i]? = some (.ref t) ∧ ∃ p, Pa H t p ∧ Pr p) (hj : ys[j]? = some y) : ∀ q, q < k → ∃ t, (ys.set i y)[q]? = some (.ref t) ∧ ∃ p, Pa H t p ∧ Pr p := fun q hq => by
  by_cases e : q = i
  · subst e
    obtain ⟨t, t1, t2⟩ := g j (by have := (List.getElem?_eq_some_iff.mp hj).1; omega)
    have ey : y = .ref t := Option.some.inj (hj.symm.trans t1)
    exact ⟨t, by rw [List.getElem?_set_self (by omega), ey], t2⟩
  · obtain ⟨t, t1, t2⟩ := g q hq
    exact ⟨t, by rw [List.getElem?_set_ne (fun z => e z.symm)]; exact t1, t2⟩
/-- the rows stand at R, the right side at r -/
def Mid (H : Hp) (R r : Addr) (m n : Nat) : Prop := ∃ xs : List V, H R = some (.lst xs) ∧ xs.length = m ∧ (∀ i, i < m → ∃ b, xs[i]? = some (.ref b) ∧ GRow (hide H R) b n) ∧ GRow (hide H R) r m
theorem choose_row {H : Hp} {a : Addr} {n : Nat} (h : GRow H a n) : ∃ g : Nat → Int × Int, PRow H a n g ∧ ∀ i, i < n → Pr (g i) := by
  obtain ⟨xs, e, l, k⟩ := h
  have key : ∀ i, ∃ p : Int × Int, i < n → ∃ b, xs[i]? = some (.ref b) ∧ Pa H b p ∧ Pr p := fun i => by
    by_cases hi : i < n
    · obtain ⟨b, b1, p, b2, b3⟩ := k i hi
      exact ⟨p, fun _ => ⟨b, b1, b2, b3⟩⟩
    · exact ⟨(0, 0), fun z => absurd z hi⟩
  refine ⟨fun i => Classical.choose (key i), ⟨xs, e, l, fun i hi => ?_⟩, fun i hi => ?_⟩
  · obtain ⟨b, b1, b2, _⟩ := Classical.choose_spec (key i) hi
    exact ⟨b, b1, b2⟩
  · obtain ⟨b, _, _, b3⟩ := Classical.choose_spec (key i) hi
    exact b3
theorem grow_same {H H' : Hp} {a : Addr} {n : Nat} (h : GRow H a n) (s : Same H H') : GRow H' a n := LstOf.same mon_gp h s
theorem Mid.fin {H : Hp} {R r : Addr} {m n : Nat} (h : Mid H R r m n) : ∃ G g, PTab H R m n G ∧ PRow H r m g ∧ (∀ i, i < m → ∀ j, j < n → Pr (G i j)) ∧ ∀ i, i < m → Pr (g i) := by
  obtain ⟨xs, e, l, k, hr⟩ := h
  obtain ⟨g, g1, g2⟩ := choose_row (grow_same hr (hide_sub _ _))
  have key : ∀ i, ∃ G : Nat → Int × Int, i < m → (∃ b, xs[i]? = some (.ref b) ∧ PRow H b n G) ∧ ∀ j, j < n → Pr (G j) := fun i => by
    by_cases hi : i < m
    · obtain ⟨b, b1, b2⟩ := k i hi
      obtain ⟨G, G1, G2⟩ := choose_row (grow_same b2 (hide_sub _ _))
      exact ⟨G, fun _ => ⟨⟨b, b1, G1⟩, G2⟩⟩
    · exact ⟨fun _ => (0, 0), fun z => absurd z hi⟩
  exact ⟨fun i => Classical.choose (key i), g, ⟨xs, e, l, fun i hi => (Classical.choose_spec (key i) hi).1⟩, g1, fun i hi => (Classical.choose_spec (key i) hi).2, g2⟩
section
variable {P : Program} {w : World} {K : PySem.W.Frag} {mg : Str → Option Value} {base : Heap} {C : Addr}
/-- the end of the law: the answer's look -/
theorem law_look (W : Tools P w K mg base C)
    (fM : Fnc P w K mg base "_law_is_matrix" 5 ["_law_xs", "_law_rows"] (spIsMat C)) (fV : Fnc P w K mg base "_law_is_vector" 4 ["_law_xs", "_law_pairs_here"] (spIsVec C)) (fR : Fnc P w K mg base "_law_read" 3 ["_law_xs", "_law_count"] (spRead C))
    (fS : Fnc P w K mg base "_law_is_solution" 3 ["_law_found", "_law_rows", "_law_right"] spIsSol) (fT : Fnc P w K mg base "_law_is_refutation" 3 ["_law_found", "_law_rows", "_law_right", "_law_width"] spIsRef)
    {f : Addr} {cdv : Value} {A : Around} {outer : List Env} {s : Shared} {H : Hp} {E : XK} (hr : Room 7 (cxOf CX0 P w K mg base NL "law" (defScope sLaw) f cdv A outer s H E).A) :
    ∃ t, PSs (cxOf CX0 P w K mg base NL "law" (defScope sLaw) f cdv A outer s H E).nox ((defBody sLaw).drop 11) t ∧
      ∀ (D : Ends) (a S R r l p x h0 h1 : Addr) (m n : Nat) (st cp : Int) (v8 : Option V) (G : Nat → Nat → Int × Int) (g : Nat → Int × Int) (z : Str) (H' : Hp), (∀ H', D.rt (.bl true) H') → m ≤ 11 → n ≤ 11 →
        PTab H' R m n G → PRow H' r m g → (∀ i, i < m → ∀ j, j < n → Pr (G i j)) → (∀ i, i < m → Pr (g i)) → H' l = some (.lst [.ref h0, .ref h1]) → Tab C H' h0 m n (fun i j => pq (G i j)) → Row C H' h1 m (fun i => pq (g i)) →
        H' p = some (.tup [.str z, .ref x]) →
        ((z = "solution" ∧ ∃ q : Nat → Rat, Row C H' x n q ∧ (∀ j, j < n → Sz 4141 (q j)) ∧ ∀ i, i < m → sm n (fun j => pq (G i j) * q j) = pq (g i)) ∨
          (z = "refuted" ∧ ∃ q : Nat → Rat, Row C H' x m q ∧ (∀ j, j < m → Sz 4141 (q j)) ∧ (∀ j, j < n → sm m (fun k => q k * pq (G k j)) = 0) ∧ sm m (fun k => q k * pq (g k)) ≠ 0)) →
        t D [some (.ref a), some (.ref S), some (.int (m : Int)), some (.int (n : Int)), some (.int st), some (.int cp), some (.ref R), some (.ref r), v8, some (.ref l), some (.ref p), none, none, none] H' := by
  refine ⟨_, pss_cons (ps_if (PW.pt (pw_or (pt_not (pt_val (pe_call fM.G (hr.mono (by decide)) (by rfl) fM.m fM.kp fM.b .nil pass0 (pa_cons (pe_ix ix_list (pv 9) pe_int (fun _ _ => rfl)) (pa_cons (pv 6) pa_nil)))))
        (pw_or1 (pt_not (pt_val (pe_call fV.G (hr.mono (by decide)) (by rfl) fV.m fV.kp fV.b .nil pass0 (pa_cons (pe_ix ix_list (pv 9) pe_int (fun _ _ => rfl)) (pa_cons (pv 7) pa_nil)))))))) (pss_one (ps_ret pe_bl)) pss_nil)
    (pss_cons (ps_if (PW.pt (pw_or (pt_not (pt_val (pe_callB call_isi (by rfl) W.isi (by decide +kernel) (pa_cons (pv 10) (pa_cons (pe_bltn (v := .ty "tuple") (by rfl) W.tup (by decide +kernel) rfl) pa_nil)))))
        (pw_or1 (pt_cmpR op_ne (pe_callB call_len_seq (by rfl) W.len PySem.boot_len (pa_cons (pv 10) pa_nil)) pe_int (nomark _))))) (pss_one (ps_ret pe_bl)) pss_nil)
    (pss_cons (ps_if (pt_cmpR op_eq (pe_ix ix_tup (pv 10) pe_int (fun _ _ => rfl)) pe_str (nomark _))
      (pss_cons (ps_set (i := 11) scLaw.nd rfl (.inl rfl) (pe_call fR.G (hr.mono (by decide)) (by rfl) fR.m fR.kp fR.b .nil pass0 (pa_cons (pe_ix ix_tup (pv 10) pe_int (fun _ _ => rfl)) (pa_cons (pv 3) pa_nil))))
      (pss_one (ps_ret (pe_and (pe_cmp (pc_notN (pv 11)) rfl) (pe_one (pe_call fS.G (hr.mono (by decide)) (by rfl) fS.m fS.kp fS.b .nil pass0 (pa_cons (pv 11) (pa_cons (pv 6) (pa_cons (pv 7) pa_nil)))))))))
      pss_nil)
    (pss_cons (ps_set (i := 11) scLaw.nd rfl (.inl rfl) (pe_call fR.G (hr.mono (by decide)) (by rfl) fR.m fR.kp fR.b .nil pass0 (pa_cons (pe_ix ix_tup (pv 10) pe_int (fun _ _ => rfl)) (pa_cons (pv 2) pa_nil))))
    (pss_one (ps_ret (pe_and (pe_cmpR op_eq (pe_ix ix_tup (pv 10) pe_int (fun _ _ => rfl)) pe_str (nomark _)) (pe_and (pe_cmp (pc_notN (pv 11)) rfl)
      (pe_one (pe_call fT.G (hr.mono (by decide)) (by rfl) fT.m fT.kp fT.b .nil pass0 (pa_cons (pv 11) (pa_cons (pv 6) (pa_cons (pv 7) (pa_cons (pv 3) pa_nil))))))))))))), ?_⟩
  intro D a S R r l p x h0 h1 m n st cp v8 G g z H' q hm hn tR tr pG pg el t0 t1 ep ans
  refine ⟨_, rfl, l, _, _, _, rfl, rfl, SqL.of el, atI_nat (j := 0) rfl, _, rfl, h0, R, m, n, G, rfl, by omega, by omega, t0, tR, pG, true, rfl, iteF ?_⟩
  refine ⟨_, rfl, l, _, _, _, rfl, rfl, SqL.of el, atI_nat (j := 1) rfl, _, rfl, h1, r, m, g, rfl, by omega, t1, tr, pg, true, rfl, iteF ?_⟩
  refine ⟨_, rfl, _, _, _, _, true, rfl, .ty "tuple", .base (.tup ep), kit_same, true, rfl, iteF ?_⟩
  refine ⟨_, rfl, p, _, rfl, .inr (SqT.of ep), rfl, _, rfl, decF rfl ?_⟩
  refine ⟨_, rfl, p, _, _, _, rfl, rfl, SqT.of ep, atI_nat (j := 0) rfl, rfl, _, rfl, ?_⟩
  rcases ans with ⟨rfl, qs, rx, sx, hs⟩ | ⟨rfl, qs, rx, sx, hs, hne⟩
  · have e : decide (V.str ("solution" : Str) = V.str ("solution" : Str)) = true := decide_eq_true rfl
    show if decide (V.str ("solution" : Str) = V.str ("solution" : Str)) = true then _ else _
    rw [e]
    refine iteT ?_
    refine ⟨_, rfl, p, _, _, _, rfl, rfl, SqT.of ep, atI_nat (j := 1) rfl, _, rfl, x, n, qs, rfl, by omega, rx, fun y H2 s2 ny ry => ?_⟩
    refine ⟨_, rfl, _, rfl, iteT ?_⟩
    exact ⟨_, rfl, _, rfl, _, rfl, y, R, r, m, n, qs, G, g, rfl, hm, hn, ry, PTab.same tR s2, PRow.same tr s2, pG, pg, sx, hs, fun H3 _ => q H3⟩
  · have e : decide (V.str ("refuted" : Str) = V.str ("solution" : Str)) = false := decide_eq_false (by intro h; exact absurd (V.str.inj h) (by decide +kernel))
    show if decide (V.str ("refuted" : Str) = V.str ("solution" : Str)) = true then _ else _
    rw [e]
    refine iteF ?_
    refine ⟨_, rfl, p, _, _, _, rfl, rfl, SqT.of ep, atI_nat (j := 1) rfl, _, rfl, x, m, qs, rfl, by omega, rx, fun y H2 s2 ny ry => ?_⟩
    have e2 : decide (V.str ("refuted" : Str) = V.str ("refuted" : Str)) = true := decide_eq_true rfl
    refine ⟨_, rfl, p, _, _, _, rfl, rfl, SqT.of (s2 _ _ ep), atI_nat (j := 0) rfl, rfl, true, congrArg V.bl e2, iteT ?_⟩
    refine ⟨_, rfl, _, rfl, iteT ?_⟩
    exact ⟨_, rfl, _, rfl, _, rfl, _, rfl, y, R, r, m, n, qs, G, g, rfl, hm, hn, ry, PTab.same tR s2, PRow.same tr s2, pG, pg, sx, hs, hne, fun H3 _ => q H3⟩
end
end Ks
/-! part KsL -/
set_option maxRecDepth 100000
set_option maxHeartbeats 4000000
namespace Ks
open PySem L2
section
variable {P : Program} {w : World} {K : PySem.W.Frag} {mg : Str → Option Value} {base : Heap} {C : Addr}
/-- from the made matrix on -/
theorem law_solve (W : Tools P w K mg base C)
    (fM : Fnc P w K mg base "_law_is_matrix" 5 ["_law_xs", "_law_rows"] (spIsMat C)) (fV : Fnc P w K mg base "_law_is_vector" 4 ["_law_xs", "_law_pairs_here"] (spIsVec C)) (fR : Fnc P w K mg base "_law_read" 3 ["_law_xs", "_law_count"] (spRead C))
    (fS : Fnc P w K mg base "_law_is_solution" 3 ["_law_found", "_law_rows", "_law_right"] spIsSol) (fT : Fnc P w K mg base "_law_is_refutation" 3 ["_law_found", "_law_rows", "_law_right", "_law_width"] spIsRef)
    (fMx : Fnc P w K mg base "_law_matrix" 4 ["_law_rows"] (spMatrix C)) (fVc : Fnc P w K mg base "_law_vector" 3 ["_law_pairs_here"] (spVector C)) (fSo : Fnc P w K mg base "solve" 7 ["rows", "right", "width"] (spSolve C))
    {f : Addr} {cdv : Value} {A : Around} {outer : List Env} {s : Shared} {H : Hp} {E : XK} (hr : Room 7 (cxOf CX0 P w K mg base NL "law" (defScope sLaw) f cdv A outer s H E).A) :
    ∃ t, PSs (cxOf CX0 P w K mg base NL "law" (defScope sLaw) f cdv A outer s H E).nox ((defBody sLaw).drop 9) t ∧
      ∀ (D : Ends) (a S R r : Addr) (m n : Nat) (st cp : Int) (v8 : Option V) (H' : Hp), (∀ H', D.rt (.bl true) H') → m ≤ 11 → n ≤ 11 → Mid H' R r m n →
        t D [some (.ref a), some (.ref S), some (.int (m : Int)), some (.int (n : Int)), some (.int st), some (.int cp), some (.ref R), some (.ref r), v8, none, none, none, none, none] H' := by
  obtain ⟨tL, hL, kL⟩ := law_look W fM fV fR fS fT (f := f) (cdv := cdv) (A := A) (outer := outer) (s := s) (H := H) (E := E) hr
  refine ⟨_, pss_cons (ps_set (i := 9) scLaw.nd rfl (.inl rfl) (pe_lst (pa_cons (pe_call fMx.G (hr.mono (by decide)) (by rfl) fMx.m fMx.kp fMx.b .nil pass0 (pa_cons (pv 6) pa_nil)) (pa_cons (pe_call fVc.G (hr.mono (by decide)) (by rfl) fVc.m fVc.kp fVc.b .nil pass0 (pa_cons (pv 7) pa_nil)) pa_nil))))
    (pss_cons (ps_set (i := 10) scLaw.nd rfl (.inl rfl) (pe_call fSo.G hr (by rfl) fSo.m fSo.kp fSo.b .nil pass0 (pa_cons (pe_ix ix_list (pv 9) pe_int (fun _ _ => rfl)) (pa_cons (pe_ix ix_list (pv 9) pe_int (fun _ _ => rfl)) (pa_cons (pv 3) pa_nil)))))
    hL), ?_⟩
  intro D a S R r m n st cp v8 H' q hm hn M
  obtain ⟨G, g, tR, tr, pG, pg⟩ := M.fin
  refine ⟨_, rfl, R, m, n, G, rfl, by omega, by omega, tR, pG, fun x1 H1 s1 nx1 t1 => ?_⟩
  refine ⟨_, rfl, r, m, g, rfl, by omega, PRow.same tr s1, pg, fun x2 H2 s2 nx2 t2 => ?_⟩
  refine ⟨(by show 2 ≤ sizeLine; decide), fun l nl => ?_⟩
  have s3 : Same H2 (upd H2 l (.lst [.ref x1, .ref x2])) := same_upd nl
  have tb := Tab.same (Tab.same t1 s2) s3
  have rb := Row.same t2 s3
  refine ⟨_, rfl, l, _, _, _, rfl, rfl, SqL.of upd_same, atI_nat (j := 0) rfl, _, rfl, l, _, _, _, rfl, rfl, SqL.of upd_same, atI_nat (j := 1) rfl, _, rfl, ?_⟩
  refine ⟨x1, x2, m, n, _, _, rfl, hm, hn, tb, rb, fun i hi j hj => (pG i hi j hj).gd, fun i hi => (pg i hi).gd, fun p x sol H3 s4 ep rx sx eq => ?_, fun p x sol H3 s4 ep rx sx eq hne => ?_⟩
  · exact kL D a S R r l p x x1 x2 m n st cp v8 G g "solution" H3 q hm hn (PTab.same tR (s1.trans (s2.trans (s3.trans s4)))) (PRow.same tr (s1.trans (s2.trans (s3.trans s4)))) pG pg (s4 _ _ upd_same) (Tab.same tb s4) (Row.same rb s4) ep (.inl ⟨rfl, sol, rx, sx, eq⟩)
  · exact kL D a S R r l p x x1 x2 m n st cp v8 G g "refuted" H3 q hm hn (PTab.same tR (s1.trans (s2.trans (s3.trans s4)))) (PRow.same tr (s1.trans (s2.trans (s3.trans s4)))) pG pg (s4 _ _ upd_same) (Tab.same tb s4) (Row.same rb s4) ep (.inr ⟨rfl, sol, rx, sx, eq, hne⟩)
theorem sub_one {m : Nat} (h : 0 < m) : (m : Int) - 1 = ((m - 1 : Nat) : Int) := by omega
/-- the last column made the first one -/
theorem law_cols (W : Tools P w K mg base C)
    (fM : Fnc P w K mg base "_law_is_matrix" 5 ["_law_xs", "_law_rows"] (spIsMat C)) (fV : Fnc P w K mg base "_law_is_vector" 4 ["_law_xs", "_law_pairs_here"] (spIsVec C)) (fR : Fnc P w K mg base "_law_read" 3 ["_law_xs", "_law_count"] (spRead C))
    (fS : Fnc P w K mg base "_law_is_solution" 3 ["_law_found", "_law_rows", "_law_right"] spIsSol) (fT : Fnc P w K mg base "_law_is_refutation" 3 ["_law_found", "_law_rows", "_law_right", "_law_width"] spIsRef)
    (fMx : Fnc P w K mg base "_law_matrix" 4 ["_law_rows"] (spMatrix C)) (fVc : Fnc P w K mg base "_law_vector" 3 ["_law_pairs_here"] (spVector C)) (fSo : Fnc P w K mg base "solve" 7 ["rows", "right", "width"] (spSolve C))
    {f : Addr} {cdv : Value} {A : Around} {outer : List Env} {s : Shared} {H : Hp} {E : XK} (hr : Room 7 (cxOf CX0 P w K mg base NL "law" (defScope sLaw) f cdv A outer s H E).A) :
    ∃ t, PSs (cxOf CX0 P w K mg base NL "law" (defScope sLaw) f cdv A outer s H E).nox ((defBody sLaw).drop 8) t ∧
      ∀ (D : Ends) (a S R r : Addr) (m n : Nat) (st cp : Int) (H' : Hp), (∀ H', D.rt (.bl true) H') → m ≤ 11 → n ≤ 11 → Mid H' R r m n →
        t D [some (.ref a), some (.ref S), some (.int (m : Int)), some (.int (n : Int)), some (.int st), some (.int cp), some (.ref R), some (.ref r), none, none, none, none, none, none] H' := by
  obtain ⟨tL, hL, kL⟩ := law_solve W fM fV fR fS fT fMx fVc fSo (f := f) (cdv := cdv) (A := A) (outer := outer) (s := s) (H := H) (E := E) hr
  refine ⟨_, pss_cons (ps_if (PW.pt (pw_and (pt_cmpR op_gt (pv 3) pe_int (nomark _)) (pw_and1 (pt_cmpR op_ge (pv 5) pe_int (nomark _)))))
      (pss_one (ps_for PassesOwn.never rfl (pi_list (pv 6)) (pg_name (i := 8) scLaw.nd rfl (.inl rfl))
        (pss_one (ps_asg (pe_ix ix_list (pv 8) pe_int (fun _ _ => rfl)) (pg_sub (pv 8) (pe_op op_sub (pv 3) pe_int) set_list))))) pss_nil) hL, ?_⟩
  intro D a S R r m n st cp H' q hm hn M
  refine ⟨_, rfl, _, _, rfl, rfl, _, rfl, ite2 (fun e1 => ?_) fun e1 => ?_⟩
  · have hn1 : (1 : Int) < (n : Int) := of_decide_eq_true e1
    refine ⟨_, rfl, _, _, rfl, rfl, _, rfl, ite2 (fun e2 => ?_) fun e2 => ?_⟩
    · obtain ⟨xs, eR, lR, kR, hrr⟩ := M
      refine ⟨_, rfl, R, rfl, ⟨_, SqL.of eR⟩, for_list (K := K) (a := R) (xs := xs) (fun i σ H2 => ∃ v8, σ = [some (.ref a), some (.ref S), some (.int (m : Int)), some (.int (n : Int)), some (.int st), some (.int cp), some (.ref R), some (.ref r), v8, none, none, none, none, none] ∧
          H2 R = some (.lst xs) ∧ (∀ i, i < m → ∃ b, xs[i]? = some (.ref b) ∧ GRow (hide H2 R) b n) ∧ GRow (hide H2 R) r m)
        ⟨none, rfl, eR, kR, hrr⟩ (fun i σ H2 _ ⟨_, _, e, _⟩ => SqL.of e) ?_ ?_⟩
      · rintro i y σ H2 hy ⟨v8, rfl, eR2, kR2, hr2⟩
        have hi : i < m := by have := (List.getElem?_eq_some_iff.mp hy).1; omega
        obtain ⟨b, b1, rb⟩ := kR2 i hi
        have ey : y = .ref b := Option.some.inj (hy.symm.trans b1)
        subst ey
        obtain ⟨ys, eb, lb, kb⟩ := id rb
        have nbR : b ≠ R := fun z => by rw [z, hide_same] at eb; cases eb
        have eb2 : H2 b = some (.lst ys) := by rw [hide_ne nbR] at eb; exact eb
        have h0 : 0 < ys.length := by omega
        have g0 : ys[0]? = some ys[0] := List.getElem?_eq_getElem h0
        refine ⟨_, rfl, b, ys, _, _, rfl, rfl, SqL.of eb2, atI_nat (j := 0) g0, ?_⟩
        refine ⟨_, rfl, _, rfl, _, _, rfl, rfl, b, ys, _, n - 1, rfl, rfl, eb2, (by rw [sub_one (m := n) (by omega)]; exact ixN_nat (by omega)), ?_⟩
        have gs := good_set (i := n - 1) lb kb g0
        refine ⟨_, rfl, by rw [upd_ne (fun z => nbR z.symm)]; exact eR2, fun j hj => ?_, ?_⟩
        · obtain ⟨c, c1, rc⟩ := kR2 j hj
          exact ⟨c, c1, by rw [hide_upd_ne nbR]; exact grow_upd rc eb lb (by rw [List.length_set]; exact lb) gs⟩
        · rw [hide_upd_ne nbR]
          exact grow_upd hr2 eb lb (by rw [List.length_set]; exact lb) gs
      · rintro σ H2 ⟨v8, rfl, eR2, kR2, hr2⟩
        exact kL D a S R r m n st cp v8 H2 q hm hn ⟨xs, eR2, lR, kR2, hr2⟩
    · exact kL D a S R r m n st cp none H' q hm hn M
  · exact iteF (kL D a S R r m n st cp none H' q hm hn M)
/-- the last row made the first one -/
theorem law_rows (W : Tools P w K mg base C)
    (fM : Fnc P w K mg base "_law_is_matrix" 5 ["_law_xs", "_law_rows"] (spIsMat C)) (fV : Fnc P w K mg base "_law_is_vector" 4 ["_law_xs", "_law_pairs_here"] (spIsVec C)) (fR : Fnc P w K mg base "_law_read" 3 ["_law_xs", "_law_count"] (spRead C))
    (fS : Fnc P w K mg base "_law_is_solution" 3 ["_law_found", "_law_rows", "_law_right"] spIsSol) (fT : Fnc P w K mg base "_law_is_refutation" 3 ["_law_found", "_law_rows", "_law_right", "_law_width"] spIsRef)
    (fMx : Fnc P w K mg base "_law_matrix" 4 ["_law_rows"] (spMatrix C)) (fVc : Fnc P w K mg base "_law_vector" 3 ["_law_pairs_here"] (spVector C)) (fSo : Fnc P w K mg base "solve" 7 ["rows", "right", "width"] (spSolve C))
    {f : Addr} {cdv : Value} {A : Around} {outer : List Env} {s : Shared} {H : Hp} {E : XK} (hr : Room 7 (cxOf CX0 P w K mg base NL "law" (defScope sLaw) f cdv A outer s H E).A) :
    ∃ t, PSs (cxOf CX0 P w K mg base NL "law" (defScope sLaw) f cdv A outer s H E).nox ((defBody sLaw).drop 7) t ∧
      ∀ (D : Ends) (a S R r : Addr) (m n : Nat) (st cp : Int) (H' : Hp), (∀ H', D.rt (.bl true) H') → m ≤ 11 → n ≤ 11 → Mid H' R r m n →
        t D [some (.ref a), some (.ref S), some (.int (m : Int)), some (.int (n : Int)), some (.int st), some (.int cp), some (.ref R), some (.ref r), none, none, none, none, none, none] H' := by
  obtain ⟨tL, hL, kL⟩ := law_cols W fM fV fR fS fT fMx fVc fSo (f := f) (cdv := cdv) (A := A) (outer := outer) (s := s) (H := H) (E := E) hr
  refine ⟨_, pss_cons (ps_if (PW.pt (pw_and (pt_cmpR op_gt (pv 2) pe_int (nomark _)) (pw_and1 (pt_cmpR op_gt (pe_op op_mod (pe_callTy call_int1 (by rfl) W.int (by decide +kernel) (pa_cons (pv 5) pa_nil)) pe_int) pe_int (nomark _)))))
      (pss_cons (ps_asg (pe_callTy call_list_of (by rfl) W.lst (by decide +kernel) (pa_cons (pe_ix ix_list (pv 6) pe_int (fun _ _ => rfl)) pa_nil)) (pg_sub (pv 6) (pe_op op_sub (pv 2) pe_int) set_list))
      (pss_one (ps_if (pt_cmpR op_eq (pe_op op_mod (pe_callTy call_int1 (by rfl) W.int (by decide +kernel) (pa_cons (pv 5) pa_nil)) pe_int) pe_int (nomark _))
        (pss_one (ps_asg (pe_ix ix_list (pv 7) pe_int (fun _ _ => rfl)) (pg_sub (pv 7) (pe_op op_sub (pv 2) pe_int) set_list))) pss_nil))) pss_nil) hL, ?_⟩
  intro D a S R r m n st cp H' q hm hn M
  refine ⟨_, rfl, _, _, rfl, rfl, _, rfl, ite2 (fun e1 => ?_) fun e1 => ?_⟩
  · have hm1 : (1 : Int) < (m : Int) := of_decide_eq_true e1
    refine ⟨_, rfl, .inl ⟨_, rfl, _, _, rfl, rfl, (by show (0 : Int) < 3; decide), _, _, rfl, rfl, _, rfl, ite2 (fun e2 => ?_) fun e2 => ?_⟩⟩
    · obtain ⟨xs, eR, lR, kR, hrr⟩ := M
      obtain ⟨b, b1, rb⟩ := kR 0 (by omega)
      obtain ⟨ys, eb, lb, kb⟩ := id rb
      have nbR : b ≠ R := fun z => by rw [z, hide_same] at eb; cases eb
      have eb2 : H' b = some (.lst ys) := by rw [hide_ne nbR] at eb; exact eb
      refine ⟨_, rfl, R, xs, _, _, rfl, rfl, SqL.of eR, atI_nat (j := 0) b1, b, ys, rfl, .inl (SqL.of eb2), fun l nl => ?_⟩
      have s1 : Same H' (upd H' l (.lst ys)) := same_upd nl
      have nRl : R ≠ l := ne_of_none eR nl
      refine ⟨_, rfl, _, rfl, _, _, rfl, rfl, R, xs, _, m - 1, rfl, rfl, s1 _ _ eR, (by rw [sub_one (m := m) (by omega)]; exact ixN_nat (by omega)), ?_⟩
      have hh : hide (upd (upd H' l (.lst ys)) R (.lst (xs.set (m - 1) (.ref l)))) R = hide (upd H' l (.lst ys)) R := hide_upd
      have sh : Same (hide H' R) (hide (upd H' l (.lst ys)) R) := hide_mono s1
      have M2 : Mid (upd (upd H' l (.lst ys)) R (.lst (xs.set (m - 1) (.ref l)))) R r m n := by
        refine ⟨_, upd_same, by rw [List.length_set]; exact lR, fun i hi => ?_, by rw [hh]; exact grow_same hrr sh⟩
        rw [hh]
        by_cases e : i = m - 1
        · subst e
          exact ⟨l, by rw [List.getElem?_set_self (by omega)], ys, by rw [hide_ne (fun z => nRl z.symm), upd_same], lb, fun j hj => let ⟨t, t1, p, t2, t3⟩ := kb j hj; ⟨t, t1, p, sh _ _ t2, t3⟩⟩
        · obtain ⟨c, c1, rc⟩ := kR i hi
          exact ⟨c, by rw [List.getElem?_set_ne (fun z => e z.symm)]; exact c1, grow_same rc sh⟩
      generalize upd (upd H' l (.lst ys)) R (.lst (xs.set (m - 1) (.ref l))) = H2 at M2
      refine ⟨_, rfl, .inl ⟨_, rfl, _, _, rfl, rfl, (by show (0 : Int) < 3; decide), rfl, _, rfl, ite2 (fun e3 => ?_) fun e3 => ?_⟩⟩
      · obtain ⟨us, eR2, lR2, kR2, hr2⟩ := M2
        obtain ⟨zs, er, lr, kr⟩ := id hr2
        have nrR : r ≠ R := fun z => by rw [z, hide_same] at er; cases er
        have er2 : H2 r = some (.lst zs) := by rw [hide_ne nrR] at er; exact er
        have h0 : 0 < zs.length := by omega
        have g0 : zs[0]? = some zs[0] := List.getElem?_eq_getElem h0
        refine ⟨_, rfl, r, zs, _, _, rfl, rfl, SqL.of er2, atI_nat (j := 0) g0, ?_⟩
        refine ⟨_, rfl, _, rfl, _, _, rfl, rfl, r, zs, _, m - 1, rfl, rfl, er2, (by rw [sub_one (m := m) (by omega)]; exact ixN_nat (by omega)), ?_⟩
        have gs := good_set (i := m - 1) lr kr g0
        refine kL D a S R r m n st cp _ q hm hn ⟨us, by rw [upd_ne (fun z => nrR z.symm)]; exact eR2, lR2, fun j hj => ?_, ?_⟩
        · obtain ⟨c, c1, rc⟩ := kR2 j hj
          exact ⟨c, c1, by rw [hide_upd_ne nrR]; exact grow_upd rc er lr (by rw [List.length_set]; exact lr) gs⟩
        · rw [hide_upd_ne nrR]
          exact grow_upd hr2 er lr (by rw [List.length_set]; exact lr) gs
      · exact kL D a S R r m n st cp H2 q hm hn M2
    · exact kL D a S R r m n st cp H' q hm hn M
  · exact iteF (kL D a S R r m n st cp H' q hm hn M)
end
end Ks
/-! part KsM -/
set_option maxRecDepth 100000
set_option maxHeartbeats 4000000
namespace Ks
open PySem L2
theorem lst_hide_row {H : Hp} {a D : Addr} {n : Nat} {xs : List V} (h : GRow H a n) (hD : H D = some (.lst xs)) (ne : a ≠ D) : GRow (hide H D) a n := by
  obtain ⟨ys, e, l, k⟩ := h
  exact ⟨ys, by rw [hide_ne ne]; exact e, l, fun i hi => let ⟨b, h1, p, h2, h3⟩ := k i hi; ⟨b, h1, p, hide_tup h2 hD, h3⟩⟩
section
variable {P : Program} {w : World} {K : PySem.W.Frag} {mg : Str → Option Value} {base : Heap} {C : Addr}
theorem ok_law {f : Addr} {fd : FuncData} (F : Fun K "law" "law" sLaw f fd) (W : Tools P w K mg base C)
    (fM : Fnc P w K mg base "_law_is_matrix" 5 ["_law_xs", "_law_rows"] (spIsMat C)) (fV : Fnc P w K mg base "_law_is_vector" 4 ["_law_xs", "_law_pairs_here"] (spIsVec C)) (fR : Fnc P w K mg base "_law_read" 3 ["_law_xs", "_law_count"] (spRead C))
    (fS : Fnc P w K mg base "_law_is_solution" 3 ["_law_found", "_law_rows", "_law_right"] spIsSol) (fT : Fnc P w K mg base "_law_is_refutation" 3 ["_law_found", "_law_rows", "_law_right", "_law_width"] spIsRef)
    (fMx : Fnc P w K mg base "_law_matrix" 4 ["_law_rows"] (spMatrix C)) (fVc : Fnc P w K mg base "_law_vector" 3 ["_law_pairs_here"] (spVector C)) (fSo : Fnc P w K mg base "solve" 7 ["rows", "right", "width"] (spSolve C))
    (fC : Fnc P w K mg base "_law_cell" 1 ["_law_script", "_law_k"] (spCell K)) (fD : Fnc P w K mg base "_law_digits" 1 ["_law_cell_here", "_law_limit", "_law_count"] spDigits) (fZ : Fnc P w K mg base "_law_size" 1 ["_law_d"] spSize)
    (fP : Fnc P w K mg base "_law_pairs" 2 ["_law_cell_here", "_law_count", "_law_style"] spPairs) : FnOk P w K mg base CX0 8 f fd ["_law_script"] (spLaw K) := by
  refine F.ok scLaw (fun vs H Q E h => ?_) (fun cdv A outer s H vs Q E hr h => ?_)
  · obtain ⟨a, ns, rfl, _⟩ := h
    rfl
  · obtain ⟨a, ns, rfl, hS, hlen, q⟩ := h
    obtain ⟨tL, hL, kL⟩ := law_rows W fM fV fR fS fT fMx fVc fSo (f := f) (cdv := cdv) (A := A) (outer := outer) (s := s) (H := H) (E := E) hr
    refine ⟨_, pss_cons (ps_setLc (i := 1) (own := [("_law_d", 12)]) (g := gName 12) (tt := tYes) rfl scLaw.nd rfl rfl (sw_true rfl rfl rfl (by decide +kernel))
        (pi_list (pe_call fD.G (hr.mono (by decide)) (by rfl) fD.m fD.kp fD.b .nil pass0 (pa_cons (pe_call fC.G (hr.mono (by decide)) (by rfl) fC.m fC.kp fC.b .nil pass0 (pa_cons (pv 0) (pa_cons pe_int pa_nil))) (pa_cons pe_int (pa_cons pe_int pa_nil)))))
        (blkOk_by (N := NL) (sc := defScope sLaw) (by decide +kernel)) (fun _ _ _ _ _ => pg_name (i := 12) scLaw.nd rfl (Or.inl rfl)) (fun _ _ _ _ _ => pts_nil)
        (fun _ _ _ _ _ => pe_call fZ.G (hr.mono (by decide)) (by rfl) fZ.m fZ.kp fZ.b .nil pass0 (pa_cons (pv 12) pa_nil)))
      (pss_cons (ps_set (i := 2) scLaw.nd rfl (.inl rfl) (pe_ix ix_list (pv 1) pe_int (fun _ _ => rfl)))
      (pss_cons (ps_set (i := 3) scLaw.nd rfl (.inr rfl) (pe_ix ix_list (pv 1) pe_int (fun _ _ => rfl)))
      (pss_cons (ps_set (i := 4) scLaw.nd rfl (.inr rfl) (pe_ix ix_list (pe_call fD.G (hr.mono (by decide)) (by rfl) fD.m fD.kp fD.b .nil pass0 (pa_cons (pe_call fC.G (hr.mono (by decide)) (by rfl) fC.m fC.kp fC.b .nil pass0 (pa_cons (pv 0) (pa_cons pe_int pa_nil))) (pa_cons pe_int (pa_cons pe_int pa_nil)))) pe_int (fun _ _ => rfl)))
      (pss_cons (ps_set (i := 5) scLaw.nd rfl (.inl rfl) (pe_ix ix_list (pe_call fD.G (hr.mono (by decide)) (by rfl) fD.m fD.kp fD.b .nil pass0 (pa_cons (pe_call fC.G (hr.mono (by decide)) (by rfl) fC.m fC.kp fC.b .nil pass0 (pa_cons (pv 0) (pa_cons pe_int pa_nil))) (pa_cons pe_int (pa_cons pe_int pa_nil)))) pe_int (fun _ _ => rfl)))
      (pss_cons (ps_setLc (i := 6) (own := [("_law_k", 13)]) (g := gName 13) (tt := tYes) rfl scLaw.nd rfl rfl (sw_true rfl rfl rfl (by decide +kernel)) (pi_range1 (by rfl) W.rng (pa_cons (pv 2) pa_nil))
        (blkOk_by (N := NL) (sc := defScope sLaw) (by decide +kernel)) (fun _ _ _ _ _ => pg_name (i := 13) scLaw.nd rfl (Or.inl rfl)) (fun _ _ _ _ _ => pts_nil)
        (fun _ _ _ _ _ => pe_call fP.G (hr.mono (by decide)) (by rfl) fP.m fP.kp fP.b .nil pass0 (pa_cons (pe_call fC.G (hr.mono (by decide)) (by rfl) fC.m fC.kp fC.b .nil pass0 (pa_cons (pv 0) (pa_cons (pe_op op_add pe_int (pv 13)) pa_nil))) (pa_cons (pv 3) (pa_cons (pv 4) pa_nil)))))
      (pss_cons (ps_set (i := 7) scLaw.nd rfl (.inl rfl) (pe_call fP.G (hr.mono (by decide)) (by rfl) fP.m fP.kp fP.b .nil pass0 (pa_cons (pe_call fC.G (hr.mono (by decide)) (by rfl) fC.m fC.kp fC.b .nil pass0 (pa_cons (pv 0) (pa_cons pe_int pa_nil))) (pa_cons (pv 2) (pa_cons (pv 4) pa_nil)))))
      hL)))))), ?_⟩
    refine ⟨_, rfl, a, ns, 0, rfl, hS, by omega, fun z0 => ?_⟩
    refine ⟨z0, 56, 2, rfl, by decide, by decide, by decide, fun ds p H1 s1 np ep ld hd => ?_⟩
    refine ⟨p, rfl, ⟨_, SqL.of ep⟩, ?_⟩
    intro S nS
    refine lc_list (K := K) (a := p) (xs := ds.map V.int) (fun i H2 => Same H1 H2 ∧ ∃ ks : List Nat, H2 S = some (.lst (ks.map qI)) ∧ ks.length = i ∧ ∀ k ∈ ks, k ≤ 11) ⟨same_upd nS, [], upd_same, rfl, fun k hk => by cases hk⟩ (fun i H2 _ B => SqL.of (B.1 _ _ ep)) ?_ ?_
    · rintro i y H2 hy ⟨s2, ks, eS, lk, hk⟩
      have hi : i < ds.length := by have := (List.getElem?_eq_some_iff.mp hy).1; rw [List.length_map] at this; exact this
      have ey : y = .int ds[i] := by
        rw [List.getElem?_map, List.getElem?_eq_getElem hi] at hy
        exact (Option.some.inj hy).symm
      subst ey
      refine ⟨rfl, yesT ?_⟩
      refine ⟨_, rfl, ds[i], rfl, (hd _ (List.getElem_mem hi)).1, fun k hk1 => ?_⟩
      refine ⟨_, eS, by rw [List.length_map]; exact small1000 (by omega), fun b o e => ?_, ks ++ [k], ?_, by simp [lk], fun k' hk' => ?_⟩
      · rw [upd_ne (ne_of_none e nS)]; exact s2 _ _ e
      · rw [upd_same, List.map_append]; rfl
      · rcases List.mem_append.mp hk' with h | h
        · exact hk k' h
        · have : k' = k := by simpa using h
          omega
    rintro H2 ⟨s2, ks, eS, lk, hk⟩
    rw [List.length_map, ld] at lk
    obtain ⟨m, n, rfl⟩ : ∃ m n, ks = [m, n] := by
      match ks, lk with
      | [m, n], _ => exact ⟨m, n, rfl⟩
    have hm : m ≤ 11 := hk m (by simp)
    have hn : n ≤ 11 := hk n (by simp)
    refine ⟨_, rfl, S, _, _, _, rfl, rfl, SqL.of eS, atI_nat (j := 0) rfl, ?_⟩
    refine ⟨_, rfl, S, _, _, _, rfl, rfl, SqL.of eS, atI_nat (j := 1) rfl, ?_⟩
    have s02 : Same H H2 := s1.trans s2
    refine ⟨_, rfl, a, ns, 1, rfl, s02.seq hS, by omega, fun z1 => ?_⟩
    refine ⟨z1, 4, 1, rfl, by decide, by decide, by decide, fun ds1 p1 H3 s3 np1 ep1 ld1 hd1 => ?_⟩
    obtain ⟨st, rfl⟩ : ∃ st, ds1 = [st] := by
      match ds1, ld1 with
      | [st], _ => exact ⟨st, rfl⟩
    refine ⟨p1, _, _, _, rfl, rfl, SqL.of ep1, atI_nat (j := 0) rfl, ?_⟩
    refine ⟨_, rfl, a, ns, 2, rfl, s3.seq (s02.seq hS), by omega, fun z2 => ?_⟩
    refine ⟨z2, 6, 1, rfl, by decide, by decide, by decide, fun ds2 p2 H4 s4 np2 ep2 ld2 hd2 => ?_⟩
    obtain ⟨cp, rfl⟩ : ∃ cp, ds2 = [cp] := by
      match ds2, ld2 with
      | [cp], _ => exact ⟨cp, rfl⟩
    refine ⟨p2, _, _, _, rfl, rfl, SqL.of ep2, atI_nat (j := 0) rfl, ?_⟩
    have s04 : Same H H4 := s02.trans (s3.trans s4)
    refine ⟨_, rfl, _, rfl, (small62 (n := m) (by omega)).1, (small62 (n := m) (by omega)).2, ?_⟩
    intro R nR
    have mongr : Mon (fun _ b H => GRow H b n) := fun _ _ _ _ s h => grow_same h s
    refine lc_range (Bld (fun _ b H => GRow H b n) H4 R) (bld_zero nR) ?_ ?_
    · intro i H5 hi B
      have e4 : (4 : Int) + (0 + (i : Int)) = ((4 + i : Nat) : Int) := by omega
      refine ⟨rfl, yesT ?_⟩
      refine ⟨_, rfl, _, rfl, _, _, rfl, rfl, ?_⟩
      refine ⟨a, ns, 4 + i, (by show [V.ref a, V.int ((4 : Int) + (0 + (i : Int)))] ++ [] = [V.ref a, V.int ((4 + i : Nat) : Int)]; rw [e4]; rfl), B.1.seq (s04.seq hS), by omega, fun z => ?_⟩
      refine ⟨_, rfl, _, rfl, z, st, n, rfl, by omega, fun x H6 s6 nx rx => ?_⟩
      obtain ⟨_, ws, ew, _⟩ := id B
      exact B.put mongr nR s6 (lst_hide_row rx (s6 _ _ ew) (ne_of_none ew nx).symm) (by omega)
    intro H5 B
    rw [show (m : Int).toNat = m by omega] at B
    obtain ⟨s5, xs, eR, lR, kR⟩ := B
    refine ⟨_, rfl, a, ns, 3, rfl, s5.seq (s04.seq hS), by omega, fun z => ?_⟩
    refine ⟨_, rfl, _, rfl, z, st, m, rfl, by omega, fun r H6 s6 nr rr => ?_⟩
    exact kL { nx := fun _ H' => Q .non H', rt := Q } a S R r m n st cp H6 q hm hn ⟨xs, s6 _ _ eR, lR, fun i hi => let ⟨b, b1, rb⟩ := kR i hi; ⟨b, b1, grow_same rb (hide_mono s6)⟩, lst_hide_row rr (s6 _ _ eR) (ne_of_none eR nr).symm⟩
end
end Ks
/-! part KsN -/
set_option maxRecDepth 100000
set_option maxHeartbeats 4000000
namespace Ks
open PySem L2
theorem all_mk {l : PySem.W.OpenLaw} {w : World} {K : PySem.W.Frag} {h : Heap} {mg : Str → Option Value} {fa C zp T fdot fidt fpiv fwm fclr fred fsol fcel fdig fsiz fpar fprs fpls ftim fldt fvec fmat fwho fnum fis fisv fism frea fiss fisr flaw fini fadd fsub fmul fovr fzer : Addr} (X : K.In h) (G : h.Ns mainGlobals mg) (hfa : mg "law" = some (.ref fa))
    {oddot andot odidt anidt odpiv anpiv odwm anwm odclr anclr odred anred odsol ansol odcel ancel oddig andig odsiz ansiz odpar anpar odprs anprs odpls anpls odtim antim odldt anldt odvec anvec odmat anmat odwho anwho odnum annum odis anis odisv anisv odism anism odrea anrea odiss aniss odisr anisr odlaw anlaw odini anini odadd anadd odsub ansub odmul anmul odovr anovr odzer anzer odT : Option Addr} {sldot slidt slpiv slwm slclr slred slsol slcel sldig slsiz slpar slprs slpls sltim slldt slvec slmat slwho slnum slis slisv slism slrea sliss slisr sllaw slini sladd slsub slmul slovr slzer slT : Array (Option Value)} {ocdot kVdot dcdot pmdot cddot ctdot ocidt kVidt dcidt pmidt cdidt ctidt ocpiv kVpiv dcpiv pmpiv cdpiv ctpiv ocwm kVwm dcwm pmwm cdwm ctwm occlr kVclr dcclr pmclr cdclr ctclr ocred kVred dcred pmred cdred ctred ocsol kVsol dcsol pmsol cdsol ctsol occel kVcel dccel pmcel cdcel ctcel ocdig kVdig dcdig pmdig cddig ctdig ocsiz kVsiz dcsiz pmsiz cdsiz ctsiz ocpar kVpar dcpar pmpar cdpar ctpar ocprs kVprs dcprs pmprs cdprs ctprs ocpls kVpls dcpls pmpls cdpls ctpls octim kVtim dctim pmtim cdtim cttim ocldt kVldt dcldt pmldt cdldt ctldt ocvec kVvec dcvec pmvec cdvec ctvec ocmat kVmat dcmat pmmat cdmat ctmat ocwho kVwho dcwho pmwho cdwho ctwho ocnum kVnum dcnum pmnum cdnum ctnum ocis kVis dcis pmis cdis ctis ocisv kVisv dcisv pmisv cdisv ctisv ocism kVism dcism pmism cdism ctism ocrea kVrea dcrea pmrea cdrea ctrea ociss kViss dciss pmiss cdiss ctiss ocisr kVisr dcisr pmisr cdisr ctisr oclaw kVlaw dclaw pmlaw cdlaw ctlaw ocini kVini dcini pmini cdini ctini ocadd kVadd dcadd pmadd cdadd ctadd ocsub kVsub dcsub pmsub cdsub ctsub ocmul kVmul dcmul pmmul cdmul ctmul ocovr kVovr dcovr pmovr cdovr ctovr oczer kVzer dczer pmzer cdzer ctzer ocT : Value} {tkT : Tok} {nT : Nat} {rest : List Value}
    (aC : PySem.W.nsIn K mainGlobals "Fraction" = some (some (.ref C)))
    (adot : PySem.W.nsIn K mainGlobals "dot" = some (some (.ref fdot)))
    (ldot : K.lookup fdot = some ⟨ocdot, oddot, .func (PySem.W.fnOf "dot" "dot" (defArgs sDot) (defBody sDot) (defScope sDot) .none kVdot dcdot pmdot andot cddot ctdot), sldot⟩)
    (cdot : PySem.W.codeIn K cddot "dot" = true)
    (kdot : PySem.W.keepIn K (.ref fdot) = true)
    (aidt : PySem.W.nsIn K mainGlobals "identity" = some (some (.ref fidt)))
    (lidt : K.lookup fidt = some ⟨ocidt, odidt, .func (PySem.W.fnOf "identity" "identity" (defArgs sIdent) (defBody sIdent) (defScope sIdent) .none kVidt dcidt pmidt anidt cdidt ctidt), slidt⟩)
    (cidt : PySem.W.codeIn K cdidt "identity" = true)
    (kidt : PySem.W.keepIn K (.ref fidt) = true)
    (apiv : PySem.W.nsIn K mainGlobals "pivot_place" = some (some (.ref fpiv)))
    (lpiv : K.lookup fpiv = some ⟨ocpiv, odpiv, .func (PySem.W.fnOf "pivot_place" "pivot_place" (defArgs sPivot) (defBody sPivot) (defScope sPivot) .none kVpiv dcpiv pmpiv anpiv cdpiv ctpiv), slpiv⟩)
    (cpiv : PySem.W.codeIn K cdpiv "pivot_place" = true)
    (kpiv : PySem.W.keepIn K (.ref fpiv) = true)
    (awm : PySem.W.nsIn K mainGlobals "without_multiple" = some (some (.ref fwm)))
    (lwm : K.lookup fwm = some ⟨ocwm, odwm, .func (PySem.W.fnOf "without_multiple" "without_multiple" (defArgs sWm) (defBody sWm) (defScope sWm) .none kVwm dcwm pmwm anwm cdwm ctwm), slwm⟩)
    (cwm : PySem.W.codeIn K cdwm "without_multiple" = true)
    (kwm : PySem.W.keepIn K (.ref fwm) = true)
    (aclr : PySem.W.nsIn K mainGlobals "cleared" = some (some (.ref fclr)))
    (lclr : K.lookup fclr = some ⟨occlr, odclr, .func (PySem.W.fnOf "cleared" "cleared" (defArgs sClear) (defBody sClear) (defScope sClear) .none kVclr dcclr pmclr anclr cdclr ctclr), slclr⟩)
    (cclr : PySem.W.codeIn K cdclr "cleared" = true)
    (kclr : PySem.W.keepIn K (.ref fclr) = true)
    (ared : PySem.W.nsIn K mainGlobals "reduced" = some (some (.ref fred)))
    (lred : K.lookup fred = some ⟨ocred, odred, .func (PySem.W.fnOf "reduced" "reduced" (defArgs sReduced) (defBody sReduced) (defScope sReduced) .none kVred dcred pmred anred cdred ctred), slred⟩)
    (cred : PySem.W.codeIn K cdred "reduced" = true)
    (kred : PySem.W.keepIn K (.ref fred) = true)
    (asol : PySem.W.nsIn K mainGlobals "solve" = some (some (.ref fsol)))
    (lsol : K.lookup fsol = some ⟨ocsol, odsol, .func (PySem.W.fnOf "solve" "solve" (defArgs sSolve) (defBody sSolve) (defScope sSolve) .none kVsol dcsol pmsol ansol cdsol ctsol), slsol⟩)
    (csol : PySem.W.codeIn K cdsol "solve" = true)
    (ksol : PySem.W.keepIn K (.ref fsol) = true)
    (acel : PySem.W.nsIn K mainGlobals "_law_cell" = some (some (.ref fcel)))
    (lcel : K.lookup fcel = some ⟨occel, odcel, .func (PySem.W.fnOf "_law_cell" "_law_cell" (defArgs sCell) (defBody sCell) (defScope sCell) .none kVcel dccel pmcel ancel cdcel ctcel), slcel⟩)
    (ccel : PySem.W.codeIn K cdcel "_law_cell" = true)
    (kcel : PySem.W.keepIn K (.ref fcel) = true)
    (adig : PySem.W.nsIn K mainGlobals "_law_digits" = some (some (.ref fdig)))
    (ldig : K.lookup fdig = some ⟨ocdig, oddig, .func (PySem.W.fnOf "_law_digits" "_law_digits" (defArgs sDigits) (defBody sDigits) (defScope sDigits) .none kVdig dcdig pmdig andig cddig ctdig), sldig⟩)
    (cdig : PySem.W.codeIn K cddig "_law_digits" = true)
    (kdig : PySem.W.keepIn K (.ref fdig) = true)
    (asiz : PySem.W.nsIn K mainGlobals "_law_size" = some (some (.ref fsiz)))
    (lsiz : K.lookup fsiz = some ⟨ocsiz, odsiz, .func (PySem.W.fnOf "_law_size" "_law_size" (defArgs sSize) (defBody sSize) (defScope sSize) .none kVsiz dcsiz pmsiz ansiz cdsiz ctsiz), slsiz⟩)
    (csiz : PySem.W.codeIn K cdsiz "_law_size" = true)
    (ksiz : PySem.W.keepIn K (.ref fsiz) = true)
    (apar : PySem.W.nsIn K mainGlobals "_law_pair" = some (some (.ref fpar)))
    (lpar : K.lookup fpar = some ⟨ocpar, odpar, .func (PySem.W.fnOf "_law_pair" "_law_pair" (defArgs sPair) (defBody sPair) (defScope sPair) .none kVpar dcpar pmpar anpar cdpar ctpar), slpar⟩)
    (cpar : PySem.W.codeIn K cdpar "_law_pair" = true)
    (kpar : PySem.W.keepIn K (.ref fpar) = true)
    (aprs : PySem.W.nsIn K mainGlobals "_law_pairs" = some (some (.ref fprs)))
    (lprs : K.lookup fprs = some ⟨ocprs, odprs, .func (PySem.W.fnOf "_law_pairs" "_law_pairs" (defArgs sPairs) (defBody sPairs) (defScope sPairs) .none kVprs dcprs pmprs anprs cdprs ctprs), slprs⟩)
    (cprs : PySem.W.codeIn K cdprs "_law_pairs" = true)
    (kprs : PySem.W.keepIn K (.ref fprs) = true)
    (apls : PySem.W.nsIn K mainGlobals "_law_plus" = some (some (.ref fpls)))
    (lpls : K.lookup fpls = some ⟨ocpls, odpls, .func (PySem.W.fnOf "_law_plus" "_law_plus" (defArgs sPlus) (defBody sPlus) (defScope sPlus) .none kVpls dcpls pmpls anpls cdpls ctpls), slpls⟩)
    (cpls : PySem.W.codeIn K cdpls "_law_plus" = true)
    (kpls : PySem.W.keepIn K (.ref fpls) = true)
    (atim : PySem.W.nsIn K mainGlobals "_law_times" = some (some (.ref ftim)))
    (ltim : K.lookup ftim = some ⟨octim, odtim, .func (PySem.W.fnOf "_law_times" "_law_times" (defArgs sTimes) (defBody sTimes) (defScope sTimes) .none kVtim dctim pmtim antim cdtim cttim), sltim⟩)
    (ctim : PySem.W.codeIn K cdtim "_law_times" = true)
    (ktim : PySem.W.keepIn K (.ref ftim) = true)
    (aldt : PySem.W.nsIn K mainGlobals "_law_dot" = some (some (.ref fldt)))
    (lldt : K.lookup fldt = some ⟨ocldt, odldt, .func (PySem.W.fnOf "_law_dot" "_law_dot" (defArgs sLdot) (defBody sLdot) (defScope sLdot) .none kVldt dcldt pmldt anldt cdldt ctldt), slldt⟩)
    (cldt : PySem.W.codeIn K cdldt "_law_dot" = true)
    (kldt : PySem.W.keepIn K (.ref fldt) = true)
    (avec : PySem.W.nsIn K mainGlobals "_law_vector" = some (some (.ref fvec)))
    (lvec : K.lookup fvec = some ⟨ocvec, odvec, .func (PySem.W.fnOf "_law_vector" "_law_vector" (defArgs sVector) (defBody sVector) (defScope sVector) .none kVvec dcvec pmvec anvec cdvec ctvec), slvec⟩)
    (cvec : PySem.W.codeIn K cdvec "_law_vector" = true)
    (kvec : PySem.W.keepIn K (.ref fvec) = true)
    (amat : PySem.W.nsIn K mainGlobals "_law_matrix" = some (some (.ref fmat)))
    (lmat : K.lookup fmat = some ⟨ocmat, odmat, .func (PySem.W.fnOf "_law_matrix" "_law_matrix" (defArgs sMatrix) (defBody sMatrix) (defScope sMatrix) .none kVmat dcmat pmmat anmat cdmat ctmat), slmat⟩)
    (cmat : PySem.W.codeIn K cdmat "_law_matrix" = true)
    (kmat : PySem.W.keepIn K (.ref fmat) = true)
    (awho : PySem.W.nsIn K mainGlobals "_law_is_whole" = some (some (.ref fwho)))
    (lwho : K.lookup fwho = some ⟨ocwho, odwho, .func (PySem.W.fnOf "_law_is_whole" "_law_is_whole" (defArgs sWhole) (defBody sWhole) (defScope sWhole) .none kVwho dcwho pmwho anwho cdwho ctwho), slwho⟩)
    (cwho : PySem.W.codeIn K cdwho "_law_is_whole" = true)
    (kwho : PySem.W.keepIn K (.ref fwho) = true)
    (anum : PySem.W.nsIn K mainGlobals "_law_is_number" = some (some (.ref fnum)))
    (lnum : K.lookup fnum = some ⟨ocnum, odnum, .func (PySem.W.fnOf "_law_is_number" "_law_is_number" (defArgs sNumber) (defBody sNumber) (defScope sNumber) .none kVnum dcnum pmnum annum cdnum ctnum), slnum⟩)
    (cnum : PySem.W.codeIn K cdnum "_law_is_number" = true)
    (knum : PySem.W.keepIn K (.ref fnum) = true)
    (ais : PySem.W.nsIn K mainGlobals "_law_is" = some (some (.ref fis)))
    (lis : K.lookup fis = some ⟨ocis, odis, .func (PySem.W.fnOf "_law_is" "_law_is" (defArgs sIs) (defBody sIs) (defScope sIs) .none kVis dcis pmis anis cdis ctis), slis⟩)
    (cis : PySem.W.codeIn K cdis "_law_is" = true)
    (kis : PySem.W.keepIn K (.ref fis) = true)
    (aisv : PySem.W.nsIn K mainGlobals "_law_is_vector" = some (some (.ref fisv)))
    (lisv : K.lookup fisv = some ⟨ocisv, odisv, .func (PySem.W.fnOf "_law_is_vector" "_law_is_vector" (defArgs sIsVec) (defBody sIsVec) (defScope sIsVec) .none kVisv dcisv pmisv anisv cdisv ctisv), slisv⟩)
    (cisv : PySem.W.codeIn K cdisv "_law_is_vector" = true)
    (kisv : PySem.W.keepIn K (.ref fisv) = true)
    (aism : PySem.W.nsIn K mainGlobals "_law_is_matrix" = some (some (.ref fism)))
    (lism : K.lookup fism = some ⟨ocism, odism, .func (PySem.W.fnOf "_law_is_matrix" "_law_is_matrix" (defArgs sIsMat) (defBody sIsMat) (defScope sIsMat) .none kVism dcism pmism anism cdism ctism), slism⟩)
    (cism : PySem.W.codeIn K cdism "_law_is_matrix" = true)
    (kism : PySem.W.keepIn K (.ref fism) = true)
    (area : PySem.W.nsIn K mainGlobals "_law_read" = some (some (.ref frea)))
    (lrea : K.lookup frea = some ⟨ocrea, odrea, .func (PySem.W.fnOf "_law_read" "_law_read" (defArgs sRead) (defBody sRead) (defScope sRead) .none kVrea dcrea pmrea anrea cdrea ctrea), slrea⟩)
    (crea : PySem.W.codeIn K cdrea "_law_read" = true)
    (krea : PySem.W.keepIn K (.ref frea) = true)
    (aiss : PySem.W.nsIn K mainGlobals "_law_is_solution" = some (some (.ref fiss)))
    (liss : K.lookup fiss = some ⟨ociss, odiss, .func (PySem.W.fnOf "_law_is_solution" "_law_is_solution" (defArgs sIsSol) (defBody sIsSol) (defScope sIsSol) .none kViss dciss pmiss aniss cdiss ctiss), sliss⟩)
    (ciss : PySem.W.codeIn K cdiss "_law_is_solution" = true)
    (kiss : PySem.W.keepIn K (.ref fiss) = true)
    (aisr : PySem.W.nsIn K mainGlobals "_law_is_refutation" = some (some (.ref fisr)))
    (lisr : K.lookup fisr = some ⟨ocisr, odisr, .func (PySem.W.fnOf "_law_is_refutation" "_law_is_refutation" (defArgs sIsRef) (defBody sIsRef) (defScope sIsRef) .none kVisr dcisr pmisr anisr cdisr ctisr), slisr⟩)
    (cisr : PySem.W.codeIn K cdisr "_law_is_refutation" = true)
    (kisr : PySem.W.keepIn K (.ref fisr) = true)
    (alaw : PySem.W.nsIn K mainGlobals "law" = some (some (.ref flaw)))
    (llaw : K.lookup flaw = some ⟨oclaw, odlaw, .func (PySem.W.fnOf "law" "law" (defArgs sLaw) (defBody sLaw) (defScope sLaw) .none kVlaw dclaw pmlaw anlaw cdlaw ctlaw), sllaw⟩)
    (claw : PySem.W.codeIn K cdlaw "law" = true)
    (klaw : PySem.W.keepIn K (.ref flaw) = true)
    (aini : PySem.W.findIn K (.ref C) "__init__" = some (some (.ref fini)))
    (iini : PySem.W.isFn K (.ref fini) = true)
    (lini : K.lookup fini = some ⟨ocini, odini, .func (PySem.W.fnOf "__init__" "Fraction.__init__" (defArgs sInit) (defBody sInit) (defScope sInit) (.ref T) kVini dcini pmini anini cdini ctini), slini⟩)
    (cini : PySem.W.codeIn K cdini "Fraction.__init__" = true)
    (kini : PySem.W.keepIn K (.ref fini) = true)
    (aadd : PySem.W.findIn K (.ref C) (PySem.dunder Operator.Add.info.2) = some (some (.ref fadd)))
    (iadd : PySem.W.isFn K (.ref fadd) = true)
    (ladd : K.lookup fadd = some ⟨ocadd, odadd, .func (PySem.W.fnOf "__add__" "Fraction.__add__" (defArgs sAdd) (defBody sAdd) (defScope sAdd) .none kVadd dcadd pmadd anadd cdadd ctadd), sladd⟩)
    (cadd : PySem.W.codeIn K cdadd "Fraction.__add__" = true)
    (kadd : PySem.W.keepIn K (.ref fadd) = true)
    (asub : PySem.W.findIn K (.ref C) (PySem.dunder Operator.Sub.info.2) = some (some (.ref fsub)))
    (isub : PySem.W.isFn K (.ref fsub) = true)
    (lsub : K.lookup fsub = some ⟨ocsub, odsub, .func (PySem.W.fnOf "__sub__" "Fraction.__sub__" (defArgs sSub) (defBody sSub) (defScope sSub) .none kVsub dcsub pmsub ansub cdsub ctsub), slsub⟩)
    (csub : PySem.W.codeIn K cdsub "Fraction.__sub__" = true)
    (ksub : PySem.W.keepIn K (.ref fsub) = true)
    (amul : PySem.W.findIn K (.ref C) (PySem.dunder Operator.Mult.info.2) = some (some (.ref fmul)))
    (imul : PySem.W.isFn K (.ref fmul) = true)
    (lmul : K.lookup fmul = some ⟨ocmul, odmul, .func (PySem.W.fnOf "__mul__" "Fraction.__mul__" (defArgs sMul) (defBody sMul) (defScope sMul) .none kVmul dcmul pmmul anmul cdmul ctmul), slmul⟩)
    (cmul : PySem.W.codeIn K cdmul "Fraction.__mul__" = true)
    (kmul : PySem.W.keepIn K (.ref fmul) = true)
    (aovr : PySem.W.findIn K (.ref C) "over" = some (some (.ref fovr)))
    (iovr : PySem.W.isFn K (.ref fovr) = true)
    (lovr : K.lookup fovr = some ⟨ocovr, odovr, .func (PySem.W.fnOf "over" "Fraction.over" (defArgs sOver) (defBody sOver) (defScope sOver) .none kVovr dcovr pmovr anovr cdovr ctovr), slovr⟩)
    (covr : PySem.W.codeIn K cdovr "Fraction.over" = true)
    (kovr : PySem.W.keepIn K (.ref fovr) = true)
    (lT : K.lookup T = some ⟨ocT, odT, .seq #[.int 1 tkT] nT, slT⟩)
    (az : PySem.W.findIn K (.ref C) "is_zero" = some (some (.ref zp)))
    (gz : PySem.W.specialIn K (.ref zp) "__get__" = some (some (.builtin "property.__get__")))
    (tz : PySem.W.takesIn K (.ref zp) = some true)
    (rz : PySem.W.recIn K zp "property" = some (.ref fzer :: rest))
    (lzer : K.lookup fzer = some ⟨oczer, odzer, .func (PySem.W.fnOf "is_zero" "Fraction.is_zero" (defArgs sZero) (defBody sZero) (defScope sZero) .none kVzer dczer pmzer anzer cdzer ctzer), slzer⟩)
    (czer : PySem.W.codeIn K cdzer "Fraction.is_zero" = true)
    (kzer : PySem.W.keepIn K (.ref fzer) = true)
    (pg : PySem.W.plainGet K C Str.empty = true)
    (hd : PySem.W.hasDictIn K C = true)
    (po : PySem.W.plainOver K C = true)
    (sa : PySem.W.findIn K (.ref C) "__setattr__" = some (some (.builtin "object.__setattr__")))
    (mk : PySem.W.makesIn K C = true)
    (kc : PySem.W.keepIn K (.ref C) = true)
    (nN : PySem.W.findIn K (.ref C) "num" = some none)
    (nD : PySem.W.findIn K (.ref C) "den" = some none)
    (gg : PySem.W.nsIn K mainGlobals "gcd" = some (some (.builtin "math.gcd")))
    (hA : PySem.W.findIn K (.ref C) "__class__" = some (some (.builtin "object.__class__")))
    (hN : PySem.W.specialIn K (.builtin "object.__class__") "__get__" = some (some (.builtin "getset_descriptor.__get__")))
    (hK : PySem.W.takesIn K (.builtin "object.__class__") = some true)
    (hM : PySem.W.mroIn K C (.type "object") = some true)
    (hF : PySem.W.selfFirst K C = true)
    (zlen : PySem.W.nsIn K mainGlobals "len" = some none)
    (zrange : PySem.W.nsIn K mainGlobals "range" = some none)
    (zlist : PySem.W.nsIn K mainGlobals "list" = some none)
    (zint : PySem.W.nsIn K mainGlobals "int" = some none)
    (zabs : PySem.W.nsIn K mainGlobals "abs" = some none)
    (zisinstance : PySem.W.nsIn K mainGlobals "isinstance" = some none)
    (ztuple : PySem.W.nsIn K mainGlobals "tuple" = some none)
    (zbool : PySem.W.nsIn K mainGlobals "bool" = some none)
    : ∃ fd : FuncData, (∀ (s : Shared) (v : Value), BindsTo s fd ⟨[v], []⟩ [("_law_script", v)]) ∧ ∀ base : Heap, K.In base → base.Ns mainGlobals mg → FnOk l.prog w K mg base CX0 8 fa fd ["_law_script"] (spLaw K) := by
  have e := hfa.symm.trans (PySem.W.mg_of X G alaw)
  cases e
  have TX : Txt K mg C := ⟨⟨pg, hd, po, sa⟩, nN, nD, PySem.W.mg_of X G aC, PySem.W.mg_of X G gg, hA, hN, hK, hM, hF⟩
  have Fdot := fun_mk (st := sDot) ldot cdot kdot
  have bdot := Fdot.binds (ps := ["first", "second"]) fun _ _ _ _ _ _ us hl => match us, hl with | [_, _], _ => rfl
  have Fidt := fun_mk (st := sIdent) lidt cidt kidt
  have bidt := Fidt.binds (ps := ["size"]) fun _ _ _ _ _ _ us hl => match us, hl with | [_], _ => rfl
  have Fpiv := fun_mk (st := sPivot) lpiv cpiv kpiv
  have bpiv := Fpiv.binds (ps := ["table", "rank", "column"]) fun _ _ _ _ _ _ us hl => match us, hl with | [_, _, _], _ => rfl
  have Fwm := fun_mk (st := sWm) lwm cwm kwm
  have bwm := Fwm.binds (ps := ["row", "factor", "source"]) fun _ _ _ _ _ _ us hl => match us, hl with | [_, _, _], _ => rfl
  have Fclr := fun_mk (st := sClear) lclr cclr kclr
  have bclr := Fclr.binds (ps := ["table", "rank", "place", "column"]) fun _ _ _ _ _ _ us hl => match us, hl with | [_, _, _, _], _ => rfl
  have Fred := fun_mk (st := sReduced) lred cred kred
  have bred := Fred.binds (ps := ["rows", "width"]) fun _ _ _ _ _ _ us hl => match us, hl with | [_, _], _ => rfl
  have Fsol := fun_mk (st := sSolve) lsol csol ksol
  have bsol := Fsol.binds (ps := ["rows", "right", "width"]) fun _ _ _ _ _ _ us hl => match us, hl with | [_, _, _], _ => rfl
  have Fcel := fun_mk (st := sCell) lcel ccel kcel
  have bcel := Fcel.binds (ps := ["_law_script", "_law_k"]) fun _ _ _ _ _ _ us hl => match us, hl with | [_, _], _ => rfl
  have Fdig := fun_mk (st := sDigits) ldig cdig kdig
  have bdig := Fdig.binds (ps := ["_law_cell_here", "_law_limit", "_law_count"]) fun _ _ _ _ _ _ us hl => match us, hl with | [_, _, _], _ => rfl
  have Fsiz := fun_mk (st := sSize) lsiz csiz ksiz
  have bsiz := Fsiz.binds (ps := ["_law_d"]) fun _ _ _ _ _ _ us hl => match us, hl with | [_], _ => rfl
  have Fpar := fun_mk (st := sPair) lpar cpar kpar
  have bpar := Fpar.binds (ps := ["_law_d", "_law_style"]) fun _ _ _ _ _ _ us hl => match us, hl with | [_, _], _ => rfl
  have Fprs := fun_mk (st := sPairs) lprs cprs kprs
  have bprs := Fprs.binds (ps := ["_law_cell_here", "_law_count", "_law_style"]) fun _ _ _ _ _ _ us hl => match us, hl with | [_, _, _], _ => rfl
  have Fpls := fun_mk (st := sPlus) lpls cpls kpls
  have bpls := Fpls.binds (ps := ["_law_a", "_law_b"]) fun _ _ _ _ _ _ us hl => match us, hl with | [_, _], _ => rfl
  have Ftim := fun_mk (st := sTimes) ltim ctim ktim
  have btim := Ftim.binds (ps := ["_law_a", "_law_b"]) fun _ _ _ _ _ _ us hl => match us, hl with | [_, _], _ => rfl
  have Fldt := fun_mk (st := sLdot) lldt cldt kldt
  have bldt := Fldt.binds (ps := ["_law_xs", "_law_ys"]) fun _ _ _ _ _ _ us hl => match us, hl with | [_, _], _ => rfl
  have Fvec := fun_mk (st := sVector) lvec cvec kvec
  have bvec := Fvec.binds (ps := ["_law_pairs_here"]) fun _ _ _ _ _ _ us hl => match us, hl with | [_], _ => rfl
  have Fmat := fun_mk (st := sMatrix) lmat cmat kmat
  have bmat := Fmat.binds (ps := ["_law_rows"]) fun _ _ _ _ _ _ us hl => match us, hl with | [_], _ => rfl
  have Fwho := fun_mk (st := sWhole) lwho cwho kwho
  have bwho := Fwho.binds (ps := ["_law_x"]) fun _ _ _ _ _ _ us hl => match us, hl with | [_], _ => rfl
  have Fnum := fun_mk (st := sNumber) lnum cnum knum
  have bnum := Fnum.binds (ps := ["_law_x"]) fun _ _ _ _ _ _ us hl => match us, hl with | [_], _ => rfl
  have Fis := fun_mk (st := sIs) lis cis kis
  have bis := Fis.binds (ps := ["_law_x", "_law_pair_here"]) fun _ _ _ _ _ _ us hl => match us, hl with | [_, _], _ => rfl
  have Fisv := fun_mk (st := sIsVec) lisv cisv kisv
  have bisv := Fisv.binds (ps := ["_law_xs", "_law_pairs_here"]) fun _ _ _ _ _ _ us hl => match us, hl with | [_, _], _ => rfl
  have Fism := fun_mk (st := sIsMat) lism cism kism
  have bism := Fism.binds (ps := ["_law_xs", "_law_rows"]) fun _ _ _ _ _ _ us hl => match us, hl with | [_, _], _ => rfl
  have Frea := fun_mk (st := sRead) lrea crea krea
  have brea := Frea.binds (ps := ["_law_xs", "_law_count"]) fun _ _ _ _ _ _ us hl => match us, hl with | [_, _], _ => rfl
  have Fiss := fun_mk (st := sIsSol) liss ciss kiss
  have biss := Fiss.binds (ps := ["_law_found", "_law_rows", "_law_right"]) fun _ _ _ _ _ _ us hl => match us, hl with | [_, _, _], _ => rfl
  have Fisr := fun_mk (st := sIsRef) lisr cisr kisr
  have bisr := Fisr.binds (ps := ["_law_found", "_law_rows", "_law_right", "_law_width"]) fun _ _ _ _ _ _ us hl => match us, hl with | [_, _, _, _], _ => rfl
  have Flaw := fun_mk (st := sLaw) llaw claw klaw
  have Fadd := fun_mk (st := sAdd) ladd cadd kadd
  have badd := Fadd.binds (ps := ["self", "other"]) fun _ _ _ _ _ _ us hl => match us, hl with | [_, _], _ => rfl
  have Fsub := fun_mk (st := sSub) lsub csub ksub
  have bsub := Fsub.binds (ps := ["self", "other"]) fun _ _ _ _ _ _ us hl => match us, hl with | [_, _], _ => rfl
  have Fmul := fun_mk (st := sMul) lmul cmul kmul
  have bmul := Fmul.binds (ps := ["self", "other"]) fun _ _ _ _ _ _ us hl => match us, hl with | [_, _], _ => rfl
  have Fovr := fun_mk (st := sOver) lovr covr kovr
  have bovr := Fovr.binds (ps := ["self", "other"]) fun _ _ _ _ _ _ us hl => match us, hl with | [_, _], _ => rfl
  have Fzer := fun_mk (st := sZero) lzer czer kzer
  have bzer := Fzer.binds (ps := ["self"]) fun _ _ _ _ _ _ us hl => match us, hl with | [_], _ => rfl
  have Fini : FunD K "__init__" "Fraction.__init__" (defArgs sInit) (defBody sInit) (defScope sInit) [.int 1] [] fini (PySem.W.fnOf "__init__" "Fraction.__init__" (defArgs sInit) (defBody sInit) (defScope sInit) (.ref T) kVini dcini pmini anini cdini ctini) := ⟨⟨ocini, odini, .ref T, kVini, dcini, pmini, anini, cdini, ctini, slini, rfl, lini, cini, .inr ⟨List.cons_ne_nil _ _, T, _, [.int 1 tkT], nT, rfl, lT, rfl, .cons ⟨tkT, rfl⟩ .nil⟩, .inl rfl⟩, kini⟩
  have MI := Mkr.of (C := C) ⟨mk, aini, iini, kc⟩ Fini
  refine ⟨PySem.W.fnOf "law" "law" (defArgs sLaw) (defBody sLaw) (defScope sLaw) .none kVlaw dclaw pmlaw anlaw cdlaw ctlaw, fun s v => .of_eq rfl, fun base _ _ => ?_⟩
  · let W : Tools l.prog w K mg base C := {
      T := TX, fI := fini, fdI := _, M := MI
      fA := fadd, fdA := _, GA := ok_add Fadd TX MI, bA := badd, sA := aadd, iA := iadd
      fS := fsub, fdS := _, GS := ok_sub Fsub TX MI, bS := bsub, sS := asub, iS := isub
      fM := fmul, fdM := _, GM := ok_mul Fmul TX MI, bM := bmul, sM := amul, iM := imul
      fO := fovr, fdO := _, GO := ok_over Fovr TX MI, bO := bovr, mO := ⟨aovr, iovr, kovr⟩
      fZ := fzer, zp := zp, fdZ := _, GZ := ok_zero Fzer TX, bZ := bzer, pZ := ⟨az, gz, tz, rest, rz⟩
      len := PySem.W.mg_none_of X G zlen, rng := PySem.W.mg_none_of X G zrange, lst := PySem.W.mg_none_of X G zlist, int := PySem.W.mg_none_of X G zint
      abs := PySem.W.mg_none_of X G zabs, isi := PySem.W.mg_none_of X G zisinstance, tup := PySem.W.mg_none_of X G ztuple, bool := PySem.W.mg_none_of X G zbool }
    have gn := ok_number (P := l.prog) (w := w) (base := base) Fnum W Fwho bwho (PySem.W.mg_of X G awho)
    have gi := ok_is (P := l.prog) (w := w) (base := base) Fis W gn knum bnum (PySem.W.mg_of X G anum)
    have gv := ok_isvec (P := l.prog) (w := w) (base := base) Fisv W gi kis bis (PySem.W.mg_of X G ais)
    have gd := ok_ldot (P := l.prog) (w := w) (base := base) Fldt W Fpls bpls (PySem.W.mg_of X G apls) Ftim btim (PySem.W.mg_of X G atim)
    have gr := ok_reduced (P := l.prog) (w := w) (base := base) Fred W Fidt bidt (PySem.W.mg_of X G aidt) Fpiv bpiv (PySem.W.mg_of X G apiv) Fclr bclr (PySem.W.mg_of X G aclr) Fwm bwm (PySem.W.mg_of X G awm)
    have gt := ok_dot (P := l.prog) (w := w) (base := base) Fdot W
    exact ok_law Flaw W
      ⟨fism, _, ok_ismat Fism W gv kisv bisv (PySem.W.mg_of X G aisv), kism, bism, PySem.W.mg_of X G aism⟩
      ⟨fisv, _, gv, kisv, bisv, PySem.W.mg_of X G aisv⟩
      ⟨frea, _, ok_read Frea W gn knum bnum (PySem.W.mg_of X G anum), krea, brea, PySem.W.mg_of X G area⟩
      ⟨fiss, _, ok_issol Fiss W gd kldt bldt (PySem.W.mg_of X G aldt), kiss, biss, PySem.W.mg_of X G aiss⟩
      ⟨fisr, _, ok_isref Fisr W gd kldt bldt (PySem.W.mg_of X G aldt), kisr, bisr, PySem.W.mg_of X G aisr⟩
      ⟨fmat, _, ok_matrix Fmat W Fvec bvec (PySem.W.mg_of X G avec), kmat, bmat, PySem.W.mg_of X G amat⟩
      ⟨fvec, _, ok_vector Fvec W, kvec, bvec, PySem.W.mg_of X G avec⟩
      ⟨fsol, _, ok_solve Fsol W gr kred bred (PySem.W.mg_of X G ared) gt kdot bdot (PySem.W.mg_of X G adot), ksol, bsol, PySem.W.mg_of X G asol⟩
      ⟨fcel, _, ok_cell Fcel W, kcel, bcel, PySem.W.mg_of X G acel⟩
      ⟨fdig, _, ok_digits Fdig W, kdig, bdig, PySem.W.mg_of X G adig⟩
      ⟨fsiz, _, ok_size Fsiz W, ksiz, bsiz, PySem.W.mg_of X G asiz⟩
      ⟨fprs, _, ok_pairs Fprs W Fdig bdig (PySem.W.mg_of X G adig) Fpar bpar (PySem.W.mg_of X G apar), kprs, bprs, PySem.W.mg_of X G aprs⟩
theorem walk {l : PySem.W.OpenLaw} {q : Program} {loose : List Str} {XP : (Str → Option Value) → Heap → Prop} {YP : World → Heap → Prop} {d : DefRec} {K : Params → PySem.W.Frag} (hn : l.most = some 63) (hdf : d.params.defaults = [])
    (hY : ∀ (w : World) (h : Heap), YP w h → (K w.params).In h)
    (F : ∀ (w : World) (mg : Str → Option Value) (fa : Addr) (h : Heap), (K w.params).In h → h.Ns mainGlobals mg → mg d.name = some (.ref fa) →
      ∃ fd : FuncData, (∀ (s : Shared) (u : Value), BindsTo s fd ⟨[u], []⟩ [("_law_script", u)]) ∧ ∀ base : Heap, (K w.params).In base → base.Ns mainGlobals mg → FnOk l.prog w (K w.params) mg base CX0 8 fa fd ["_law_script"] (spLaw (K w.params))) :
    PySem.W.WalkO q loose XP YP l.row.toRowW d [] (fun f vs => PySem.call f vs) :=
  L2.walk_of (n := 63) (k := 8) (x := "_law_script") (CX := fun _ => CX0) (sp := fun w => spLaw (K w.params)) hn (by decide) hdf ⟨rfl, by decide, by decide⟩ hY F (fun _ _ a ns hl _ hS => ⟨a, ns, rfl, hS, hl, fun _ => rfl⟩) fun _ _ _ _ _ z => z
end Ks
/-! part KsEnd -/
open PySem PySem.W PyProof.Rows
set_option maxRecDepth 100000 in
set_option maxHeartbeats 0 in
theorem PySem.Challenge.cw_certsums_k24_whole_systems_decided_holds : PySem.Challenge.rw_certsums_k24_whole_systems_decided.Holds := by
  w_on; o_law; k_head; (case hw => w_witness2)
  k_fill
  refine Ks.walk (l := PySem.Challenge.rw_certsums_k24_whole_systems_decided) rfl rfl (fun w h Y => PySem.W.kIn_of Y) ?F
  case F =>
    intro w mg fa h KX G hmg
    refine' Ks.all_mk KX G hmg ?aC ?adot ?ldot ?cdot ?kdot ?aidt ?lidt ?cidt ?kidt ?apiv ?lpiv ?cpiv ?kpiv ?awm ?lwm ?cwm ?kwm ?aclr ?lclr ?cclr ?kclr ?ared ?lred ?cred ?kred ?asol ?lsol ?csol ?ksol ?acel ?lcel ?ccel ?kcel ?adig ?ldig ?cdig ?kdig ?asiz ?lsiz ?csiz ?ksiz ?apar ?lpar ?cpar ?kpar ?aprs ?lprs ?cprs ?kprs ?apls ?lpls ?cpls ?kpls ?atim ?ltim ?ctim ?ktim ?aldt ?lldt ?cldt ?kldt ?avec ?lvec ?cvec ?kvec ?amat ?lmat ?cmat ?kmat ?awho ?lwho ?cwho ?kwho ?anum ?lnum ?cnum ?knum ?ais ?lis ?cis ?kis ?aisv ?lisv ?cisv ?kisv ?aism ?lism ?cism ?kism ?area ?lrea ?crea ?krea ?aiss ?liss ?ciss ?kiss ?aisr ?lisr ?cisr ?kisr ?alaw ?llaw ?claw ?klaw ?aini ?iini ?lini ?cini ?kini ?aadd ?iadd ?ladd ?cadd ?kadd ?asub ?isub ?lsub ?csub ?ksub ?amul ?imul ?lmul ?cmul ?kmul ?aovr ?iovr ?lovr ?covr ?kovr ?lT ?az ?gz ?tz ?rz ?lzer ?czer ?kzer ?pg ?hd ?po ?sa ?mk ?kc ?nN ?nD ?gg ?hA ?hN ?hK ?hM ?hF ?zlen ?zrange ?zlist ?zint ?zabs ?zisinstance ?ztuple ?zbool
    (case aC => k_is)
    (case adot => k_is)
    (case ldot => k_is)
    (case cdot => k_is)
    (case kdot => k_is)
    (case aidt => k_is)
    (case lidt => k_is)
    (case cidt => k_is)
    (case kidt => k_is)
    (case apiv => k_is)
    (case lpiv => k_is)
    (case cpiv => k_is)
    (case kpiv => k_is)
    (case awm => k_is)
    (case lwm => k_is)
    (case cwm => k_is)
    (case kwm => k_is)
    (case aclr => k_is)
    (case lclr => k_is)
    (case cclr => k_is)
    (case kclr => k_is)
    (case ared => k_is)
    (case lred => k_is)
    (case cred => k_is)
    (case kred => k_is)
    (case asol => k_is)
    (case lsol => k_is)
    (case csol => k_is)
    (case ksol => k_is)
    (case acel => k_is)
    (case lcel => k_is)
    (case ccel => k_is)
    (case kcel => k_is)
    (case adig => k_is)
    (case ldig => k_is)
    (case cdig => k_is)
    (case kdig => k_is)
    (case asiz => k_is)
    (case lsiz => k_is)
    (case csiz => k_is)
    (case ksiz => k_is)
    (case apar => k_is)
    (case lpar => k_is)
    (case cpar => k_is)
    (case kpar => k_is)
    (case aprs => k_is)
    (case lprs => k_is)
    (case cprs => k_is)
    (case kprs => k_is)
    (case apls => k_is)
    (case lpls => k_is)
    (case cpls => k_is)
    (case kpls => k_is)
    (case atim => k_is)
    (case ltim => k_is)
    (case ctim => k_is)
    (case ktim => k_is)
    (case aldt => k_is)
    (case lldt => k_is)
    (case cldt => k_is)
    (case kldt => k_is)
    (case avec => k_is)
    (case lvec => k_is)
    (case cvec => k_is)
    (case kvec => k_is)
    (case amat => k_is)
    (case lmat => k_is)
    (case cmat => k_is)
    (case kmat => k_is)
    (case awho => k_is)
    (case lwho => k_is)
    (case cwho => k_is)
    (case kwho => k_is)
    (case anum => k_is)
    (case lnum => k_is)
    (case cnum => k_is)
    (case knum => k_is)
    (case ais => k_is)
    (case lis => k_is)
    (case cis => k_is)
    (case kis => k_is)
    (case aisv => k_is)
    (case lisv => k_is)
    (case cisv => k_is)
    (case kisv => k_is)
    (case aism => k_is)
    (case lism => k_is)
    (case cism => k_is)
    (case kism => k_is)
    (case area => k_is)
    (case lrea => k_is)
    (case crea => k_is)
    (case krea => k_is)
    (case aiss => k_is)
    (case liss => k_is)
    (case ciss => k_is)
    (case kiss => k_is)
    (case aisr => k_is)
    (case lisr => k_is)
    (case cisr => k_is)
    (case kisr => k_is)
    (case alaw => k_is)
    (case llaw => k_is)
    (case claw => k_is)
    (case klaw => k_is)
    (case aini => k_is)
    (case iini => k_is)
    (case lini => k_is)
    (case cini => k_is)
    (case kini => k_is)
    (case aadd => k_is)
    (case iadd => k_is)
    (case ladd => k_is)
    (case cadd => k_is)
    (case kadd => k_is)
    (case asub => k_is)
    (case isub => k_is)
    (case lsub => k_is)
    (case csub => k_is)
    (case ksub => k_is)
    (case amul => k_is)
    (case imul => k_is)
    (case lmul => k_is)
    (case cmul => k_is)
    (case kmul => k_is)
    (case aovr => k_is)
    (case iovr => k_is)
    (case lovr => k_is)
    (case covr => k_is)
    (case kovr => k_is)
    (case lT => k_is)
    (case az => k_is)
    (case gz => k_is)
    (case tz => k_is)
    (case rz => k_is)
    (case lzer => k_is)
    (case czer => k_is)
    (case kzer => k_is)
    (case pg => k_is)
    (case hd => k_is)
    (case po => k_is)
    (case sa => k_is)
    (case mk => k_is)
    (case kc => k_is)
    (case nN => k_is)
    (case nD => k_is)
    (case gg => k_is)
    (case hA => k_is)
    (case hN => k_is)
    (case hK => k_is)
    (case hM => k_is)
    (case hF => k_is)
    (case zlen => k_is)
    (case zrange => k_is)
    (case zlist => k_is)
    (case zint => k_is)
    (case zabs => k_is)
    (case zisinstance => k_is)
    (case ztuple => k_is)
    (case zbool => k_is)
