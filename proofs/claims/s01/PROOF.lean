import PyProof.Rows.All
import Wide.All
import OpenK.AllK
import Wide.FinOn
import PyProof.EqAt
import PyProof.EqKinds
import PyProof.TupleCall
import Open.SpecLaws
import KE.OsGo
import HandS.ForSpec
import HandS.Comp
import HandS.Iter
import HandS.Wide
import HandS.ExcInit
import HandS.ExcField
import HandS.Style
import PyWideLaws
import PySem.Challenge.RW_sessionsigns_s01_answers
set_option Elab.async false
set_option linter.all false
set_option maxRecDepth 100000
set_option maxHeartbeats 4000000
namespace Sg
open Kp415

/-! ### 1. how big a fraction is -/
structure Sm (n : Nat) (x : Rat) : Prop where
  num : x.num.natAbs < 2 ^ n
  den : x.den < 2 ^ n
theorem pow_mono {a b : Nat} (h : a ≤ b) : 2 ^ a ≤ 2 ^ b := Nat.pow_le_pow_right (by decide) h
theorem Sm.mono {a b : Nat} {x : Rat} (h : Sm a x) (k : a ≤ b) : Sm b x :=
  ⟨Nat.lt_of_lt_of_le h.num (pow_mono k), Nat.lt_of_lt_of_le h.den (pow_mono k)⟩
theorem sm_mkRat {n : Nat} {u : Int} {l : Nat} (h : u.natAbs < 2 ^ n) (k : l < 2 ^ n) (p : l ≠ 0) : Sm n (mkRat u l) := by
  constructor
  · rw [Rat.num_mkRat, if_neg p]
    exact Nat.lt_of_le_of_lt (Int.natAbs_ediv_le_natAbs _ _) h
  · rw [Rat.den_mkRat, if_neg p]
    exact Nat.lt_of_le_of_lt (Nat.div_le_self _ _) k
theorem lt_mul {a b m n : Nat} (h : a < 2 ^ m) (k : b < 2 ^ n) : a * b < 2 ^ (m + n) := by
  rw [Nat.pow_add]
  exact Nat.mul_lt_mul'' h k
theorem lt_imul {a b : Int} {m n : Nat} (h : a.natAbs < 2 ^ m) (k : b.natAbs < 2 ^ n) : (a * b).natAbs < 2 ^ (m + n) := by
  rw [Int.natAbs_mul]
  exact lt_mul h k
theorem den_ne (x : Rat) : x.den ≠ 0 := x.den_nz
theorem den_pos (x : Rat) : (0 : Int) < (x.den : Int) := by
  have := x.den_nz
  omega
theorem dmul_ne (x y : Rat) : x.den * y.den ≠ 0 := Nat.mul_ne_zero x.den_nz y.den_nz
theorem sm_cross {m n : Nat} {x y : Rat} (h : Sm m x) (k : Sm n y) : (x.num * (y.den : Int)).natAbs < 2 ^ (m + n) ∧ (y.num * (x.den : Int)).natAbs < 2 ^ (m + n) := by
  constructor
  · exact lt_imul h.num (by simpa using k.den)
  · rw [Nat.add_comm m n]
    exact lt_imul k.num (by simpa using h.den)
theorem Sm.add {m n : Nat} {x y : Rat} (h : Sm m x) (k : Sm n y) : Sm (m + n + 1) (x + y) := by
  rw [Rat.add_def']
  obtain ⟨h1, h2⟩ := sm_cross h k
  refine sm_mkRat ?_ ?_ (dmul_ne x y)
  · rw [Nat.pow_succ]
    omega
  · exact Nat.lt_of_lt_of_le (lt_mul h.den k.den) (pow_mono (by omega))
theorem Sm.sub {m n : Nat} {x y : Rat} (h : Sm m x) (k : Sm n y) : Sm (m + n + 1) (x - y) := by
  rw [Rat.sub_def']
  obtain ⟨h1, h2⟩ := sm_cross h k
  refine sm_mkRat ?_ ?_ (dmul_ne x y)
  · rw [Nat.pow_succ]
    omega
  · exact Nat.lt_of_lt_of_le (lt_mul h.den k.den) (pow_mono (by omega))
theorem Sm.mul {m n : Nat} {x y : Rat} (h : Sm m x) (k : Sm n y) : Sm (m + n) (x * y) := by
  rw [Rat.mul_def']
  exact sm_mkRat (lt_imul h.num k.num) (lt_mul h.den k.den) (dmul_ne x y)
theorem Sm.larger {n : Nat} {x y : Rat} (h : Sm n x) (k : Sm n y) : Sm n (larger x y) := by
  unfold Kp415.larger
  split
  · exact k
  · exact h
theorem abs_num (x : Rat) : (absolute x).num = if x.num < 0 then -x.num else x.num := by
  unfold absolute
  have e : x < 0 ↔ x.num < 0 := by
    rw [Rat.lt_iff]
    simp
  by_cases h : x < 0
  · rw [if_pos h, if_pos (e.mp h)]
    rfl
  · rw [if_neg h, if_neg (fun z => h (e.mpr z))]
theorem abs_den (x : Rat) : (absolute x).den = x.den := by
  unfold absolute
  split <;> rfl
theorem Sm.abs {n : Nat} {x : Rat} (h : Sm n x) : Sm n (absolute x) := by
  constructor
  · rw [abs_num]
    have := h.num
    split <;> omega
  · rw [abs_den]
    exact h.den
theorem sm_zero : Sm 1 0 := ⟨by decide, by decide⟩
theorem sm_one : Sm 1 1 := ⟨by decide, by decide⟩
theorem sm_half : Sm 2 (mkRat 1 2) := ⟨by decide, by decide⟩

/-! ### 2. lowest terms by Euclid's way -/
/-- numerator and denominator of u / l -/
theorem low_num (u : Int) {l : Int} (h : 0 < l) : (mkRat u l.toNat).num = u / ((l.toNat.gcd u.natAbs : Nat) : Int) := by
  rw [Rat.num_mkRat, if_neg (by omega)]
theorem low_den (u : Int) {l : Int} (h : 0 < l) : ((mkRat u l.toNat).den : Int) = l / ((l.toNat.gcd u.natAbs : Nat) : Int) := by
  rw [Rat.den_mkRat, if_neg (by omega)]
  have e : ((l.toNat : Nat) : Int) = l := by omega
  rw [Int.natCast_ediv, e]
theorem gcd_step {a b : Nat} (h : 0 < b) : b.gcd (a % b) = a.gcd b := by
  rw [Nat.gcd_comm a b, Nat.gcd_rec b a, Nat.gcd_comm]

/-! ### 3. the fractions' operations, as lowest does them -/
theorem plus_is (x y : Rat) : mkRat (x.num * (y.den : Int) + y.num * (x.den : Int)) ((x.den : Int) * (y.den : Int)).toNat = x + y := by
  rw [Rat.add_def']
  congr 1
theorem minus_is (x y : Rat) : mkRat (x.num * (y.den : Int) - y.num * (x.den : Int)) ((x.den : Int) * (y.den : Int)).toNat = x - y := by
  rw [Rat.sub_def']
  congr 1
theorem times_is (x y : Rat) : mkRat (x.num * y.num) ((x.den : Int) * (y.den : Int)).toNat = x * y := by
  rw [Rat.mul_def']
  congr 1
theorem num_pos {y : Rat} (h : 0 < y) : 0 < y.num := by
  rw [Rat.lt_iff] at h
  simpa using h
theorem parted_is (x y : Rat) (h : 0 < y) : mkRat (x.num * (y.den : Int)) ((x.den : Int) * y.num).toNat = x / y := by
  have hp := num_pos h
  rw [Rat.div_def, Rat.inv_def]
  have e1 : Rat.divInt (y.den : Int) y.num = mkRat (y.den : Int) y.num.toNat := by
    have e : y.num = ((y.num.toNat : Nat) : Int) := by omega
    conv => lhs; rw [e]
    rw [Rat.divInt_ofNat]
  rw [e1]
  conv => rhs; rw [← Rat.mkRat_self x]
  rw [Rat.mkRat_mul_mkRat]
  congr 1
  have e : y.num = ((y.num.toNat : Nat) : Int) := by omega
  rw [e]
  exact Int.toNat_natCast _
theorem Sm.div {m n : Nat} {x y : Rat} (h : Sm m x) (k : Sm n y) (p : 0 < y) : Sm (m + n) (x / y) := by
  rw [← parted_is x y p]
  have hp := num_pos p
  have hq : 0 < (x.den : Int) * y.num := Int.mul_pos (den_pos x) hp
  refine sm_mkRat (lt_imul h.num (by simpa using k.den)) ?_ (by omega)
  have q := lt_imul (a := (x.den : Int)) (b := y.num) (m := m) (n := n) (by simpa using h.den) k.num
  omega
theorem less_is (x y : Rat) : (x.num * (y.den : Int) < y.num * (x.den : Int)) ↔ x < y := (Rat.lt_iff x y).symm
theorem zero_is (x : Rat) : (x.num = 0 ∧ (x.den : Int) = 1) ↔ x = 0 := by
  constructor
  · intro h
    exact Rat.num_eq_zero.mp h.1
  · intro h
    subst h
    exact ⟨rfl, rfl⟩

/-! ### 4. sums -/
theorem foldl_add (l : List Rat) : ∀ a : Rat, l.foldl (· + ·) a = a + l.sum := by
  induction l with
  | nil =>
    intro a
    simp [Rat.add_zero]
  | cons x r ih =>
    intro a
    rw [List.foldl_cons, ih, List.sum_cons, Rat.add_assoc]
def tot (l : List Rat) : Rat := l.foldl (· + ·) 0
theorem tot_is (l : List Rat) : tot l = l.sum := by
  unfold tot
  rw [foldl_add, Rat.zero_add]
theorem tot_snoc (l : List Rat) (x : Rat) : tot (l ++ [x]) = tot l + x := by
  unfold tot
  rw [List.foldl_append]
  rfl
theorem take_succ {α : Type} : ∀ {l : List α} {i : Nat} {x : α}, l[i]? = some x → l.take (i + 1) = l.take i ++ [x]
  | [], i, x, h => by simp at h
  | a :: l, 0, x, h => by
    have e : a = x := Option.some.inj h
    subst e
    rfl
  | a :: l, i + 1, x, h => by
    have ih := take_succ (l := l) (i := i) (x := x) h
    show a :: l.take (i + 1) = a :: l.take i ++ [x]
    rw [ih]
    rfl
theorem tot_take {l : List Rat} {i : Nat} {x : Rat} (h : l[i]? = some x) : tot (l.take (i + 1)) = tot (l.take i) + x := by
  rw [take_succ h, tot_snoc]
theorem sm_tot {k : Nat} : ∀ {l : List Rat}, (∀ x ∈ l, Sm k x) → Sm (1 + l.length * (k + 1)) (tot l) := by
  intro l
  have gen : ∀ (l : List Rat) (a : Rat) (n : Nat), Sm n a → (∀ x ∈ l, Sm k x) → Sm (n + l.length * (k + 1)) (l.foldl (· + ·) a) := by
    intro l
    induction l with
    | nil =>
      intro a n h _
      simpa using h
    | cons x r ih =>
      intro a n h hx
      have q := ih (a + x) (n + k + 1) (h.add (hx x (List.mem_cons_self ..))) fun y hy => hx y (List.mem_cons_of_mem _ hy)
      refine q.mono ?_
      rw [List.length_cons, Nat.succ_mul]
      omega
  exact fun h => gen l 0 1 sm_zero h
theorem half_is (t : Rat) : mkRat 1 2 * t = t / 2 := by
  have e : mkRat 1 2 = (2 : Rat)⁻¹ := by decide +kernel
  rw [e, Rat.div_def, Rat.mul_comm]

/-! ### 5. a model as it may stand -/
structure MOk (m : Model) : Prop where
  n1 : 1 ≤ m.testWeights.length
  n5 : m.testWeights.length ≤ 5
  len : m.productionWeights.length = m.testWeights.length
  t1 : 0 < m.testWeights.sum
  t5 : m.testWeights.sum ≤ 495
  p1 : 0 < m.productionWeights.sum
  p5 : m.productionWeights.sum ≤ 495
  d1 : 1 ≤ m.priorDen
  d9 : m.priorDen ≤ 99
  nd : m.priorNum ≤ m.priorDen
theorem getD_le_sum : ∀ (l : List Nat) (i : Nat), l.getD i 0 ≤ l.sum
  | [], i => by simp
  | a :: r, 0 => by
    rw [List.sum_cons]
    show a ≤ a + r.sum
    omega
  | a :: r, i + 1 => by
    have := getD_le_sum r i
    rw [List.sum_cons]
    show r.getD i 0 ≤ a + r.sum
    omega
theorem share_is (l : List Nat) (i : Nat) : mkRat ((l.getD i 0 : Nat) : Int) ((l.sum : Nat) : Int).toNat = share l i := by
  unfold share
  rw [Rat.mkRat_eq_div]
  rfl
theorem sm_share {l : List Nat} (h : 0 < l.sum) (k : l.sum ≤ 495) (i : Nat) : Sm 9 (share l i) := by
  rw [← share_is]
  have := getD_le_sum l i
  generalize l.getD i 0 = a at this
  exact sm_mkRat (by simp; omega) (by simp; omega) (by simp; omega)
theorem prior_is (m : Model) : mkRat ((m.priorNum : Nat) : Int) ((m.priorDen : Nat) : Int).toNat = priorTest m := by
  unfold priorTest
  rw [Rat.mkRat_eq_div]
  rfl
theorem toRat_is (n d : Nat) : mkRat ((n : Nat) : Int) ((d : Nat) : Int).toNat = toRat n d := by
  unfold toRat
  rw [Rat.mkRat_eq_div]
  rfl
theorem sm_nd {n d : Nat} (h : 1 ≤ d) (k : d ≤ 99) (p : n ≤ d) : Sm 7 (mkRat ((n : Nat) : Int) ((d : Nat) : Int).toNat) :=
  sm_mkRat (by simp; omega) (by simp; omega) (by simp; omega)
theorem MOk.prior {m : Model} (h : MOk m) : Sm 7 (priorTest m) := by
  rw [← prior_is]
  exact sm_nd h.d1 h.d9 h.nd
theorem MOk.prodPrior {m : Model} (h : MOk m) : Sm 9 (priorProduction m) := sm_one.sub h.prior
theorem MOk.ts {m : Model} (h : MOk m) (s : Nat) : Sm 9 (testShare m s) := sm_share h.t1 h.t5 s
theorem MOk.ps {m : Model} (h : MOk m) (s : Nat) : Sm 9 (productionShare m s) := sm_share h.p1 h.p5 s
theorem MOk.jt {m : Model} (h : MOk m) (s : Nat) : Sm 18 (jointTest m s) := (h.prior.mul (h.ts s)).mono (by decide)
theorem MOk.jp {m : Model} (h : MOk m) (s : Nat) : Sm 18 (jointProduction m s) := h.prodPrior.mul (h.ps s)
theorem MOk.prob {m : Model} (h : MOk m) (s : Nat) : Sm 37 (signalProbability m s) := (h.jt s).add (h.jp s)
theorem toRat_nonneg (a b : Nat) : (0 : Rat) ≤ (a : Rat) / (b : Rat) := by
  rw [Rat.div_def]
  refine Rat.mul_nonneg Rat.natCast_nonneg ?_
  rcases Nat.eq_zero_or_pos b with h | h
  · subst h
    have e : (((0 : Nat) : Rat))⁻¹ = 0 := by decide +kernel
    rw [e]
    exact Rat.le_refl
  · exact Rat.le_of_lt (Rat.inv_pos.mpr (Rat.natCast_pos.mpr h))
theorem share_nonneg (l : List Nat) (i : Nat) : 0 ≤ share l i := toRat_nonneg _ _
theorem div_le_one {a b : Nat} (h : a ≤ b) (k : 1 ≤ b) : (a : Rat) / (b : Rat) ≤ 1 := by
  have hb : (0 : Rat) < (b : Rat) := Rat.natCast_pos.mpr k
  refine Rat.le_of_mul_le_mul_right (c := (b : Rat)) ?_ hb
  rw [Rat.div_mul_cancel (Rat.ne_of_gt hb), Rat.one_mul]
  exact Rat.natCast_le_natCast.mpr h
theorem MOk.pt0 {m : Model} (_h : MOk m) : 0 ≤ priorTest m := toRat_nonneg _ _
theorem MOk.pp0 {m : Model} (h : MOk m) : 0 ≤ priorProduction m := by
  unfold priorProduction
  exact (Rat.le_iff_sub_nonneg _ _).mp (div_le_one h.nd h.d1)
theorem MOk.jt0 {m : Model} (h : MOk m) (s : Nat) : 0 ≤ jointTest m s := Rat.mul_nonneg h.pt0 (share_nonneg _ _)
theorem MOk.jp0 {m : Model} (h : MOk m) (s : Nat) : 0 ≤ jointProduction m s := Rat.mul_nonneg h.pp0 (share_nonneg _ _)
theorem MOk.prob0 {m : Model} (h : MOk m) (s : Nat) : 0 ≤ signalProbability m s := Rat.add_nonneg (h.jt0 s) (h.jp0 s)
theorem pos_of {x : Rat} (h : 0 ≤ x) (k : x ≠ 0) : 0 < x := Rat.lt_of_le_of_ne h (Ne.symm k)
end Sg
namespace Sg
open Kp415

/-! ### 6. sequences -/
def seqs (many : Nat) : Nat → List (List Nat)
  | 0 => [[]]
  | n + 1 => (seqs many n).flatMap fun r => (List.range many).map fun s => r ++ [s]
theorem seqs_succ (many n : Nat) : (sequences many n).flatMap (fun r => (List.range many).map fun s => r ++ [s]) = sequences many (n + 1) := by
  induction n with
  | zero =>
    show ([[]] : List (List Nat)).flatMap (fun r => (List.range many).map fun s => r ++ [s]) = (List.range many).flatMap fun s => [[]].map fun rest => s :: rest
    simp [List.flatMap_cons, List.map_eq_flatMap]
  | succ n ih =>
    show ((List.range many).flatMap fun s => (sequences many n).map fun rest => s :: rest).flatMap (fun r => (List.range many).map fun s => r ++ [s])
      = (List.range many).flatMap fun s => (sequences many (n + 1)).map fun rest => s :: rest
    rw [← ih, List.flatMap_assoc]
    congr 1
    funext s
    rw [List.flatMap_map, List.map_flatMap]
    congr 1
    funext r
    rw [List.map_map]
    rfl
theorem seqs_is (many n : Nat) : seqs many n = sequences many n := by
  induction n with
  | zero => rfl
  | succ n ih =>
    show (seqs many n).flatMap _ = _
    rw [ih]
    exact seqs_succ many n
theorem seqs_len (many : Nat) : ∀ n, (seqs many n).length = many ^ n
  | 0 => rfl
  | n + 1 => by
    show ((seqs many n).flatMap fun r => (List.range many).map fun s => r ++ [s]).length = _
    rw [List.length_flatMap]
    have e : ((seqs many n).map fun r => ((List.range many).map fun s => r ++ [s]).length) = (seqs many n).map fun _ => many := by
      apply List.map_congr_left
      intro r _
      simp
    rw [e, List.map_const', List.sum_replicate_nat, seqs_len many n, Nat.pow_succ]
theorem seqs_mem {many : Nat} : ∀ {n : Nat} {r : List Nat}, r ∈ seqs many n → r.length = n ∧ ∀ s ∈ r, s < many
  | 0, r, h => by
    have e : r = [] := by simpa [seqs] using h
    subst e
    simp
  | n + 1, r, h => by
    obtain ⟨q, hq, h2⟩ := List.mem_flatMap.mp (show r ∈ (seqs many n).flatMap _ from h)
    obtain ⟨s, hs, rfl⟩ := List.mem_map.mp h2
    obtain ⟨h3, h4⟩ := seqs_mem hq
    have hs' := List.mem_range.mp hs
    constructor
    · simp [h3]
    · intro t ht
      rcases List.mem_append.mp ht with z | z
      · exact h4 t z
      · have e := List.mem_singleton.mp z
        subst e
        exact hs'
/-- the product of the first signals' shares -/
theorem product_snoc (l : List Rat) (x : Rat) : product (l ++ [x]) = product l * x := by
  unfold product
  rw [List.foldl_append]
  rfl
theorem sm_product {k : Nat} : ∀ {l : List Rat}, (∀ x ∈ l, Sm k x) → Sm (1 + l.length * k) (product l) := by
  intro l
  have gen : ∀ (l : List Rat) (a : Rat) (n : Nat), Sm n a → (∀ x ∈ l, Sm k x) → Sm (n + l.length * k) (l.foldl (· * ·) a) := by
    intro l
    induction l with
    | nil =>
      intro a n h _
      simpa using h
    | cons x r ih =>
      intro a n h hx
      have q := ih (a * x) (n + k) (h.mul (hx x (List.mem_cons_self ..))) fun y hy => hx y (List.mem_cons_of_mem _ hy)
      refine q.mono ?_
      rw [List.length_cons, Nat.succ_mul]
      omega
  exact fun h => gen l 1 1 sm_one h
theorem product_nonneg : ∀ {l : List Rat}, (∀ x ∈ l, 0 ≤ x) → 0 ≤ product l := by
  intro l
  have gen : ∀ (l : List Rat) (a : Rat), 0 ≤ a → (∀ x ∈ l, 0 ≤ x) → 0 ≤ l.foldl (· * ·) a := by
    intro l
    induction l with
    | nil =>
      intro a h _
      exact h
    | cons x r ih =>
      intro a h hx
      exact ih (a * x) (Rat.mul_nonneg h (hx x (List.mem_cons_self ..))) fun y hy => hx y (List.mem_cons_of_mem _ hy)
  exact fun h => gen l 1 (by decide) h

/-! ### 7. merges -/
/-- the weights behind the first i signals of the mapping -/
def mw (w mp : List Nat) (i : Nat) : List Nat := (List.range w.length).map fun t => (((List.range i).filter fun s => mp.getD s 0 == t).map fun s => w.getD s 0).sum
theorem mw_len (w mp : List Nat) (i : Nat) : (mw w mp i).length = w.length := by simp [mw]
theorem mw_zero (w mp : List Nat) : mw w mp 0 = List.replicate w.length 0 := by
  unfold mw
  rw [show (fun t => (((List.range 0).filter fun s => mp.getD s 0 == t).map fun s => w.getD s 0).sum) = fun _ => 0 from rfl, List.map_const']
  simp
theorem mw_end (w mp : List Nat) : mw w mp w.length = mergeWeights w mp := rfl
theorem mw_step (w mp : List Nat) {i own : Nat} (h : mp.getD i 0 = own) (k : own < w.length) :
    mw w mp (i + 1) = (mw w mp i).set own ((mw w mp i).getD own 0 + w.getD i 0) := by
  apply List.ext_getElem
  · simp [mw]
  · intro j h1 h2
    have hj : j < w.length := by simpa [mw] using h1
    rw [List.getElem_set]
    have e : (mw w mp (i + 1))[j] = (((List.range i).filter fun s => mp.getD s 0 == j).map fun s => w.getD s 0).sum + if own = j then w.getD i 0 else 0 := by
      simp only [mw, List.getElem_map, List.getElem_range]
      rw [List.range_succ, List.filter_append, List.map_append, List.sum_append]
      congr 1
      by_cases z : own = j
      · rw [if_pos z]
        have : (mp.getD i 0 == j) = true := by rw [h, z]; exact beq_self_eq_true j
        simp only [List.filter_cons, this, if_true, List.filter_nil, List.map_cons, List.map_nil, List.sum_cons, List.sum_nil, Nat.add_zero]
      · rw [if_neg z]
        have : (mp.getD i 0 == j) = false := by rw [h]; exact beq_eq_false_iff_ne.mpr z
        simp only [List.filter_cons, this, List.filter_nil]
        rfl
    rw [e]
    by_cases z : own = j
    · subst z
      rw [if_pos rfl, if_pos rfl]
      congr 1
      rw [List.getD_eq_getElem?_getD, List.getElem?_eq_getElem (by simpa [mw] using hj)]
      simp [mw]
    · rw [if_neg z, if_neg z]
      simp [mw]
theorem sum_set_add : ∀ (l : List Nat) (j x : Nat), j < l.length → (l.set j (l.getD j 0 + x)).sum = l.sum + x
  | [], j, x, h => by simp at h
  | a :: r, 0, x, h => by
    show ((a + x) :: r).sum = (a :: r).sum + x
    rw [List.sum_cons, List.sum_cons]
    omega
  | a :: r, j + 1, x, h => by
    have ih := sum_set_add r j x (by simpa using h)
    show (a :: r.set j (r.getD j 0 + x)).sum = (a :: r).sum + x
    rw [List.sum_cons, List.sum_cons, ih]
    omega
theorem sum_take_succ : ∀ (l : List Nat) (i : Nat), i < l.length → (l.take (i + 1)).sum = (l.take i).sum + l.getD i 0
  | [], i, h => by simp at h
  | a :: r, 0, h => by simp
  | a :: r, i + 1, h => by
    have ih := sum_take_succ r i (by simpa using h)
    show (a :: r.take (i + 1)).sum = (a :: r.take i).sum + r.getD i 0
    rw [List.sum_cons, List.sum_cons, ih]
    omega
theorem mw_sum (w mp : List Nat) (hl : mp.length = w.length) (hm : ∀ x ∈ mp, x < w.length) : ∀ i, i ≤ w.length → (mw w mp i).sum = (w.take i).sum
  | 0, _ => by
    rw [mw_zero]
    simp
  | i + 1, h => by
    have hi : i < mp.length := by omega
    have hown : mp.getD i 0 < w.length := by
      rw [List.getD_eq_getElem?_getD, List.getElem?_eq_getElem hi]
      exact hm _ (List.getElem_mem hi)
    rw [mw_step w mp rfl hown, sum_set_add _ _ _ (by rw [mw_len]; exact hown), mw_sum w mp hl hm i (by omega), sum_take_succ w i (by omega)]
theorem merge_sum (w mp : List Nat) (hl : mp.length = w.length) (hm : ∀ x ∈ mp, x < w.length) : (mergeWeights w mp).sum = w.sum := by
  rw [← mw_end, mw_sum w mp hl hm _ (Nat.le_refl _), List.take_length]
theorem merge_len (w mp : List Nat) : (mergeWeights w mp).length = w.length := by simp [mergeWeights]
theorem MOk.merge {m : Model} (h : MOk m) {mp : List Nat} (hl : mp.length = m.testWeights.length) (hm : ∀ x ∈ mp, x < m.testWeights.length) : MOk (mergeSignals m mp) := by
  have s1 := merge_sum m.testWeights mp hl hm
  have s2 := merge_sum m.productionWeights mp (hl.trans h.len.symm) (by rw [h.len]; exact hm)
  have l1 := merge_len m.testWeights mp
  have l2 := merge_len m.productionWeights mp
  constructor <;> simp only [mergeSignals]
  · rw [l1]; exact h.n1
  · rw [l1]; exact h.n5
  · rw [l1, l2]; exact h.len
  · rw [s1]; exact h.t1
  · rw [s1]; exact h.t5
  · rw [s2]; exact h.p1
  · rw [s2]; exact h.p5
  · exact h.d1
  · exact h.d9
  · exact h.nd

/-! ### 8. detectors -/
/-- the first of the pairs with the greatest fraction -/
def fgStep (f q : Nat × Rat) : Nat × Rat := if f.2 < q.2 then q else f
def fg : List (Nat × Rat) → Nat × Rat
  | [] => (0, 0)
  | p :: r => r.foldl fgStep p
theorem fold_best (g : Nat → Rat) (p : Nat → Bool) (P : Nat → Prop) [DecidablePred P] (hp : ∀ s, p s = true ↔ P s) : ∀ (l : List Nat) (b : Nat),
    ((l.filter p).map fun s => (s, g s)).foldl fgStep (b, g b) = (l.foldl (fun best s => if P s ∧ g best < g s then s else best) b, g (l.foldl (fun best s => if P s ∧ g best < g s then s else best) b))
  | [], b => rfl
  | s :: r, b => by
    by_cases h : p s = true
    · rw [List.filter_cons, if_pos h, List.map_cons, List.foldl_cons, List.foldl_cons]
      by_cases k : g b < g s
      · rw [if_pos ⟨(hp s).mp h, k⟩]
        have e : fgStep (b, g b) (s, g s) = (s, g s) := if_pos k
        rw [e]
        exact fold_best g p P hp r s
      · rw [if_neg (fun z => k z.2)]
        have e : fgStep (b, g b) (s, g s) = (b, g b) := if_neg k
        rw [e]
        exact fold_best g p P hp r b
    · rw [List.filter_cons, if_neg h, List.foldl_cons, if_neg (fun z => h ((hp s).mpr z.1))]
      exact fold_best g p P hp r b
theorem fold_best0 (g : Nat → Rat) : ∀ (l : List Nat) (b : Nat),
    (l.map fun s => (s, g s)).foldl fgStep (b, g b) = (l.foldl (fun best s => if g best < g s then s else best) b, g (l.foldl (fun best s => if g best < g s then s else best) b))
  | [], b => rfl
  | s :: r, b => by
    rw [List.map_cons, List.foldl_cons, List.foldl_cons]
    by_cases k : g b < g s
    · rw [if_pos k]
      have e : fgStep (b, g b) (s, g s) = (s, g s) := if_pos k
      rw [e]
      exact fold_best0 g r s
    · rw [if_neg k]
      have e : fgStep (b, g b) (s, g s) = (b, g b) := if_neg k
      rw [e]
      exact fold_best0 g r b
theorem range_pos {n : Nat} (h : 0 < n) : List.range n = 0 :: (List.range (n - 1)).map Nat.succ := by
  obtain ⟨k, rfl⟩ : ∃ k, n = k + 1 := ⟨n - 1, by omega⟩
  rw [List.range_succ_eq_map]
  rfl
theorem contains_zero (s : Nat) : contains 0 s = false := by simp [contains]
theorem setShare_zero (w : List Nat) : setShare w 0 = 0 := by
  unfold setShare
  have e : ((List.range w.length).filter fun s => contains 0 s) = [] := List.filter_eq_nil_iff.mpr fun s _ => by rw [contains_zero]; exact Bool.false_ne_true
  rw [e]
  rfl
def dPairs (m : Model) (b : Rat) : List (Nat × Rat) := ((List.range (2 ^ signalCount m)).filter fun s => decide (¬ b < setShare m.productionWeights s)).map fun s => (s, setShare m.testWeights s)
def gPairs (m : Model) : List (Nat × Rat) := (List.range (2 ^ signalCount m)).map fun s => (s, shareGap m s)
theorem dPairs_fg (m : Model) (b : Rat) (hb : 0 ≤ b) : fg (dPairs m b) = (bestDetector m b, setShare m.testWeights (bestDetector m b)) := by
  have hpos : 0 < 2 ^ signalCount m := Nat.pow_pos (by decide)
  unfold dPairs bestDetector
  rw [range_pos hpos, List.filter_cons, if_pos (by simp [setShare_zero, Rat.not_lt, hb]), List.map_cons, List.foldl_cons, if_neg (fun z => Rat.lt_irrefl z.2)]
  show ((_ : List Nat).map _).foldl fgStep _ = _
  exact fold_best (fun s => setShare m.testWeights s) _ (fun s => setShare m.productionWeights s ≤ b) (fun s => by simp [Rat.not_lt]) _ 0
theorem gPairs_fg (m : Model) : fg (gPairs m) = (widestGapSet m, shareGap m (widestGapSet m)) := by
  have hpos : 0 < 2 ^ signalCount m := Nat.pow_pos (by decide)
  unfold gPairs widestGapSet
  rw [range_pos hpos, List.map_cons, List.foldl_cons, if_neg Rat.lt_irrefl]
  exact fold_best0 (fun s => shareGap m s) ((List.range (2 ^ signalCount m - 1)).map Nat.succ) 0
theorem dPairs_ne (m : Model) (b : Rat) (hb : 0 ≤ b) : 0 < (dPairs m b).length := by
  have hpos : 0 < 2 ^ signalCount m := Nat.pow_pos (by decide)
  unfold dPairs
  rw [range_pos hpos, List.filter_cons, if_pos (by simp [setShare_zero, Rat.not_lt, hb]), List.map_cons, List.length_cons]
  omega
theorem sum_nonneg : ∀ {l : List Rat}, (∀ x ∈ l, 0 ≤ x) → 0 ≤ l.sum
  | [], _ => by simp
  | x :: r, h => by
    rw [List.sum_cons]
    exact Rat.add_nonneg (h x (List.mem_cons_self ..)) (sum_nonneg fun y hy => h y (List.mem_cons_of_mem _ hy))
theorem sm_setShare {w : List Nat} (h : 0 < w.sum) (k : w.sum ≤ 495) (n : w.length ≤ 5) (s : Nat) : Sm 51 (setShare w s) := by
  unfold setShare
  rw [← tot_is]
  refine (sm_tot (k := 9) fun x hx => ?_).mono ?_
  · obtain ⟨s, _, rfl⟩ := List.mem_map.mp hx
    exact sm_share h k s
  · have : ((List.range w.length).filter fun t => contains s t).length ≤ (List.range w.length).length := List.length_filter_le _ _
    rw [List.length_range] at this
    rw [List.length_map]
    omega
end Sg
namespace Sg
open Kp415

/-! ### 9. the list of calls -/
def put1 : List (List Int) → List Int
  | [p :: ns] => p :: (ns.length : Int) :: (ns ++ [0])
  | _ => []
def put (cs : List (List (List Int))) : List Int := cs.flatMap put1
def simple (c : List (List Int)) : Prop := ∃ p ns, c = [p :: ns]
theorem put_simple : ∀ (cs : List (List (List Int))), (∀ c ∈ cs, simple c) → PyWide.put cs = put cs
  | [], _ => rfl
  | c :: r, h => by
    obtain ⟨p, ns, e⟩ := h c (List.mem_cons_self ..)
    subst e
    have ih := put_simple r fun d hd => h d (List.mem_cons_of_mem _ hd)
    show PyWide.put1 [p :: ns] ++ PyWide.put r = put1 [p :: ns] ++ put r
    rw [ih]
    rfl

/-! ### 10. what is asked of a call -/
def nints (l : List Nat) : List Int := l.map fun (n : Nat) => (n : Int)
inductive Ask : Int → List Int → Kp415.Call → Prop
  | create (a : Nat) : Ask 0 [(a : Int)] (.create a)
  | setT (l : List Nat) (h : l.length ≤ 8) : Ask 1 (nints l) (.setTestWeights l)
  | setP (l : List Nat) (h : l.length ≤ 8) : Ask 2 (nints l) (.setProductionWeights l)
  | prior (a b : Nat) : Ask 3 [(a : Int), (b : Int)] (.setPrior a b)
  | weights : Ask 4 [] .getWeights
  | prob (a : Nat) : Ask 5 [(a : Int)] (.signalProbability a)
  | post (a : Nat) : Ask 6 [(a : Int)] (.posterior a)
  | cert (a : Nat) : Ask 7 [(a : Int)] (.certainty a)
  | tv : Ask 8 [] .totalVariation
  | acc : Ask 9 [] .bestAccuracy
  | guess : Ask 10 [] .bestGuesses
  | blind : Ask 11 [] .blindAccuracy
  | merge (l : List Nat) (h : l.length ≤ 8) : Ask 12 (nints l) (.mergeSignals l)
  | preview (l : List Nat) (h : l.length ≤ 8) : Ask 13 (nints l) (.previewMerge l)
  | seqTv (a : Nat) : Ask 14 [(a : Int)] (.sequenceTotalVariation a)
  | seqAcc (a : Nat) : Ask 15 [(a : Int)] (.sequenceAccuracy a)
  | seqPost (l : List Nat) (h : l.length ≤ 8) : Ask 16 (nints l) (.sequencePosterior l)
  | shares (a : Nat) : Ask 17 [(a : Int)] (.setShares a)
  | detector (a b : Nat) : Ask 18 [(a : Int), (b : Int)] (.bestDetector a b)
  | gap : Ask 19 [] .widestGapSet
  | forPrior (a b : Nat) : Ask 20 [(a : Int), (b : Int)] (.accuracyForPrior a b)
theorem nat_of {z : Int} (h : Kp415Neutral.natural z = true) : ((z.toNat : Nat) : Int) = z := by
  have k := Bool.and_eq_true_iff.mp (show (decide (0 ≤ z) && decide (z < 4294967296)) = true from h)
  have := of_decide_eq_true k.1
  omega
theorem nints_of : ∀ {l : List Int}, l.all Kp415Neutral.natural = true → nints (l.map Int.toNat) = l
  | [], _ => rfl
  | x :: r, h => by
    rw [List.all_cons, Bool.and_eq_true_iff] at h
    show ((x.toNat : Nat) : Int) :: nints (r.map Int.toNat) = x :: r
    rw [nat_of h.1, nints_of h.2]
theorem list_of {l : List Int} (h : (l.all Kp415Neutral.natural && decide (l.length ≤ 8)) = true) : nints (l.map Int.toNat) = l ∧ (l.map Int.toNat).length ≤ 8 := by
  obtain ⟨a, b⟩ := Bool.and_eq_true_iff.mp h
  exact ⟨nints_of a, by rw [List.length_map]; exact of_decide_eq_true b⟩
theorem two_of {a b : Int} (h : (Kp415Neutral.natural a && Kp415Neutral.natural b) = true) : ((a.toNat : Nat) : Int) = a ∧ ((b.toNat : Nat) : Int) = b := by
  obtain ⟨x, y⟩ := Bool.and_eq_true_iff.mp h
  exact ⟨nat_of x, nat_of y⟩
theorem ask_of {c : List (List Int)} (h : Kp415Neutral.asked1 c = true) : ∃ p ns k, c = [p :: ns] ∧ Ask p ns k ∧ Kp415Neutral.callOf c = some k := by
  unfold Kp415Neutral.asked1 at h
  split at h
  · rename_i a
    exact ⟨_, _, _, rfl, by have q := Ask.create a.toNat; rw [nat_of h] at q; exact q, rfl⟩
  · rename_i l
    exact ⟨_, _, _, rfl, by have q := Ask.setT _ (list_of h).2; rw [(list_of h).1] at q; exact q, rfl⟩
  · rename_i l
    exact ⟨_, _, _, rfl, by have q := Ask.setP _ (list_of h).2; rw [(list_of h).1] at q; exact q, rfl⟩
  · rename_i a b
    exact ⟨_, _, _, rfl, by have q := Ask.prior a.toNat b.toNat; rw [(two_of h).1, (two_of h).2] at q; exact q, rfl⟩
  · exact ⟨_, _, _, rfl, Ask.weights, rfl⟩
  · rename_i a
    exact ⟨_, _, _, rfl, by have q := Ask.prob a.toNat; rw [nat_of h] at q; exact q, rfl⟩
  · rename_i a
    exact ⟨_, _, _, rfl, by have q := Ask.post a.toNat; rw [nat_of h] at q; exact q, rfl⟩
  · rename_i a
    exact ⟨_, _, _, rfl, by have q := Ask.cert a.toNat; rw [nat_of h] at q; exact q, rfl⟩
  · exact ⟨_, _, _, rfl, Ask.tv, rfl⟩
  · exact ⟨_, _, _, rfl, Ask.acc, rfl⟩
  · exact ⟨_, _, _, rfl, Ask.guess, rfl⟩
  · exact ⟨_, _, _, rfl, Ask.blind, rfl⟩
  · rename_i l
    exact ⟨_, _, _, rfl, by have q := Ask.merge _ (list_of h).2; rw [(list_of h).1] at q; exact q, rfl⟩
  · rename_i l
    exact ⟨_, _, _, rfl, by have q := Ask.preview _ (list_of h).2; rw [(list_of h).1] at q; exact q, rfl⟩
  · rename_i a
    exact ⟨_, _, _, rfl, by have q := Ask.seqTv a.toNat; rw [nat_of h] at q; exact q, rfl⟩
  · rename_i a
    exact ⟨_, _, _, rfl, by have q := Ask.seqAcc a.toNat; rw [nat_of h] at q; exact q, rfl⟩
  · rename_i l
    exact ⟨_, _, _, rfl, by have q := Ask.seqPost _ (list_of h).2; rw [(list_of h).1] at q; exact q, rfl⟩
  · rename_i a
    exact ⟨_, _, _, rfl, by have q := Ask.shares a.toNat; rw [nat_of h] at q; exact q, rfl⟩
  · rename_i a b
    exact ⟨_, _, _, rfl, by have q := Ask.detector a.toNat b.toNat; rw [(two_of h).1, (two_of h).2] at q; exact q, rfl⟩
  · exact ⟨_, _, _, rfl, Ask.gap, rfl⟩
  · rename_i a b
    exact ⟨_, _, _, rfl, by have q := Ask.forPrior a.toNat b.toNat; rw [(two_of h).1, (two_of h).2] at q; exact q, rfl⟩
  · cases h
def row (r : State × Ans) : List Int := r.2.num :: r.2.nums
theorem step_of {c : List (List Int)} {k : Kp415.Call} (h : Kp415Neutral.callOf c = some k) (s : State) : Kp415Neutral.step s c = ((Kp415.step s k).1, row (Kp415.step s k)) := by
  unfold Kp415Neutral.step
  rw [h]
  rfl

/-! ### 11. one call behind another -/
def after (s : State) (cs : List (List (List Int))) : State := cs.foldl (fun s c => (Kp415Neutral.step s c).1) s
def said (s : State) (cs : List (List (List Int))) : List Int := PyFlat.told (PyFlat.played Kp415Neutral.step s cs)
theorem after_snoc (s : State) (a : List (List (List Int))) (c : List (List Int)) : after s (a ++ [c]) = (Kp415Neutral.step (after s a) c).1 := by
  unfold after
  rw [List.foldl_append]
  rfl
theorem said_cons (s : State) (c : List (List Int)) (r : List (List (List Int))) : said s (c :: r) = ((Kp415Neutral.step s c).2.length : Int) :: ((Kp415Neutral.step s c).2 ++ said (Kp415Neutral.step s c).1 r) := by
  unfold said
  show PyFlat.told ((Kp415Neutral.step s c).2 :: PyFlat.played Kp415Neutral.step (Kp415Neutral.step s c).1 r) = _
  unfold PyFlat.told
  rw [List.flatMap_cons]
  rfl
theorem said_append (a b : List (List (List Int))) : ∀ s, said s (a ++ b) = said s a ++ said (after s a) b := by
  induction a with
  | nil =>
    intro s
    rfl
  | cons c r ih =>
    intro s
    rw [List.cons_append, said_cons, said_cons, ih]
    show _ :: (_ ++ (_ ++ said (after (Kp415Neutral.step s c).1 r) b)) = _
    simp [after]
theorem said_snoc (s : State) (a : List (List (List Int))) (c : List (List Int)) : said s (a ++ [c]) = said s a ++ ((((Kp415Neutral.step (after s a) c).2.length : Nat) : Int) :: (Kp415Neutral.step (after s a) c).2) := by
  rw [said_append, said_cons]
  have e : ∀ t, said t [] = [] := fun _ => rfl
  rw [e, List.append_nil]

/-! ### 12. what is asked of the whole list -/
structure Calls (l : List Int) (cs : List (List (List Int))) : Prop where
  eq : l = put cs
  ask : ∀ c ∈ cs, Kp415Neutral.asked1 c = true
  said : PyKp415.answers l = said none cs
  short : (Sg.said none cs).length ≤ 10000000
theorem calls_of {l : List Int} (h : PyKp415.answers_asked l = true) : ∃ cs, Calls l cs := by
  unfold PyKp415.answers_asked at h
  split at h
  · cases h
  · rename_i cs e
    obtain ⟨h1, h3⟩ := Bool.and_eq_true_iff.mp h
    obtain ⟨_, h2⟩ := Bool.and_eq_true_iff.mp h1
    unfold Kp415Neutral.asked at h2
    obtain ⟨_, h4⟩ := Bool.and_eq_true_iff.mp h2
    obtain ⟨_, h5⟩ := Bool.and_eq_true_iff.mp h4
    have ha : ∀ c ∈ cs, Kp415Neutral.asked1 c = true := List.all_eq_true.mp h5
    have hs : ∀ c ∈ cs, simple c := fun c hc => by
      obtain ⟨p, ns, k, e, _⟩ := ask_of (ha c hc)
      exact ⟨p, ns, e⟩
    have e1 : l = put cs := (PyWide.put_calls _ _ _ (show PyWide.calls l.length l = some cs from e)).1.trans (put_simple cs hs)
    have e2 : PyKp415.answers l = Sg.said none cs := by
      unfold PyKp415.answers
      rw [e]
      rfl
    refine ⟨cs, e1, ha, e2, ?_⟩
    rw [← e2]
    exact of_decide_eq_true (show decide ((PyKp415.answers l).length ≤ 10000000) = true from h3)
theorem put_append (a b : List (List (List Int))) : put (a ++ b) = put a ++ put b := List.flatMap_append
theorem put_cons (p : Int) (ns : List Int) (r : List (List (List Int))) : put ([p :: ns] :: r) = p :: (ns.length : Int) :: (ns ++ (0 :: put r)) := by
  show put1 [p :: ns] ++ put r = _
  simp [put1]
theorem put_snoc (a : List (List (List Int))) (p : Int) (ns : List Int) : (put (a ++ [[p :: ns]])).length = (put a).length + 3 + ns.length := by
  rw [put_append, put_cons]
  simp [put]
  omega
theorem at_call (a r : List (List (List Int))) (p : Int) (ns : List Int) : (put (a ++ [p :: ns] :: r))[(put a).length]? = some p ∧ (put (a ++ [p :: ns] :: r))[(put a).length + 1]? = some (ns.length : Int)
    ∧ ((put (a ++ [p :: ns] :: r)).take ((put a).length + 2 + ns.length)).drop ((put a).length + 2) = ns ∧ (put a).length + 2 + ns.length < (put (a ++ [p :: ns] :: r)).length := by
  rw [put_append, put_cons]
  generalize put a = u
  generalize put r = v
  refine ⟨by simp, ?_, ?_, by simp; omega⟩
  · rw [List.getElem?_append_right (by omega)]
    simp
  · rw [List.take_append, List.drop_append]
    have e1 : (u.take (u.length + 2 + ns.length)).drop (u.length + 2) = [] := List.drop_eq_nil_of_le (by rw [List.length_take]; omega)
    have e2 : u.length + 2 + ns.length - u.length = ns.length + 2 := by omega
    rw [e1, e2]
    simp
    rw [show min (u.length + 2 + ns.length) u.length = u.length by omega]
    simp [show u.length + 2 - u.length = 2 by omega]
theorem rest_nil {a r : List (List (List Int))} (h : (put (a ++ r)).length ≤ (put a).length) (k : ∀ c ∈ r, Kp415Neutral.asked1 c = true) : r = [] := by
  cases r with
  | nil => rfl
  | cons c r =>
    obtain ⟨p, ns, q, e, _⟩ := ask_of (k c (List.mem_cons_self ..))
    subst e
    rw [put_append, put_cons] at h
    simp at h
    omega
end Sg
/-! ### B. words for the walk -/
namespace Sg
open PySem PySem.Spec PyProof.Rows L2

/-- the i-th statement of the program -/
def top (i : Nat) : Stmt := PySem.Challenge.pw_sessionsigns_s01_answers.main.body.getD i (.Pass ⟨0, 0, 0, 0⟩)

/-! #### defs and methods by their names -/
/-- the def st of the text stands as the global x -/
structure Fu (K : PySem.W.Frag) (mg : Str → Option Value) (x : Str) (st : Stmt) (ps : List Str) : Prop where
  ex : ∃ (f : Addr) (fd : FuncData), Fun K x x st f fd ∧ mg x = some (.ref f) ∧ Binds K fd ps []
/-- the global x keeps the promise sp -/
structure Gd (P : Program) (w : World) (K : PySem.W.Frag) (mg : Str → Option Value) (base : Heap) (CX : CXT) (k : Nat) (x : Str) (ps : List Str) (sp : Sp) : Prop where
  ex : ∃ (f : Addr) (fd : FuncData), FnOk P w K mg base CX k f fd ps sp ∧ mg x = some (.ref f) ∧ PySem.W.keepIn K (.ref f) = true ∧ Binds K fd ps []
/-- the def st of the text stands as the method m of the class at C -/
structure Mu (K : PySem.W.Frag) (C : Addr) (m q : Str) (st : Stmt) (ps : List Str) : Prop where
  ex : ∃ (f : Addr) (fd : FuncData), Fun K m q st f fd ∧ Meth K C m f ∧ Binds K fd ps []
/-- the method m of the class at C keeps the promise sp -/
structure Md (P : Program) (w : World) (K : PySem.W.Frag) (mg : Str → Option Value) (base : Heap) (CX : CXT) (k : Nat) (C : Addr) (m : Str) (ps : List Str) (sp : Sp) : Prop where
  ex : ∃ (f : Addr) (fd : FuncData), FnOk P w K mg base CX k f fd ps sp ∧ Meth K C m f ∧ Binds K fd ps []
section
variable {P : Program} {w : World} {K : PySem.W.Frag} {mg : Str → Option Value} {base : Heap} {C : Addr}
theorem Fu.ok {x : Str} {st : Stmt} {N ps : List Str} {k : Nat} {sp : Sp} (U : Fu K mg x st ps) (S : FnScope N ps (defScope st)) (len : ∀ vs H Q E, sp vs H Q E → vs.length = ps.length)
    (hbody : ∀ (f : Addr) (cdv : Value) (A : Around) (outer : List Env) (s : Shared) (H : Hp) (vs : List V) (Q : VK) (E : XK), Room k (A.deeper (envOfC x (defScope st) s.heap.objs.size f cdv)) → sp vs H Q E →
      ∃ t, PSs (cxOf CX0 P w K mg base N x (defScope st) f cdv A outer s H E).nox (defBody st) t ∧ t { nx := fun _ H' => Q .non H', rt := Q } (start N vs) H) : Gd P w K mg base CX0 (k + 1) x ps sp := by
  obtain ⟨f, fd, F, g, b⟩ := U.ex
  exact ⟨f, fd, F.ok S len (hbody f), g, F.kp, b⟩
theorem Fu.okX {x : Str} {st : Stmt} {N ps : List Str} {k : Nat} {sp : Sp} (U : Fu K mg x st ps) (S : FnScope N ps (defScope st)) (len : ∀ vs H Q E, sp vs H Q E → vs.length = ps.length)
    (hbody : ∀ (f : Addr) (cdv : Value) (A : Around) (outer : List Env) (s : Shared) (H : Hp) (vs : List V) (Q : VK) (E : XK), Room k (A.deeper (envOfC x (defScope st) s.heap.objs.size f cdv)) → sp vs H Q E →
      ∃ t, PSs (cxOf (L2.CX P w) P w K mg base N x (defScope st) f cdv A outer s H E) (defBody st) t ∧ t { nx := fun _ H' => Q .non H', rt := Q } (start N vs) H) : Gd P w K mg base (L2.CX P w) (k + 1) x ps sp := by
  obtain ⟨f, fd, F, g, b⟩ := U.ex
  exact ⟨f, fd, F.okX S len (hbody f), g, F.kp, b⟩
theorem Mu.ok {m q : Str} {st : Stmt} {N ps : List Str} {k : Nat} {sp : Sp} (U : Mu K C m q st ps) (S : FnScope N ps (defScope st)) (len : ∀ vs H Q E, sp vs H Q E → vs.length = ps.length)
    (hbody : ∀ (f : Addr) (cdv : Value) (A : Around) (outer : List Env) (s : Shared) (H : Hp) (vs : List V) (Q : VK) (E : XK), Room k (A.deeper (envOfC q (defScope st) s.heap.objs.size f cdv)) → sp vs H Q E →
      ∃ t, PSs (cxOf CX0 P w K mg base N q (defScope st) f cdv A outer s H E).nox (defBody st) t ∧ t { nx := fun _ H' => Q .non H', rt := Q } (start N vs) H) : Md P w K mg base CX0 (k + 1) C m ps sp := by
  obtain ⟨f, fd, F, g, b⟩ := U.ex
  exact ⟨f, fd, F.ok S len (hbody f), g, b⟩
theorem Mu.okX {m q : Str} {st : Stmt} {N ps : List Str} {k : Nat} {sp : Sp} (U : Mu K C m q st ps) (S : FnScope N ps (defScope st)) (len : ∀ vs H Q E, sp vs H Q E → vs.length = ps.length)
    (hbody : ∀ (f : Addr) (cdv : Value) (A : Around) (outer : List Env) (s : Shared) (H : Hp) (vs : List V) (Q : VK) (E : XK), Room k (A.deeper (envOfC q (defScope st) s.heap.objs.size f cdv)) → sp vs H Q E →
      ∃ t, PSs (cxOf (L2.CX P w) P w K mg base N q (defScope st) f cdv A outer s H E) (defBody st) t ∧ t { nx := fun _ H' => Q .non H', rt := Q } (start N vs) H) : Md P w K mg base (L2.CX P w) (k + 1) C m ps sp := by
  obtain ⟨f, fd, F, g, b⟩ := U.ex
  exact ⟨f, fd, F.okX S len (hbody f), g, b⟩
end
section
variable {X : Cx} {CX : CXT} {k j : Nat} {C : Addr} {ps : List Str} {sp : Sp} {E : XK} {x m : Str} {p pos apos : Pos} {e o : Expr} {es : List Expr} {ta : TE} {t : TA}
/-- f(e, ..) -/
theorem pe_g (G : Gd X.prog X.w X.K X.mg X.base CX k x ps sp) (hr : Room j X.A) (ha : PA X (e :: es) t) (hx : Passes CX X E) (hj : k ≤ j := by decide) (hg : Gl X x := by rfl)
    (hdb : (x == ("__debug__" : Str)) = false := by decide) (he : starEach (e :: es) X.env = (false, eval e X.env) :: starEach es X.env := by rfl) (hpl : (backTo pos (starEach es X.env)).any (·.1) = false := by rfl) :
    PE X (.Call (.Name x p) (e :: es) [] pos) (tCall sp [] E t) := by
  obtain ⟨f, fd, F, g, kp, b⟩ := G.ex
  exact pe_call F (hr.mono hj) hg g kp b .nil hx ha hdb he hpl
/-- f(e, ..) in a try -/
theorem pe_gS {E : L2.St → XK} (G : Gd X.prog X.w X.K X.mg X.base CX k x ps sp) (hr : Room j X.A) (ha : PA X (e :: es) t) (hx : ∀ σ, PassesAt CX X σ (E σ)) (hj : k ≤ j := by decide) (hg : Gl X x := by rfl)
    (hdb : (x == ("__debug__" : Str)) = false := by decide) (he : starEach (e :: es) X.env = (false, eval e X.env) :: starEach es X.env := by rfl) (hpl : (backTo pos (starEach es X.env)).any (·.1) = false := by rfl) :
    PE X (.Call (.Name x p) (e :: es) [] pos) (tCallS sp E t) := by
  obtain ⟨f, fd, F, g, kp, b⟩ := G.ex
  exact pe_callS F (hr.mono hj) hg g kp b hx ha hdb he hpl
/-- o.m(e, ..) -/
theorem pe_m {pl : Sem Bool} (G : Md X.prog X.w X.K X.mg X.base CX k C m ps sp) (c : Cls X.K C) (hr : Room j X.A) (he : PE X o ta) (ha : PA X (e :: es) t) (hx : Passes CX X E) (hj : k ≤ j := by decide)
    (hst : starEach (e :: es) X.env = (false, eval e X.env) :: starEach es X.env := by rfl) (hpl : (backTo pos (starEach es X.env)).any (·.1) = false := by rfl)
    (ht : eval (.Call (.Attribute o m apos) (e :: es) [] pos) X.env = (do
      let ov ← eval o X.env
      standAt apos.atName
      let (f, first) ← holding [ov] (getMethod ov m pl)
      callWith pos f first (backTo pos (starEach (e :: es) X.env)) (backToKw pos (keywordEach [] X.env))) := by rfl) :
    PE X (.Call (.Attribute o m apos) (e :: es) [] pos) (tMeth C m sp [] E ta t) := by
  obtain ⟨f, fd, F, g, b⟩ := G.ex
  exact pe_meth he c g F (hr.mono hj) b .nil hx ha hst hpl ht
/-- o.m() -/
theorem pe_m0 {pl : Sem Bool} (G : Md X.prog X.w X.K X.mg X.base CX k C m ps sp) (c : Cls X.K C) (hr : Room j X.A) (he : PE X o ta) (hx : Passes CX X E) (hj : k ≤ j := by decide)
    (ht : eval (.Call (.Attribute o m apos) [] [] pos) X.env = (do
      let ov ← eval o X.env
      standAt apos.atName
      let (f, first) ← holding [ov] (getMethod ov m pl)
      callWith pos f first (backTo pos (starEach [] X.env)) (backToKw pos (keywordEach [] X.env))) := by rfl) :
    PE X (.Call (.Attribute o m apos) [] [] pos) (tMeth C m sp [] E ta tNil) := by
  obtain ⟨f, fd, F, g, b⟩ := G.ex
  exact pe_meth0 he c g F (hr.mono hj) b .nil hx ht
/-- o.m(e, ..) in a try -/
def tMeS (C : Addr) (m : Str) (sp : Sp) (E : L2.St → XK) (ta : TE) (t : TA) : TE := fun σ H Q => ta σ H fun x H1 => ∃ a dx fs, x = .ref a ∧ H1 a = some (.ins C dx fs) ∧ fs.lookup m = none ∧ t σ H1 fun vs H2 => sp (x :: vs) H2 Q (E σ)
theorem pe_mS {E : L2.St → XK} {pl : Sem Bool} (G : Md X.prog X.w X.K X.mg X.base CX k C m ps sp) (c : Cls X.K C) (hr : Room j X.A) (he : PE X o ta) (ha : PA X (e :: es) t) (hx : ∀ σ, PassesAt CX X σ (E σ)) (hj : k ≤ j := by decide)
    (hst : starEach (e :: es) X.env = (false, eval e X.env) :: starEach es X.env := by rfl) (hpl : (backTo pos (starEach es X.env)).any (·.1) = false := by rfl)
    (ht : eval (.Call (.Attribute o m apos) (e :: es) [] pos) X.env = (do
      let ov ← eval o X.env
      standAt apos.atName
      let (f, first) ← holding [ov] (getMethod ov m pl)
      callWith pos f first (backTo pos (starEach (e :: es) X.env)) (backToKw pos (keywordEach [] X.env))) := by rfl) :
    PE X (.Call (.Attribute o m apos) (e :: es) [] pos) (tMeS C m sp E ta t) := by
  obtain ⟨f, fd, F, hm, hb⟩ := G.ex
  refine ⟨fun pins s σ H Q I h => ?_⟩
  refine PySem.W.methodCall_KW (pl := pl) (thn (he.run pins s σ H _ I h) fun u s1 ⟨x, H1, I1, rx, a, dx, fs, ex, ea, l, q⟩ => ?_) ht
  subst ex
  obtain rfl : u = Value.ref a := rx
  refine getmeth_ok I1 ea c hm l ?_
  refine PySem.W.callWith_K (first := [.ref a]) (h₀ := X.base) I.ok.mod.kin hm.kp (thn (ha.run pos pins s1 σ H1 _ I1 q) fun us s2 ⟨vs, H2, I2, r, q2⟩ => ⟨I2.kIn, ?_⟩) hst hpl
  exact run_fnS (us := .ref a :: us) (vs := .ref a :: vs) F (hr.mono hj) hb (hx σ) I2 (.cons rfl r) q2
/-- what a callee raises goes on out of the def -/
theorem passX {X : Cx} {E : XK} {E1 : Value → Shared → Prop} (hs : X.stack = X.env :: X.outer := by rfl) (hf : X.env.frame = some X.env.locals := by rfl) (hex : X.ex = [] := by rfl)
    (hx : X.xe = fun e s' => wpAny (model X.prog X.w) X.A (leaving X.env e) (fun _ s'' => L2.CX X.prog X.w X.outer X.H_0 X.s_0 E e s'') E1 s' := by rfl) : Passes (L2.CX X.prog X.w) X E :=
  passes_call (takes_of hs hf hex hx) fun _ _ _ _ h => h
end

/-! #### heaps -/
theorem same_upd {H : Hp} {p : Addr} {o : HO} (h : H p = none) : Same H (upd H p o) := fun b x e => by
  rw [upd_ne (ne_of_none e h)]
  exact e
theorem same_tup {K : PySem.W.Frag} {H H' : Hp} {a : Addr} {xs : List V} (e : Same H H') (h : SqT K H a xs) : SqT K H' a xs := by
  rcases h with (h | ⟨o, h⟩) | h
  · exact .inl (.inl (e _ _ h))
  · exact .inl (.inr ⟨o, e _ _ h⟩)
  · exact .inr h
/-- a tuple or a list of the written part -/
def WrT (K : PySem.W.Frag) (a : Addr) (xs : List V) : Prop := ∃ (o : Obj) (its : Array Value) (n : Nat), K.lookup a = some o ∧ o.cls = .type "tuple" ∧ o.data = .seq its n ∧ its.size ≤ sizeLine ∧ Vals xs its.toList
theorem WrT.at {K : PySem.W.Frag} {a : Addr} {xs : List V} (h : WrT K a xs) (H : Hp) : SqT K H a xs := .inr h

/-! #### fractions -/
/-- a fraction as its two numbers -/
def frV (x : Rat) : List V := [.int x.num, .int (x.den : Int)]
/-- at a: the fraction x -/
def Fr (K : PySem.W.Frag) (H : Hp) (a : Addr) (x : Rat) : Prop := SqT K H a (frV x)
theorem Fr.same {K : PySem.W.Frag} {H H' : Hp} {a : Addr} {x : Rat} (h : Fr K H a x) (e : Same H H') : Fr K H' a x := same_tup e h
/-- as: the addresses of the fractions xs -/
def FrL (K : PySem.W.Frag) (H : Hp) (vs : List V) (xs : List Rat) : Prop := vs.length = xs.length ∧ ∀ (i : Nat) (x : Rat), xs[i]? = some x → ∃ a, vs[i]? = some (.ref a) ∧ Fr K H a x
theorem FrL.same {K : PySem.W.Frag} {H H' : Hp} {vs : List V} {xs : List Rat} (h : FrL K H vs xs) (e : Same H H') : FrL K H' vs xs := ⟨h.1, fun i x q => by
  obtain ⟨a, h1, h2⟩ := h.2 i x q
  exact ⟨a, h1, h2.same e⟩⟩
theorem FrL.nil {K : PySem.W.Frag} {H : Hp} : FrL K H [] [] := ⟨rfl, fun i x q => by simp at q⟩
theorem FrL.snoc {K : PySem.W.Frag} {H : Hp} {vs : List V} {xs : List Rat} {a : Addr} {x : Rat} (h : FrL K H vs xs) (k : Fr K H a x) : FrL K H (vs ++ [.ref a]) (xs ++ [x]) := by
  refine ⟨by simp [h.1], fun i y q => ?_⟩
  by_cases hi : i < xs.length
  · rw [List.getElem?_append_left hi] at q
    obtain ⟨b, h1, h2⟩ := h.2 i y q
    exact ⟨b, by rw [List.getElem?_append_left (by rw [h.1]; exact hi)]; exact h1, h2⟩
  · have hi2 : i = xs.length := by
      have := (List.getElem?_eq_some_iff.mp q).1
      rw [List.length_append, List.length_singleton] at this
      omega
    subst hi2
    rw [List.getElem?_append_right (Nat.le_refl _), Nat.sub_self] at q
    have e : x = y := Option.some.inj q
    subst e
    refine ⟨a, ?_, k⟩
    rw [List.getElem?_append_right (by rw [h.1]; exact Nat.le_refl _), h.1, Nat.sub_self]
    rfl
theorem Sm.pos {n : Nat} {x : Rat} (h : Sm n x) : 0 < n := by
  have h1 := h.den
  have h2 := x.den_nz
  rcases Nat.eq_zero_or_pos n with z | z
  · subst z
    have : x.den < 1 := h1
    omega
  · exact z
theorem mulW {a b : Int} {m n : Nat} (ha : a.natAbs < 2 ^ m) (hb : b.natAbs < 2 ^ n) (h : m + n ≤ 900000) : CMulW a b :=
  wide_mul (a := m + 1) (b := n + 1) (Nat.lt_of_lt_of_le ha (pow_mono (by omega))) (Nat.lt_of_lt_of_le hb (pow_mono (by omega))) (by omega) (by omega) (by omega)
theorem Sm.dabs {n : Nat} {x : Rat} (h : Sm n x) : ((x.den : Int)).natAbs < 2 ^ n := by
  simpa using h.den
end Sg
/-! ### C. fractions_told -/
namespace Sg
open PySem PySem.Spec PyProof.Rows L2
section
variable {P : Program} {w : World} {K : PySem.W.Frag} {mg : Str → Option Value} {base : Heap}
def spLowest (K : PySem.W.Frag) : Sp := fun vs H Q _ => ∃ (u l : Int) (n : Nat), vs = [.int u, .int l] ∧ 0 < l ∧ l.natAbs < 2 ^ n ∧ n ≤ 9000 ∧
  ∀ (H' : Hp) (p : Addr), Same H H' → Fr K H' p (mkRat u l.toNat) → Q (.ref p) H'
theorem sc3 : FnScope ["upper", "lower", "one", "other"] ["upper", "lower"] (defScope (top 3)) := ⟨rfl, rfl, rfl, by decide +kernel, rfl, by decide +kernel, by decide +kernel⟩
theorem ok_lowest (U : Fu K mg "lowest" (top 3) ["upper", "lower"]) (mA : mg "abs" = none) : Gd P w K mg base CX0 1 "lowest" ["upper", "lower"] (spLowest K) := by
  refine U.ok sc3 (fun vs H Q E h => ?_) (fun f cdv A outer s H vs Q E hr h => ?_)
  · obtain ⟨u, l, n, rfl, _⟩ := h
    rfl
  · obtain ⟨u, l, n, rfl, h0, hb, hn, q⟩ := h
    refine ⟨_, pss_cons (ps_par (i := 2) (j := 3) rfl sc3.nd rfl rfl (by decide) rfl rfl (pa_cons (pe_callB call_abs (by rfl) mA PyProof.Rows.boot_abs (pa_cons (pv 0) pa_nil)) (pa_cons (pv 1) pa_nil)) (by rfl))
      (pss_cons (ps_while PassesOwn.never (pt_cmpR op_gt (pv 3) pe_int (nomark _))
        (pss_one (ps_par (i := 2) (j := 3) rfl sc3.nd rfl rfl (by decide) rfl rfl (pa_cons (pv 3) (pa_cons (pe_op op_mod (pv 2) (pv 3)) pa_nil)) (by rfl))))
      (pss_one (ps_ret (pe_tup (pa_cons (pe_op op_fdivW (pv 0) (pv 2)) (pa_cons (pe_op op_fdivW (pv 1) (pv 2)) pa_nil)))))), ?_⟩
    refine ⟨_, rfl, u, rfl, _, rfl, _, _, rfl, ?_⟩
    have hu : (if u < 0 then -u else u) = ((u.natAbs : Nat) : Int) := by split <;> omega
    have hl : l = ((l.toNat : Nat) : Int) := by omega
    have hn0 : 0 < n := by
      rcases Nat.eq_zero_or_pos n with z | z
      · subst z
        have : l.natAbs < 1 := hb
        omega
      · exact z
    refine ⟨fun m σ H1 => ∃ a b : Nat, m = b ∧ σ = [some (.int u), some (.int l), some (.int (a : Int)), some (.int (b : Int))] ∧ a.gcd b = l.toNat.gcd u.natAbs ∧ H1 = H,
      ⟨l.toNat, u.natAbs, l.toNat, rfl, ?_, Nat.gcd_comm _ _, rfl⟩, fun m σ H1 hW => ?_⟩
    · rw [← hl, ← hu]
      rfl
    · obtain ⟨a, b, rfl, rfl, hg, rfl⟩ := hW
      refine ⟨_, rfl, _, _, rfl, rfl, _, rfl, ite2 (fun c => ?_) (fun c => ?_)⟩
      · have hb0 : 0 < m := by
          have := of_decide_eq_true c
          omega
        refine ⟨fun σ' H' => σ' = [some (.int u), some (.int l), some (.int (m : Int)), some (.int ((a % m : Nat) : Int))] ∧ H' = H1, fun σ' H' hN => ?_, ?_⟩
        · obtain ⟨e1, e2⟩ := hN
          exact ⟨a % m, Nat.mod_lt _ hb0, m, a % m, rfl, e1, (gcd_step hb0).trans hg, e2⟩
        · exact ⟨_, rfl, _, rfl, _, rfl, _, _, rfl, rfl, by omega, _, _, rfl, rfl, rfl⟩
      · have hm0 : m = 0 := by
          have : ¬ (0 : Int) < (m : Int) := fun z => c (decide_eq_true z)
          omega
        subst hm0
        rw [Nat.gcd_zero_right] at hg
        subst hg
        have hG0 : 0 < l.toNat.gcd u.natAbs := Nat.gcd_pos_of_pos_left _ (by omega)
        have hGl : l.toNat.gcd u.natAbs ≤ l.toNat := Nat.gcd_le_left _ (by omega)
        have hG : CDivW 0 ((l.toNat.gcd u.natAbs : Nat) : Int) := wide_div (b := n) (by omega) (Nat.lt_of_le_of_lt (by omega) hb) hn0 hn
        refine ⟨_, rfl, _, rfl, _, _, rfl, rfl, hG, _, rfl, _, rfl, _, _, rfl, rfl, hG, (by show 2 ≤ sizeLine; decide), fun p hp => ?_⟩
        refine q _ p (same_upd hp) (SqT.of ?_)
        rw [upd_same, frV, low_num u h0, low_den u h0]

/-! #### two fractions -/
theorem at0 (x : Rat) : atI (frV x) 0 = some (.int x.num) := atI_nat (xs := frV x) (j := 0) rfl
theorem at1 (x : Rat) : atI (frV x) 1 = some (.int (x.den : Int)) := atI_nat (xs := frV x) (j := 1) rfl
def spTwo (K : PySem.W.Frag) (g : Rat → Rat → Rat) (R : Rat → Prop) : Sp := fun vs H Q _ => ∃ (a b : Addr) (x y : Rat) (m n : Nat), vs = [.ref a, .ref b] ∧ Fr K H a x ∧ Fr K H b y ∧ Sm m x ∧ Sm n y ∧ m + n ≤ 9000 ∧ R y ∧
  ∀ (H' : Hp) (p : Addr), Same H H' → Fr K H' p (g x y) → Q (.ref p) H'
abbrev two : List Str := ["one", "other"]
theorem spTwo_len {g : Rat → Rat → Rat} {R : Rat → Prop} (vs : List V) (H : Hp) (Q : VK) (E : XK) (h : spTwo K g R vs H Q E) : vs.length = two.length := by
  obtain ⟨a, b, x, y, m, n, rfl, _⟩ := h
  rfl
theorem sc4 : FnScope two two (defScope (top 4)) := ⟨rfl, rfl, rfl, by decide +kernel, rfl, by decide +kernel, by decide +kernel⟩
theorem sc5 : FnScope two two (defScope (top 5)) := ⟨rfl, rfl, rfl, by decide +kernel, rfl, by decide +kernel, by decide +kernel⟩
theorem sc6 : FnScope two two (defScope (top 6)) := ⟨rfl, rfl, rfl, by decide +kernel, rfl, by decide +kernel, by decide +kernel⟩
theorem sc7 : FnScope two two (defScope (top 7)) := ⟨rfl, rfl, rfl, by decide +kernel, rfl, by decide +kernel, by decide +kernel⟩
theorem sc8 : FnScope two two (defScope (top 8)) := ⟨rfl, rfl, rfl, by decide +kernel, rfl, by decide +kernel, by decide +kernel⟩
theorem sc9 : FnScope two two (defScope (top 9)) := ⟨rfl, rfl, rfl, by decide +kernel, rfl, by decide +kernel, by decide +kernel⟩
theorem sc10 : FnScope ["one"] ["one"] (defScope (top 10)) := ⟨rfl, rfl, rfl, by decide +kernel, rfl, by decide +kernel, by decide +kernel⟩
theorem sc11 : FnScope ["some", "found", "one"] ["some"] (defScope (top 11)) := ⟨rfl, rfl, rfl, by decide +kernel, rfl, by decide +kernel, by decide +kernel⟩
theorem ok_plus (U : Fu K mg "plus" (top 4) two) (GL : Gd P w K mg base CX0 1 "lowest" ["upper", "lower"] (spLowest K)) : Gd P w K mg base CX0 2 "plus" two (spTwo K (· + ·) fun _ => True) := by
  refine U.ok sc4 spTwo_len (fun f cdv A outer s H vs Q E hr h => ?_)
  obtain ⟨a, b, x, y, m, n, rfl, fa, fb, sx, sy, hmn, _, q⟩ := h
  refine ⟨_, pss_one (ps_ret (pe_g GL hr (pa_cons
    (pe_op op_add (pe_op op_mulW (pe_ix ix_tup (pv 0) pe_int (fun _ _ => rfl)) (pe_ix ix_tup (pv 1) pe_int (fun _ _ => rfl))) (pe_op op_mulW (pe_ix ix_tup (pv 1) pe_int (fun _ _ => rfl)) (pe_ix ix_tup (pv 0) pe_int (fun _ _ => rfl))))
    (pa_cons (pe_op op_mulW (pe_ix ix_tup (pv 0) pe_int (fun _ _ => rfl)) (pe_ix ix_tup (pv 1) pe_int (fun _ _ => rfl))) pa_nil)) pass0)), ?_⟩
  refine ⟨_, rfl, a, _, _, _, rfl, rfl, fa, at0 x, _, rfl, b, _, _, _, rfl, rfl, fb, at1 y, _, _, rfl, rfl, mulW sx.num sy.dabs (by omega), ?_⟩
  refine ⟨_, rfl, b, _, _, _, rfl, rfl, fb, at0 y, _, rfl, a, _, _, _, rfl, rfl, fa, at1 x, _, _, rfl, rfl, mulW sy.num sx.dabs (by omega), _, _, rfl, rfl, ?_⟩
  refine ⟨_, rfl, a, _, _, _, rfl, rfl, fa, at1 x, _, rfl, b, _, _, _, rfl, rfl, fb, at1 y, _, _, rfl, rfl, mulW sx.dabs sy.dabs (by omega), ?_⟩
  refine ⟨_, _, m + n, rfl, Int.mul_pos (den_pos x) (den_pos y), lt_imul sx.dabs sy.dabs, hmn, fun H' p e fr => q H' p e ?_⟩
  rw [plus_is] at fr
  exact fr
theorem ok_minus (U : Fu K mg "minus" (top 5) two) (GL : Gd P w K mg base CX0 1 "lowest" ["upper", "lower"] (spLowest K)) : Gd P w K mg base CX0 2 "minus" two (spTwo K (· - ·) fun _ => True) := by
  refine U.ok sc5 spTwo_len (fun f cdv A outer s H vs Q E hr h => ?_)
  obtain ⟨a, b, x, y, m, n, rfl, fa, fb, sx, sy, hmn, _, q⟩ := h
  refine ⟨_, pss_one (ps_ret (pe_g GL hr (pa_cons
    (pe_op op_sub (pe_op op_mulW (pe_ix ix_tup (pv 0) pe_int (fun _ _ => rfl)) (pe_ix ix_tup (pv 1) pe_int (fun _ _ => rfl))) (pe_op op_mulW (pe_ix ix_tup (pv 1) pe_int (fun _ _ => rfl)) (pe_ix ix_tup (pv 0) pe_int (fun _ _ => rfl))))
    (pa_cons (pe_op op_mulW (pe_ix ix_tup (pv 0) pe_int (fun _ _ => rfl)) (pe_ix ix_tup (pv 1) pe_int (fun _ _ => rfl))) pa_nil)) pass0)), ?_⟩
  refine ⟨_, rfl, a, _, _, _, rfl, rfl, fa, at0 x, _, rfl, b, _, _, _, rfl, rfl, fb, at1 y, _, _, rfl, rfl, mulW sx.num sy.dabs (by omega), ?_⟩
  refine ⟨_, rfl, b, _, _, _, rfl, rfl, fb, at0 y, _, rfl, a, _, _, _, rfl, rfl, fa, at1 x, _, _, rfl, rfl, mulW sy.num sx.dabs (by omega), _, _, rfl, rfl, ?_⟩
  refine ⟨_, rfl, a, _, _, _, rfl, rfl, fa, at1 x, _, rfl, b, _, _, _, rfl, rfl, fb, at1 y, _, _, rfl, rfl, mulW sx.dabs sy.dabs (by omega), ?_⟩
  refine ⟨_, _, m + n, rfl, Int.mul_pos (den_pos x) (den_pos y), lt_imul sx.dabs sy.dabs, hmn, fun H' p e fr => q H' p e ?_⟩
  rw [minus_is] at fr
  exact fr
theorem ok_times (U : Fu K mg "times" (top 6) two) (GL : Gd P w K mg base CX0 1 "lowest" ["upper", "lower"] (spLowest K)) : Gd P w K mg base CX0 2 "times" two (spTwo K (· * ·) fun _ => True) := by
  refine U.ok sc6 spTwo_len (fun f cdv A outer s H vs Q E hr h => ?_)
  obtain ⟨a, b, x, y, m, n, rfl, fa, fb, sx, sy, hmn, _, q⟩ := h
  refine ⟨_, pss_one (ps_ret (pe_g GL hr (pa_cons
    (pe_op op_mulW (pe_ix ix_tup (pv 0) pe_int (fun _ _ => rfl)) (pe_ix ix_tup (pv 1) pe_int (fun _ _ => rfl)))
    (pa_cons (pe_op op_mulW (pe_ix ix_tup (pv 0) pe_int (fun _ _ => rfl)) (pe_ix ix_tup (pv 1) pe_int (fun _ _ => rfl))) pa_nil)) pass0)), ?_⟩
  refine ⟨_, rfl, a, _, _, _, rfl, rfl, fa, at0 x, _, rfl, b, _, _, _, rfl, rfl, fb, at0 y, _, _, rfl, rfl, mulW sx.num sy.num (by omega), ?_⟩
  refine ⟨_, rfl, a, _, _, _, rfl, rfl, fa, at1 x, _, rfl, b, _, _, _, rfl, rfl, fb, at1 y, _, _, rfl, rfl, mulW sx.dabs sy.dabs (by omega), ?_⟩
  refine ⟨_, _, m + n, rfl, Int.mul_pos (den_pos x) (den_pos y), lt_imul sx.dabs sy.dabs, hmn, fun H' p e fr => q H' p e ?_⟩
  rw [times_is] at fr
  exact fr
theorem ok_parted (U : Fu K mg "parted" (top 7) two) (GL : Gd P w K mg base CX0 1 "lowest" ["upper", "lower"] (spLowest K)) : Gd P w K mg base CX0 2 "parted" two (spTwo K (· / ·) fun y => 0 < y) := by
  refine U.ok sc7 spTwo_len (fun f cdv A outer s H vs Q E hr h => ?_)
  obtain ⟨a, b, x, y, m, n, rfl, fa, fb, sx, sy, hmn, hy, q⟩ := h
  refine ⟨_, pss_one (ps_ret (pe_g GL hr (pa_cons
    (pe_op op_mulW (pe_ix ix_tup (pv 0) pe_int (fun _ _ => rfl)) (pe_ix ix_tup (pv 1) pe_int (fun _ _ => rfl)))
    (pa_cons (pe_op op_mulW (pe_ix ix_tup (pv 0) pe_int (fun _ _ => rfl)) (pe_ix ix_tup (pv 1) pe_int (fun _ _ => rfl))) pa_nil)) pass0)), ?_⟩
  refine ⟨_, rfl, a, _, _, _, rfl, rfl, fa, at0 x, _, rfl, b, _, _, _, rfl, rfl, fb, at1 y, _, _, rfl, rfl, mulW sx.num sy.dabs (by omega), ?_⟩
  refine ⟨_, rfl, a, _, _, _, rfl, rfl, fa, at1 x, _, rfl, b, _, _, _, rfl, rfl, fb, at0 y, _, _, rfl, rfl, mulW sx.dabs sy.num (by omega), ?_⟩
  refine ⟨_, _, m + n, rfl, Int.mul_pos (den_pos x) (num_pos hy), lt_imul sx.dabs sy.num, hmn, fun H' p e fr => q H' p e ?_⟩
  rw [parted_is x y hy] at fr
  exact fr
def spLess (K : PySem.W.Frag) : Sp := fun vs H Q _ => ∃ (a b : Addr) (x y : Rat) (m n : Nat), vs = [.ref a, .ref b] ∧ Fr K H a x ∧ Fr K H b y ∧ Sm m x ∧ Sm n y ∧ m + n ≤ 9000 ∧ Q (.bl (decide (x < y))) H
theorem ok_less (U : Fu K mg "is_less" (top 8) two) : Gd P w K mg base CX0 1 "is_less" two (spLess K) := by
  refine U.ok sc8 (fun vs H Q E h => ?_) (fun f cdv A outer s H vs Q E hr h => ?_)
  · obtain ⟨a, b, x, y, m, n, rfl, _⟩ := h
    rfl
  · obtain ⟨a, b, x, y, m, n, rfl, fa, fb, sx, sy, hmn, q⟩ := h
    refine ⟨_, pss_one (ps_ret (pe_cmpR op_lt (pe_op op_mulW (pe_ix ix_tup (pv 0) pe_int (fun _ _ => rfl)) (pe_ix ix_tup (pv 1) pe_int (fun _ _ => rfl))) (pe_op op_mulW (pe_ix ix_tup (pv 1) pe_int (fun _ _ => rfl)) (pe_ix ix_tup (pv 0) pe_int (fun _ _ => rfl))) (nomark _))), ?_⟩
    refine ⟨_, rfl, a, _, _, _, rfl, rfl, fa, at0 x, _, rfl, b, _, _, _, rfl, rfl, fb, at1 y, _, _, rfl, rfl, mulW sx.num sy.dabs (by omega), ?_⟩
    refine ⟨_, rfl, b, _, _, _, rfl, rfl, fb, at0 y, _, rfl, a, _, _, _, rfl, rfl, fa, at1 x, _, _, rfl, rfl, mulW sy.num sx.dabs (by omega), _, _, rfl, rfl, ?_⟩
    show Q (.bl (decide (x.num * (y.den : Int) < y.num * (x.den : Int)))) H
    rw [show decide (x.num * (y.den : Int) < y.num * (x.den : Int)) = decide (x < y) from decide_eq_decide.mpr (less_is x y)]
    exact q
theorem ok_greater (U : Fu K mg "greater" (top 9) two) (GL : Gd P w K mg base CX0 1 "is_less" two (spLess K)) : Gd P w K mg base CX0 2 "greater" two (spTwo K Kp415.larger fun _ => True) := by
  refine U.ok sc9 spTwo_len (fun f cdv A outer s H vs Q E hr h => ?_)
  obtain ⟨a, b, x, y, m, n, rfl, fa, fb, sx, sy, hmn, _, q⟩ := h
  refine ⟨_, pss_one (ps_ret (pe_ifExp (pt_val (pe_g GL hr (pa_cons (pv 0) (pa_cons (pv 1) pa_nil)) pass0)) (pv 1) (pv 0))), ?_⟩
  refine ⟨_, rfl, _, rfl, a, b, x, y, m, n, rfl, fa, fb, sx, sy, hmn, _, rfl, ite2 (fun c => ?_) (fun c => ?_)⟩
  · refine ⟨_, rfl, q H b (Same.refl H) ?_⟩
    have e : Kp415.larger x y = y := if_pos (of_decide_eq_true c)
    rw [e]
    exact fb
  · refine ⟨_, rfl, q H a (Same.refl H) ?_⟩
    have e : Kp415.larger x y = x := if_neg fun z => c (decide_eq_true z)
    rw [e]
    exact fa
def spSize (K : PySem.W.Frag) : Sp := fun vs H Q _ => ∃ (a : Addr) (x : Rat), vs = [.ref a] ∧ Fr K H a x ∧ ∀ (H' : Hp) (p : Addr), Same H H' → Fr K H' p (Kp415.absolute x) → Q (.ref p) H'
theorem ok_size (U : Fu K mg "size" (top 10) ["one"]) (mA : mg "abs" = none) : Gd P w K mg base CX0 1 "size" ["one"] (spSize K) := by
  refine U.ok sc10 (fun vs H Q E h => ?_) (fun f cdv A outer s H vs Q E hr h => ?_)
  · obtain ⟨a, x, rfl, _⟩ := h
    rfl
  · obtain ⟨a, x, rfl, fa, q⟩ := h
    refine ⟨_, pss_one (ps_ret (pe_tup (pa_cons (pe_callB call_abs (by rfl) mA PyProof.Rows.boot_abs (pa_cons (pe_ix ix_tup (pv 0) pe_int (fun _ _ => rfl)) pa_nil)) (pa_cons (pe_ix ix_tup (pv 0) pe_int (fun _ _ => rfl)) pa_nil)))), ?_⟩
    refine ⟨_, rfl, a, _, _, _, rfl, rfl, fa, at0 x, _, rfl, _, rfl, a, _, _, _, rfl, rfl, fa, at1 x, (by show 2 ≤ sizeLine; decide), fun p hp => ?_⟩
    refine q _ p (same_upd hp) (SqT.of ?_)
    rw [upd_same, frV, abs_num, abs_den]
/-- a list of fractions and its sum -/
def spTotal (K : PySem.W.Frag) : Sp := fun vs H Q _ => ∃ (a : Addr) (as : List V) (xs : List Rat) (k : Nat), vs = [.ref a] ∧ SqL K H a as ∧ FrL K H as xs ∧ (∀ x ∈ xs, Sm k x) ∧ 1 + xs.length * (k + 1) + k ≤ 9000 ∧
  ∀ (H' : Hp) (p : Addr), Same H H' → Fr K H' p xs.sum → Q (.ref p) H'
theorem ok_total (U : Fu K mg "total" (top 11) ["some"]) (GP : Gd P w K mg base CX0 2 "plus" two (spTwo K (· + ·) fun _ => True)) {aN : Addr} (mN : mg "NOUGHT" = some (.ref aN)) (wN : WrT K aN [.int 0, .int 1]) : Gd P w K mg base CX0 3 "total" ["some"] (spTotal K) := by
  refine U.ok sc11 (fun vs H Q E h => ?_) (fun f cdv A outer s H vs Q E hr h => ?_)
  · obtain ⟨a, as, xs, k, rfl, _⟩ := h
    rfl
  · obtain ⟨a, as, xs, k, rfl, hL, hF, hS, hb, q⟩ := h
    refine ⟨_, pss_cons (ps_set (i := 1) sc11.nd rfl (.inl rfl) (pe_glob (v := .ref aN) (by rfl) mN rfl))
      (pss_cons (ps_for PassesOwn.never rfl (pi_list (pv 0)) (pg_name (i := 2) sc11.nd rfl (.inl rfl)) (pss_one (ps_set (i := 1) sc11.nd rfl (.inl rfl) (pe_g GP hr (pa_cons (pv 1) (pa_cons (pv 2) pa_nil)) pass0))))
      (pss_one (ps_ret (pv 1)))), ?_⟩
    refine ⟨_, rfl, a, rfl, ⟨_, hL⟩, for_list (K := K) (a := a) (xs := as) (fun i σ H' => ∃ (p : Addr) (v : Option V), σ = [some (.ref a), some (.ref p), v] ∧ Same H H' ∧ Fr K H' p (tot (xs.take i)))
      ⟨aN, none, rfl, Same.refl H, wN.at H⟩ (fun i σ H' _ ⟨_, _, _, e, _⟩ => e.seq hL) ?_ ?_⟩
    · rintro i y σ H' hi ⟨p, v, rfl, e, fp⟩
      have hi' : i < xs.length := by
        rw [← hF.1]
        exact (List.getElem?_eq_some_iff.mp hi).1
      have hx : xs[i]? = some xs[i] := List.getElem?_eq_getElem hi'
      obtain ⟨b, hb1, hb2⟩ := hF.2 i _ hx
      rw [hb1] at hi
      have ey : V.ref b = y := Option.some.inj hi
      subst ey
      have hk := hS xs[i] (List.getElem_mem hi')
      have ht := sm_tot (k := k) (l := xs.take i) fun z hz => hS z (List.mem_of_mem_take hz)
      rw [List.length_take, Nat.min_eq_left (Nat.le_of_lt hi')] at ht
      have hm : i * (k + 1) ≤ xs.length * (k + 1) := Nat.mul_le_mul_right _ (Nat.le_of_lt hi')
      refine ⟨_, rfl, _, rfl, p, b, _, _, _, k, rfl, fp, hb2.same e, ht, hk, by omega, trivial, fun H2 p2 e2 f2 => ⟨p2, some (.ref b), rfl, e.trans e2, ?_⟩⟩
      rw [tot_take hx]
      exact f2
    · rintro σ H' ⟨p, v, rfl, e, fp⟩
      rw [hF.1, List.take_length, tot_is] at fp
      exact ⟨_, rfl, q H' p e fp⟩
end
end Sg
/-! ### D. the model in the heap -/
namespace Sg
open PySem PySem.Spec PyProof.Rows L2
theorem lk_here {k : Str} {v : V} {r : List (Str × V)} : List.lookup k ((k, v) :: r) = some v := by
  have e : (k == k) = true := beq_self_eq_true k
  simp only [List.lookup, e]
theorem lk_past {k g : Str} {v : V} {r : List (Str × V)} (h : (k == g) = false) : List.lookup k ((g, v) :: r) = List.lookup k r := by
  simp only [List.lookup, h]
theorem put_here {f : Str} {v x : V} {r : List (Str × V)} : putF f v ((f, x) :: r) = (f, v) :: r := if_pos rfl
theorem put_past {f g : Str} {v x : V} {r : List (Str × V)} (h : ¬ g = f) : putF f v ((g, x) :: r) = (g, x) :: putF f v r := if_neg h
/-- the fields of a model -/
def sF (t p r : Addr) : List (Str × V) := [("test", .ref t), ("production", .ref p), ("prior", .ref r)]
theorem sF_test (t p r : Addr) : (sF t p r).lookup ("test" : Str) = some (.ref t) := lk_here
theorem sF_prod (t p r : Addr) : (sF t p r).lookup ("production" : Str) = some (.ref p) := (lk_past (by decide +kernel)).trans lk_here
theorem sF_prior (t p r : Addr) : (sF t p r).lookup ("prior" : Str) = some (.ref r) := (lk_past (by decide +kernel)).trans ((lk_past (by decide +kernel)).trans lk_here)
theorem sF_no {m : Str} (h1 : (m == ("test" : Str)) = false) (h2 : (m == ("production" : Str)) = false) (h3 : (m == ("prior" : Str)) = false) (t p r : Addr) : (sF t p r).lookup m = none :=
  (lk_past h1).trans ((lk_past h2).trans ((lk_past h3).trans rfl))
theorem sF_put (t p r : Addr) : putF "prior" (.ref r) (putF "production" (.ref p) (putF "test" (.ref t) [])) = sF t p r := by
  show putF "prior" (.ref r) (putF "production" (.ref p) [(("test" : Str), .ref t)]) = _
  rw [put_past (by decide +kernel)]
  show putF "prior" (.ref r) [(("test" : Str), .ref t), (("production" : Str), .ref p)] = _
  rw [put_past (by decide +kernel), put_past (by decide +kernel)]
  rfl
/-- whole numbers as values -/
def vI (l : List Int) : List V := l.map V.int
def vN (l : List Nat) : List V := vI (nints l)
theorem vN_len (l : List Nat) : (vN l).length = l.length := by simp [vN, vI, nints]
theorem nints_len (l : List Nat) : (nints l).length = l.length := by simp [nints]
theorem nints_at {l : List Nat} {i : Nat} (h : i < l.length) : (nints l)[i]? = some ((l.getD i 0 : Nat) : Int) := by
  rw [nints, List.getElem?_map, List.getElem?_eq_getElem h, List.getD_eq_getElem?_getD, List.getElem?_eq_getElem h]
  rfl
theorem vN_at {l : List Nat} {i : Nat} (h : i < l.length) : (vN l)[i]? = some (.int ((l.getD i 0 : Nat) : Int)) := by
  rw [vN, vI, List.getElem?_map, nints_at h]
  rfl
theorem nints_sum : ∀ l : List Nat, (nints l).sum = ((l.sum : Nat) : Int)
  | [] => rfl
  | a :: r => by
    show ((a : Int) :: nints r).sum = _
    rw [List.sum_cons, nints_sum r, List.sum_cons]
    omega
theorem vN_set (l : List Nat) (j x : Nat) : (vN l).set j (.int (x : Int)) = vN (l.set j x) := by
  simp [vN, vI, nints, List.map_set]
theorem vN_rep (n x : Nat) : (List.replicate n [V.int (x : Int)]).flatten = vN (List.replicate n x) := by
  induction n with
  | zero => rfl
  | succ n ih =>
    rw [List.replicate_succ, List.flatten_cons, ih, List.replicate_succ]
    rfl
/-- at a: the model m; z is none of its lists -/
structure ModelAt (K : PySem.W.Frag) (CS : Addr) (z : Addr) (H : Hp) (a : Addr) (m : Kp415.Model) : Prop where
  ex : ∃ (dx t p r : Addr), H a = some (.ins CS dx (sF t p r)) ∧ H t = some (.lst (vN m.testWeights)) ∧ H p = some (.lst (vN m.productionWeights)) ∧ SqT K H r [.int (m.priorNum : Int), .int (m.priorDen : Int)] ∧ t ≠ z ∧ p ≠ z
  ok : MOk m
theorem ModelAt.same {K : PySem.W.Frag} {CS z : Addr} {H H' : Hp} {a : Addr} {m : Kp415.Model} (h : ModelAt K CS z H a m) (e : Same H H') : ModelAt K CS z H' a m := by
  obtain ⟨dx, t, p, r, h1, h2, h3, h4, h5, h6⟩ := h.ex
  exact ⟨⟨dx, t, p, r, e _ _ h1, e _ _ h2, e _ _ h3, same_tup e h4, h5, h6⟩, h.ok⟩
/-- what the text says of the class Signals -/
structure ClsS (K : PySem.W.Frag) (C : Addr) : Prop where
  cl : Cls K C
  nT : NoAttr K C "test"
  nP : NoAttr K C "production"
  nR : NoAttr K C "prior"
/-! #### a list that grows, at D -/
theorem same_grow {H H4 : Hp} {D : Addr} {o : HO} (hD : H D = none) (e : Same H H4) : Same H (upd H4 D o) := fun b x q => by
  rw [upd_ne (ne_of_none q hD)]
  exact e b x q
theorem tup_grow {K : PySem.W.Frag} {H : Hp} {D a : Addr} {l xs : List V} {o : HO} (hD : H D = some (.lst l)) (h : SqT K H a xs) : SqT K (upd H D o) a xs := by
  rcases h with (h | ⟨u, h⟩) | h
  · exact .inl (.inl (by rw [upd_ne (ne_of h hD (by intro z; cases z))]; exact h))
  · exact .inl (.inr ⟨u, by rw [upd_ne (ne_of h hD (by intro z; cases z))]; exact h⟩)
  · exact .inr h
theorem frl_grow {K : PySem.W.Frag} {H : Hp} {D : Addr} {l vs : List V} {xs : List Rat} {o : HO} (hD : H D = some (.lst l)) (h : FrL K H vs xs) : FrL K (upd H D o) vs xs := ⟨h.1, fun i x q => by
  obtain ⟨a, h1, h2⟩ := h.2 i x q
  exact ⟨a, h1, tup_grow hD h2⟩⟩
/-- behind H the list at D holds the fractions xs -/
structure Acc (K : PySem.W.Frag) (H : Hp) (D : Addr) (xs : List Rat) (H' : Hp) : Prop where
  same : Same H H'
  ex : ∃ as, H' D = some (.lst as) ∧ FrL K H' as xs
theorem Acc.start {K : PySem.W.Frag} {H : Hp} {D : Addr} (hD : H D = none) : Acc K H D [] (upd H D (.lst [])) := ⟨same_upd hD, [], upd_same, FrL.nil⟩
theorem Acc.more {K : PySem.W.Frag} {H H' H4 : Hp} {D p : Addr} {xs : List Rat} {x : Rat} (A : Acc K H D xs H') (hD : H D = none) (e : Same H' H4) (f : Fr K H4 p x) (hl : xs.length < sizeLine) :
    ∃ acc, H4 D = some (.lst acc) ∧ acc.length < sizeLine ∧ Acc K H D (xs ++ [x]) (upd H4 D (.lst (acc ++ [.ref p]))) := by
  obtain ⟨as, h1, h2⟩ := A.ex
  have h3 : H4 D = some (.lst as) := e _ _ h1
  exact ⟨as, h3, by rw [h2.1]; exact hl, same_grow hD (A.same.trans e), _, upd_same, frl_grow h3 ((h2.same e).snoc f)⟩
theorem small60 {n : Nat} (h : n ≤ 1000) : n < sizeLine := small1000 h
theorem range_take {α : Type} (g : Nat → α) (n i : Nat) (h : i < n) : ((List.range n).map g).take (i + 1) = ((List.range n).map g).take i ++ [g i] :=
  take_succ (by rw [List.getElem?_map, List.getElem?_range h]; rfl)
theorem range_all {α : Type} (g : Nat → α) (n : Nat) : ((List.range n).map g).take n = (List.range n).map g := by
  apply List.take_of_length_le
  simp
theorem range_len {α : Type} (g : Nat → α) (n i : Nat) (h : i ≤ n) : (((List.range n).map g).take i).length = i := by
  simp
  omega
/-! #### o[i] of a list, by values, ahead of a store -/
def rGetL (K : PySem.W.Frag) : V → V → Hp → VK → Prop := fun o i H Q => ∃ (p : Addr) (xs : List V) (k : Nat) (v : V), o = .ref p ∧ i = .int (k : Int) ∧ SqL K H p xs ∧ xs[k]? = some v ∧ Q v H
theorem get_list {X : Cx} : PGet X (rGetL X.K) := by
  intro pins s σ H o i ov iv Q I ro ri h
  obtain ⟨p, xs, k, v, rfl, rfl, hq, hv, q⟩ := h
  cases ro
  obtain ⟨t, rfl⟩ := ri
  obtain ⟨its, r, pl, hz⟩ := I.list hq
  obtain ⟨u, eu, ru⟩ := r.get hv
  have hk := (List.getElem?_eq_some_iff.mp hv).1
  have hn := line63
  exact wpAny_getItem_list pl.isList (by omega) (by omega) (by simpa using eu) ⟨v, H, I, ru, q⟩
end Sg
/-! ### E. the class Signals -/
namespace Sg
open PySem PySem.Spec PyProof.Rows L2
section
variable {P : Program} {w : World} {K : PySem.W.Frag} {mg : Str → Option Value} {base : Heap} {CS : Addr}
abbrev sM (j : Nat) : Stmt := inClass (top 28) j

theorem scM0 : FnScope ["self", "test", "production", "prior"] ["self", "test", "production", "prior"] (defScope (sM 0)) := ⟨rfl, rfl, rfl, by decide +kernel, rfl, by decide +kernel, by decide +kernel⟩
theorem scM1 : FnScope ["self"] ["self"] (defScope (sM 1)) := ⟨rfl, rfl, rfl, by decide +kernel, rfl, by decide +kernel, by decide +kernel⟩
theorem scM2 : FnScope ["self", "signal"] ["self", "signal"] (defScope (sM 2)) := ⟨rfl, rfl, rfl, by decide +kernel, rfl, by decide +kernel, by decide +kernel⟩
theorem scM3 : FnScope ["self", "signal"] ["self", "signal"] (defScope (sM 3)) := ⟨rfl, rfl, rfl, by decide +kernel, rfl, by decide +kernel, by decide +kernel⟩
theorem scM4 : FnScope ["self"] ["self"] (defScope (sM 4)) := ⟨rfl, rfl, rfl, by decide +kernel, rfl, by decide +kernel, by decide +kernel⟩
theorem scM5 : FnScope ["self"] ["self"] (defScope (sM 5)) := ⟨rfl, rfl, rfl, by decide +kernel, rfl, by decide +kernel, by decide +kernel⟩
theorem scM6 : FnScope ["self", "signal"] ["self", "signal"] (defScope (sM 6)) := ⟨rfl, rfl, rfl, by decide +kernel, rfl, by decide +kernel, by decide +kernel⟩
theorem scM7 : FnScope ["self", "signal"] ["self", "signal"] (defScope (sM 7)) := ⟨rfl, rfl, rfl, by decide +kernel, rfl, by decide +kernel, by decide +kernel⟩
theorem scM8 : FnScope ["self", "signal"] ["self", "signal"] (defScope (sM 8)) := ⟨rfl, rfl, rfl, by decide +kernel, rfl, by decide +kernel, by decide +kernel⟩
theorem scM9 : FnScope ["self", "signal"] ["self", "signal"] (defScope (sM 9)) := ⟨rfl, rfl, rfl, by decide +kernel, rfl, by decide +kernel, by decide +kernel⟩
theorem scM10 : FnScope ["self", "some", "signal", "one"] ["self"] (defScope (sM 10)) := ⟨rfl, rfl, rfl, by decide +kernel, rfl, by decide +kernel, by decide +kernel⟩
theorem scM11 : FnScope ["self", "one"] ["self"] (defScope (sM 11)) := ⟨rfl, rfl, rfl, by decide +kernel, rfl, by decide +kernel, by decide +kernel⟩
theorem scM12 : FnScope ["self"] ["self"] (defScope (sM 12)) := ⟨rfl, rfl, rfl, by decide +kernel, rfl, by decide +kernel, by decide +kernel⟩
theorem scM13 : FnScope ["self", "mapping", "test", "production", "signal", "own"] ["self", "mapping"] (defScope (sM 13)) := ⟨rfl, rfl, rfl, by decide +kernel, rfl, by decide +kernel, by decide +kernel⟩
theorem scM14 : FnScope ["self", "prior"] ["self", "prior"] (defScope (sM 14)) := ⟨rfl, rfl, rfl, by decide +kernel, rfl, by decide +kernel, by decide +kernel⟩

/-! #### promises -/
def spInitS (CS : Addr) : Sp := fun vs H Q _ => ∃ (x dx t p r : Addr), vs = [.ref x, .ref t, .ref p, .ref r] ∧ H x = some (.ins CS dx []) ∧
  ∀ H' : Hp, H' x = some (.ins CS dx (sF t p r)) → (∀ b o, H b = some o → b ≠ x → H' b = some o) → Q .non H'
def spMany (K : PySem.W.Frag) (CS : Addr) : Sp := fun vs H Q _ => ∃ (a z : Addr) (m : Kp415.Model), vs = [.ref a] ∧ ModelAt K CS z H a m ∧ Q (.int (m.testWeights.length : Int)) H
/-- a fraction of a signal -/
def spSig (K : PySem.W.Frag) (CS : Addr) (g : Kp415.Model → Nat → Rat) (R : Kp415.Model → Nat → Prop) : Sp := fun vs H Q _ => ∃ (a z : Addr) (m : Kp415.Model) (s : Nat), vs = [.ref a, .int (s : Int)] ∧ ModelAt K CS z H a m ∧ s < m.testWeights.length ∧ R m s ∧
  ∀ (H' : Hp) (p : Addr), Same H H' → Fr K H' p (g m s) → Q (.ref p) H'
/-- a fraction of the model -/
def spMod (K : PySem.W.Frag) (CS : Addr) (g : Kp415.Model → Rat) : Sp := fun vs H Q _ => ∃ (a z : Addr) (m : Kp415.Model), vs = [.ref a] ∧ ModelAt K CS z H a m ∧
  ∀ (H' : Hp) (p : Addr), Same H H' → Fr K H' p (g m) → Q (.ref p) H'
theorem spMod_len {g : Kp415.Model → Rat} (vs : List V) (H : Hp) (Q : VK) (E : XK) (h : spMod K CS g vs H Q E) : vs.length = (["self"] : List Str).length := by
  obtain ⟨a, z, m, rfl, _⟩ := h
  rfl
theorem spSig_len {g : Kp415.Model → Nat → Rat} {R : Kp415.Model → Nat → Prop} (vs : List V) (H : Hp) (Q : VK) (E : XK) (h : spSig K CS g R vs H Q E) : vs.length = (["self", "signal"] : List Str).length := by
  obtain ⟨a, z, m, s, rfl, _⟩ := h
  rfl
abbrev noR : Kp415.Model → Nat → Prop := fun _ _ => True
theorem ok_initS (U : Mu K CS "__init__" "Signals.__init__" (sM 0) ["self", "test", "production", "prior"]) (T : ClsS K CS) : Md P w K mg base CX0 1 CS "__init__" ["self", "test", "production", "prior"] (spInitS CS) := by
  refine U.ok scM0 (fun vs H Q E h => ?_) (fun f cdv A outer s H vs Q E hr h => ?_)
  · obtain ⟨x, dx, t, p, r, rfl, _⟩ := h
    rfl
  · obtain ⟨x, dx, t, p, r, rfl, hx, q⟩ := h
    refine ⟨_, pss_cons (ps_fld (pv 0) (pv 1) rfl) (pss_cons (ps_fld (pv 0) (pv 2) rfl) (pss_one (ps_fld (pv 0) (pv 3) rfl))), ?_⟩
    refine ⟨_, rfl, _, rfl, x, CS, dx, [], rfl, hx, T.cl, T.nT, (by show 0 < 1000; decide), ?_⟩
    refine ⟨_, rfl, _, rfl, x, CS, dx, _, rfl, upd_same, T.cl, T.nP, (by show 1 < 1000; decide), ?_⟩
    refine ⟨_, rfl, _, rfl, x, CS, dx, _, rfl, upd_same, T.cl, T.nR, (by show 2 < 1000; decide), ?_⟩
    refine q _ (Eq.trans upd_same (congrArg (fun q => some (HO.ins CS dx q)) (sF_put t p r))) fun b o e hb => ?_
    rw [upd_ne hb, upd_ne hb, upd_ne hb]
    exact e
theorem ok_many (U : Mu K CS "many" "Signals.many" (sM 1) ["self"]) (T : ClsS K CS) (mL : mg "len" = none) : Md P w K mg base CX0 1 CS "many" ["self"] (spMany K CS) := by
  refine U.ok scM1 (fun vs H Q E h => ?_) (fun f cdv A outer s H vs Q E hr h => ?_)
  · obtain ⟨a, z, m, rfl, _⟩ := h
    rfl
  · obtain ⟨a, z, m, rfl, hM, q⟩ := h
    obtain ⟨dx, t, p, r, h1, h2, h3, h4, _, _⟩ := hM.ex
    refine ⟨_, pss_one (ps_ret (pe_callB call_len_seq (by rfl) mL PySem.boot_len (pa_cons (pe_fld (pv 0) rfl) pa_nil))), ?_⟩
    refine ⟨_, rfl, a, CS, dx, _, _, rfl, h1, T.cl, T.nT, sF_test t p r, t, _, rfl, .inl (SqL.of h2), ?_⟩
    rw [vN_len]
    exact q

theorem ok_test_share (U : Mu K CS "test_share" "Signals.test_share" (sM 2) ["self", "signal"]) (T : ClsS K CS) (mS : mg "sum" = none) (GL : Gd P w K mg base CX0 1 "lowest" ["upper", "lower"] (spLowest K)) : Md P w K mg base CX0 2 CS "test_share" ["self", "signal"] (spSig K CS Kp415.testShare noR) := by
  refine U.ok scM2 spSig_len (fun f cdv A outer s H vs Q E hr h => ?_)
  obtain ⟨a, z, m, s, rfl, hM, hs, _, q⟩ := h
  obtain ⟨dx, t, p, r, h1, h2, h3, h4, _, _⟩ := hM.ex
  refine ⟨_, pss_one (ps_ret (pe_g GL hr (pa_cons (pe_ix ix_list (pe_fld (pv 0) rfl) (pv 1) (fun _ _ => rfl)) (pa_cons (pe_callB (cr_sum rfl) (by rfl) mS PyProof.Rows.boot_sum (pa_cons (pe_fld (pv 0) rfl) pa_nil)) pa_nil)) pass0)), ?_⟩
  refine ⟨_, rfl, a, CS, dx, _, _, rfl, h1, T.cl, T.nT, sF_test t p r, _, rfl, t, _, _, _, rfl, rfl, SqL.of h2, atI_nat (vN_at (by exact hs)), ?_⟩
  refine ⟨_, rfl, a, CS, dx, _, _, rfl, h1, T.cl, T.nT, sF_test t p r, t, _, rfl, SqL.of h2, ?_⟩
  have h0 := hM.ok.t1
  have h9 := hM.ok.t5
  rw [nints_sum]
  refine ⟨_, _, 9, rfl, by omega, by omega, by decide, fun H' p e fr => q H' p e ?_⟩
  rw [share_is] at fr
  exact fr
theorem ok_production_share (U : Mu K CS "production_share" "Signals.production_share" (sM 3) ["self", "signal"]) (T : ClsS K CS) (mS : mg "sum" = none) (GL : Gd P w K mg base CX0 1 "lowest" ["upper", "lower"] (spLowest K)) : Md P w K mg base CX0 2 CS "production_share" ["self", "signal"] (spSig K CS Kp415.productionShare noR) := by
  refine U.ok scM3 spSig_len (fun f cdv A outer s H vs Q E hr h => ?_)
  obtain ⟨a, z, m, s, rfl, hM, hs, _, q⟩ := h
  obtain ⟨dx, t, p, r, h1, h2, h3, h4, _, _⟩ := hM.ex
  refine ⟨_, pss_one (ps_ret (pe_g GL hr (pa_cons (pe_ix ix_list (pe_fld (pv 0) rfl) (pv 1) (fun _ _ => rfl)) (pa_cons (pe_callB (cr_sum rfl) (by rfl) mS PyProof.Rows.boot_sum (pa_cons (pe_fld (pv 0) rfl) pa_nil)) pa_nil)) pass0)), ?_⟩
  refine ⟨_, rfl, a, CS, dx, _, _, rfl, h1, T.cl, T.nP, sF_prod t p r, _, rfl, p, _, _, _, rfl, rfl, SqL.of h3, atI_nat (vN_at (by rw [hM.ok.len]; exact hs)), ?_⟩
  refine ⟨_, rfl, a, CS, dx, _, _, rfl, h1, T.cl, T.nP, sF_prod t p r, p, _, rfl, SqL.of h3, ?_⟩
  have h0 := hM.ok.p1
  have h9 := hM.ok.p5
  rw [nints_sum]
  refine ⟨_, _, 9, rfl, by omega, by omega, by decide, fun H' p e fr => q H' p e ?_⟩
  rw [share_is] at fr
  exact fr
theorem pr_at0 (m : Kp415.Model) : atI [V.int (m.priorNum : Int), .int (m.priorDen : Int)] 0 = some (.int (m.priorNum : Int)) := atI_nat (j := 0) rfl
theorem pr_at1 (m : Kp415.Model) : atI [V.int (m.priorNum : Int), .int (m.priorDen : Int)] 1 = some (.int (m.priorDen : Int)) := atI_nat (j := 1) rfl
theorem ok_test_prior (U : Mu K CS "test_prior" "Signals.test_prior" (sM 4) ["self"]) (T : ClsS K CS) (GL : Gd P w K mg base CX0 1 "lowest" ["upper", "lower"] (spLowest K)) : Md P w K mg base CX0 2 CS "test_prior" ["self"] (spMod K CS Kp415.priorTest) := by
  refine U.ok scM4 spMod_len (fun f cdv A outer s H vs Q E hr h => ?_)
  obtain ⟨a, z, m, rfl, hM, q⟩ := h
  obtain ⟨dx, t, p, r, h1, h2, h3, h4, _, _⟩ := hM.ex
  refine ⟨_, pss_one (ps_ret (pe_g GL hr (pa_cons (pe_ix ix_tup (pe_fld (pv 0) rfl) pe_int (fun _ _ => rfl)) (pa_cons (pe_ix ix_tup (pe_fld (pv 0) rfl) pe_int (fun _ _ => rfl)) pa_nil)) pass0)), ?_⟩
  refine ⟨_, rfl, a, CS, dx, _, _, rfl, h1, T.cl, T.nR, sF_prior t p r, r, _, _, _, rfl, rfl, h4, pr_at0 m, ?_⟩
  refine ⟨_, rfl, a, CS, dx, _, _, rfl, h1, T.cl, T.nR, sF_prior t p r, r, _, _, _, rfl, rfl, h4, pr_at1 m, ?_⟩
  have h0 := hM.ok.d1
  have h9 := hM.ok.d9
  refine ⟨_, _, 7, rfl, by omega, by omega, by decide, fun H' p e fr => q H' p e ?_⟩
  rw [prior_is] at fr
  exact fr
theorem ok_production_prior (U : Mu K CS "production_prior" "Signals.production_prior" (sM 5) ["self"]) (T : ClsS K CS) {aO : Addr} (mO : mg "ONE" = some (.ref aO)) (wO : WrT K aO [.int 1, .int 1])
    (GM : Gd P w K mg base CX0 2 "minus" two (spTwo K (· - ·) fun _ => True)) (GT : Md P w K mg base CX0 2 CS "test_prior" ["self"] (spMod K CS Kp415.priorTest)) : Md P w K mg base CX0 3 CS "production_prior" ["self"] (spMod K CS Kp415.priorProduction) := by
  refine U.ok scM5 spMod_len (fun f cdv A outer s H vs Q E hr h => ?_)
  obtain ⟨a, z, m, rfl, hM, q⟩ := h
  obtain ⟨dx, t, p, r, h1, h2, h3, h4, _, _⟩ := hM.ex
  refine ⟨_, pss_one (ps_ret (pe_g GM hr (pa_cons (pe_glob (v := .ref aO) (by rfl) mO rfl) (pa_cons (pe_m0 GT T.cl hr (pv 0) pass0) pa_nil)) pass0)), ?_⟩
  refine ⟨_, rfl, a, dx, _, rfl, h1, sF_no (by decide +kernel) (by decide +kernel) (by decide +kernel) t p r, a, z, m, rfl, hM, fun H1 b e fb => ?_⟩
  exact ⟨aO, b, 1, _, 1, 7, rfl, wO.at H1, fb, sm_one, hM.ok.prior, by decide, trivial, fun H2 c e2 fc => q H2 c (e.trans e2) fc⟩
theorem ok_joint_test (U : Mu K CS "joint_test" "Signals.joint_test" (sM 6) ["self", "signal"]) (T : ClsS K CS) (GX : Gd P w K mg base CX0 2 "times" two (spTwo K (· * ·) fun _ => True))
    (GP : Md P w K mg base CX0 2 CS "test_prior" ["self"] (spMod K CS Kp415.priorTest)) (GS : Md P w K mg base CX0 2 CS "test_share" ["self", "signal"] (spSig K CS Kp415.testShare noR)) : Md P w K mg base CX0 3 CS "joint_test" ["self", "signal"] (spSig K CS Kp415.jointTest noR) := by
  refine U.ok scM6 spSig_len (fun f cdv A outer s H vs Q E hr h => ?_)
  obtain ⟨a, z, m, s, rfl, hM, hs, _, q⟩ := h
  refine ⟨_, pss_one (ps_ret (pe_g GX hr (pa_cons (pe_m0 GP T.cl hr (pv 0) pass0) (pa_cons (pe_m GS T.cl hr (pv 0) (pa_cons (pv 1) pa_nil) pass0) pa_nil)) pass0)), ?_⟩
  obtain ⟨dx, t, p, r, h1, _⟩ := hM.ex
  refine ⟨_, rfl, a, dx, _, rfl, h1, sF_no (by decide +kernel) (by decide +kernel) (by decide +kernel) t p r, a, z, m, rfl, hM, fun H1 b e fb => ?_⟩
  refine ⟨_, rfl, a, dx, _, rfl, e _ _ h1, sF_no (by decide +kernel) (by decide +kernel) (by decide +kernel) t p r, _, rfl, a, z, m, s, rfl, hM.same e, hs, trivial, fun H2 c e2 fc => ?_⟩
  exact ⟨b, c, _, _, 7, 9, rfl, fb.same e2, fc, hM.ok.prior, hM.ok.ts s, by decide, trivial, fun H3 d e3 fd => q H3 d (e.trans (e2.trans e3)) fd⟩
theorem ok_joint_production (U : Mu K CS "joint_production" "Signals.joint_production" (sM 7) ["self", "signal"]) (T : ClsS K CS) (GX : Gd P w K mg base CX0 2 "times" two (spTwo K (· * ·) fun _ => True))
    (GP : Md P w K mg base CX0 3 CS "production_prior" ["self"] (spMod K CS Kp415.priorProduction)) (GS : Md P w K mg base CX0 2 CS "production_share" ["self", "signal"] (spSig K CS Kp415.productionShare noR)) : Md P w K mg base CX0 4 CS "joint_production" ["self", "signal"] (spSig K CS Kp415.jointProduction noR) := by
  refine U.ok scM7 spSig_len (fun f cdv A outer s H vs Q E hr h => ?_)
  obtain ⟨a, z, m, s, rfl, hM, hs, _, q⟩ := h
  refine ⟨_, pss_one (ps_ret (pe_g GX hr (pa_cons (pe_m0 GP T.cl hr (pv 0) pass0) (pa_cons (pe_m GS T.cl hr (pv 0) (pa_cons (pv 1) pa_nil) pass0) pa_nil)) pass0)), ?_⟩
  obtain ⟨dx, t, p, r, h1, _⟩ := hM.ex
  refine ⟨_, rfl, a, dx, _, rfl, h1, sF_no (by decide +kernel) (by decide +kernel) (by decide +kernel) t p r, a, z, m, rfl, hM, fun H1 b e fb => ?_⟩
  refine ⟨_, rfl, a, dx, _, rfl, e _ _ h1, sF_no (by decide +kernel) (by decide +kernel) (by decide +kernel) t p r, _, rfl, a, z, m, s, rfl, hM.same e, hs, trivial, fun H2 c e2 fc => ?_⟩
  exact ⟨b, c, _, _, 9, 9, rfl, fb.same e2, fc, hM.ok.prodPrior, hM.ok.ps s, by decide, trivial, fun H3 d e3 fd => q H3 d (e.trans (e2.trans e3)) fd⟩
theorem ok_probability (U : Mu K CS "probability" "Signals.probability" (sM 8) ["self", "signal"]) (T : ClsS K CS) (GX : Gd P w K mg base CX0 2 "plus" two (spTwo K (· + ·) fun _ => True))
    (G1 : Md P w K mg base CX0 3 CS "joint_test" ["self", "signal"] (spSig K CS Kp415.jointTest noR)) (G2 : Md P w K mg base CX0 4 CS "joint_production" ["self", "signal"] (spSig K CS Kp415.jointProduction noR)) : Md P w K mg base CX0 5 CS "probability" ["self", "signal"] (spSig K CS Kp415.signalProbability noR) := by
  refine U.ok scM8 spSig_len (fun f cdv A outer s H vs Q E hr h => ?_)
  obtain ⟨a, z, m, s, rfl, hM, hs, _, q⟩ := h
  refine ⟨_, pss_one (ps_ret (pe_g GX hr (pa_cons (pe_m G1 T.cl hr (pv 0) (pa_cons (pv 1) pa_nil) pass0) (pa_cons (pe_m G2 T.cl hr (pv 0) (pa_cons (pv 1) pa_nil) pass0) pa_nil)) pass0)), ?_⟩
  obtain ⟨dx, t, p, r, h1, _⟩ := hM.ex
  refine ⟨_, rfl, a, dx, _, rfl, h1, sF_no (by decide +kernel) (by decide +kernel) (by decide +kernel) t p r, _, rfl, a, z, m, s, rfl, hM, hs, trivial, fun H1 b e fb => ?_⟩
  refine ⟨_, rfl, a, dx, _, rfl, e _ _ h1, sF_no (by decide +kernel) (by decide +kernel) (by decide +kernel) t p r, _, rfl, a, z, m, s, rfl, hM.same e, hs, trivial, fun H2 c e2 fc => ?_⟩
  exact ⟨b, c, _, _, 18, 18, rfl, fb.same e2, fc, hM.ok.jt s, hM.ok.jp s, by decide, trivial, fun H3 d e3 fd => q H3 d (e.trans (e2.trans e3)) fd⟩
theorem ok_posterior (U : Mu K CS "posterior" "Signals.posterior" (sM 9) ["self", "signal"]) (T : ClsS K CS) (GX : Gd P w K mg base CX0 2 "parted" two (spTwo K (· / ·) fun y => 0 < y))
    (G1 : Md P w K mg base CX0 3 CS "joint_test" ["self", "signal"] (spSig K CS Kp415.jointTest noR)) (G2 : Md P w K mg base CX0 5 CS "probability" ["self", "signal"] (spSig K CS Kp415.signalProbability noR)) : Md P w K mg base CX0 6 CS "posterior" ["self", "signal"] (spSig K CS Kp415.posteriorTest fun m s => 0 < Kp415.signalProbability m s) := by
  refine U.ok scM9 spSig_len (fun f cdv A outer s H vs Q E hr h => ?_)
  obtain ⟨a, z, m, s, rfl, hM, hs, h0, q⟩ := h
  refine ⟨_, pss_one (ps_ret (pe_g GX hr (pa_cons (pe_m G1 T.cl hr (pv 0) (pa_cons (pv 1) pa_nil) pass0) (pa_cons (pe_m G2 T.cl hr (pv 0) (pa_cons (pv 1) pa_nil) pass0) pa_nil)) pass0)), ?_⟩
  obtain ⟨dx, t, p, r, h1, _⟩ := hM.ex
  refine ⟨_, rfl, a, dx, _, rfl, h1, sF_no (by decide +kernel) (by decide +kernel) (by decide +kernel) t p r, _, rfl, a, z, m, s, rfl, hM, hs, trivial, fun H1 b e fb => ?_⟩
  refine ⟨_, rfl, a, dx, _, rfl, e _ _ h1, sF_no (by decide +kernel) (by decide +kernel) (by decide +kernel) t p r, _, rfl, a, z, m, s, rfl, hM.same e, hs, trivial, fun H2 c e2 fc => ?_⟩
  exact ⟨b, c, _, _, 18, 37, rfl, fb.same e2, fc, hM.ok.jt s, hM.ok.prob s, by decide, h0, fun H3 d e3 fd => q H3 d (e.trans (e2.trans e3)) fd⟩
theorem ok_blind (U : Mu K CS "blind" "Signals.blind" (sM 12) ["self"]) (T : ClsS K CS) (GX : Gd P w K mg base CX0 2 "greater" two (spTwo K Kp415.larger fun _ => True))
    (G1 : Md P w K mg base CX0 2 CS "test_prior" ["self"] (spMod K CS Kp415.priorTest)) (G2 : Md P w K mg base CX0 3 CS "production_prior" ["self"] (spMod K CS Kp415.priorProduction)) : Md P w K mg base CX0 4 CS "blind" ["self"] (spMod K CS Kp415.blindAccuracy) := by
  refine U.ok scM12 spMod_len (fun f cdv A outer s H vs Q E hr h => ?_)
  obtain ⟨a, z, m, rfl, hM, q⟩ := h
  refine ⟨_, pss_one (ps_ret (pe_g GX hr (pa_cons (pe_m0 G1 T.cl hr (pv 0) pass0) (pa_cons (pe_m0 G2 T.cl hr (pv 0) pass0) pa_nil)) pass0)), ?_⟩
  obtain ⟨dx, t, p, r, h1, _⟩ := hM.ex
  refine ⟨_, rfl, a, dx, _, rfl, h1, sF_no (by decide +kernel) (by decide +kernel) (by decide +kernel) t p r, a, z, m, rfl, hM, fun H1 b e fb => ?_⟩
  refine ⟨_, rfl, a, dx, _, rfl, e _ _ h1, sF_no (by decide +kernel) (by decide +kernel) (by decide +kernel) t p r, a, z, m, rfl, hM.same e, fun H2 c e2 fc => ?_⟩
  exact ⟨b, c, _, _, 7, 9, rfl, fb.same e2, fc, hM.ok.prior, hM.ok.prodPrior, by decide, trivial, fun H3 d e3 fd => q H3 d (e.trans (e2.trans e3)) fd⟩
theorem ok_accuracy (U : Mu K CS "accuracy" "Signals.accuracy" (sM 11) ["self"]) (T : ClsS K CS) (mR : mg "range" = none) (GM : Md P w K mg base CX0 1 CS "many" ["self"] (spMany K CS)) (GX : Gd P w K mg base CX0 2 "greater" two (spTwo K Kp415.larger fun _ => True))
    (GT : Gd P w K mg base CX0 3 "total" ["some"] (spTotal K)) (G1 : Md P w K mg base CX0 3 CS "joint_test" ["self", "signal"] (spSig K CS Kp415.jointTest noR)) (G2 : Md P w K mg base CX0 4 CS "joint_production" ["self", "signal"] (spSig K CS Kp415.jointProduction noR)) :
    Md P w K mg base CX0 5 CS "accuracy" ["self"] (spMod K CS Kp415.bestAccuracy) := by
  refine U.ok scM11 spMod_len (fun f cdv A outer s H vs Q E hr h => ?_)
  obtain ⟨a, z, m, rfl, hM, q⟩ := h
  have n5 := hM.ok.n5
  refine ⟨_, pss_one (ps_ret (pe_g GT hr (pa_cons (pe_lc (own := [("one", 1)]) (g := gName 1) (tt := tYes) rfl scM11.nd (pi_range1 (by rfl) mR (pa_cons (pe_m0 GM T.cl hr (pv 0) pass0) pa_nil)) (blkOk_by (N := ["self", "one"]) (sc := defScope (sM 11)) (by decide +kernel)) (fun _ _ _ _ _ => pg_name (i := 1) scM11.nd rfl (Or.inl rfl)) (fun _ _ _ _ _ => pts_nil)
    (fun _ _ _ _ _ => pe_g GX hr (pa_cons (pe_m G1 T.cl hr (pv 0) (pa_cons (pv 1) pa_nil) pass0) (pa_cons (pe_m G2 T.cl hr (pv 0) (pa_cons (pv 1) pa_nil) pass0) pa_nil)) pass0)) pa_nil) pass0)), ?_⟩
  obtain ⟨dx, t, p, r, h1, _⟩ := hM.ex
  refine ⟨_, rfl, a, dx, _, rfl, h1, sF_no (by decide +kernel) (by decide +kernel) (by decide +kernel) t p r, a, z, m, rfl, hM, _, rfl, by omega, by omega, fun D hD => ?_⟩
  refine lc_range (lo := 0) (n := m.testWeights.length) (fun i H' => Acc K H D (((List.range m.testWeights.length).map fun s => Kp415.larger (Kp415.jointTest m s) (Kp415.jointProduction m s)).take i) H') (Acc.start hD) (fun i H' hi hA => ?_) (fun H' hA => ?_)
  · refine ⟨rfl, ?_⟩
    have e0 := hA.same
    refine ⟨_, rfl, a, dx, _, rfl, e0 _ _ h1, sF_no (by decide +kernel) (by decide +kernel) (by decide +kernel) t p r, _, rfl, a, z, m, i, by simp, hM.same e0, hi, trivial, fun H1 b e fb => ?_⟩
    refine ⟨_, rfl, a, dx, _, rfl, e _ _ (e0 _ _ h1), sF_no (by decide +kernel) (by decide +kernel) (by decide +kernel) t p r, _, rfl, a, z, m, i, by simp, (hM.same e0).same e, hi, trivial, fun H2 c e2 fc => ?_⟩
    refine ⟨b, c, _, _, 18, 18, rfl, fb.same e2, fc, hM.ok.jt i, hM.ok.jp i, by decide, trivial, fun H3 d e3 fd => ?_⟩
    rw [range_take _ _ _ hi]
    exact hA.more hD (e.trans (e2.trans e3)) fd (by rw [range_len _ _ _ (Nat.le_of_lt hi)]; exact small60 (by omega))
  · obtain ⟨as, h2, h3⟩ := hA.ex
    rw [range_all] at h3
    refine ⟨D, as, _, 18, rfl, SqL.of h2, h3, fun x hx => ?_, by simp; omega, fun H2 b e2 fb => q H2 b (hA.same.trans e2) fb⟩
    obtain ⟨s, _, rfl⟩ := List.mem_map.mp hx
    exact (hM.ok.jt s).larger (hM.ok.jp s)
theorem ok_variation (U : Mu K CS "variation" "Signals.variation" (sM 10) ["self"]) (T : ClsS K CS) (mR : mg "range" = none) {aH : Addr} (mH : mg "HALF_signals" = some (.ref aH)) (wH : WrT K aH [.int 1, .int 2]) (GM : Md P w K mg base CX0 1 CS "many" ["self"] (spMany K CS))
    (GX : Gd P w K mg base CX0 2 "minus" two (spTwo K (· - ·) fun _ => True)) (GY : Gd P w K mg base CX0 2 "times" two (spTwo K (· * ·) fun _ => True)) (GZ : Gd P w K mg base CX0 1 "size" ["one"] (spSize K))
    (GT : Gd P w K mg base CX0 3 "total" ["some"] (spTotal K)) (G1 : Md P w K mg base CX0 2 CS "test_share" ["self", "signal"] (spSig K CS Kp415.testShare noR)) (G2 : Md P w K mg base CX0 2 CS "production_share" ["self", "signal"] (spSig K CS Kp415.productionShare noR)) :
    Md P w K mg base CX0 4 CS "variation" ["self"] (spMod K CS Kp415.totalVariation) := by
  refine U.ok scM10 spMod_len (fun f cdv A outer s H vs Q E hr h => ?_)
  obtain ⟨a, z, m, rfl, hM, q⟩ := h
  have n5 := hM.ok.n5
  refine ⟨_, pss_cons (ps_setLc (i := 1) (own := [("signal", 2)]) (g := gName 2) (tt := tYes) rfl scM10.nd rfl rfl (sw_true rfl rfl rfl (by decide +kernel)) (pi_range1 (by rfl) mR (pa_cons (pe_m0 GM T.cl hr (pv 0) pass0) pa_nil)) (blkOk_by (N := ["self", "some", "signal", "one"]) (sc := defScope (sM 10)) (by decide +kernel)) (fun _ _ _ _ _ => pg_name (i := 2) scM10.nd rfl (Or.inl rfl)) (fun _ _ _ _ _ => pts_nil)
      (fun _ _ _ _ _ => pe_g GX hr (pa_cons (pe_m G1 T.cl hr (pv 0) (pa_cons (pv 2) pa_nil) pass0) (pa_cons (pe_m G2 T.cl hr (pv 0) (pa_cons (pv 2) pa_nil) pass0) pa_nil)) pass0))
    (pss_one (ps_ret (pe_g GY hr (pa_cons (pe_glob (v := .ref aH) (by rfl) mH rfl) (pa_cons (pe_g GT hr (pa_cons (pe_lc (own := [("one", 3)]) (g := gName 3) (tt := tYes) rfl scM10.nd (pi_list (pv 1)) (blkOk_by (N := ["self", "some", "signal", "one"]) (sc := defScope (sM 10)) (by decide +kernel)) (fun _ _ _ _ _ => pg_name (i := 3) scM10.nd rfl (Or.inl rfl)) (fun _ _ _ _ _ => pts_nil)
      (fun _ _ _ _ _ => pe_g GZ hr (pa_cons (pv 3) pa_nil) pass0)) pa_nil) pass0) pa_nil)) pass0))), ?_⟩
  obtain ⟨dx, t, p, r, h1, _⟩ := hM.ex
  refine ⟨_, rfl, a, dx, _, rfl, h1, sF_no (by decide +kernel) (by decide +kernel) (by decide +kernel) t p r, a, z, m, rfl, hM, _, rfl, by omega, by omega, fun D hD => ?_⟩
  refine lc_range (lo := 0) (n := m.testWeights.length) (fun i H' => Acc K H D (((List.range m.testWeights.length).map fun s => Kp415.testShare m s - Kp415.productionShare m s).take i) H') (Acc.start hD) (fun i H' hi hA => ?_) (fun H' hA => ?_)
  · refine ⟨rfl, ?_⟩
    have e0 := hA.same
    refine ⟨_, rfl, a, dx, _, rfl, e0 _ _ h1, sF_no (by decide +kernel) (by decide +kernel) (by decide +kernel) t p r, _, rfl, a, z, m, i, by simp, hM.same e0, hi, trivial, fun H1 b e fb => ?_⟩
    refine ⟨_, rfl, a, dx, _, rfl, e _ _ (e0 _ _ h1), sF_no (by decide +kernel) (by decide +kernel) (by decide +kernel) t p r, _, rfl, a, z, m, i, by simp, (hM.same e0).same e, hi, trivial, fun H2 c e2 fc => ?_⟩
    refine ⟨b, c, _, _, 9, 9, rfl, fb.same e2, fc, hM.ok.ts i, hM.ok.ps i, by decide, trivial, fun H3 d e3 fd => ?_⟩
    rw [range_take _ _ _ hi]
    exact hA.more hD (e.trans (e2.trans e3)) fd (by rw [range_len _ _ _ (Nat.le_of_lt hi)]; exact small60 (by omega))
  · obtain ⟨as, h2, h3⟩ := hA.ex
    rw [range_all] at h3
    have la : as.length = m.testWeights.length := by
      rw [h3.1]
      simp
    refine ⟨_, rfl, D, rfl, ⟨_, SqL.of h2⟩, fun D2 hD2 => ?_⟩
    refine lc_list (K := K) (a := D) (xs := as) (fun i H2 => Acc K H' D2 (((List.range m.testWeights.length).map fun s => Kp415.absolute (Kp415.testShare m s - Kp415.productionShare m s)).take i) H2) (Acc.start hD2) (fun i H2 _ hB => SqL.of (hB.same _ _ h2)) (fun i x H2 hx hB => ?_) (fun H2 hB => ?_)
    · have hi : i < m.testWeights.length := by
        rw [← la]
        exact (List.getElem?_eq_some_iff.mp hx).1
      obtain ⟨b, hb1, hb2⟩ := h3.2 i _ (by rw [List.getElem?_map, List.getElem?_range hi]; rfl)
      rw [hb1] at hx
      have ex : V.ref b = x := Option.some.inj hx
      subst ex
      refine ⟨rfl, ?_⟩
      refine ⟨_, rfl, b, _, rfl, hb2.same hB.same, fun H3 d e3 fd => ?_⟩
      rw [range_take _ _ _ hi]
      exact hB.more hD2 e3 fd (by rw [range_len _ _ _ (Nat.le_of_lt hi)]; exact small60 (by omega))
    · obtain ⟨as2, k2, k3⟩ := hB.ex
      rw [la, range_all] at k3
      have sd : ∀ s, Sm 19 (Kp415.absolute (Kp415.testShare m s - Kp415.productionShare m s)) := fun s => ((hM.ok.ts s).sub (hM.ok.ps s)).abs
      have sa : ∀ x ∈ (List.range m.testWeights.length).map fun s => Kp415.absolute (Kp415.testShare m s - Kp415.productionShare m s), Sm 19 x := fun x hx => by
        obtain ⟨s, _, rfl⟩ := List.mem_map.mp hx
        exact sd s
      have st := sm_tot sa
      rw [tot_is] at st
      refine ⟨D2, as2, _, 19, rfl, SqL.of k2, k3, sa, by simp; omega, fun H3 b e3 fb => ?_⟩
      refine ⟨aH, b, mkRat 1 2, _, 2, _, rfl, wH.at H3, fb, sm_half, st, by simp; omega, trivial, fun H4 c e4 fc => ?_⟩
      replace fc : Fr K H4 c (mkRat 1 2 * (List.map (fun s => Kp415.absolute (Kp415.testShare m s - Kp415.productionShare m s)) (List.range m.testWeights.length)).sum) := fc
      rw [half_is] at fc
      exact q H4 c (hA.same.trans (hB.same.trans (e3.trans e4))) fc
end
end Sg
/-! ### F. Signals: new models out of a model -/
namespace Sg
open PySem PySem.Spec PyProof.Rows L2
/-- the class at C, the global x, makes instances -/
structure MkC (K : PySem.W.Frag) (mg : Str → Option Value) (x : Str) (C : Addr) : Prop where
  makes : PySem.W.makesIn K C = true
  kc : PySem.W.keepIn K (.ref C) = true
  g : mg x = some (.ref C)
section
variable {X : Cx} {CX : CXT} {k j : Nat} {C : Addr} {ps : List Str} {sp : Sp} {E : XK} {x : Str} {p pos : Pos} {e : Expr} {es : List Expr} {t : TA}
/-- C(e, ..) -/
theorem pe_mk (G : Md X.prog X.w X.K X.mg X.base CX k C "__init__" ps sp) (M : MkC X.K X.mg x C) (hr : Room j X.A) (ha : PA X (e :: es) t) (hx : Passes CX X E) (hj : k + 1 ≤ j := by decide) (hg : Gl X x := by rfl)
    (hdb : (x == ("__debug__" : Str)) = false := by decide) (he : starEach (e :: es) X.env = (false, eval e X.env) :: starEach es X.env := by rfl) (hpl : (backTo pos (starEach es X.env)).any (·.1) = false := by rfl) :
    PE X (.Call (.Name x p) (e :: es) [] pos) (tMake C sp [] E t) := by
  obtain ⟨f, fd, F, hm, b⟩ := G.ex
  exact pe_make ⟨M.makes, hm.at_, hm.fn, M.kc⟩ F (hr.mono hj) hg M.g b .nil hx ha hdb he hpl
/-- C() -/
theorem pe_mk0 (G : Md X.prog X.w X.K X.mg X.base CX k C "__init__" ps sp) (M : MkC X.K X.mg x C) (hr : Room j X.A) (hx : Passes CX X E) (hj : k + 1 ≤ j := by decide) (hg : Gl X x := by rfl)
    (hdb : (x == ("__debug__" : Str)) = false := by decide) : PE X (.Call (.Name x p) [] [] pos) (tMake C sp [] E tNil) := by
  obtain ⟨f, fd, F, hm, b⟩ := G.ex
  exact pe_make0 ⟨M.makes, hm.at_, hm.fn, M.kc⟩ F (hr.mono hj) hg M.g b .nil hx hdb
end
section
variable {P : Program} {w : World} {K : PySem.W.Frag} {mg : Str → Option Value} {base : Heap} {CS : Addr}
/-- a new instance x with its dict dx, then what __init__ has done: the model stands at x -/
theorem made_at {H H' : Hp} {x dx t p r z : Addr} {m : Kp415.Model} (nx : H x = none) (nd : H dx = none) (e : H' x = some (.ins CS dx (sF t p r))) (k : ∀ b o, (upd (upd H dx (.own x)) x (.ins CS dx [])) b = some o → b ≠ x → H' b = some o)
    (h2 : H t = some (.lst (vN m.testWeights))) (h3 : H p = some (.lst (vN m.productionWeights))) (h4 : SqT K H r [.int (m.priorNum : Int), .int (m.priorDen : Int)]) (ht : t ≠ z) (hp : p ≠ z) (ok : MOk m) : Same H H' ∧ ModelAt K CS z H' x m := by
  have s : Same H H' := Same.made nx nd k
  exact ⟨s, ⟨dx, t, p, r, e, s _ _ h2, s _ _ h3, same_tup s h4, ht, hp⟩, ok⟩
def spWith (K : PySem.W.Frag) (CS : Addr) : Sp := fun vs H Q _ => ∃ (a z r : Addr) (m : Kp415.Model) (u d : Nat), vs = [.ref a, .ref r] ∧ ModelAt K CS z H a m ∧ SqT K H r [.int (u : Int), .int (d : Int)] ∧ u ≤ d ∧ 1 ≤ d ∧ d ≤ 99 ∧
  ∀ (H' : Hp) (p : Addr), Same H H' → ModelAt K CS z H' p { m with priorNum := u, priorDen := d } → Q (.ref p) H'
theorem ok_with (U : Mu K CS "with_prior" "Signals.with_prior" (sM 14) ["self", "prior"]) (T : ClsS K CS) (G : Md P w K mg base CX0 1 CS "__init__" ["self", "test", "production", "prior"] (spInitS CS)) (M : MkC K mg "Signals" CS) :
    Md P w K mg base CX0 3 CS "with_prior" ["self", "prior"] (spWith K CS) := by
  refine U.ok scM14 (fun vs H Q E h => ?_) (fun f cdv A outer s H vs Q E hr h => ?_)
  · obtain ⟨a, z, r, m, u, d, rfl, _⟩ := h
    rfl
  · obtain ⟨a, z, r, m, u, d, rfl, hM, hR, h5, h6, h7, q⟩ := h
    refine ⟨_, pss_one (ps_ret (pe_mk G M hr (pa_cons (pe_fld (pv 0) rfl) (pa_cons (pe_fld (pv 0) rfl) (pa_cons (pv 1) pa_nil))) pass0)), ?_⟩
    obtain ⟨dx, t, p, r0, h1, h2, h3, h4, ht, hp⟩ := hM.ex
    refine ⟨_, rfl, a, CS, dx, _, _, rfl, h1, T.cl, T.nT, sF_test t p r0, _, rfl, a, CS, dx, _, _, rfl, h1, T.cl, T.nP, sF_prod t p r0, _, rfl, ?_⟩
    intro x dx2 nx nd ne
    refine ⟨x, dx2, t, p, r, rfl, upd_same, fun H1 e k => ⟨rfl, ?_⟩⟩
    have o := hM.ok
    obtain ⟨s1, m1⟩ := made_at (z := z) (m := { m with priorNum := u, priorDen := d }) nx nd e k h2 h3 hR ht hp ⟨o.n1, o.n5, o.len, o.t1, o.t5, o.p1, o.p5, h6, h7, h5⟩
    exact q H1 x s1 m1
def spMerged (K : PySem.W.Frag) (CS : Addr) : Sp := fun vs H Q _ => ∃ (a z b : Addr) (m : Kp415.Model) (mp : List Nat), vs = [.ref a, .ref b] ∧ ModelAt K CS z H a m ∧ SqL K H b (vN mp) ∧ mp.length = m.testWeights.length ∧ (∀ x ∈ mp, x < m.testWeights.length) ∧ (∃ o, H z = some o) ∧
  ∀ (H' : Hp) (p : Addr), Same H H' → ModelAt K CS z H' p (Kp415.mergeSignals m mp) → Q (.ref p) H'
theorem ixN_nat {n j : Nat} (h : j < n) : ixN n (j : Int) = some j := by
  unfold ixN
  rw [if_pos (by omega), if_pos (by omega)]
  rfl
theorem upd_ne' {H : Hp} {a b : Addr} {o : HO} (h : a ≠ b) : upd H a o b = H b := upd_ne (Ne.symm h)
theorem ok_mergedS (U : Mu K CS "merged" "Signals.merged" (sM 13) ["self", "mapping"]) (T : ClsS K CS) (mE : mg "enumerate" = none) (GM : Md P w K mg base CX0 1 CS "many" ["self"] (spMany K CS))
    (G : Md P w K mg base CX0 1 CS "__init__" ["self", "test", "production", "prior"] (spInitS CS)) (M : MkC K mg "Signals" CS) :
    Md P w K mg base CX0 3 CS "merged" ["self", "mapping"] (spMerged K CS) := by
  refine U.ok scM13 (fun vs H Q E h => ?_) (fun f cdv A outer s H vs Q E hr h => ?_)
  · obtain ⟨a, z, b, m, mp, rfl, _⟩ := h
    rfl
  · obtain ⟨a, z, b, m, mp, rfl, hM, hB, hl, hm, hz, q⟩ := h
    have o := hM.ok
    have n5 := o.n5
    refine ⟨_, pss_cons (ps_par (i := 2) (j := 3) rfl scM13.nd rfl rfl (by decide) rfl rfl (pa_cons (pe_op op_rep (pe_lst (pa_cons pe_int pa_nil)) (pe_m0 GM T.cl hr (pv 0) pass0)) (pa_cons (pe_op op_rep (pe_lst (pa_cons pe_int pa_nil)) (pe_m0 GM T.cl hr (pv 0) pass0)) pa_nil)) (by rfl))
      (pss_cons (ps_for PassesOwn.never rfl (pi_enum (by rfl) mE (pa_cons (pv 1) pa_nil)) (pg_tup rfl (pgs_cons (pg_name (i := 4) scM13.nd rfl (.inl rfl)) (pgs_cons (pg_name (i := 5) scM13.nd rfl (.inl rfl)) pgs_nil)))
        (pss_cons (ps_augS (pv 2) (pv 5) get_list (pe_ix ix_list (pe_fld (pv 0) rfl) (pv 4) (fun _ _ => rfl)) ip_add set_list)
        (pss_one (ps_augS (pv 3) (pv 5) get_list (pe_ix ix_list (pe_fld (pv 0) rfl) (pv 4) (fun _ _ => rfl)) ip_add set_list))))
      (pss_one (ps_ret (pe_mk G M hr (pa_cons (pv 2) (pa_cons (pv 3) (pa_cons (pe_fld (pv 0) rfl) pa_nil))) pass0)))), ?_⟩
    obtain ⟨dx, t, p, r, h1, h2, h3, h4, ht, hp⟩ := hM.ex
    refine ⟨(by show 1 ≤ sizeLine; decide), fun l1 nl1 => ?_⟩
    have e1 : Same H (upd H l1 (.lst [.int 0])) := same_upd nl1
    refine ⟨_, rfl, a, dx, _, rfl, e1 _ _ h1, sF_no (by decide +kernel) (by decide +kernel) (by decide +kernel) t p r, a, z, m, rfl, hM.same e1, ?_⟩
    refine ⟨l1, _, _, rfl, rfl, upd_same, by omega, by omega, Nat.le_of_lt (small1000 (by show 1 * m.testWeights.length ≤ 1000; omega)), fun pT npT => ?_⟩
    have e2 := e1.trans (same_upd (o := .lst (List.replicate m.testWeights.length [V.int 0]).flatten) npT)
    refine ⟨(by show 1 ≤ sizeLine; decide), fun l2 nl2 => ?_⟩
    have e3 := e2.trans (same_upd (o := .lst [.int 0]) nl2)
    refine ⟨_, rfl, a, dx, _, rfl, e3 _ _ h1, sF_no (by decide +kernel) (by decide +kernel) (by decide +kernel) t p r, a, z, m, rfl, hM.same e3, ?_⟩
    refine ⟨l2, _, _, rfl, rfl, upd_same, by omega, by omega, Nat.le_of_lt (small1000 (by show 1 * m.testWeights.length ≤ 1000; omega)), fun pP npP => ?_⟩
    have e4 := e3.trans (same_upd (o := .lst (List.replicate m.testWeights.length [V.int 0]).flatten) npP)
    have nT : H pT = none := e1.free npT
    have nP : H pP = none := e3.free npP
    have hTl2 : pT ≠ l2 := ne_of_none upd_same nl2
    have hTP : pT ≠ pP := ne_of_none (show (upd (upd (upd H l1 (.lst [.int 0])) pT (.lst (List.replicate m.testWeights.length [V.int 0]).flatten)) l2 (.lst [.int 0])) pT = some (.lst (List.replicate m.testWeights.length [V.int 0]).flatten) by rw [upd_ne hTl2]; exact upd_same) npP
    refine ⟨_, _, rfl, ?_⟩
    refine ⟨_, rfl, b, vN mp, rfl, e4.seq hB, ?_⟩
    have lenP := o.len
    refine ⟨fun i k σ H' => ∃ v4 v5, σ = [some (.ref a), some (.ref b), some (.ref pT), some (.ref pP), v4, v5] ∧ i + k = m.testWeights.length ∧ Same H H' ∧ H' pT = some (.lst (vN (mw m.testWeights mp i))) ∧ H' pP = some (.lst (vN (mw m.productionWeights mp i))),
      ⟨m.testWeights.length, none, none, rfl, by omega, e4, ?_, ?_⟩, fun i k σ H' hW => ?_⟩
    · rw [upd_ne hTP, upd_ne hTl2, upd_same, mw_zero, ← vN_rep]
      rfl
    · rw [upd_same, mw_zero, lenP, ← vN_rep]
      rfl
    · obtain ⟨v4, v5, rfl, ek, e, hT, hP⟩ := hW
      have hB' := e.seq hB
      by_cases hi : i < m.testWeights.length
      · have hmi : i < mp.length := by omega
        have hget : (vN mp)[i]? = some (.int ((mp.getD i 0 : Nat) : Int)) := vN_at hmi
        have hown : mp.getD i 0 < m.testWeights.length := by
          rw [List.getD_eq_getElem?_getD, List.getElem?_eq_getElem hmi]
          exact hm _ (List.getElem_mem hmi)
        refine .inr ⟨⟨_, _, hB', hget⟩, fun σ' H2 => ∃ v4 v5, σ' = [some (.ref a), some (.ref b), some (.ref pT), some (.ref pP), v4, v5] ∧ Same H H2 ∧ H2 pT = some (.lst (vN (mw m.testWeights mp (i + 1)))) ∧ H2 pP = some (.lst (vN (mw m.productionWeights mp (i + 1)))), fun σ' H2 hN => ?_, fun y H2 hy => ?_⟩
        · obtain ⟨u4, u5, q1, q2, q3, q4⟩ := hN
          exact ⟨k - 1, by omega, u4, u5, q1, by omega, q2, q3, q4⟩
        · obtain ⟨Tu, y2, rfl, nTu, rfl, fy⟩ := hy
          have ey : y2 = .int ((mp.getD i 0 : Nat) : Int) := Option.some.inj ((fy _ hB').symm.trans hget)
          subst ey
          have eT : Same H' (upd H' Tu (.tup [.int (i : Int), .int ((mp.getD i 0 : Nat) : Int)])) := same_upd nTu
          have eH := e.trans eT
          refine ⟨Tu, _, rfl, SqT.of upd_same, rfl, _, _, rfl, _, _, rfl, rfl, ?_⟩
          -- test[own] += self.test[signal]
          have hTw : mp.getD i 0 < (mw m.testWeights mp i).length := by rw [mw_len]; exact hown
          have hPw : mp.getD i 0 < (mw m.productionWeights mp i).length := by rw [mw_len, lenP]; exact hown
          refine ⟨_, rfl, _, rfl, pT, _, mp.getD i 0, _, rfl, rfl, SqL.of (eT _ _ hT), vN_at hTw, ?_⟩
          refine ⟨_, rfl, a, CS, dx, _, _, rfl, eH _ _ h1, T.cl, T.nT, sF_test t p r, _, rfl, t, _, _, _, rfl, rfl, SqL.of (eH _ _ h2), atI_nat (vN_at hi), ?_⟩
          refine ⟨_, _, rfl, rfl, pT, _, _, mp.getD i 0, rfl, rfl, eT _ _ hT, ?_, ?_⟩
          · rw [vN_len]
            exact ixN_nat hTw
          have g1 : ((((mw m.testWeights mp i).getD (mp.getD i 0) 0 : Nat) : Int) + ((m.testWeights.getD i 0 : Nat) : Int)) = (((mw m.testWeights mp i).getD (mp.getD i 0) 0 + m.testWeights.getD i 0 : Nat) : Int) := by omega
          have s1 : vN (mw m.testWeights mp (i + 1)) = (vN (mw m.testWeights mp i)).set (mp.getD i 0) (.int ((((mw m.testWeights mp i).getD (mp.getD i 0) 0 : Nat) : Int) + ((m.testWeights.getD i 0 : Nat) : Int))) := by
            rw [g1, vN_set, mw_step _ _ rfl hown]
          rw [← s1]
          have hbo : ∀ {b' : Addr} {o' : HO}, H b' = some o' → b' ≠ pT := fun h => ne_of_none h nT
          have hbo2 : ∀ {b' : Addr} {o' : HO}, H b' = some o' → b' ≠ pP := fun h => ne_of_none h nP
          -- production[own] += self.production[signal]
          refine ⟨_, rfl, _, rfl, pP, _, mp.getD i 0, _, rfl, rfl, SqL.of (by rw [upd_ne' hTP]; exact eT _ _ hP), vN_at hPw, ?_⟩
          refine ⟨_, rfl, a, CS, dx, _, _, rfl, (by rw [upd_ne (hbo h1)]; exact eH _ _ h1), T.cl, T.nP, sF_prod t p r, _, rfl, p, _, _, _, rfl, rfl, SqL.of (by rw [upd_ne (hbo h3)]; exact eH _ _ h3), atI_nat (vN_at (by omega)), ?_⟩
          refine ⟨_, _, rfl, rfl, pP, _, _, mp.getD i 0, rfl, rfl, (by rw [upd_ne' hTP]; exact eT _ _ hP), ?_, ?_⟩
          · rw [vN_len]
            exact ixN_nat hPw
          have g2 : ((((mw m.productionWeights mp i).getD (mp.getD i 0) 0 : Nat) : Int) + ((m.productionWeights.getD i 0 : Nat) : Int)) = (((mw m.productionWeights mp i).getD (mp.getD i 0) 0 + m.productionWeights.getD i 0 : Nat) : Int) := by omega
          have s2 : vN (mw m.productionWeights mp (i + 1)) = (vN (mw m.productionWeights mp i)).set (mp.getD i 0) (.int ((((mw m.productionWeights mp i).getD (mp.getD i 0) 0 : Nat) : Int) + ((m.productionWeights.getD i 0 : Nat) : Int))) := by
            rw [g2, vN_set, mw_step _ _ rfl (by rw [lenP]; exact hown)]
          rw [← s2]
          refine ⟨_, _, rfl, fun b' o' hb => ?_, ?_, upd_same⟩
          · rw [upd_ne (hbo2 hb), upd_ne (hbo hb)]
            exact eH _ _ hb
          · rw [upd_ne hTP]
            exact upd_same
      · have hin : i = m.testWeights.length := by omega
        subst hin
        refine .inl ⟨⟨_, hB', by rw [vN_len]; omega⟩, ?_⟩
        refine ⟨_, rfl, _, rfl, _, rfl, a, CS, dx, _, _, rfl, e _ _ h1, T.cl, T.nR, sF_prior t p r, ?_⟩
        intro x dx2 nx nd ne
        refine ⟨x, dx2, pT, pP, r, rfl, upd_same, fun H1 e1' k1 => ⟨rfl, ?_⟩⟩
        obtain ⟨oz, hz⟩ := hz
        obtain ⟨s1, m1⟩ := made_at (z := z) (m := Kp415.mergeSignals m mp) nx nd e1' k1 (by rw [hT]; rfl) (by rw [hP, ← lenP]; rfl) (same_tup e h4) (Ne.symm (ne_of_none hz nT)) (Ne.symm (ne_of_none hz nP)) (o.merge hl hm)
        exact q H1 x (e.trans s1) m1
end
end Sg
/-! ### G. sequences -/
namespace Sg
open PySem PySem.Spec PyProof.Rows L2
/-- vs stand for xs, one by one -/
def Each {α : Type} (R : V → α → Prop) (vs : List V) (xs : List α) : Prop := vs.length = xs.length ∧ ∀ (i : Nat) (x : α), xs[i]? = some x → ∃ v, vs[i]? = some v ∧ R v x
theorem Each.nil {α : Type} {R : V → α → Prop} : Each R [] [] := ⟨rfl, fun i x q => by simp at q⟩
theorem Each.mono {α : Type} {R R' : V → α → Prop} {vs : List V} {xs : List α} (h : Each R vs xs) (k : ∀ v x, R v x → R' v x) : Each R' vs xs := ⟨h.1, fun i x q => by
  obtain ⟨v, h1, h2⟩ := h.2 i x q
  exact ⟨v, h1, k v x h2⟩⟩
theorem Each.append {α : Type} {R : V → α → Prop} {vs us : List V} {xs ys : List α} (h : Each R vs xs) (k : Each R us ys) : Each R (vs ++ us) (xs ++ ys) := by
  refine ⟨by simp [h.1, k.1], fun i y q => ?_⟩
  by_cases hi : i < xs.length
  · rw [List.getElem?_append_left hi] at q
    obtain ⟨v, h1, h2⟩ := h.2 i y q
    exact ⟨v, by rw [List.getElem?_append_left (by rw [h.1]; exact hi)]; exact h1, h2⟩
  · rw [List.getElem?_append_right (by omega)] at q
    obtain ⟨v, h1, h2⟩ := k.2 _ y q
    exact ⟨v, by rw [List.getElem?_append_right (by rw [h.1]; omega), h.1]; exact h1, h2⟩
theorem Each.one {α : Type} {R : V → α → Prop} {v : V} {x : α} (h : R v x) : Each R [v] [x] := ⟨rfl, fun i y q => by
  cases i with
  | zero =>
    have e : x = y := Option.some.inj q
    subst e
    exact ⟨v, rfl, h⟩
  | succ i => simp at q⟩
theorem Each.snoc {α : Type} {R : V → α → Prop} {vs : List V} {xs : List α} {v : V} {x : α} (h : Each R vs xs) (k : R v x) : Each R (vs ++ [v]) (xs ++ [x]) := h.append (.one k)
/-- a row of signals at an address that is as Av says -/
def RowAt (H : Hp) (Av : Addr → Prop) (v : V) (r : List Nat) : Prop := ∃ a, v = .ref a ∧ H a = some (.lst (vN r)) ∧ Av a
/-- but for D all stands as before -/
def But (D : Addr) (H H' : Hp) : Prop := ∀ b o, H b = some o → b ≠ D → H' b = some o
theorem But.same {D : Addr} {H0 H H' : Hp} (e : Same H0 H) (n : H0 D = none) (k : But D H H') : Same H0 H' := fun b o q => k b o (e b o q) (ne_of_none q n)
theorem But.on {D : Addr} {H H' H4 : Hp} {o : HO} (k : But D H H') (e : Same H' H4) : But D H (upd H4 D o) := fun b x q hb => by
  rw [upd_ne hb]
  exact e b x (k b x q hb)
/-- the fractions xs gathered in the list at D -/
structure Acc2 (K : PySem.W.Frag) (H : Hp) (D : Addr) (xs : List Rat) (H' : Hp) : Prop where
  but : But D H H'
  ex : ∃ as, H' D = some (.lst as) ∧ FrL K H' as xs
theorem Acc2.more {K : PySem.W.Frag} {H H' H4 : Hp} {D p : Addr} {xs : List Rat} {x : Rat} (A : Acc2 K H D xs H') (e : Same H' H4) (f : Fr K H4 p x) (hl : xs.length < sizeLine) :
    ∃ acc, H4 D = some (.lst acc) ∧ acc.length < sizeLine ∧ Acc2 K H D (xs ++ [x]) (upd H4 D (.lst (acc ++ [.ref p]))) := by
  obtain ⟨as, h1, h2⟩ := A.ex
  have h3 : H4 D = some (.lst as) := e _ _ h1
  exact ⟨as, h3, by rw [h2.1]; exact hl, A.but.on e, _, upd_same, frl_grow h3 ((h2.same e).snoc f)⟩
theorem pow_small {n k : Nat} (h : n ≤ 5) (j : k ≤ 3) : n ^ k ≤ 125 := by
  have h1 : n ^ k ≤ 5 ^ k := Nat.pow_le_pow_left h k
  have h2 : 5 ^ k ≤ 5 ^ 3 := Nat.pow_le_pow_right (by decide) j
  exact Nat.le_trans h1 h2
section
variable {P : Program} {w : World} {K : PySem.W.Frag} {mg : Str → Option Value} {base : Heap} {CS : Addr}
abbrev nAll : List Str := ["many", "length", "found", "turn", "longer", "row", "signal"]
abbrev nTp : List Str := ["model", "row", "found", "signal"]
theorem sc20 : FnScope nAll ["many", "length"] (defScope (top 20)) := ⟨rfl, rfl, rfl, by decide +kernel, rfl, by decide +kernel, by decide +kernel⟩
theorem sc21 : FnScope nTp ["model", "row"] (defScope (top 21)) := ⟨rfl, rfl, rfl, by decide +kernel, rfl, by decide +kernel, by decide +kernel⟩
theorem sc22 : FnScope nTp ["model", "row"] (defScope (top 22)) := ⟨rfl, rfl, rfl, by decide +kernel, rfl, by decide +kernel, by decide +kernel⟩
theorem sc23 : FnScope ["model", "row", "test"] ["model", "row"] (defScope (top 23)) := ⟨rfl, rfl, rfl, by decide +kernel, rfl, by decide +kernel, by decide +kernel⟩
theorem sc24 : FnScope ["model", "length", "found", "row"] ["model", "length"] (defScope (top 24)) := ⟨rfl, rfl, rfl, by decide +kernel, rfl, by decide +kernel, by decide +kernel⟩
theorem sc25 : FnScope ["model", "length", "found", "row", "test", "production"] ["model", "length"] (defScope (top 25)) := ⟨rfl, rfl, rfl, by decide +kernel, rfl, by decide +kernel, by decide +kernel⟩
def spAll : Sp := fun vs H Q _ => ∃ n l : Nat, vs = [.int (n : Int), .int (l : Int)] ∧ n ≤ 5 ∧ l ≤ 3 ∧
  ∀ (H' : Hp) (p : Addr) (us : List V), Same H H' → H p = none → H' p = some (.lst us) → Each (RowAt H' fun a => H a = none) us (seqs n l) → Q (.ref p) H'
def ext (n : Nat) (r : List Nat) : List (List Nat) := (List.range n).map fun s => r ++ [s]
theorem seqs_ext (n l : Nat) : seqs n (l + 1) = (seqs n l).flatMap (ext n) := rfl
theorem ext_take (n : Nat) (r : List Nat) {s : Nat} (h : s < n) : (ext n r).take (s + 1) = (ext n r).take s ++ [r ++ [s]] := range_take _ _ _ h
theorem flat_len (n : Nat) : ∀ rows : List (List Nat), (rows.flatMap (ext n)).length = rows.length * n
  | [] => by simp
  | r :: rs => by
    rw [List.flatMap_cons, List.length_append, flat_len n rs, List.length_cons, Nat.succ_mul]
    simp [ext]
    omega
theorem vN_snoc (r : List Nat) (s : Nat) : vN r ++ [V.int (s : Int)] = vN (r ++ [s]) := by
  simp [vN, vI, nints]
theorem RowAt.on {H H' : Hp} {Av Av' : Addr → Prop} {v : V} {r : List Nat} (h : RowAt H Av v r) (e : ∀ a o, H a = some o → Av a → H' a = some o) (k : ∀ a o, H a = some o → Av a → Av' a) : RowAt H' Av' v r := by
  obtain ⟨a, h1, h2, h3⟩ := h
  exact ⟨a, h1, e a _ h2 h3, k a _ h2 h3⟩
theorem ok_all (U : Fu K mg "all_sequences" (top 20) ["many", "length"]) (mR : mg "range" = none) : Gd P w K mg base CX0 1 "all_sequences" ["many", "length"] spAll := by
  refine U.ok sc20 (fun vs H Q E h => ?_) (fun f cdv A outer s H vs Q E hr h => ?_)
  · obtain ⟨n, l, rfl, _⟩ := h
    rfl
  · obtain ⟨n, l, rfl, hn, hl, q⟩ := h
    refine ⟨_, pss_cons (ps_set (i := 2) sc20.nd rfl (.inl rfl) (pe_lst (pa_cons (pe_lst pa_nil) pa_nil)))
      (pss_cons (ps_for PassesOwn.never rfl (pi_range1 (by rfl) mR (pa_cons (pv 1) pa_nil)) (pg_name (i := 3) sc20.nd rfl (.inl rfl))
        (pss_cons (ps_set (i := 4) sc20.nd rfl (.inl rfl) (pe_lst pa_nil))
        (pss_cons (ps_for PassesOwn.never rfl (pi_list (pv 2)) (pg_name (i := 5) sc20.nd rfl (.inr rfl))
          (pss_one (ps_expr (pe_bm PySem.F.plainAttrs_list PySem.F.slot_list_extend PySem.F.type_list_extend mt_extend (pv 4) (pa_cons
            (pe_lc (own := [("signal", 6)]) (g := gName 6) (tt := tYes) rfl sc20.nd (pi_range1 (by rfl) mR (pa_cons (pv 0) pa_nil)) (blkOk_by (N := nAll) (sc := defScope (top 20)) (by decide +kernel)) (fun _ _ _ _ _ => pg_name (i := 6) sc20.nd rfl (Or.inl rfl)) (fun _ _ _ _ _ => pts_nil)
              (fun _ _ _ _ _ => pe_op op_cat (pv 5) (pe_lst (pa_cons (pv 6) pa_nil)))) pa_nil)))))
        (pss_one (ps_set (i := 2) sc20.nd rfl (.inl rfl) (pv 4))))))
      (pss_one (ps_ret (pv 2)))), ?_⟩
    refine ⟨Nat.zero_le _, fun e0 ne0 => ⟨(by show 1 ≤ sizeLine; decide), fun F nF => ?_⟩⟩
    have s1 : Same H (upd H e0 (.lst [])) := same_upd ne0
    have s2 := s1.trans (same_upd (o := .lst [.ref e0]) nF)
    have hF0 : e0 ≠ F := ne_of_none upd_same nF
    refine ⟨_, rfl, _, rfl, by omega, by omega, ?_⟩
    refine for_range (lo := 0) (n := l) (fun i σ H1 => ∃ (G : Addr) (us : List V) (v3 v4 v5 : Option V), σ = [some (.int (n : Int)), some (.int (l : Int)), some (.ref G), v3, v4, v5, none] ∧ Same H H1 ∧ H G = none ∧ H1 G = some (.lst us) ∧ Each (RowAt H1 fun a => H a = none) us (seqs n i))
      ⟨F, [.ref e0], none, none, none, rfl, s2, s1.free nF, upd_same, .one ⟨e0, rfl, ?_, ne0⟩⟩ (fun i σ H1 hi hP => ?_) (fun σ H1 hP => ?_)
    · rw [upd_ne hF0, upd_same]
      rfl
    · obtain ⟨G, us, v3, v4, v5, rfl, e1, nG, hG, hE⟩ := hP
      refine ⟨Nat.zero_le _, fun L nL => ?_⟩
      have eL : Same H1 (upd H1 L (.lst [])) := same_upd nL
      have hlen := seqs_len n i
      refine ⟨_, rfl, G, rfl, ⟨_, SqL.of (eL _ _ hG)⟩, for_list (K := K) (a := G) (xs := us) (fun j σ H2 => ∃ (ws : List V) (v5 : Option V), σ = [some (.int (n : Int)), some (.int (l : Int)), some (.ref G), some (.int (0 + (i : Int))), some (.ref L), v5, none] ∧ Same H1 H2 ∧ H2 L = some (.lst ws) ∧ Each (RowAt H2 fun a => H a = none ∧ a ≠ L) ws (((seqs n i).take j).flatMap (ext n)))
        ⟨[], v5, rfl, eL, upd_same, Each.nil⟩ (fun j σ H2 _ ⟨_, _, _, e2, _⟩ => SqL.of (e2 _ _ hG)) ?_ ?_⟩
      · rintro j y σ H2 hj ⟨ws, v5, rfl, e2, hL, hW⟩
        have hj' : j < (seqs n i).length := by
          rw [← hE.1]
          exact (List.getElem?_eq_some_iff.mp hj).1
        have hx : (seqs n i)[j]? = some (seqs n i)[j] := List.getElem?_eq_getElem hj'
        obtain ⟨v, hv1, b, rfl, hb, nb⟩ := hE.2 j _ hx
        rw [hv1] at hj
        have ey : V.ref b = y := Option.some.inj hj
        subst ey
        generalize (seqs n i)[j] = r at hx hb
        refine ⟨_, rfl, .inl ⟨rfl, _, SqL.of hL⟩, _, rfl, _, rfl, by omega, by omega, fun D nD => ?_⟩
        have hLD : L ≠ D := ne_of_none hL nD
        refine lc_range (lo := 0) (n := n) (fun t H3 => Same H2 H3 ∧ ∃ as, H3 D = some (.lst as) ∧ Each (RowAt H3 fun a => H a = none ∧ a ≠ L ∧ a ≠ D) as ((ext n r).take t)) ⟨same_upd nD, [], upd_same, Each.nil⟩ (fun t H3 ht hP => ?_) (fun H3 hP => ?_)
        · obtain ⟨e3, as, hD, hA⟩ := hP
          refine ⟨rfl, _, rfl, _, rfl, (by show 1 ≤ sizeLine; decide), fun p np => ?_⟩
          have ep : Same H3 (upd H3 p (.lst [.int (0 + (t : Int))])) := same_upd np
          have hbl : (vN r).length + 1 ≤ sizeLine := by
            have hrl := (seqs_mem (List.mem_of_getElem? hx)).1
            rw [vN_len, hrl]
            exact Nat.le_of_lt (small1000 (by omega))
          refine ⟨b, p, _, _, rfl, rfl, ep _ _ (e3 _ _ (e2 _ _ hb)), upd_same, hbl, fun p2 np2 => ?_⟩
          have ep2 := ep.trans (same_upd (o := .lst (vN r ++ [V.int (0 + (t : Int))])) np2)
          have al : as.length < sizeLine := by
            rw [hA.1, List.length_take]
            exact small1000 (by simp [ext]; omega)
          refine ⟨as, ep2 _ _ hD, al, same_grow nD (e3.trans ep2), _, upd_same, ?_⟩
          rw [ext_take n r ht]
          have nDp : p2 ≠ D := fun z => by
            rw [z, ep _ _ hD] at np2
            cases np2
          have nLp : p2 ≠ L := fun z => by
            rw [z, ep _ _ (e3 _ _ hL)] at np2
            cases np2
          refine Each.snoc (hA.mono fun v x hv => hv.on (fun a o h1 h2 => ?_) fun a o _ h2 => h2) ⟨p2, rfl, ?_, ?_, nLp, nDp⟩
          · rw [upd_ne h2.2.2]
            exact ep2 _ _ h1
          · rw [upd_ne nDp, upd_same, ← vN_snoc, Int.zero_add]
          · exact (e1.trans (e2.trans (e3.trans ep))).free np2
        · obtain ⟨e3, as, hD, hA⟩ := hP
          have ea : (ext n r).take n = ext n r := range_all _ _
          rw [ea] at hA
          have ebound : ws.length + as.length ≤ sizeLine := by
            have h1 := hW.1
            have h2 := hA.1
            rw [flat_len, List.length_take] at h1
            have h3 : (ext n r).length = n := by simp [ext]
            have h4 : n ^ i ≤ 125 := pow_small hn (by omega)
            have h5 : min j (seqs n i).length * n ≤ 125 * n := Nat.mul_le_mul_right _ (by omega)
            have h6 : 125 * n ≤ 625 := by omega
            exact Nat.le_of_lt (small1000 (by omega))
          refine ⟨L, D, ws, as, rfl, rfl, e3 _ _ hL, hD, ebound, ?_⟩
          refine ⟨ws ++ as, some (.ref b), rfl, fun b' o' q1 => ?_, upd_same, ?_⟩
          · rw [upd_ne (ne_of_none q1 nL)]
            exact e3 _ _ (e2 _ _ q1)
          · rw [take_succ hx, List.flatMap_append]
            have e5 : [r].flatMap (ext n) = ext n r := by simp
            rw [e5]
            refine Each.append (hW.mono fun v x hv => hv.on (fun a o h1 h2 => ?_) fun a o _ h2 => h2) (hA.mono fun v x hv => hv.on (fun a o h1 h2 => ?_) fun a o _ h2 => ⟨h2.1, h2.2.1⟩)
            · rw [upd_ne h2.2]
              exact e3 _ _ h1
            · rw [upd_ne h2.2.1]
              exact h1
      · rintro σ H2 ⟨ws, v5, rfl, e2, hL, hW⟩
        rw [hE.1, List.take_length] at hW
        exact ⟨_, rfl, L, ws, _, _, _, rfl, e1.trans e2, e1.free nL, hL, hW.mono fun v x hv => hv.on (fun a o h1 _ => h1) fun a o _ h2 => h2.1⟩
    · obtain ⟨G, us, v3, v4, v5, rfl, e1, nG, hG, hE⟩ := hP
      exact ⟨_, rfl, q H1 G us e1 nG hG hE⟩
/-- the product of the shares of a row -/
def spProb (K : PySem.W.Frag) (CS : Addr) (g : Kp415.Model → Nat → Rat) : Sp := fun vs H Q _ => ∃ (a z b : Addr) (m : Kp415.Model) (r : List Nat), vs = [.ref a, .ref b] ∧ ModelAt K CS z H a m ∧ SqL K H b (vN r) ∧ r.length ≤ 6 ∧ (∀ s ∈ r, s < m.testWeights.length) ∧
  ∀ (H' : Hp) (p : Addr), Same H H' → Fr K H' p (Kp415.product (r.map (g m))) → Q (.ref p) H'
theorem prob_core {g : Kp415.Model → Nat → Rat} {m : Kp415.Model} {r : List Nat} (hg : ∀ s, Sm 9 (g m s)) (i : Nat) (h : i ≤ 6) : Sm 55 (Kp415.product ((r.map (g m)).take i)) := by
  refine (sm_product (k := 9) fun x hx => ?_).mono ?_
  · obtain ⟨s, _, rfl⟩ := List.mem_map.mp (List.mem_of_mem_take hx)
    exact hg s
  · rw [List.length_take]
    omega
theorem ok_test_probability (U : Fu K mg "test_probability" (top 21) ["model", "row"]) (T : ClsS K CS) {aO : Addr} (mO : mg "ONE" = some (.ref aO)) (wO : WrT K aO [.int 1, .int 1]) (GX : Gd P w K mg base CX0 2 "times" two (spTwo K (· * ·) fun _ => True))
    (GS : Md P w K mg base CX0 2 CS "test_share" ["self", "signal"] (spSig K CS Kp415.testShare noR)) : Gd P w K mg base CX0 3 "test_probability" ["model", "row"] (spProb K CS Kp415.testShare) := by
  refine U.ok sc21 (fun vs H Q E h => ?_) (fun f cdv A outer s H vs Q E hr h => ?_)
  · obtain ⟨a, z, b, m, r, rfl, _⟩ := h
    rfl
  · obtain ⟨a, z, b, m, r, rfl, hM, hB, h6, hs, q⟩ := h
    obtain ⟨dx, t, p, r0, h1, _⟩ := hM.ex
    refine ⟨_, pss_cons (ps_set (i := 2) sc21.nd rfl (.inl rfl) (pe_glob (v := .ref aO) (by rfl) mO rfl))
      (pss_cons (ps_for PassesOwn.never rfl (pi_list (pv 1)) (pg_name (i := 3) sc21.nd rfl (.inl rfl)) (pss_one (ps_set (i := 2) sc21.nd rfl (.inl rfl) (pe_g GX hr (pa_cons (pv 2) (pa_cons (pe_m GS T.cl hr (pv 0) (pa_cons (pv 3) pa_nil) pass0) pa_nil)) pass0))))
      (pss_one (ps_ret (pv 2)))), ?_⟩
    refine ⟨_, rfl, b, rfl, ⟨_, hB⟩, for_list (K := K) (a := b) (xs := vN r) (fun i σ H' => ∃ (c : Addr) (v : Option V), σ = [some (.ref a), some (.ref b), some (.ref c), v] ∧ Same H H' ∧ Fr K H' c (Kp415.product ((r.map (Kp415.testShare m)).take i)))
      ⟨aO, none, rfl, Same.refl H, wO.at H⟩ (fun i σ H' _ ⟨_, _, _, e, _⟩ => e.seq hB) ?_ ?_⟩
    · rintro i y σ H' hi ⟨c, v, rfl, e, fc⟩
      have hi' : i < r.length := by
        rw [← vN_len r]
        exact (List.getElem?_eq_some_iff.mp hi).1
      rw [vN_at hi'] at hi
      have ey := Option.some.inj hi
      subst ey
      have hmem : r.getD i 0 < m.testWeights.length := by
        rw [List.getD_eq_getElem?_getD, List.getElem?_eq_getElem hi']
        exact hs _ (List.getElem_mem hi')
      refine ⟨_, rfl, _, rfl, a, dx, _, rfl, e _ _ h1, sF_no (by decide +kernel) (by decide +kernel) (by decide +kernel) t p r0, _, rfl, a, z, m, r.getD i 0, rfl, hM.same e, hmem, trivial, fun H2 d e2 fd => ?_⟩
      refine ⟨c, d, _, _, 55, 9, rfl, fc.same e2, fd, prob_core hM.ok.ts i (by omega), hM.ok.ts _, by decide, trivial, fun H3 b3 e3 f3 => ⟨b3, _, rfl, e.trans (e2.trans e3), ?_⟩⟩
      have hx : (r.map (Kp415.testShare m))[i]? = some (Kp415.testShare m (r.getD i 0)) := by
        rw [List.getElem?_map, List.getD_eq_getElem?_getD, List.getElem?_eq_getElem hi']
        rfl
      rw [take_succ hx, product_snoc]
      exact f3
    · rintro σ H' ⟨c, v, rfl, e, fc⟩
      have hl : (r.map (Kp415.testShare m)).take (vN r).length = r.map (Kp415.testShare m) := List.take_of_length_le (by simp [vN_len])
      rw [hl] at fc
      exact ⟨_, rfl, q H' c e fc⟩
theorem ok_production_probability (U : Fu K mg "production_probability" (top 22) ["model", "row"]) (T : ClsS K CS) {aO : Addr} (mO : mg "ONE" = some (.ref aO)) (wO : WrT K aO [.int 1, .int 1]) (GX : Gd P w K mg base CX0 2 "times" two (spTwo K (· * ·) fun _ => True))
    (GS : Md P w K mg base CX0 2 CS "production_share" ["self", "signal"] (spSig K CS Kp415.productionShare noR)) : Gd P w K mg base CX0 3 "production_probability" ["model", "row"] (spProb K CS Kp415.productionShare) := by
  refine U.ok sc22 (fun vs H Q E h => ?_) (fun f cdv A outer s H vs Q E hr h => ?_)
  · obtain ⟨a, z, b, m, r, rfl, _⟩ := h
    rfl
  · obtain ⟨a, z, b, m, r, rfl, hM, hB, h6, hs, q⟩ := h
    obtain ⟨dx, t, p, r0, h1, _⟩ := hM.ex
    refine ⟨_, pss_cons (ps_set (i := 2) sc22.nd rfl (.inl rfl) (pe_glob (v := .ref aO) (by rfl) mO rfl))
      (pss_cons (ps_for PassesOwn.never rfl (pi_list (pv 1)) (pg_name (i := 3) sc22.nd rfl (.inl rfl)) (pss_one (ps_set (i := 2) sc22.nd rfl (.inl rfl) (pe_g GX hr (pa_cons (pv 2) (pa_cons (pe_m GS T.cl hr (pv 0) (pa_cons (pv 3) pa_nil) pass0) pa_nil)) pass0))))
      (pss_one (ps_ret (pv 2)))), ?_⟩
    refine ⟨_, rfl, b, rfl, ⟨_, hB⟩, for_list (K := K) (a := b) (xs := vN r) (fun i σ H' => ∃ (c : Addr) (v : Option V), σ = [some (.ref a), some (.ref b), some (.ref c), v] ∧ Same H H' ∧ Fr K H' c (Kp415.product ((r.map (Kp415.productionShare m)).take i)))
      ⟨aO, none, rfl, Same.refl H, wO.at H⟩ (fun i σ H' _ ⟨_, _, _, e, _⟩ => e.seq hB) ?_ ?_⟩
    · rintro i y σ H' hi ⟨c, v, rfl, e, fc⟩
      have hi' : i < r.length := by
        rw [← vN_len r]
        exact (List.getElem?_eq_some_iff.mp hi).1
      rw [vN_at hi'] at hi
      have ey := Option.some.inj hi
      subst ey
      have hmem : r.getD i 0 < m.testWeights.length := by
        rw [List.getD_eq_getElem?_getD, List.getElem?_eq_getElem hi']
        exact hs _ (List.getElem_mem hi')
      refine ⟨_, rfl, _, rfl, a, dx, _, rfl, e _ _ h1, sF_no (by decide +kernel) (by decide +kernel) (by decide +kernel) t p r0, _, rfl, a, z, m, r.getD i 0, rfl, hM.same e, hmem, trivial, fun H2 d e2 fd => ?_⟩
      refine ⟨c, d, _, _, 55, 9, rfl, fc.same e2, fd, prob_core hM.ok.ps i (by omega), hM.ok.ps _, by decide, trivial, fun H3 b3 e3 f3 => ⟨b3, _, rfl, e.trans (e2.trans e3), ?_⟩⟩
      have hx : (r.map (Kp415.productionShare m))[i]? = some (Kp415.productionShare m (r.getD i 0)) := by
        rw [List.getElem?_map, List.getD_eq_getElem?_getD, List.getElem?_eq_getElem hi']
        rfl
      rw [take_succ hx, product_snoc]
      exact f3
    · rintro σ H' ⟨c, v, rfl, e, fc⟩
      have hl : (r.map (Kp415.productionShare m)).take (vN r).length = r.map (Kp415.productionShare m) := List.take_of_length_le (by simp [vN_len])
      rw [hl] at fc
      exact ⟨_, rfl, q H' c e fc⟩
def jT (m : Kp415.Model) (r : List Nat) : Rat := Kp415.priorTest m * Kp415.product (r.map (Kp415.testShare m))
def jP (m : Kp415.Model) (r : List Nat) : Rat := Kp415.priorProduction m * Kp415.product (r.map (Kp415.productionShare m))
theorem sm_row {g : Kp415.Model → Nat → Rat} {m : Kp415.Model} (hg : ∀ s, Sm 9 (g m s)) {r : List Nat} {n : Nat} (h : r.length ≤ n) : Sm (1 + n * 9) (Kp415.product (r.map (g m))) := by
  refine (sm_product (k := 9) fun x hx => ?_).mono ?_
  · obtain ⟨s, _, rfl⟩ := List.mem_map.mp hx
    exact hg s
  · rw [List.length_map]
    omega
def spJoints (K : PySem.W.Frag) (CS : Addr) : Sp := fun vs H Q _ => ∃ (a z b : Addr) (m : Kp415.Model) (r : List Nat), vs = [.ref a, .ref b] ∧ ModelAt K CS z H a m ∧ SqL K H b (vN r) ∧ r.length ≤ 6 ∧ (∀ s ∈ r, s < m.testWeights.length) ∧
  ∀ (H' : Hp) (p c d : Addr), Same H H' → SqT K H' p [.ref c, .ref d] → Fr K H' c (jT m r) → Fr K H' d (jP m r) → Q (.ref p) H'
theorem ok_joints (U : Fu K mg "joints" (top 23) ["model", "row"]) (T : ClsS K CS) (GX : Gd P w K mg base CX0 2 "times" two (spTwo K (· * ·) fun _ => True)) (G1 : Md P w K mg base CX0 2 CS "test_prior" ["self"] (spMod K CS Kp415.priorTest)) (G2 : Md P w K mg base CX0 3 CS "production_prior" ["self"] (spMod K CS Kp415.priorProduction))
    (GT : Gd P w K mg base CX0 3 "test_probability" ["model", "row"] (spProb K CS Kp415.testShare)) (GP : Gd P w K mg base CX0 3 "production_probability" ["model", "row"] (spProb K CS Kp415.productionShare)) : Gd P w K mg base CX0 4 "joints" ["model", "row"] (spJoints K CS) := by
  refine U.ok sc23 (fun vs H Q E h => ?_) (fun f cdv A outer s H vs Q E hr h => ?_)
  · obtain ⟨a, z, b, m, r, rfl, _⟩ := h
    rfl
  · obtain ⟨a, z, b, m, r, rfl, hM, hB, h6, hs, q⟩ := h
    obtain ⟨dx, t, p, r0, h1, _⟩ := hM.ex
    refine ⟨_, pss_cons (ps_set (i := 2) sc23.nd rfl (.inl rfl) (pe_g GX hr (pa_cons (pe_m0 G1 T.cl hr (pv 0) pass0) (pa_cons (pe_g GT hr (pa_cons (pv 0) (pa_cons (pv 1) pa_nil)) pass0) pa_nil)) pass0))
      (pss_one (ps_ret (pe_tup (pa_cons (pv 2) (pa_cons (pe_g GX hr (pa_cons (pe_m0 G2 T.cl hr (pv 0) pass0) (pa_cons (pe_g GP hr (pa_cons (pv 0) (pa_cons (pv 1) pa_nil)) pass0) pa_nil)) pass0) pa_nil))))), ?_⟩
    refine ⟨_, rfl, a, dx, _, rfl, h1, sF_no (by decide +kernel) (by decide +kernel) (by decide +kernel) t p r0, a, z, m, rfl, hM, fun H1 c e1 fc => ?_⟩
    refine ⟨_, rfl, _, rfl, a, z, b, m, r, rfl, hM.same e1, e1.seq hB, h6, hs, fun H2 d e2 fd => ?_⟩
    have sT := sm_row (m := m) (g := Kp415.testShare) hM.ok.ts h6
    have sP := sm_row (m := m) (g := Kp415.productionShare) hM.ok.ps h6
    refine ⟨c, d, _, _, 7, _, rfl, fc.same e2, fd, hM.ok.prior, sT, by decide, trivial, fun H3 x e3 fx => ?_⟩
    have e13 := e1.trans (e2.trans e3)
    refine ⟨_, rfl, _, rfl, a, dx, _, rfl, e13 _ _ h1, sF_no (by decide +kernel) (by decide +kernel) (by decide +kernel) t p r0, a, z, m, rfl, hM.same e13, fun H4 c4 e4 fc4 => ?_⟩
    have e14 := e13.trans e4
    refine ⟨_, rfl, _, rfl, a, z, b, m, r, rfl, hM.same e14, e14.seq hB, h6, hs, fun H5 d5 e5 fd5 => ?_⟩
    refine ⟨c4, d5, _, _, 9, _, rfl, fc4.same e5, fd5, hM.ok.prodPrior, sP, by decide, trivial, fun H6 y e6 fy => ?_⟩
    refine ⟨(by show 2 ≤ sizeLine; decide), fun u nu => ?_⟩
    have e7 : Same H6 (upd H6 u (.tup [.ref x, .ref y])) := same_upd nu
    exact q _ u x y (e14.trans (e5.trans (e6.trans e7))) (SqT.of upd_same) (fx.same (e4.trans (e5.trans (e6.trans e7)))) (fy.same e7)
/-- a fraction of all sequences of a length -/
def spSeq (K : PySem.W.Frag) (CS : Addr) (g : Kp415.Model → Nat → Rat) : Sp := fun vs H Q _ => ∃ (a z : Addr) (m : Kp415.Model) (l : Nat), vs = [.ref a, .int (l : Int)] ∧ ModelAt K CS z H a m ∧ l ≤ 3 ∧
  ∀ (H' : Hp) (p : Addr), Same H H' → Fr K H' p (g m l) → Q (.ref p) H'
theorem ok_sequence_variation (U : Fu K mg "sequence_variation" (top 24) ["model", "length"]) (T : ClsS K CS) {aH : Addr} (mH : mg "HALF_sequences" = some (.ref aH)) (wH : WrT K aH [.int 1, .int 2]) (GM : Md P w K mg base CX0 1 CS "many" ["self"] (spMany K CS))
    (GA : Gd P w K mg base CX0 1 "all_sequences" ["many", "length"] spAll) (GX : Gd P w K mg base CX0 2 "minus" two (spTwo K (· - ·) fun _ => True)) (GY : Gd P w K mg base CX0 2 "times" two (spTwo K (· * ·) fun _ => True)) (GZ : Gd P w K mg base CX0 1 "size" ["one"] (spSize K))
    (GT : Gd P w K mg base CX0 3 "total" ["some"] (spTotal K)) (G1 : Gd P w K mg base CX0 3 "test_probability" ["model", "row"] (spProb K CS Kp415.testShare)) (G2 : Gd P w K mg base CX0 3 "production_probability" ["model", "row"] (spProb K CS Kp415.productionShare)) :
    Gd P w K mg base CX0 4 "sequence_variation" ["model", "length"] (spSeq K CS Kp415.sequenceTotalVariation) := by
  refine U.ok sc24 (fun vs H Q E h => ?_) (fun f cdv A outer s H vs Q E hr h => ?_)
  · obtain ⟨a, z, m, l, rfl, _⟩ := h
    rfl
  · obtain ⟨a, z, m, l, rfl, hM, hl, q⟩ := h
    obtain ⟨dx, t, p, r0, h1, _⟩ := hM.ex
    refine ⟨_, pss_cons (ps_set (i := 2) sc24.nd rfl (.inl rfl) (pe_lst pa_nil))
      (pss_cons (ps_for PassesOwn.never rfl (pi_list (pe_g GA hr (pa_cons (pe_m0 GM T.cl hr (pv 0) pass0) (pa_cons (pv 1) pa_nil)) pass0)) (pg_name (i := 3) sc24.nd rfl (.inl rfl))
        (pss_one (ps_expr (pe_bm PySem.F.plainAttrs_list PySem.F.slot_list_append PySem.F.type_list_append mt_append (pv 2) (pa_cons (pe_g GZ hr (pa_cons (pe_g GX hr (pa_cons (pe_g G1 hr (pa_cons (pv 0) (pa_cons (pv 3) pa_nil)) pass0) (pa_cons (pe_g G2 hr (pa_cons (pv 0) (pa_cons (pv 3) pa_nil)) pass0) pa_nil)) pass0) pa_nil) pass0) pa_nil)))))
      (pss_one (ps_ret (pe_g GY hr (pa_cons (pe_glob (v := .ref aH) (by rfl) mH rfl) (pa_cons (pe_g GT hr (pa_cons (pv 2) pa_nil) pass0) pa_nil)) pass0)))), ?_⟩
    refine ⟨Nat.zero_le _, fun F nF => ?_⟩
    have eF : Same H (upd H F (.lst [])) := same_upd nF
    refine ⟨_, rfl, a, dx, _, rfl, eF _ _ h1, sF_no (by decide +kernel) (by decide +kernel) (by decide +kernel) t p r0, a, z, m, rfl, hM.same eF, _, rfl, m.testWeights.length, l, rfl, hM.ok.n5, hl, fun H1 G us e1 nG hG hE => ?_⟩
    have hF1 : H1 F = some (.lst []) := e1 _ _ upd_same
    have e01 : Same H H1 := eF.trans e1
    have hGF : G ≠ F := fun z => by
      rw [z, upd_same] at nG
      cases nG
    have hslen := seqs_len m.testWeights.length l
    have hs125 : m.testWeights.length ^ l ≤ 125 := pow_small hM.ok.n5 hl
    refine ⟨G, rfl, ⟨_, SqL.of hG⟩, for_list (K := K) (a := G) (xs := us) (fun i σ H' => ∃ v : Option V, σ = [some (.ref a), some (.int (l : Int)), some (.ref F), v] ∧ Acc2 K H1 F (((seqs m.testWeights.length l).map fun r => Kp415.absolute (Kp415.product (r.map (Kp415.testShare m)) - Kp415.product (r.map (Kp415.productionShare m)))).take i) H')
      ⟨none, rfl, fun b o h _ => h, [], hF1, FrL.nil⟩ (fun i σ H' _ ⟨_, _, hA⟩ => SqL.of (hA.but _ _ hG hGF)) ?_ ?_⟩
    · rintro i y σ H' hi ⟨v, rfl, hA⟩
      have hi' : i < (seqs m.testWeights.length l).length := by
        rw [← hE.1]
        exact (List.getElem?_eq_some_iff.mp hi).1
      have hx : (seqs m.testWeights.length l)[i]? = some (seqs m.testWeights.length l)[i] := List.getElem?_eq_getElem hi'
      obtain ⟨v2, hv1, b, rfl, hb, nb⟩ := hE.2 i _ hx
      rw [hv1] at hi
      have ey : V.ref b = y := Option.some.inj hi
      subst ey
      have hmem := seqs_mem (List.mem_of_getElem? hx)
      have hbF : b ≠ F := fun z => by
        rw [z, upd_same] at nb
        cases nb
      have hb' := hA.but _ _ hb hbF
      have e0' : Same H H' := hA.but.same e01 nF
      generalize (seqs m.testWeights.length l)[i] = r at hx hb hmem hb'
      obtain ⟨as, hFa, hFl⟩ := hA.ex
      have r3 : r.length ≤ 3 := by omega
      refine ⟨_, rfl, .inl ⟨rfl, _, SqL.of hFa⟩, ?_⟩
      refine ⟨_, rfl, _, rfl, a, z, b, m, r, rfl, hM.same e0', SqL.of hb', by omega, hmem.2, fun H2 c e2 fc => ?_⟩
      refine ⟨_, rfl, _, rfl, a, z, b, m, r, rfl, hM.same (e0'.trans e2), SqL.of (e2 _ _ hb'), by omega, hmem.2, fun H3 d e3 fd => ?_⟩
      have sT := sm_row (m := m) (g := Kp415.testShare) hM.ok.ts r3
      have sP := sm_row (m := m) (g := Kp415.productionShare) hM.ok.ps r3
      refine ⟨c, d, _, _, _, _, rfl, fc.same e3, fd, sT, sP, by decide, trivial, fun H4 x e4 fx => ?_⟩
      refine ⟨x, _, rfl, fx, fun H5 y5 e5 fy => ?_⟩
      have e25 := e2.trans (e3.trans (e4.trans e5))
      obtain ⟨acc, k1, k2, k3⟩ := hA.more e25 fy (by rw [List.length_take]; exact small1000 (by simp; omega))
      refine ⟨F, acc, _, rfl, rfl, k1, k2, _, rfl, ?_⟩
      rw [take_succ (show ((seqs m.testWeights.length l).map fun r => Kp415.absolute (Kp415.product (r.map (Kp415.testShare m)) - Kp415.product (r.map (Kp415.productionShare m))))[i]? = some _ by rw [List.getElem?_map, hx]; rfl)]
      exact k3
    · rintro σ H' ⟨v, rfl, hA⟩
      obtain ⟨as, hFa, hFl⟩ := hA.ex
      have e0' : Same H H' := hA.but.same e01 nF
      have hall : ((seqs m.testWeights.length l).map fun r => Kp415.absolute (Kp415.product (r.map (Kp415.testShare m)) - Kp415.product (r.map (Kp415.productionShare m)))).take us.length = (seqs m.testWeights.length l).map fun r => Kp415.absolute (Kp415.product (r.map (Kp415.testShare m)) - Kp415.product (r.map (Kp415.productionShare m))) := List.take_of_length_le (by simp [hE.1])
      rw [hall] at hFl
      have sa : ∀ x ∈ (seqs m.testWeights.length l).map fun r => Kp415.absolute (Kp415.product (r.map (Kp415.testShare m)) - Kp415.product (r.map (Kp415.productionShare m))), Sm 57 x := fun x hx => by
        obtain ⟨r, hr', rfl⟩ := List.mem_map.mp hx
        have r3 : r.length ≤ 3 := by
          have := (seqs_mem hr').1
          omega
        exact ((sm_row (m := m) (g := Kp415.testShare) hM.ok.ts r3).sub (sm_row (m := m) (g := Kp415.productionShare) hM.ok.ps r3)).abs
      have st := sm_tot sa
      rw [tot_is] at st
      have hlm : ((seqs m.testWeights.length l).map fun r => Kp415.absolute (Kp415.product (r.map (Kp415.testShare m)) - Kp415.product (r.map (Kp415.productionShare m)))).length ≤ 125 := by simp; omega
      refine ⟨_, rfl, F, as, _, 57, rfl, SqL.of hFa, hFl, sa, by omega, fun H2 b e2 fb => ?_⟩
      refine ⟨aH, b, mkRat 1 2, _, 2, _, rfl, wH.at H2, fb, sm_half, st, by omega, trivial, fun H3 c e3 fc => ?_⟩
      replace fc : Fr K H3 c (mkRat 1 2 * ((seqs m.testWeights.length l).map fun r => Kp415.absolute (Kp415.product (r.map (Kp415.testShare m)) - Kp415.product (r.map (Kp415.productionShare m)))).sum) := fc
      rw [half_is, seqs_is] at fc
      exact q H3 c (e0'.trans (e2.trans e3)) fc
theorem ok_sequence_accuracy (U : Fu K mg "sequence_accuracy" (top 25) ["model", "length"]) (T : ClsS K CS) (GM : Md P w K mg base CX0 1 CS "many" ["self"] (spMany K CS))
    (GA : Gd P w K mg base CX0 1 "all_sequences" ["many", "length"] spAll) (GX : Gd P w K mg base CX0 2 "greater" two (spTwo K Kp415.larger fun _ => True))
    (GT : Gd P w K mg base CX0 3 "total" ["some"] (spTotal K)) (GJ : Gd P w K mg base CX0 4 "joints" ["model", "row"] (spJoints K CS)) :
    Gd P w K mg base CX0 5 "sequence_accuracy" ["model", "length"] (spSeq K CS Kp415.sequenceAccuracy) := by
  refine U.ok sc25 (fun vs H Q E h => ?_) (fun f cdv A outer s H vs Q E hr h => ?_)
  · obtain ⟨a, z, m, l, rfl, _⟩ := h
    rfl
  · obtain ⟨a, z, m, l, rfl, hM, hl, q⟩ := h
    obtain ⟨dx, t, p, r0, h1, _⟩ := hM.ex
    refine ⟨_, pss_cons (ps_set (i := 2) sc25.nd rfl (.inl rfl) (pe_lst pa_nil))
      (pss_cons (ps_for PassesOwn.never rfl (pi_list (pe_g GA hr (pa_cons (pe_m0 GM T.cl hr (pv 0) pass0) (pa_cons (pv 1) pa_nil)) pass0)) (pg_name (i := 3) sc25.nd rfl (.inl rfl))
        (pss_cons (ps_asg (pe_g GJ hr (pa_cons (pv 0) (pa_cons (pv 3) pa_nil)) pass0) (pg_tup (by rfl) (pgs_cons (pg_name (i := 4) sc25.nd rfl (.inl rfl)) (pgs_cons (pg_name (i := 5) sc25.nd rfl (.inl rfl)) pgs_nil))))
        (pss_one (ps_expr (pe_bm PySem.F.plainAttrs_list PySem.F.slot_list_append PySem.F.type_list_append mt_append (pv 2) (pa_cons (pe_g GX hr (pa_cons (pv 4) (pa_cons (pv 5) pa_nil)) pass0) pa_nil))))))
      (pss_one (ps_ret (pe_g GT hr (pa_cons (pv 2) pa_nil) pass0)))), ?_⟩
    refine ⟨Nat.zero_le _, fun F nF => ?_⟩
    have eF : Same H (upd H F (.lst [])) := same_upd nF
    refine ⟨_, rfl, a, dx, _, rfl, eF _ _ h1, sF_no (by decide +kernel) (by decide +kernel) (by decide +kernel) t p r0, a, z, m, rfl, hM.same eF, _, rfl, m.testWeights.length, l, rfl, hM.ok.n5, hl, fun H1 G us e1 nG hG hE => ?_⟩
    have hF1 : H1 F = some (.lst []) := e1 _ _ upd_same
    have e01 : Same H H1 := eF.trans e1
    have hGF : G ≠ F := fun z => by
      rw [z, upd_same] at nG
      cases nG
    have hslen := seqs_len m.testWeights.length l
    have hs125 : m.testWeights.length ^ l ≤ 125 := pow_small hM.ok.n5 hl
    refine ⟨G, rfl, ⟨_, SqL.of hG⟩, for_list (K := K) (a := G) (xs := us) (fun i σ H' => ∃ v v4 v5 : Option V, σ = [some (.ref a), some (.int (l : Int)), some (.ref F), v, v4, v5] ∧ Acc2 K H1 F (((seqs m.testWeights.length l).map fun r => Kp415.larger (jT m r) (jP m r)).take i) H')
      ⟨none, none, none, rfl, fun b o h _ => h, [], hF1, FrL.nil⟩ (fun i σ H' _ ⟨_, _, _, _, hA⟩ => SqL.of (hA.but _ _ hG hGF)) ?_ ?_⟩
    · rintro i y σ H' hi ⟨v, v4, v5, rfl, hA⟩
      have hi' : i < (seqs m.testWeights.length l).length := by
        rw [← hE.1]
        exact (List.getElem?_eq_some_iff.mp hi).1
      have hx : (seqs m.testWeights.length l)[i]? = some (seqs m.testWeights.length l)[i] := List.getElem?_eq_getElem hi'
      obtain ⟨v2, hv1, b, rfl, hb, nb⟩ := hE.2 i _ hx
      rw [hv1] at hi
      have ey : V.ref b = y := Option.some.inj hi
      subst ey
      have hmem := seqs_mem (List.mem_of_getElem? hx)
      have hbF : b ≠ F := fun z => by
        rw [z, upd_same] at nb
        cases nb
      have hb' := hA.but _ _ hb hbF
      have e0' : Same H H' := hA.but.same e01 nF
      generalize (seqs m.testWeights.length l)[i] = r at hx hb hmem hb'
      have r3 : r.length ≤ 3 := by omega
      refine ⟨_, rfl, _, rfl, a, z, b, m, r, rfl, hM.same e0', SqL.of hb', by omega, hmem.2, fun H2 u c d e2 fu fc fd => ?_⟩
      refine ⟨u, _, rfl, fu, rfl, _, _, rfl, _, _, rfl, rfl, ?_⟩
      obtain ⟨as, hFa, hFl⟩ := hA.ex
      refine ⟨_, rfl, .inl ⟨rfl, _, SqL.of (e2 _ _ hFa)⟩, ?_⟩
      have sT : Sm 37 (jT m r) := (hM.ok.prior.mul (sm_row (m := m) (g := Kp415.testShare) hM.ok.ts r3)).mono (by decide)
      have sP : Sm 37 (jP m r) := hM.ok.prodPrior.mul (sm_row (m := m) (g := Kp415.productionShare) hM.ok.ps r3)
      refine ⟨_, rfl, _, rfl, c, d, _, _, 37, 37, rfl, fc, fd, sT, sP, by decide, trivial, fun H3 x e3 fx => ?_⟩
      obtain ⟨acc, k1, k2, k3⟩ := hA.more (e2.trans e3) fx (by rw [List.length_take]; exact small1000 (by simp; omega))
      refine ⟨F, acc, _, rfl, rfl, k1, k2, _, _, _, rfl, ?_⟩
      rw [take_succ (show ((seqs m.testWeights.length l).map fun r => Kp415.larger (jT m r) (jP m r))[i]? = some _ by rw [List.getElem?_map, hx]; rfl)]
      exact k3
    · rintro σ H' ⟨v, v4, v5, rfl, hA⟩
      obtain ⟨as, hFa, hFl⟩ := hA.ex
      have e0' : Same H H' := hA.but.same e01 nF
      have hall : ((seqs m.testWeights.length l).map fun r => Kp415.larger (jT m r) (jP m r)).take us.length = (seqs m.testWeights.length l).map fun r => Kp415.larger (jT m r) (jP m r) := List.take_of_length_le (by simp [hE.1])
      rw [hall] at hFl
      have sa : ∀ x ∈ (seqs m.testWeights.length l).map fun r => Kp415.larger (jT m r) (jP m r), Sm 37 x := fun x hx => by
        obtain ⟨r, hr', rfl⟩ := List.mem_map.mp hx
        have r3 : r.length ≤ 3 := by
          have := (seqs_mem hr').1
          omega
        have sT : Sm 37 (jT m r) := (hM.ok.prior.mul (sm_row (m := m) (g := Kp415.testShare) hM.ok.ts r3)).mono (by decide)
        have sP : Sm 37 (jP m r) := hM.ok.prodPrior.mul (sm_row (m := m) (g := Kp415.productionShare) hM.ok.ps r3)
        exact sT.larger sP
      have hlm : ((seqs m.testWeights.length l).map fun r => Kp415.larger (jT m r) (jP m r)).length ≤ 125 := by simp; omega
      refine ⟨_, rfl, F, as, _, 37, rfl, SqL.of hFa, hFl, sa, by omega, fun H2 b e2 fb => ?_⟩
      rw [seqs_is] at fb
      exact q H2 b (e0'.trans e2) fb
end
end Sg
/-! ### H. detectors -/
namespace Sg
open PySem PySem.Spec PyProof.Rows L2
/-- bit s of a mask, as the program asks for it -/
theorem bit_is (set s : Nat) : decide (V.int ((set : Int) / 2 ^ ((s : Nat) : Int).toNat % 2) = V.int 1) = Kp415.contains set s := by
  have e : ((set : Int) / 2 ^ ((s : Nat) : Int).toNat % 2) = ((set / 2 ^ s % 2 : Nat) : Int) := by
    rw [Int.toNat_natCast]
    simp [Int.natCast_ediv, Int.natCast_emod]
  rw [e]
  unfold Kp415.contains
  have k : (V.int ((set / 2 ^ s % 2 : Nat) : Int) = V.int 1) ↔ set / 2 ^ s % 2 = 1 := by
    constructor
    · intro h
      have := V.int.inj h
      omega
    · intro h
      rw [h]
      rfl
  rw [decide_eq_decide.mpr k]
  rfl
def mem (n set : Nat) : List Nat := (List.range n).filter fun s => Kp415.contains set s
theorem mem_succ (n set : Nat) : mem (n + 1) set = mem n set ++ if Kp415.contains set n = true then [n] else [] := by
  unfold mem
  rw [List.range_succ, List.filter_append]
  congr 1
  by_cases h : Kp415.contains set n = true
  · rw [if_pos h, List.filter_cons, if_pos h]
    rfl
  · rw [if_neg h, List.filter_cons, if_neg h]
    rfl
theorem mem_len (n set : Nat) : (mem n set).length ≤ n := by
  have := List.length_filter_le (fun s => Kp415.contains set s) (List.range n)
  rw [List.length_range] at this
  exact this
theorem mem_lt {n set s : Nat} (h : s ∈ mem n set) : s < n := List.mem_range.mp (List.mem_filter.mp h).1
/-- a pair of a mask and a fraction -/
def PrAt (K : PySem.W.Frag) (H : Hp) (v : V) (q : Nat × Rat) : Prop := ∃ a b, v = .ref a ∧ SqT K H a [.int (q.1 : Int), .ref b] ∧ Fr K H b q.2
theorem PrAt.same {K : PySem.W.Frag} {H H' : Hp} {v : V} {q : Nat × Rat} (h : PrAt K H v q) (e : Same H H') : PrAt K H' v q := by
  obtain ⟨a, b, h1, h2, h3⟩ := h
  exact ⟨a, b, h1, same_tup e h2, h3.same e⟩
theorem PrAt.grow {K : PySem.W.Frag} {H : Hp} {v : V} {q : Nat × Rat} {D : Addr} {l : List V} {o : HO} (h : PrAt K H v q) (hD : H D = some (.lst l)) : PrAt K (upd H D o) v q := by
  obtain ⟨a, b, h1, h2, h3⟩ := h
  exact ⟨a, b, h1, tup_grow hD h2, tup_grow hD h3⟩
theorem fg_take {ps : List (Nat × Rat)} {i : Nat} {q : Nat × Rat} (h0 : 0 < i) (h : ps[i]? = some q) : fg (ps.take (i + 1)) = fgStep (fg (ps.take i)) q := by
  rw [take_succ h]
  cases ps with
  | nil => simp at h
  | cons p r =>
    obtain ⟨j, rfl⟩ : ∃ j, i = j + 1 := ⟨i - 1, by omega⟩
    show fg ((p :: r.take j) ++ [q]) = fgStep (fg (p :: r.take j)) q
    show ((r.take j) ++ [q]).foldl fgStep p = fgStep ((r.take j).foldl fgStep p) q
    rw [List.foldl_append]
    rfl
theorem fg_mem {R : Nat × Rat → Prop} : ∀ {ps : List (Nat × Rat)}, (∀ q ∈ ps, R q) → 0 < ps.length → R (fg ps) := by
  intro ps h h0
  cases ps with
  | nil => simp at h0
  | cons p r =>
    have gen : ∀ (r : List (Nat × Rat)) (p : Nat × Rat), R p → (∀ q ∈ r, R q) → R (r.foldl fgStep p) := by
      intro r
      induction r with
      | nil =>
        intro p hp _
        exact hp
      | cons x r ih =>
        intro p hp hr
        refine ih (fgStep p x) ?_ fun q hq => hr q (List.mem_cons_of_mem _ hq)
        unfold fgStep
        split
        · exact hr x (List.mem_cons_self ..)
        · exact hp
    exact gen r p (h p (List.mem_cons_self ..)) fun q hq => h q (List.mem_cons_of_mem _ hq)
theorem cut1 (xs : List V) : cutV xs (some 1) none = xs.drop 1 := by
  unfold cutV
  rw [show HT.sIx xs.length 0 (some 1) = min 1 xs.length from HT.sIx_nat xs.length 0 1, HT.sIx_none]
  cases xs with
  | nil => rfl
  | cons x r =>
    have e : min 1 (x :: r).length = 1 := by
      rw [List.length_cons]
      omega
    rw [e]
    exact List.take_of_length_le (by simp)
section
variable {P : Program} {w : World} {K : PySem.W.Frag} {mg : Str → Option Value} {base : Heap} {CS : Addr}
abbrev nMe : List Str := ["mask", "many", "signal"]
abbrev nSh : List Str := ["model", "mask", "some", "test", "signal"]
abbrev nFg : List Str := ["pairs", "found", "pair"]
abbrev nBd : List Str := ["model", "most", "found", "mask", "test", "production"]
abbrev nWg : List Str := ["model", "found", "mask", "test", "production"]
theorem sc13 : FnScope nMe ["mask", "many"] (defScope (top 13)) := ⟨rfl, rfl, rfl, by decide +kernel, rfl, by decide +kernel, by decide +kernel⟩
theorem sc14 : FnScope nSh ["model", "mask"] (defScope (top 14)) := ⟨rfl, rfl, rfl, by decide +kernel, rfl, by decide +kernel, by decide +kernel⟩
theorem sc15 : FnScope nFg ["pairs"] (defScope (top 15)) := ⟨rfl, rfl, rfl, by decide +kernel, rfl, by decide +kernel, by decide +kernel⟩
theorem sc16 : FnScope nBd ["model", "most"] (defScope (top 16)) := ⟨rfl, rfl, rfl, by decide +kernel, rfl, by decide +kernel, by decide +kernel⟩
theorem sc17 : FnScope nWg ["model"] (defScope (top 17)) := ⟨rfl, rfl, rfl, by decide +kernel, rfl, by decide +kernel, by decide +kernel⟩
def spMem : Sp := fun vs H Q _ => ∃ set n : Nat, vs = [.int (set : Int), .int (n : Int)] ∧ n ≤ 5 ∧ ∀ (H' : Hp) (p : Addr), Same H H' → H' p = some (.lst (vN (mem n set))) → Q (.ref p) H'
theorem ok_members (U : Fu K mg "members" (top 13) ["mask", "many"]) (mR : mg "range" = none) : Gd P w K mg base CX0 1 "members" ["mask", "many"] spMem := by
  refine U.ok sc13 (fun vs H Q E h => ?_) (fun f cdv A outer s H vs Q E hr h => ?_)
  · obtain ⟨set, n, rfl, _⟩ := h
    rfl
  · obtain ⟨set, n, rfl, hn, q⟩ := h
    refine ⟨_, pss_one (ps_ret (pe_lc (own := [("signal", 2)]) (g := gName 2) rfl sc13.nd (pi_range1 (by rfl) mR (pa_cons (pv 1) pa_nil)) (blkOk_by (N := nMe) (sc := defScope (top 13)) (by decide +kernel)) (fun _ _ _ _ _ => pg_name (i := 2) sc13.nd rfl (Or.inl rfl))
      (fun _ _ _ _ _ => pts_one (pt_cmpR op_eq (pe_op op_mod (pe_op op_shr (pv 0) (pv 2)) pe_int) pe_int (nomark _))) (fun _ _ _ _ _ => pv 2))), ?_⟩
    refine ⟨_, rfl, _, rfl, by omega, by omega, fun D hD => ?_⟩
    refine lc_range (lo := 0) (n := n) (fun i H' => Same H H' ∧ H' D = some (.lst (vN (mem i set)))) ⟨same_upd hD, upd_same⟩ (fun i H' hi hP => ?_) (fun H' hP => q H' D hP.1 hP.2)
    obtain ⟨e, hL⟩ := hP
    refine ⟨rfl, _, rfl, _, rfl, _, _, rfl, rfl, by omega, _, _, rfl, rfl, (by show (0 : Int) < 2; decide), rfl, _, rfl, ?_⟩
    rw [show ((0 : Int) + (i : Int)) = (i : Int) from Int.zero_add _, bit_is]
    refine ite2 (fun c => ?_) (fun c => ?_)
    · refine ⟨_, rfl, _, hL, ?_, same_grow hD e, ?_⟩
      · rw [vN_len]
        exact small1000 (by have := mem_len i set; omega)
      · rw [upd_same, mem_succ, if_pos c, ← vN_snoc]
    · refine ⟨e, ?_⟩
      rw [mem_succ, if_neg c, List.append_nil]
      exact hL
def spShares (K : PySem.W.Frag) (CS : Addr) : Sp := fun vs H Q _ => ∃ (a z : Addr) (m : Kp415.Model) (set : Nat), vs = [.ref a, .int (set : Int)] ∧ ModelAt K CS z H a m ∧
  ∀ (H' : Hp) (p c d : Addr), Same H H' → SqT K H' p [.ref c, .ref d] → Fr K H' c (Kp415.setShare m.testWeights set) → Fr K H' d (Kp415.setShare m.productionWeights set) → Q (.ref p) H'
theorem take_map_len {α β : Type} (g : α → β) (l : List α) {n : Nat} (h : l.length ≤ n) : (l.map g).take n = l.map g := List.take_of_length_le (by simpa using h)
theorem mem_share (w : List Nat) (set : Nat) : ((mem w.length set).map (Kp415.share w)).sum = Kp415.setShare w set := rfl
theorem ok_shares (U : Fu K mg "shares" (top 14) ["model", "mask"]) (T : ClsS K CS) (GM : Md P w K mg base CX0 1 CS "many" ["self"] (spMany K CS)) (GE : Gd P w K mg base CX0 1 "members" ["mask", "many"] spMem) (GT : Gd P w K mg base CX0 3 "total" ["some"] (spTotal K))
    (G1 : Md P w K mg base CX0 2 CS "test_share" ["self", "signal"] (spSig K CS Kp415.testShare noR)) (G2 : Md P w K mg base CX0 2 CS "production_share" ["self", "signal"] (spSig K CS Kp415.productionShare noR)) : Gd P w K mg base CX0 4 "shares" ["model", "mask"] (spShares K CS) := by
  refine U.ok sc14 (fun vs H Q E h => ?_) (fun f cdv A outer s H vs Q E hr h => ?_)
  · obtain ⟨a, z, m, set, rfl, _⟩ := h
    rfl
  · obtain ⟨a, z, m, set, rfl, hM, q⟩ := h
    obtain ⟨dx, t, p, r0, h1, _⟩ := hM.ex
    have n5 := hM.ok.n5
    refine ⟨_, pss_cons (ps_set (i := 2) sc14.nd rfl (.inl rfl) (pe_g GE hr (pa_cons (pv 1) (pa_cons (pe_m0 GM T.cl hr (pv 0) pass0) pa_nil)) pass0))
      (pss_cons (ps_set (i := 3) sc14.nd rfl (.inl rfl) (pe_g GT hr (pa_cons (pe_lc (own := [("signal", 4)]) (g := gName 4) (tt := tYes) rfl sc14.nd (pi_list (pv 2)) (blkOk_by (N := nSh) (sc := defScope (top 14)) (by decide +kernel)) (fun _ _ _ _ _ => pg_name (i := 4) sc14.nd rfl (Or.inl rfl)) (fun _ _ _ _ _ => pts_nil)
        (fun _ _ _ _ _ => pe_m G1 T.cl hr (pv 0) (pa_cons (pv 4) pa_nil) pass0)) pa_nil) pass0))
      (pss_one (ps_ret (pe_tup (pa_cons (pv 3) (pa_cons (pe_g GT hr (pa_cons (pe_lc (own := [("signal", 4)]) (g := gName 4) (tt := tYes) rfl sc14.nd (pi_list (pv 2)) (blkOk_by (N := nSh) (sc := defScope (top 14)) (by decide +kernel)) (fun _ _ _ _ _ => pg_name (i := 4) sc14.nd rfl (Or.inl rfl)) (fun _ _ _ _ _ => pts_nil)
        (fun _ _ _ _ _ => pe_m G2 T.cl hr (pv 0) (pa_cons (pv 4) pa_nil) pass0)) pa_nil) pass0) pa_nil)))))), ?_⟩
    refine ⟨_, rfl, _, rfl, a, dx, _, rfl, h1, sF_no (by decide +kernel) (by decide +kernel) (by decide +kernel) t p r0, a, z, m, rfl, hM, set, m.testWeights.length, rfl, n5, fun H1 G e1 hG => ?_⟩
    have hml := mem_len m.testWeights.length set
    -- the shares of the tests
    refine ⟨_, rfl, G, rfl, ⟨_, SqL.of hG⟩, fun D hD => ?_⟩
    refine lc_list (K := K) (a := G) (xs := vN (mem m.testWeights.length set)) (fun i H2 => Acc K H1 D (((mem m.testWeights.length set).map (Kp415.testShare m)).take i) H2) (Acc.start hD) (fun i H2 _ hA => SqL.of (hA.same _ _ hG)) (fun i x H2 hx hA => ?_) (fun H2 hA => ?_)
    · have hi : i < (mem m.testWeights.length set).length := by
        rw [← vN_len]
        exact (List.getElem?_eq_some_iff.mp hx).1
      rw [vN_at hi] at hx
      have ex := Option.some.inj hx
      subst ex
      have hget : (mem m.testWeights.length set)[i]? = some ((mem m.testWeights.length set).getD i 0) := by
        rw [List.getD_eq_getElem?_getD, List.getElem?_eq_getElem hi]
        rfl
      have hlt := mem_lt (List.mem_of_getElem? hget)
      have e02 := e1.trans hA.same
      refine ⟨rfl, _, rfl, a, dx, _, rfl, e02 _ _ h1, sF_no (by decide +kernel) (by decide +kernel) (by decide +kernel) t p r0, _, rfl, a, z, m, _, rfl, hM.same e02, hlt, trivial, fun H3 b e3 fb => ?_⟩
      rw [take_succ (show ((mem m.testWeights.length set).map (Kp415.testShare m))[i]? = some _ by rw [List.getElem?_map, hget]; rfl)]
      exact hA.more hD e3 fb (by rw [List.length_take]; exact small1000 (by simp; omega))
    · obtain ⟨as, h2, h3⟩ := hA.ex
      rw [take_map_len _ _ (by rw [vN_len]; exact Nat.le_refl _)] at h3
      have sa : ∀ x ∈ (mem m.testWeights.length set).map (Kp415.testShare m), Sm 9 x := fun x hx => by
        obtain ⟨s, _, rfl⟩ := List.mem_map.mp hx
        exact hM.ok.ts s
      refine ⟨D, as, _, 9, rfl, SqL.of h2, h3, sa, by simp; omega, fun H3 b e3 fb => ?_⟩
      have e13 := hA.same.trans e3
      have e03 := e1.trans e13
      have hG3 := e13 _ _ hG
      -- the shares of production
      refine ⟨_, rfl, _, rfl, G, rfl, ⟨_, SqL.of hG3⟩, fun D2 hD2 => ?_⟩
      refine lc_list (K := K) (a := G) (xs := vN (mem m.testWeights.length set)) (fun i H4 => Acc K H3 D2 (((mem m.testWeights.length set).map (Kp415.productionShare m)).take i) H4) (Acc.start hD2) (fun i H4 _ hA => SqL.of (hA.same _ _ hG3)) (fun i x H4 hx hB => ?_) (fun H4 hB => ?_)
      · have hi : i < (mem m.testWeights.length set).length := by
          rw [← vN_len]
          exact (List.getElem?_eq_some_iff.mp hx).1
        rw [vN_at hi] at hx
        have ex := Option.some.inj hx
        subst ex
        have hget : (mem m.testWeights.length set)[i]? = some ((mem m.testWeights.length set).getD i 0) := by
          rw [List.getD_eq_getElem?_getD, List.getElem?_eq_getElem hi]
          rfl
        have hlt := mem_lt (List.mem_of_getElem? hget)
        have e04 := e03.trans hB.same
        refine ⟨rfl, _, rfl, a, dx, _, rfl, e04 _ _ h1, sF_no (by decide +kernel) (by decide +kernel) (by decide +kernel) t p r0, _, rfl, a, z, m, _, rfl, hM.same e04, hlt, trivial, fun H5 c e5 fc => ?_⟩
        rw [take_succ (show ((mem m.testWeights.length set).map (Kp415.productionShare m))[i]? = some _ by rw [List.getElem?_map, hget]; rfl)]
        exact hB.more hD2 e5 fc (by rw [List.length_take]; exact small1000 (by simp; omega))
      · obtain ⟨as2, k2, k3⟩ := hB.ex
        rw [take_map_len _ _ (by rw [vN_len]; exact Nat.le_refl _)] at k3
        have sb : ∀ x ∈ (mem m.testWeights.length set).map (Kp415.productionShare m), Sm 9 x := fun x hx => by
          obtain ⟨s, _, rfl⟩ := List.mem_map.mp hx
          exact hM.ok.ps s
        refine ⟨D2, as2, _, 9, rfl, SqL.of k2, k3, sb, by simp; omega, fun H5 c e5 fc => ?_⟩
        refine ⟨(by show 2 ≤ sizeLine; decide), fun u nu => ?_⟩
        have e6 : Same H5 (upd H5 u (.tup [.ref b, .ref c])) := same_upd nu
        have e35 := hB.same.trans e5
        have fc' : Fr K H5 c (Kp415.setShare m.productionWeights set) := by
          rw [← mem_share, hM.ok.len]
          exact fc
        exact q _ u b c (e03.trans (e35.trans e6)) (SqT.of upd_same) (fb.same (e35.trans e6)) (fc'.same e6)
def spFg (K : PySem.W.Frag) : Sp := fun vs H Q _ => ∃ (a : Addr) (us : List V) (ps : List (Nat × Rat)) (k : Nat), vs = [.ref a] ∧ SqL K H a us ∧ Each (PrAt K H) us ps ∧ 0 < ps.length ∧ ps.length ≤ 1000 ∧ (∀ q ∈ ps, Sm k q.2) ∧ k + k ≤ 9000 ∧
  ∀ (H' : Hp) (v : V), Same H H' → PrAt K H' v (fg ps) → Q v H'
theorem ok_first (U : Fu K mg "first_greatest" (top 15) ["pairs"]) (GL : Gd P w K mg base CX0 1 "is_less" two (spLess K)) : Gd P w K mg base CX0 2 "first_greatest" ["pairs"] (spFg K) := by
  refine U.ok sc15 (fun vs H Q E h => ?_) (fun f cdv A outer s H vs Q E hr h => ?_)
  · obtain ⟨a, us, ps, k, rfl, _⟩ := h
    rfl
  · obtain ⟨a, us, ps, k, rfl, hL, hE, h0, h1000, hS, hk, q⟩ := h
    refine ⟨_, pss_cons (ps_set (i := 1) sc15.nd rfl (.inl rfl) (pe_ix ix_list (pv 0) pe_int (fun _ _ => rfl)))
      (pss_cons (ps_for PassesOwn.never rfl (pi_list (pe_slice sl_list (pv 0) (po_some pe_int) po_none)) (pg_name (i := 2) sc15.nd rfl (.inl rfl))
        (pss_one (ps_if (pt_val (pe_g GL hr (pa_cons (pe_ix ix_tup (pv 1) pe_int (fun _ _ => rfl)) (pa_cons (pe_ix ix_tup (pv 2) pe_int (fun _ _ => rfl)) pa_nil)) pass0)) (pss_one (ps_set (i := 1) sc15.nd rfl (.inl rfl) (pv 2))) pss_nil)))
      (pss_one (ps_ret (pv 1)))), ?_⟩
    obtain ⟨v0, hv0, hp0⟩ := hE.2 0 _ (List.getElem?_eq_getElem h0)
    refine ⟨_, rfl, a, _, _, _, rfl, rfl, hL, atI_nat (j := 0) hv0, ?_⟩
    refine ⟨_, rfl, 1, rfl, a, us, rfl, hL, fun c nc => ?_⟩
    have ec : Same H (upd H c (.lst (cutV us (some 1) none))) := same_upd nc
    have hc : (upd H c (.lst (cutV us (some 1) none))) c = some (.lst (us.drop 1)) := by rw [upd_same, cut1]
    refine ⟨c, rfl, ⟨_, SqL.of upd_same⟩, ?_⟩
    generalize upd H c (.lst (cutV us (some 1) none)) = H1 at ec hc
    refine for_list (K := K) (a := c) (xs := us.drop 1) (fun i σ H' => H' = H1 ∧ ∃ (v : V) (v2 : Option V), σ = [some (.ref a), some v, v2] ∧ PrAt K H1 v (fg (ps.take (i + 1))))
      ⟨rfl, v0, none, rfl, ?_⟩ (fun i σ H' _ hP => by rw [hP.1]; exact SqL.of hc) ?_ ?_
    · rw [take_succ (List.getElem?_eq_getElem h0)]
      exact hp0.same ec
    · rintro i y σ H' hi ⟨rfl, v, v2, rfl, hv⟩
      rw [List.getElem?_drop] at hi
      have hi' : 1 + i < ps.length := by
        rw [← hE.1]
        exact (List.getElem?_eq_some_iff.mp hi).1
      obtain ⟨y2, hy1, hy2⟩ := hE.2 (1 + i) _ (List.getElem?_eq_getElem hi')
      rw [hy1] at hi
      have ey := Option.some.inj hi
      subst ey
      have hy3 := hy2.same ec
      have hget : ps[i + 1]? = some ps[1 + i] := by
        rw [Nat.add_comm i 1]
        exact List.getElem?_eq_getElem hi'
      have hsy := hS _ (List.getElem_mem hi')
      have hsf : Sm k (fg (ps.take (i + 1))).2 := fg_mem (R := fun q => Sm k q.2) (fun q hq => hS q (List.mem_of_mem_take hq)) (by rw [List.length_take]; omega)
      have hstep := fg_take (i := i + 1) (by omega) hget
      generalize ps[1 + i] = q2 at hy3 hsy hstep
      generalize fg (ps.take (i + 1)) = q1 at hv hsf hstep
      have hv' := hv
      have hy' := hy3
      obtain ⟨a1, b1, rfl, ha1, hb1⟩ := hv
      obtain ⟨a2, b2, rfl, ha2, hb2⟩ := hy3
      refine ⟨_, rfl, a1, _, _, _, rfl, rfl, ha1, atI_nat (j := 1) rfl, _, rfl, a2, _, _, _, rfl, rfl, ha2, atI_nat (j := 1) rfl, ?_⟩
      refine ⟨b1, b2, q1.2, q2.2, k, k, rfl, hb1, hb2, hsf, hsy, hk, _, rfl, ite2 (fun cc => ?_) (fun cc => ?_)⟩
      · refine ⟨_, rfl, rfl, _, _, rfl, ?_⟩
        rw [hstep, show fgStep q1 q2 = q2 from if_pos (of_decide_eq_true cc)]
        exact hy'
      · refine ⟨rfl, _, _, rfl, ?_⟩
        rw [hstep, show fgStep q1 q2 = q1 from if_neg fun z => cc (decide_eq_true z)]
        exact hv'
    · rintro σ H' ⟨rfl, v, v2, rfl, hv⟩
      have e : ps.take ((us.drop 1).length + 1) = ps := List.take_of_length_le (by rw [List.length_drop, hE.1]; omega)
      rw [e] at hv
      exact ⟨_, rfl, q H' v ec hv⟩
/-- the pairs gathered in the list at D -/
structure AccP (K : PySem.W.Frag) (H : Hp) (D : Addr) (ps : List (Nat × Rat)) (H' : Hp) : Prop where
  same : Same H H'
  ex : ∃ us, H' D = some (.lst us) ∧ Each (PrAt K H') us ps
theorem AccP.go {K : PySem.W.Frag} {H H' H4 : Hp} {D : Addr} {ps : List (Nat × Rat)} (A : AccP K H D ps H') (e : Same H' H4) : AccP K H D ps H4 := by
  obtain ⟨us, h1, h2⟩ := A.ex
  exact ⟨A.same.trans e, us, e _ _ h1, h2.mono fun v x h => h.same e⟩
theorem AccP.more {K : PySem.W.Frag} {H H4 : Hp} {D p b : Addr} {ps : List (Nat × Rat)} {n : Nat} {x : Rat} (A : AccP K H D ps H4) (hD : H D = none) (hp : SqT K H4 p [.int (n : Int), .ref b]) (f : Fr K H4 b x) (hl : ps.length < sizeLine) :
    ∃ acc, H4 D = some (.lst acc) ∧ acc.length < sizeLine ∧ AccP K H D (ps ++ [(n, x)]) (upd H4 D (.lst (acc ++ [.ref p]))) := by
  obtain ⟨us, h1, h2⟩ := A.ex
  refine ⟨us, h1, by rw [h2.1]; exact hl, same_grow hD A.same, _, upd_same, ?_⟩
  exact Each.snoc (h2.mono fun v y h => h.grow h1) (PrAt.grow (q := (n, x)) ⟨p, b, rfl, hp, f⟩ h1)
def dPre (m : Kp415.Model) (b : Rat) (i : Nat) : List (Nat × Rat) := ((List.range i).filter fun s => decide (¬ b < Kp415.setShare m.productionWeights s)).map fun s => (s, Kp415.setShare m.testWeights s)
theorem dPre_succ (m : Kp415.Model) (b : Rat) (i : Nat) : dPre m b (i + 1) = dPre m b i ++ if b < Kp415.setShare m.productionWeights i then [] else [(i, Kp415.setShare m.testWeights i)] := by
  unfold dPre
  rw [List.range_succ, List.filter_append, List.map_append]
  congr 1
  by_cases h : b < Kp415.setShare m.productionWeights i
  · rw [if_pos h]
    simp [h]
  · rw [if_neg h]
    simp [h]
theorem dPre_len (m : Kp415.Model) (b : Rat) (i : Nat) : (dPre m b i).length ≤ i := by
  unfold dPre
  rw [List.length_map]
  have := List.length_filter_le (fun s => decide (¬ b < Kp415.setShare m.productionWeights s)) (List.range i)
  rw [List.length_range] at this
  exact this
def gPre (m : Kp415.Model) (i : Nat) : List (Nat × Rat) := (List.range i).map fun s => (s, Kp415.shareGap m s)
theorem gPre_succ (m : Kp415.Model) (i : Nat) : gPre m (i + 1) = gPre m i ++ [(i, Kp415.shareGap m i)] := by
  unfold gPre
  rw [List.range_succ, List.map_append]
  rfl
theorem shl_is (n : Nat) : ((1 : Int) * 2 ^ ((n : Nat) : Int).toNat) = ((2 ^ n : Nat) : Int) := by
  rw [Int.toNat_natCast, Int.one_mul]
  simp
theorem shl_lo (n : Nat) : -(2 ^ 62) ≤ ((2 ^ n : Nat) : Int) := by
  generalize 2 ^ n = x
  omega
theorem shl_hi {n : Nat} (h : 2 ^ n ≤ 32) : ((2 ^ n : Nat) : Int) < 2 ^ 62 := by
  generalize 2 ^ n = x at h
  omega
theorem pow5 {n : Nat} (h : n ≤ 5) : 2 ^ n ≤ 32 := Nat.pow_le_pow_right (by decide) h
theorem MOk.sT {m : Kp415.Model} (h : MOk m) (s : Nat) : Sm 51 (Kp415.setShare m.testWeights s) := sm_setShare h.t1 h.t5 h.n5 s
theorem MOk.sP {m : Kp415.Model} (h : MOk m) (s : Nat) : Sm 51 (Kp415.setShare m.productionWeights s) := sm_setShare h.p1 h.p5 (by rw [h.len]; exact h.n5) s
theorem MOk.gap {m : Kp415.Model} (h : MOk m) (s : Nat) : Sm 103 (Kp415.shareGap m s) := (h.sT s).sub (h.sP s)
def spBest (K : PySem.W.Frag) (CS : Addr) : Sp := fun vs H Q _ => ∃ (a z c : Addr) (m : Kp415.Model) (b : Rat), vs = [.ref a, .ref c] ∧ ModelAt K CS z H a m ∧ Fr K H c b ∧ Sm 7 b ∧ 0 ≤ b ∧
  ∀ (H' : Hp) (v : V), Same H H' → PrAt K H' v (Kp415.bestDetector m b, Kp415.setShare m.testWeights (Kp415.bestDetector m b)) → Q v H'
theorem ok_best (U : Fu K mg "best_detector" (top 16) ["model", "most"]) (T : ClsS K CS) (mR : mg "range" = none) (GM : Md P w K mg base CX0 1 CS "many" ["self"] (spMany K CS)) (GS : Gd P w K mg base CX0 4 "shares" ["model", "mask"] (spShares K CS)) (GL : Gd P w K mg base CX0 1 "is_less" two (spLess K))
    (GF : Gd P w K mg base CX0 2 "first_greatest" ["pairs"] (spFg K)) : Gd P w K mg base CX0 5 "best_detector" ["model", "most"] (spBest K CS) := by
  refine U.ok sc16 (fun vs H Q E h => ?_) (fun f cdv A outer s H vs Q E hr h => ?_)
  · obtain ⟨a, z, c, m, b, rfl, _⟩ := h
    rfl
  · obtain ⟨a, z, c, m, b, rfl, hM, fc, sb, hb, q⟩ := h
    obtain ⟨dx, t, p, r0, h1, _⟩ := hM.ex
    have n5 := hM.ok.n5
    have p5 := pow5 n5
    refine ⟨_, pss_cons (ps_set (i := 2) sc16.nd rfl (.inl rfl) (pe_lst pa_nil))
      (pss_cons (ps_for PassesOwn.never rfl (pi_range1 (by rfl) mR (pa_cons (pe_op op_shl pe_int (pe_m0 GM T.cl hr (pv 0) pass0)) pa_nil)) (pg_name (i := 3) sc16.nd rfl (.inl rfl))
        (pss_cons (ps_asg (pe_g GS hr (pa_cons (pv 0) (pa_cons (pv 3) pa_nil)) pass0) (pg_tup (by rfl) (pgs_cons (pg_name (i := 4) sc16.nd rfl (.inl rfl)) (pgs_cons (pg_name (i := 5) sc16.nd rfl (.inl rfl)) pgs_nil))))
        (pss_one (ps_if (pt_not (pt_val (pe_g GL hr (pa_cons (pv 1) (pa_cons (pv 5) pa_nil)) pass0)))
          (pss_one (ps_expr (pe_bm PySem.F.plainAttrs_list PySem.F.slot_list_append PySem.F.type_list_append mt_append (pv 2) (pa_cons (pe_tup (pa_cons (pv 3) (pa_cons (pv 4) pa_nil))) pa_nil)))) pss_nil))))
      (pss_one (ps_ret (pe_g GF hr (pa_cons (pv 2) pa_nil) pass0)))), ?_⟩
    refine ⟨Nat.zero_le _, fun F nF => ?_⟩
    have eF : Same H (upd H F (.lst [])) := same_upd nF
    refine ⟨_, rfl, a, dx, _, rfl, eF _ _ h1, sF_no (by decide +kernel) (by decide +kernel) (by decide +kernel) t p r0, a, z, m, rfl, hM.same eF, 1, _, rfl, rfl, ⟨by omega, by omega, by decide⟩, ((2 ^ m.testWeights.length : Nat) : Int), congrArg (fun x => [V.int x]) (shl_is _), shl_lo _, shl_hi p5, ?_⟩
    refine for_range (lo := 0) (n := 2 ^ m.testWeights.length) (fun i σ H' => ∃ v3 v4 v5 : Option V, σ = [some (.ref a), some (.ref c), some (.ref F), v3, v4, v5] ∧ AccP K H F (dPre m b i) H') ⟨none, none, none, rfl, eF, [], upd_same, Each.nil⟩ ?_ ?_
    · rintro i σ H' hi ⟨v3, v4, v5, rfl, hA⟩
      refine ⟨_, rfl, _, rfl, a, z, m, i, by simp, hM.same hA.same, fun H2 u x y e2 fu fx fy => ?_⟩
      refine ⟨u, _, rfl, fu, rfl, _, _, rfl, _, _, rfl, rfl, ?_⟩
      have e02 := hA.same.trans e2
      refine ⟨_, rfl, _, rfl, c, y, b, _, 7, 51, rfl, fc.same e02, fy, sb, hM.ok.sP i, by decide, _, rfl, ?_⟩
      have hA2 := hA.go e2
      by_cases hlt : b < Kp415.setShare m.productionWeights i
      · rw [decide_eq_true hlt]
        refine iteF ⟨_, _, _, rfl, ?_⟩
        rw [dPre_succ, if_pos hlt, List.append_nil]
        exact hA2
      · rw [decide_eq_false hlt]
        obtain ⟨us, hF1, hF2⟩ := hA2.ex
        refine iteT ⟨_, rfl, .inl ⟨rfl, _, SqL.of hF1⟩, _, rfl, _, rfl, (by show 2 ≤ sizeLine; decide), fun g ng => ?_⟩
        have e3 : Same H2 (upd H2 g (.tup [.int (0 + (i : Int)), .ref x])) := same_upd ng
        have hA3 := hA2.go e3
        have hg : SqT K (upd H2 g (.tup [.int (0 + (i : Int)), .ref x])) g [.int (i : Int), .ref x] := SqT.of (by rw [upd_same, Int.zero_add])
        obtain ⟨acc, k1, k2, k3⟩ := hA3.more nF hg (fx.same e3) (small1000 (by have := dPre_len m b i; omega))
        refine ⟨F, acc, _, rfl, rfl, k1, k2, _, _, _, rfl, ?_⟩
        rw [dPre_succ, if_neg hlt]
        exact k3
    · rintro σ H' ⟨v3, v4, v5, rfl, hA⟩
      obtain ⟨us, hF1, hF2⟩ := hA.ex
      have e : dPre m b (2 ^ m.testWeights.length) = dPairs m b := rfl
      rw [e] at hF2
      have hlen := dPre_len m b (2 ^ m.testWeights.length)
      rw [e] at hlen
      refine ⟨_, rfl, F, us, dPairs m b, 51, rfl, SqL.of hF1, hF2, dPairs_ne m b hb, by omega, fun q0 hq0 => ?_, by decide, fun H2 v e2 hv => ?_⟩
      · obtain ⟨s, _, rfl⟩ := List.mem_map.mp hq0
        exact hM.ok.sT s
      · rw [dPairs_fg m b hb] at hv
        exact q H2 v (hA.same.trans e2) hv
def spWide (K : PySem.W.Frag) (CS : Addr) : Sp := fun vs H Q _ => ∃ (a z : Addr) (m : Kp415.Model), vs = [.ref a] ∧ ModelAt K CS z H a m ∧
  ∀ (H' : Hp) (v : V), Same H H' → PrAt K H' v (Kp415.widestGapSet m, Kp415.shareGap m (Kp415.widestGapSet m)) → Q v H'
theorem ok_wide (U : Fu K mg "widest_gap" (top 17) ["model"]) (T : ClsS K CS) (mR : mg "range" = none) (GM : Md P w K mg base CX0 1 CS "many" ["self"] (spMany K CS)) (GS : Gd P w K mg base CX0 4 "shares" ["model", "mask"] (spShares K CS)) (GL : Gd P w K mg base CX0 2 "minus" two (spTwo K (· - ·) fun _ => True))
    (GF : Gd P w K mg base CX0 2 "first_greatest" ["pairs"] (spFg K)) : Gd P w K mg base CX0 5 "widest_gap" ["model"] (spWide K CS) := by
  refine U.ok sc17 (fun vs H Q E h => ?_) (fun f cdv A outer s H vs Q E hr h => ?_)
  · obtain ⟨a, z, m, rfl, _⟩ := h
    rfl
  · obtain ⟨a, z, m, rfl, hM, q⟩ := h
    obtain ⟨dx, t, p, r0, h1, _⟩ := hM.ex
    have n5 := hM.ok.n5
    have p5 := pow5 n5
    refine ⟨_, pss_cons (ps_set (i := 1) sc17.nd rfl (.inl rfl) (pe_lst pa_nil))
      (pss_cons (ps_for PassesOwn.never rfl (pi_range1 (by rfl) mR (pa_cons (pe_op op_shl pe_int (pe_m0 GM T.cl hr (pv 0) pass0)) pa_nil)) (pg_name (i := 2) sc17.nd rfl (.inl rfl))
        (pss_cons (ps_asg (pe_g GS hr (pa_cons (pv 0) (pa_cons (pv 2) pa_nil)) pass0) (pg_tup (by rfl) (pgs_cons (pg_name (i := 3) sc17.nd rfl (.inl rfl)) (pgs_cons (pg_name (i := 4) sc17.nd rfl (.inl rfl)) pgs_nil))))
        (pss_one (ps_expr (pe_bm PySem.F.plainAttrs_list PySem.F.slot_list_append PySem.F.type_list_append mt_append (pv 1) (pa_cons (pe_tup (pa_cons (pv 2) (pa_cons (pe_g GL hr (pa_cons (pv 3) (pa_cons (pv 4) pa_nil)) pass0) pa_nil))) pa_nil))))))
      (pss_one (ps_ret (pe_g GF hr (pa_cons (pv 1) pa_nil) pass0)))), ?_⟩
    refine ⟨Nat.zero_le _, fun F nF => ?_⟩
    have eF : Same H (upd H F (.lst [])) := same_upd nF
    refine ⟨_, rfl, a, dx, _, rfl, eF _ _ h1, sF_no (by decide +kernel) (by decide +kernel) (by decide +kernel) t p r0, a, z, m, rfl, hM.same eF, 1, _, rfl, rfl, ⟨by omega, by omega, by decide⟩, ((2 ^ m.testWeights.length : Nat) : Int), congrArg (fun x => [V.int x]) (shl_is _), shl_lo _, shl_hi p5, ?_⟩
    refine for_range (lo := 0) (n := 2 ^ m.testWeights.length) (fun i σ H' => ∃ v3 v4 v5 : Option V, σ = [some (.ref a), some (.ref F), v3, v4, v5] ∧ AccP K H F (gPre m i) H') ⟨none, none, none, rfl, eF, [], upd_same, Each.nil⟩ ?_ ?_
    · rintro i σ H' hi ⟨v3, v4, v5, rfl, hA⟩
      refine ⟨_, rfl, _, rfl, a, z, m, i, by simp, hM.same hA.same, fun H2 u x y e2 fu fx fy => ?_⟩
      refine ⟨u, _, rfl, fu, rfl, _, _, rfl, _, _, rfl, rfl, ?_⟩
      obtain ⟨us0, hF0, _⟩ := (hA.go e2).ex
      refine ⟨_, rfl, .inl ⟨rfl, _, SqL.of hF0⟩, _, rfl, _, rfl, _, rfl, x, y, _, _, 51, 51, rfl, fx, fy, hM.ok.sT i, hM.ok.sP i, by decide, trivial, fun H3 d e3 fd => ?_⟩
      refine ⟨(by show 2 ≤ sizeLine; decide), fun g ng => ?_⟩
      have e4 : Same H3 (upd H3 g (.tup [.int (0 + (i : Int)), .ref d])) := same_upd ng
      have hA4 := hA.go (e2.trans (e3.trans e4))
      have hg : SqT K (upd H3 g (.tup [.int (0 + (i : Int)), .ref d])) g [.int (i : Int), .ref d] := SqT.of (by rw [upd_same, Int.zero_add])
      obtain ⟨acc, k1, k2, k3⟩ := hA4.more (x := Kp415.shareGap m i) nF hg (fd.same e4) (small1000 (by simp [gPre]; omega))
      refine ⟨F, acc, _, rfl, rfl, k1, k2, _, _, _, rfl, ?_⟩
      rw [gPre_succ]
      exact k3
    · rintro σ H' ⟨v3, v4, v5, rfl, hA⟩
      obtain ⟨us, hF1, hF2⟩ := hA.ex
      have e : gPre m (2 ^ m.testWeights.length) = gPairs m := rfl
      rw [e] at hF2
      have hlen : (gPairs m).length = 2 ^ m.testWeights.length := by
        rw [← e]
        simp [gPre]
      have hpos : 0 < 2 ^ m.testWeights.length := Nat.pow_pos (by decide)
      refine ⟨_, rfl, F, us, gPairs m, 103, rfl, SqL.of hF1, hF2, by omega, by omega, fun q0 hq0 => ?_, by decide, fun H2 v e2 hv => ?_⟩
      · obtain ⟨s, _, rfl⟩ := List.mem_map.mp hq0
        exact hM.ok.gap s
      · rw [gPairs_fg m] at hv
        exact q H2 v (hA.same.trans e2) hv
end
end Sg
/-! ### I. refusals -/
namespace Sg
open PySem PySem.Spec PyProof.Rows L2
/-- what the text says of the class Refused, at CF, its __init__ at fI -/
structure ClsF (K : PySem.W.Frag) (mg : Str → Option Value) (CF fI : Addr) : Prop where
  ox : OexC K CF
  xf : XfC K CF
  nC : PySem.W.findIn K (.ref CF) "code" = some none
  iC : PySem.W.findIn K (.ref CF) "__init__" = some (some (.ref fI))
  tI : PySem.W.typeIn K (.ref fI) = some (.type "function")
  g : mg "Refused" = some (.ref CF)
  te : PySem.W.exmOne K (.ref CF) (.ref CF) = some true
/-- the def of the text that stands at f -/
structure Fa (K : PySem.W.Frag) (q : Str) (st : Stmt) (ps : List Str) (f : Addr) : Prop where
  ex : ∃ fd : FuncData, Fun K "__init__" q st f fd ∧ Binds K fd ps []
structure Gf (P : Program) (w : World) (K : PySem.W.Frag) (mg : Str → Option Value) (base : Heap) (k : Nat) (f : Addr) (ps : List Str) (sp : Sp) : Prop where
  ex : ∃ fd : FuncData, FnOk P w K mg base CX0 k f fd ps sp ∧ Binds K fd ps []
/-- refused with the code c: an error of the class at CF whose own dict bears it -/
def Err (CF : Addr) (H : Hp) (E : XK) (c : Int) : Prop := ∀ (H' : Hp) (d : Addr), Same H H' → H' d = some (.xd [("code", .int c)]) → E (.ref CF) (some d) H'
theorem Err.same {CF : Addr} {H H1 : Hp} {E : XK} {c : Int} (h : Err CF H E c) (e : Same H H1) : Err CF H1 E c := fun H' d e' hd => h H' d (e.trans e') hd
section
variable {P : Program} {w : World} {K : PySem.W.Frag} {mg : Str → Option Value} {base : Heap} {CS CF fI : Addr}
abbrev sRI : Stmt := inClass (top 38) 0
theorem scRI : FnScope ["self", "code"] ["self", "code"] (defScope sRI) := ⟨rfl, rfl, rfl, by decide +kernel, rfl, by decide +kernel, by decide +kernel⟩
theorem sc39 : FnScope ["is_so", "code"] ["is_so", "code"] (defScope (top 39)) := ⟨rfl, rfl, rfl, by decide +kernel, rfl, by decide +kernel, by decide +kernel⟩
theorem sc40 : FnScope ["numbers"] ["numbers"] (defScope (top 40)) := ⟨rfl, rfl, rfl, by decide +kernel, rfl, by decide +kernel, by decide +kernel⟩
def spRef (CF : Addr) : Sp := fun vs H Q _ => ∃ (a : Addr) (c : Int), vs = [.ref a, .int c] ∧ H a = some (exo a CF none) ∧ ∀ dx, H dx = none → dx ≠ a → Q .non (upd (upd H dx (exd dx [("code", .int c)])) a (exo a CF (some dx)))
theorem ok_ref (U : Fa K "Refused.__init__" sRI ["self", "code"] fI) (T : ClsF K mg CF fI) : Gf P w K mg base 1 fI ["self", "code"] (spRef CF) := by
  obtain ⟨fd, F, b⟩ := U.ex
  refine ⟨fd, F.ok scRI (fun vs H Q E h => ?_) (fun cdv A outer s H vs Q E hr h => ?_), b⟩
  · obtain ⟨a, c, rfl, _⟩ := h
    rfl
  · obtain ⟨a, c, rfl, ha, q⟩ := h
    refine ⟨_, pss_one (ps_ost (pv 0) (pv 1)), ?_⟩
    exact ⟨_, rfl, _, rfl, a, CF, rfl, T.ox, T.nC, .inl ⟨ha, fun dx n ne => q dx n ne⟩⟩
/-- want: nothing, or the refusal -/
def spWant (CF : Addr) : Sp := fun vs H Q E => ∃ (b : Bool) (c : Int), vs = [.bl b, .int c] ∧ (b = true → Q .non H) ∧ (b = false → Err CF H E c)
theorem ok_want (U : Fu K mg "want" (top 39) ["is_so", "code"]) (T : ClsF K mg CF fI) (GI : Gf P w K mg base 1 fI ["self", "code"] (spRef CF)) : Gd P w K mg base (L2.CX P w) 3 "want" ["is_so", "code"] (spWant CF) := by
  refine U.okX sc39 (fun vs H Q E h => ?_) (fun f cdv A outer s H vs Q E hr h => ?_)
  · obtain ⟨b, c, rfl, _⟩ := h
    rfl
  · obtain ⟨b, c, rfl, qT, qF⟩ := h
    obtain ⟨fd, F, bI⟩ := GI.ex
    refine ⟨_, pss_one (ps_if (pt_not (pt_val (pv 0))) (pss_one (ps_raise rfl (takes_of rfl rfl rfl rfl) (pmk_oex T.ox T.iC T.tI F hr bI .nil pass0 (by rfl) T.g (by exact (pa_cons (pv 1) pa_nil))))) pss_nil), ?_⟩
    refine ⟨_, rfl, b, rfl, ?_⟩
    cases b with
    | true => exact iteF (qT rfl)
    | false =>
      refine iteT ⟨_, rfl, (by show 1 ≤ 1000; decide), fun a na => ?_⟩
      refine ⟨a, c, rfl, upd_same, fun dx nd ne => ⟨rfl, dx, [("code", .int c)], upd_same, ?_, ?_, ?_⟩⟩
      · rw [upd_ne ne]
        exact upd_same
      · rw [upd_ne ne] at nd
        exact nd
      · rw [upd_ne ne] at nd
        refine qF rfl _ dx (fun b o hb => ?_) upd_same
        have h1 : b ≠ dx := ne_of_none hb nd
        have h2 : b ≠ a := ne_of_none hb na
        rw [upd_ne h1, del_ne h2, upd_ne h2, upd_ne h1, upd_ne h2]
        exact hb
/-- num and den as they are wanted -/
def okF (n d : Nat) : Bool := Kp415.validFraction n d
def spWantF (K : PySem.W.Frag) (CF : Addr) : Sp := fun vs H Q E => ∃ (b : Addr) (n d : Nat), vs = [.ref b] ∧ SqL K H b (vN [n, d]) ∧ (Kp415.validFraction n d = true → Q .non H) ∧ (Kp415.validFraction n d = false → Err CF H E (-22))
theorem ok_wantF (U : Fu K mg "want_fraction" (top 40) ["numbers"]) (GW : Gd P w K mg base (L2.CX P w) 3 "want" ["is_so", "code"] (spWant CF)) {t1 t2 : Tok} (m99 : mg "MOST_WEIGHT" = some (.int 99 t1)) (mO : mg "OUTSIDE" = some (.int (-22) t2)) :
    Gd P w K mg base (L2.CX P w) 4 "want_fraction" ["numbers"] (spWantF K CF) := by
  refine U.okX sc40 (fun vs H Q E h => ?_) (fun f cdv A outer s H vs Q E hr h => ?_)
  · obtain ⟨b, n, d, rfl, _⟩ := h
    rfl
  · obtain ⟨b, n, d, rfl, hB, qT, qF⟩ := h
    have g0 : atI (vN [n, d]) 0 = some (.int (n : Int)) := atI_nat (j := 0) rfl
    have g1 : atI (vN [n, d]) 1 = some (.int (d : Int)) := atI_nat (j := 1) rfl
    refine ⟨_, pss_one (ps_expr (pe_g GW hr (pa_cons (pe_and (pe_chain op_le op_le pe_int (pe_ix ix_list (pv 0) pe_int (fun _ _ => rfl)) (pe_glob (v := .int 99) (by rfl) m99 ⟨_, rfl⟩)) (pe_one (pe_cmpR op_le (pe_ix ix_list (pv 0) pe_int (fun _ _ => rfl)) (pe_ix ix_list (pv 0) pe_int (fun _ _ => rfl)) (nomark _))))
      (pa_cons (pe_glob (v := .int (-22)) (by rfl) mO ⟨_, rfl⟩) pa_nil)) passX)), ?_⟩
    refine ⟨_, rfl, b, _, _, _, rfl, rfl, hB, g1, 1, _, rfl, rfl, _, rfl, ite2 (fun c1 => ?_) (fun c1 => ?_)⟩
    · have h1 := of_decide_eq_true c1
      refine ⟨_, 99, rfl, rfl, _, rfl, ite2 (fun c2 => ?_) (fun c2 => ?_)⟩
      · have h2 := of_decide_eq_true c2
        refine ⟨_, rfl, b, _, _, _, rfl, rfl, hB, g0, _, rfl, b, _, _, _, rfl, rfl, hB, g1, _, _, rfl, rfl, ?_⟩
        refine ⟨_, _, rfl, fun c3 => qT ?_, fun c3 => qF ?_⟩
        · have h3 := of_decide_eq_true c3
          unfold Kp415.validFraction
          rw [decide_eq_true (show n ≤ d by omega), decide_eq_true (show 1 ≤ d by omega), decide_eq_true (show d ≤ 99 by omega)]
          rfl
        · have h3 := of_decide_eq_false c3
          unfold Kp415.validFraction
          rw [decide_eq_false (show ¬ n ≤ d by omega)]
          rfl
      · have h2 : ¬ ((d : Int) ≤ 99) := fun z => c2 (decide_eq_true z)
        refine ⟨_, _, rfl, fun c3 => ?_, fun c3 => qF ?_⟩
        · exact Bool.noConfusion c3
        · unfold Kp415.validFraction
          rw [decide_eq_false (show ¬ d ≤ 99 by omega), Bool.and_false]
    · have h1 : ¬ ((1 : Int) ≤ (d : Int)) := fun z => c1 (decide_eq_true z)
      refine ⟨_, rfl, iteF ⟨_, _, rfl, fun c3 => Bool.noConfusion c3, fun c3 => qF ?_⟩⟩
      unfold Kp415.validFraction
      rw [decide_eq_false (show ¬ 1 ≤ d by omega), Bool.and_false, Bool.false_and]
end
end Sg
/-! ### J. the hall -/
namespace Sg
open PySem PySem.Spec PyProof.Rows L2
def hF (v : V) : List (Str × V) := [("model", v)]
theorem hF_model (v : V) : (hF v).lookup ("model" : Str) = some v := lk_here
theorem hF_no {m : Str} (h1 : (m == ("model" : Str)) = false) (v : V) : (hF v).lookup m = none := (lk_past h1).trans rfl
theorem hF_put (u v : V) : putF "model" u (hF v) = hF u := put_here
structure ClsH (K : PySem.W.Frag) (C : Addr) : Prop where
  cl : Cls K C
  nM : NoAttr K C "model"
/-- at hall: the hall with its model, or None -/
def HallAt (K : PySem.W.Frag) (CS CH z : Addr) (H : Hp) (hall : Addr) : Kp415.State → Prop
  | none => ∃ dx, H hall = some (.ins CH dx (hF .non))
  | some m => ∃ dx a, H hall = some (.ins CH dx (hF (.ref a))) ∧ ModelAt K CS z H a m
theorem HallAt.same {K : PySem.W.Frag} {CS CH z : Addr} {H H' : Hp} {hall : Addr} : ∀ {st : Kp415.State}, HallAt K CS CH z H hall st → Same H H' → HallAt K CS CH z H' hall st
  | none, h, e => by
    obtain ⟨dx, h1⟩ := h
    exact ⟨dx, e _ _ h1⟩
  | some m, h, e => by
    obtain ⟨dx, a, h1, h2⟩ := h
    exact ⟨dx, a, e _ _ h1, h2.same e⟩
/-- how an operation ends: its answer in a list, the hall as it is then; or its refusal -/
def Out (K : PySem.W.Frag) (CS CH CF z : Addr) (H : Hp) (hall : Addr) (st : Kp415.State) (r : Kp415.State × Kp415.Ans) (Q : VK) (E : XK) : Prop :=
  (∀ (H' : Hp) (p : Addr), But hall H H' → HallAt K CS CH z H' hall r.1 → H' p = some (.lst (vI (row r))) → Q (.ref p) H') ∧ (∀ c, r = (st, Kp415.single c) → Err CF H E c)
theorem Same.but {D : Addr} {H H' : Hp} (e : Same H H') : But D H H' := fun b o h _ => e b o h
theorem But.of_same {D : Addr} {H0 H H' : Hp} (e : Same H0 H) (k : But D H H') : But D H0 H' := fun b o h n => k b o (e b o h) n
theorem But.then {D : Addr} {H H' H4 : Hp} (k : But D H H') (e : Same H' H4) : But D H H4 := fun b o h n => e b o (k b o h n)
section
variable {K : PySem.W.Frag} {CS CH CF z : Addr} {H H' : Hp} {hall : Addr} {st : Kp415.State} {r : Kp415.State × Kp415.Ans} {Q : VK} {E : XK}
theorem Out.same (o : Out K CS CH CF z H hall st r Q E) (e : Same H H') : Out K CS CH CF z H' hall st r Q E :=
  ⟨fun H2 p k h1 h2 => o.1 H2 p (k.of_same e) h1 h2, fun c h => (o.2 c h).same e⟩
/-- an answer that leaves the hall as it was -/
theorem Out.keep {a : Kp415.Ans} (o : Out K CS CH CF z H hall st r Q E) (er : r = (st, a)) (hh : HallAt K CS CH z H hall st) (e : Same H H') {p : Addr} (hp : H' p = some (.lst (vI (a.num :: a.nums)))) : Q (.ref p) H' := by
  subst er
  exact o.1 H' p (Same.but e) (hh.same e) hp
end
/-- what a method of the hall promises where there is a model: A says what is handed in, and which operation that is -/
def spH (K : PySem.W.Frag) (CS CH CF : Addr) (A : Addr → Hp → Kp415.Model → List V → Kp415.Call → Prop) : Sp := fun vs H Q E => ∃ (z hall : Addr) (m : Kp415.Model) (k : Kp415.Call) (us : List V), vs = .ref hall :: us ∧ HallAt K CS CH z H hall (some m) ∧ A z H m us k ∧
  Out K CS CH CF z H hall (some m) (Kp415.step (some m) k) Q E
abbrev rListOf (K : PySem.W.Frag) : List V → Hp → VK → Prop := fun xs H Q => ∃ p ys, xs = [.ref p] ∧ (SqL K H p ys ∨ SqT K H p ys) ∧ ∀ l, H l = none → Q (.ref l) (upd H l (.lst ys))
/-- xs + list(t), from the tuple t on -/
theorem cat_k {K : PySem.W.Frag} {l0 a : Addr} {H : Hp} {xs ys : List V} {Q : VK} (h0 : H l0 = some (.lst xs)) (ha : SqT K H a ys) (hx : xs.length ≤ 500) (hy : ys.length ≤ 500) (q : ∀ (H3 : Hp) (p : Addr), Same H H3 → H p = none → H3 p = some (.lst (xs ++ ys)) → Q (.ref p) H3) :
    rListOf K [.ref a] H fun y H2 => rCat (.ref l0) y H2 Q := by
  refine ⟨a, ys, rfl, .inr ha, fun l hl => ?_⟩
  have e1 : Same H (upd H l (.lst ys)) := same_upd hl
  refine ⟨l0, l, xs, ys, rfl, rfl, e1 _ _ h0, upd_same, Nat.le_of_lt (small1000 (by omega)), fun p hp => ?_⟩
  exact q _ p (e1.trans (same_upd hp)) (e1.free hp) upd_same
theorem eqv_nought (x : Rat) : PyData.eqv (.tuple [.int x.num, .int (x.den : Int)]) (.tuple [.int 0, .int 1]) = decide (x = 0) := by
  have e : PyData.eqv (.tuple [.int x.num, .int (x.den : Int)]) (.tuple [.int 0, .int 1]) = (x.num == 0 && ((x.den : Int) == 1 && true)) := rfl
  rw [e, Bool.and_true]
  have k := zero_is x
  by_cases h : x = 0
  · have h2 := k.mpr h
    rw [decide_eq_true h, h2.1, h2.2]
    rfl
  · rw [decide_eq_false h]
    have h2 : ¬ (x.num = 0 ∧ (x.den : Int) = 1) := fun z => h (k.mp z)
    cases h3 : (x.num == 0 && (x.den : Int) == 1) with
    | false => rfl
    | true =>
      obtain ⟨h4, h5⟩ := Bool.and_eq_true_iff.mp h3
      exact absurd ⟨beq_iff_eq.mp h4, beq_iff_eq.mp h5⟩ h2
theorem Fr.data {K : PySem.W.Frag} {H : Hp} {a : Addr} {x : Rat} (h : Fr K H a x) : Dp K H (.ref a) (.tuple [.int x.num, .int (x.den : Int)]) := .tup h (.cons (.int _) (.cons (.int _) .nil))
theorem nought_data {K : PySem.W.Frag} {H : Hp} {a : Addr} (h : WrT K a [.int 0, .int 1]) : Dp K H (.ref a) (.tuple [.int 0, .int 1]) := .tup (h.at H) (.cons (.int _) (.cons (.int _) .nil))
section
variable {P : Program} {w : World} {K : PySem.W.Frag} {mg : Str → Option Value} {base : Heap} {CS CH CF fI : Addr}
abbrev hM (j : Nat) : Stmt := inClass (top 41) j
theorem spH_len {A : Addr → Hp → Kp415.Model → List V → Kp415.Call → Prop} {n : Nat} (hA : ∀ z H m us k, A z H m us k → us.length = n) (vs : List V) (H : Hp) (Q : VK) (E : XK) (h : spH K CS CH CF A vs H Q E) : vs.length = n + 1 := by
  obtain ⟨z, hall, m, k, us, rfl, _, h2, _⟩ := h
  rw [List.length_cons, hA _ _ _ _ _ h2]
theorem scH0 : FnScope ["self"] ["self"] (defScope (hM 0)) := ⟨rfl, rfl, rfl, by decide +kernel, rfl, by decide +kernel, by decide +kernel⟩
theorem scH1 : FnScope ["self", "many"] ["self", "many"] (defScope (hM 1)) := ⟨rfl, rfl, rfl, by decide +kernel, rfl, by decide +kernel, by decide +kernel⟩
theorem scH2 : FnScope ["self", "weights", "is_test", "model"] ["self", "weights", "is_test"] (defScope (hM 2)) := ⟨rfl, rfl, rfl, by decide +kernel, rfl, by decide +kernel, by decide +kernel⟩
theorem scH3 : FnScope ["self", "numbers", "before"] ["self", "numbers"] (defScope (hM 3)) := ⟨rfl, rfl, rfl, by decide +kernel, rfl, by decide +kernel, by decide +kernel⟩
theorem scH4 : FnScope ["self", "signal"] ["self", "signal"] (defScope (hM 4)) := ⟨rfl, rfl, rfl, by decide +kernel, rfl, by decide +kernel, by decide +kernel⟩
theorem scH5 : FnScope ["self", "signal"] ["self", "signal"] (defScope (hM 5)) := ⟨rfl, rfl, rfl, by decide +kernel, rfl, by decide +kernel, by decide +kernel⟩
theorem scH6 : FnScope ["self", "signal"] ["self", "signal"] (defScope (hM 6)) := ⟨rfl, rfl, rfl, by decide +kernel, rfl, by decide +kernel, by decide +kernel⟩
theorem scH7 : FnScope ["self", "model", "found", "signal"] ["self"] (defScope (hM 7)) := ⟨rfl, rfl, rfl, by decide +kernel, rfl, by decide +kernel, by decide +kernel⟩
theorem scH8 : FnScope ["self", "mapping", "many"] ["self", "mapping"] (defScope (hM 8)) := ⟨rfl, rfl, rfl, by decide +kernel, rfl, by decide +kernel, by decide +kernel⟩
theorem scH9 : FnScope ["self", "call", "mapping", "later", "found"] ["self", "call", "mapping"] (defScope (hM 9)) := ⟨rfl, rfl, rfl, by decide +kernel, rfl, by decide +kernel, by decide +kernel⟩
theorem scH10 : FnScope ["self", "call", "length"] ["self", "call", "length"] (defScope (hM 10)) := ⟨rfl, rfl, rfl, by decide +kernel, rfl, by decide +kernel, by decide +kernel⟩
theorem scH11 : FnScope ["self", "row", "many", "test", "production", "signal"] ["self", "row"] (defScope (hM 11)) := ⟨rfl, rfl, rfl, by decide +kernel, rfl, by decide +kernel, by decide +kernel⟩
theorem scH12 : FnScope ["self", "mask", "test", "production"] ["self", "mask"] (defScope (hM 12)) := ⟨rfl, rfl, rfl, by decide +kernel, rfl, by decide +kernel, by decide +kernel⟩
theorem scH13 : FnScope ["self", "numbers", "mask", "share"] ["self", "numbers"] (defScope (hM 13)) := ⟨rfl, rfl, rfl, by decide +kernel, rfl, by decide +kernel, by decide +kernel⟩
theorem scH14 : FnScope ["self", "mask", "share"] ["self"] (defScope (hM 14)) := ⟨rfl, rfl, rfl, by decide +kernel, rfl, by decide +kernel, by decide +kernel⟩
theorem scH15 : FnScope ["self", "numbers"] ["self", "numbers"] (defScope (hM 15)) := ⟨rfl, rfl, rfl, by decide +kernel, rfl, by decide +kernel, by decide +kernel⟩
theorem scH16 : FnScope ["self", "call", "signal"] ["self", "call", "signal"] (defScope (hM 16)) := ⟨rfl, rfl, rfl, by decide +kernel, rfl, by decide +kernel, by decide +kernel⟩
theorem scH17 : FnScope ["self", "call", "numbers", "model"] ["self", "call", "numbers"] (defScope (hM 17)) := ⟨rfl, rfl, rfl, by decide +kernel, rfl, by decide +kernel, by decide +kernel⟩
theorem scH18 : FnScope ["self", "call", "numbers"] ["self", "call", "numbers"] (defScope (hM 18)) := ⟨rfl, rfl, rfl, by decide +kernel, rfl, by decide +kernel, by decide +kernel⟩
theorem scH19 : FnScope ["self", "call", "numbers", "e"] ["self", "call", "numbers"] (defScope (hM 19)) := ⟨rfl, rfl, rfl, by decide +kernel, rfl, by decide +kernel, by decide +kernel⟩
/-- Hall() -/
def spInitH (CH : Addr) : Sp := fun vs H Q _ => ∃ (x dx : Addr), vs = [.ref x] ∧ H x = some (.ins CH dx []) ∧
  ∀ H' : Hp, H' x = some (.ins CH dx (hF .non)) → (∀ b o, H b = some o → b ≠ x → H' b = some o) → Q .non H'
theorem ok_initH (U : Mu K CH "__init__" "Hall.__init__" (hM 0) ["self"]) (T : ClsH K CH) : Md P w K mg base CX0 1 CH "__init__" ["self"] (spInitH CH) := by
  refine U.ok scH0 (fun vs H Q E h => ?_) (fun f cdv A outer s H vs Q E hr h => ?_)
  · obtain ⟨x, dx, rfl, _⟩ := h
    rfl
  · obtain ⟨x, dx, rfl, hx, q⟩ := h
    refine ⟨_, pss_one (ps_fld (pv 0) pe_non rfl), ?_⟩
    refine ⟨_, rfl, x, CH, dx, [], rfl, hx, T.cl, T.nM, (by show 0 < 1000; decide), ?_⟩
    refine q _ upd_same fun b o e hb => ?_
    rw [upd_ne hb]
    exact e
/-- want_signal -/
def spWSig (K : PySem.W.Frag) (CS CH CF : Addr) : Sp := fun vs H Q E => ∃ (z hall : Addr) (m : Kp415.Model) (s : Nat), vs = [.ref hall, .int (s : Int)] ∧ HallAt K CS CH z H hall (some m) ∧ (s < m.testWeights.length → Q .non H) ∧ (¬ s < m.testWeights.length → Err CF H E (-2))
theorem ok_wsig (U : Mu K CH "want_signal" "Hall.want_signal" (hM 4) ["self", "signal"]) (TH : ClsH K CH) (TS : ClsS K CS) (GW : Gd P w K mg base (L2.CX P w) 3 "want" ["is_so", "code"] (spWant CF)) (GM : Md P w K mg base CX0 1 CS "many" ["self"] (spMany K CS))
    {t2 : Tok} (mN : mg "NO_SIGNAL" = some (.int (-2) t2)) : Md P w K mg base (L2.CX P w) 4 CH "want_signal" ["self", "signal"] (spWSig K CS CH CF) := by
  refine U.okX scH4 (fun vs H Q E h => ?_) (fun f cdv A outer s H vs Q E hr h => ?_)
  · obtain ⟨z, hall, m, s, rfl, _⟩ := h
    rfl
  · obtain ⟨z, hall, m, s, rfl, hh, qT, qF⟩ := h
    obtain ⟨dx, a, h1, hM⟩ := hh
    obtain ⟨dm, t, p, r0, h2, _⟩ := hM.ex
    refine ⟨_, pss_one (ps_expr (pe_g GW hr (pa_cons (pe_cmpR op_lt (pv 1) (pe_m0 GM TS.cl hr (pe_fld (pv 0) rfl) pass0) (nomark _)) (pa_cons (pe_glob (v := .int (-2)) (by rfl) mN ⟨_, rfl⟩) pa_nil)) passX)), ?_⟩
    refine ⟨_, rfl, _, rfl, hall, CH, dx, _, _, rfl, h1, TH.cl, TH.nM, hF_model _, a, dm, _, rfl, h2, sF_no (by decide +kernel) (by decide +kernel) (by decide +kernel) t p r0, a, z, m, rfl, hM, _, _, rfl, rfl, ?_⟩
    refine ⟨_, _, rfl, fun c => qT ?_, fun c => qF ?_⟩
    · have := of_decide_eq_true c
      omega
    · have := of_decide_eq_false c
      omega
def spWSeen (K : PySem.W.Frag) (CS CH CF : Addr) : Sp := fun vs H Q E => ∃ (z hall : Addr) (m : Kp415.Model) (s : Nat), vs = [.ref hall, .int (s : Int)] ∧ HallAt K CS CH z H hall (some m) ∧
  (s < m.testWeights.length → Kp415.signalProbability m s ≠ 0 → ∀ H', Same H H' → Q .non H') ∧ (¬ s < m.testWeights.length → Err CF H E (-2)) ∧ (s < m.testWeights.length → Kp415.signalProbability m s = 0 → Err CF H E (-33))
theorem ok_wseen (U : Mu K CH "want_seen" "Hall.want_seen" (hM 5) ["self", "signal"]) (TH : ClsH K CH) (TS : ClsS K CS) (GW : Gd P w K mg base (L2.CX P w) 3 "want" ["is_so", "code"] (spWant CF)) (GS : Md P w K mg base (L2.CX P w) 4 CH "want_signal" ["self", "signal"] (spWSig K CS CH CF))
    (GP : Md P w K mg base CX0 5 CS "probability" ["self", "signal"] (spSig K CS Kp415.signalProbability noR)) {t2 : Tok} (mU : mg "UNDEFINED" = some (.int (-33) t2)) {aN : Addr} (mN : mg "NOUGHT" = some (.ref aN)) (wN : WrT K aN [.int 0, .int 1]) :
    Md P w K mg base (L2.CX P w) 6 CH "want_seen" ["self", "signal"] (spWSeen K CS CH CF) := by
  refine U.okX scH5 (fun vs H Q E h => ?_) (fun f cdv A outer s H vs Q E hr h => ?_)
  · obtain ⟨z, hall, m, s, rfl, _⟩ := h
    rfl
  · obtain ⟨z, hall, m, s, rfl, hh, qT, q2, q3⟩ := h
    have hh' := hh
    obtain ⟨dx, a, h1, hM⟩ := hh
    obtain ⟨dm, t, p, r0, h2, _⟩ := hM.ex
    refine ⟨_, pss_cons (ps_expr (pe_m GS TH.cl hr (pv 0) (pa_cons (pv 1) pa_nil) passX))
      (pss_one (ps_expr (pe_g GW hr (pa_cons (pe_cmpR (op_neD hr.units) (pe_m GP TS.cl hr (pe_fld (pv 0) rfl) (pa_cons (pv 1) pa_nil) pass0) (pe_glob (v := .ref aN) (by rfl) mN rfl) (nomark _)) (pa_cons (pe_glob (v := .int (-33)) (by rfl) mU ⟨_, rfl⟩) pa_nil)) passX))), ?_⟩
    refine ⟨_, rfl, hall, dx, _, rfl, h1, hF_no (by decide +kernel) _, _, rfl, z, hall, m, s, rfl, hh', fun hs => ?_, q2⟩
    refine ⟨_, rfl, hall, CH, dx, _, _, rfl, h1, TH.cl, TH.nM, hF_model _, a, dm, _, rfl, h2, sF_no (by decide +kernel) (by decide +kernel) (by decide +kernel) t p r0, _, rfl, a, z, m, s, rfl, hM, hs, trivial, fun H1 b e fb => ?_⟩
    refine ⟨_, _, fb.data, nought_data wN, rfl, rfl, ?_⟩
    rw [eqv_nought]
    refine ⟨_, _, rfl, fun c => ?_, fun c => ?_⟩
    · refine qT hs (fun z => ?_) H1 e
      rw [decide_eq_true z] at c
      cases c
    · refine (q3 hs ?_).same e
      cases hz : decide (Kp415.signalProbability m s = 0) with
      | true => exact of_decide_eq_true hz
      | false =>
        rw [hz] at c
        cases c
end
end Sg
/-! ### K. the hall's questions -/
namespace Sg
open PySem PySem.Spec PyProof.Rows L2
/-- built-ins that are still themselves -/
structure Blt (mg : Str → Option Value) : Prop where
  abs : mg "abs" = none
  len : mg "len" = none
  list : mg "list" = none
  int : mg "int" = none
  sum : mg "sum" = none
  max : mg "max" = none
  range : mg "range" = none
  enumerate : mg "enumerate" = none
theorem le500 {xs : List V} (n : Nat) (h : xs.length = n) (k : n ≤ 500 := by decide) : xs.length ≤ 500 := by
  rw [h]
  exact k
theorem boot_li : bootBuiltins "list" = some (.type "list") := by decide +kernel
theorem boot_in : bootBuiltins "int" = some (.type "int") := by decide +kernel
theorem sig_yes {m : Kp415.Model} {s : Nat} (h : s < m.testWeights.length) : Kp415.isSignal m s = true := decide_eq_true h
theorem sig_no {m : Kp415.Model} {s : Nat} (h : ¬ s < m.testWeights.length) : Kp415.isSignal m s = false := decide_eq_false h
section
variable {P : Program} {w : World} {K : PySem.W.Frag} {mg : Str → Option Value} {base : Heap} {CS CH CF fI : Addr}
/-- a signal alone -/
abbrev aSig (f : Nat → Kp415.Call) : Addr → Hp → Kp415.Model → List V → Kp415.Call → Prop := fun _ _ _ us k => ∃ s : Nat, us = [.int (s : Int)] ∧ k = f s
abbrev aNone (k0 : Kp415.Call) : Addr → Hp → Kp415.Model → List V → Kp415.Call → Prop := fun _ _ _ us k => us = [] ∧ k = k0
abbrev aFrac (K : PySem.W.Frag) (f : Nat → Nat → Kp415.Call) : Addr → Hp → Kp415.Model → List V → Kp415.Call → Prop := fun _ H _ us k => ∃ (b : Addr) (n d : Nat), us = [.ref b] ∧ SqL K H b (vN [n, d]) ∧ k = f n d
theorem aSig_len {f : Nat → Kp415.Call} (z : Addr) (H : Hp) (m : Kp415.Model) (us : List V) (k : Kp415.Call) (h : aSig f z H m us k) : us.length = 1 := by
  obtain ⟨s, rfl, _⟩ := h
  rfl
theorem aNone_len {f : Kp415.Call} (z : Addr) (H : Hp) (m : Kp415.Model) (us : List V) (k : Kp415.Call) (h : aNone f z H m us k) : us.length = 0 := by
  obtain ⟨rfl, _⟩ := h
  rfl
theorem aFrac_len {f : Nat → Nat → Kp415.Call} (z : Addr) (H : Hp) (m : Kp415.Model) (us : List V) (k : Kp415.Call) (h : aFrac K f z H m us k) : us.length = 1 := by
  obtain ⟨b, n, d, rfl, _⟩ := h
  rfl
theorem ok_certainty (U : Mu K CH "certainty" "Hall.certainty" (hM 6) ["self", "signal"]) (TH : ClsH K CH) (TS : ClsS K CS) (B : Blt mg) (GS : Md P w K mg base (L2.CX P w) 6 CH "want_seen" ["self", "signal"] (spWSeen K CS CH CF))
    (G1 : Md P w K mg base CX0 3 CS "joint_test" ["self", "signal"] (spSig K CS Kp415.jointTest noR)) (G2 : Md P w K mg base CX0 4 CS "joint_production" ["self", "signal"] (spSig K CS Kp415.jointProduction noR)) {aN : Addr} (mN : mg "NOUGHT" = some (.ref aN)) (wN : WrT K aN [.int 0, .int 1]) :
    Md P w K mg base (L2.CX P w) 7 CH "certainty" ["self", "signal"] (spH K CS CH CF (aSig .certainty)) := by
  refine U.okX scH6 (spH_len aSig_len) (fun f cdv A outer s H vs Q E hr h => ?_)
  obtain ⟨z, hall, m, k, us, rfl, hh, ⟨s, rfl, rfl⟩, o⟩ := h
  have hh' := hh
  obtain ⟨dx, a, h1, hM⟩ := hh
  obtain ⟨dm, t, p, r0, h2, _⟩ := hM.ex
  refine ⟨_, pss_cons (ps_expr (pe_m GS TH.cl hr (pv 0) (pa_cons (pv 1) pa_nil) passX))
    (pss_cons (ps_if (pt_cmpR (op_eqD hr.units) (pe_m G1 TS.cl hr (pe_fld (pv 0) rfl) (pa_cons (pv 1) pa_nil) pass0) (pe_glob (v := .ref aN) (by rfl) mN rfl) (nomark _)) (pss_one (ps_ret (pe_lst (pa_cons pe_int pa_nil)))) pss_nil)
    (pss_one (ps_ret (pe_lst (pa_cons (pe_callTy call_int1 (by rfl) B.int boot_in (pa_cons (pe_cmpR (op_eqD hr.units) (pe_m G2 TS.cl hr (pe_fld (pv 0) rfl) (pa_cons (pv 1) pa_nil) pass0) (pe_glob (v := .ref aN) (by rfl) mN rfl) (nomark _)) pa_nil)) pa_nil))))), ?_⟩
  refine ⟨_, rfl, hall, dx, _, rfl, h1, hF_no (by decide +kernel) _, _, rfl, z, hall, m, s, rfl, hh', fun hs hp H1 e1 => ?_, fun hs => o.2 _ ?_, fun hs hp => o.2 _ ?_⟩
  · have er : ∀ v : Int, (if Kp415.jointTest m s = 0 then (2 : Int) else if Kp415.jointProduction m s = 0 then 1 else 0) = v → Kp415.step (some m) (.certainty s) = (some m, Kp415.single v) := fun v hv => by
      show (some m, if Kp415.isSignal m s = false then _ else _) = _
      rw [sig_yes hs, if_neg (by decide), if_neg hp, hv]
    refine ⟨_, rfl, hall, CH, dx, _, _, rfl, e1 _ _ h1, TH.cl, TH.nM, hF_model _, a, dm, _, rfl, e1 _ _ h2, sF_no (by decide +kernel) (by decide +kernel) (by decide +kernel) t p r0, _, rfl, a, z, m, s, rfl, hM.same e1, hs, trivial, fun H2 b e2 fb => ?_⟩
    have e12 := e1.trans e2
    refine ⟨_, _, fb.data, nought_data wN, rfl, rfl, _, rfl, ?_⟩
    rw [eqv_nought]
    refine ite2 (fun c => ?_) (fun c => ?_)
    · have hz := of_decide_eq_true c
      refine ⟨(by show 1 ≤ sizeLine; decide), fun l nl => ?_⟩
      exact o.keep (er 2 (if_pos hz)) hh' (e12.trans (same_upd nl)) upd_same
    · have hz : ¬ Kp415.jointTest m s = 0 := fun z => c (decide_eq_true z)
      refine ⟨_, rfl, hall, CH, dx, _, _, rfl, e12 _ _ h1, TH.cl, TH.nM, hF_model _, a, dm, _, rfl, e12 _ _ h2, sF_no (by decide +kernel) (by decide +kernel) (by decide +kernel) t p r0, _, rfl, a, z, m, s, rfl, hM.same e12, hs, trivial, fun H3 b3 e3 fb3 => ?_⟩
      refine ⟨_, _, fb3.data, nought_data wN, rfl, rfl, ?_⟩
      rw [eqv_nought]
      refine .inr ⟨_, rfl, (by show 1 ≤ sizeLine; decide), fun l nl => ?_⟩
      refine o.keep (er _ (if_neg hz)) hh' (e12.trans (e3.trans (same_upd nl))) (upd_same.trans ?_)
      by_cases hy : Kp415.jointProduction m s = 0
      · rw [decide_eq_true hy, if_pos hy]
        rfl
      · rw [decide_eq_false hy, if_neg hy]
        rfl
  · show (some m, if Kp415.isSignal m s = false then _ else _) = _
    rw [sig_no hs, if_pos rfl]
  · show (some m, if Kp415.isSignal m s = false then _ else _) = _
    rw [sig_yes hs, if_neg (by decide), if_pos hp]
theorem ok_guesses (U : Mu K CH "guesses" "Hall.guesses" (hM 7) ["self"]) (TH : ClsH K CH) (TS : ClsS K CS) (B : Blt mg) (GM : Md P w K mg base CX0 1 CS "many" ["self"] (spMany K CS)) (GL : Gd P w K mg base CX0 1 "is_less" two (spLess K))
    (G1 : Md P w K mg base CX0 3 CS "joint_test" ["self", "signal"] (spSig K CS Kp415.jointTest noR)) (G2 : Md P w K mg base CX0 4 CS "joint_production" ["self", "signal"] (spSig K CS Kp415.jointProduction noR)) :
    Md P w K mg base CX0 5 CH "guesses" ["self"] (spH K CS CH CF (aNone .bestGuesses)) := by
  refine U.ok scH7 (spH_len aNone_len) (fun f cdv A outer s H vs Q E hr h => ?_)
  obtain ⟨z, hall, m, k, us, rfl, hh, ⟨rfl, rfl⟩, o⟩ := h
  have hh' := hh
  obtain ⟨dx, a, h1, hM⟩ := hh
  obtain ⟨dm, t, p, r0, h2, _⟩ := hM.ex
  have n5 := hM.ok.n5
  refine ⟨_, pss_cons (ps_set (i := 1) scH7.nd rfl (.inl rfl) (pe_fld (pv 0) rfl))
    (pss_cons (ps_set (i := 2) scH7.nd rfl (.inl rfl) (pe_lst (pa_cons (pe_m0 GM TS.cl hr (pv 1) pass0) pa_nil)))
    (pss_cons (ps_for PassesOwn.never rfl (pi_range1 (by rfl) B.range (pa_cons (pe_m0 GM TS.cl hr (pv 1) pass0) pa_nil)) (pg_name (i := 3) scH7.nd rfl (.inl rfl))
      (pss_one (ps_expr (pe_bm PySem.F.plainAttrs_list PySem.F.slot_list_append PySem.F.type_list_append mt_append (pv 2) (pa_cons (pe_callTy call_int1 (by rfl) B.int boot_in (pa_cons (pe_not (pe_g GL hr (pa_cons (pe_m G1 TS.cl hr (pv 1) (pa_cons (pv 3) pa_nil) pass0) (pa_cons (pe_m G2 TS.cl hr (pv 1) (pa_cons (pv 3) pa_nil) pass0) pa_nil)) pass0)) pa_nil)) pa_nil)))))
    (pss_one (ps_ret (pv 2))))), ?_⟩
  refine ⟨_, rfl, hall, CH, dx, _, _, rfl, h1, TH.cl, TH.nM, hF_model _, ?_⟩
  refine ⟨_, rfl, a, dm, _, rfl, h2, sF_no (by decide +kernel) (by decide +kernel) (by decide +kernel) t p r0, a, z, m, rfl, hM, (by show 1 ≤ sizeLine; decide), fun F nF => ?_⟩
  have eF : Same H (upd H F (.lst [.int (m.testWeights.length : Int)])) := same_upd nF
  refine ⟨_, rfl, a, dm, _, rfl, eF _ _ h2, sF_no (by decide +kernel) (by decide +kernel) (by decide +kernel) t p r0, a, z, m, rfl, hM.same eF, _, rfl, by omega, by omega, ?_⟩
  refine for_range (lo := 0) (n := m.testWeights.length) (fun i σ H' => ∃ v : Option V, σ = [some (.ref hall), some (.ref a), some (.ref F), v] ∧ Same H H' ∧
      H' F = some (.lst (vI ((m.testWeights.length : Int) :: ((List.range m.testWeights.length).map fun s => if Kp415.jointTest m s < Kp415.jointProduction m s then (0 : Int) else 1).take i)))) ⟨none, rfl, eF, upd_same⟩ ?_ ?_
  · rintro i σ H' hi ⟨v, rfl, e, hF⟩
    refine ⟨_, rfl, .inl ⟨rfl, _, SqL.of hF⟩, ?_⟩
    refine ⟨_, rfl, a, dm, _, rfl, e _ _ h2, sF_no (by decide +kernel) (by decide +kernel) (by decide +kernel) t p r0, _, rfl, a, z, m, i, by simp, hM.same e, hi, trivial, fun H2 b e2 fb => ?_⟩
    refine ⟨_, rfl, a, dm, _, rfl, e2 _ _ (e _ _ h2), sF_no (by decide +kernel) (by decide +kernel) (by decide +kernel) t p r0, _, rfl, a, z, m, i, by simp, (hM.same e).same e2, hi, trivial, fun H3 c e3 fc => ?_⟩
    refine ⟨b, c, _, _, 18, 18, rfl, fb.same e3, fc, hM.ok.jt i, hM.ok.jp i, by decide, _, rfl, ?_⟩
    have e23 := e2.trans e3
    refine .inr ⟨_, rfl, F, _, _, rfl, rfl, e23 _ _ hF, ?_, some (.int (0 + (i : Int))), rfl, ?_, ?_⟩
    · simp only [vI, List.map_cons, List.length_cons, List.length_map, List.length_take, List.length_range]
      exact small1000 (by omega)
    · exact same_grow nF (e.trans e23)
    · rw [upd_same, range_take _ _ _ hi]
      have eb : (if (!decide (Kp415.jointTest m i < Kp415.jointProduction m i)) = true then (1 : Int) else 0) = if Kp415.jointTest m i < Kp415.jointProduction m i then (0 : Int) else 1 := by
        by_cases hlt : Kp415.jointTest m i < Kp415.jointProduction m i
        · rw [decide_eq_true hlt, if_pos hlt]
          rfl
        · rw [decide_eq_false hlt, if_neg hlt]
          rfl
      rw [eb]
      simp [vI]
  · rintro σ H' ⟨v, rfl, e, hF⟩
    rw [range_all] at hF
    exact ⟨_, rfl, o.keep rfl hh' e hF⟩
/-- [0] + list(x.m(..)) and its like: the answer that a fraction makes -/
theorem fr_row (x : Rat) (c : Int) : ([V.int c] ++ frV x) = vI ((Kp415.withFraction c x).num :: (Kp415.withFraction c x).nums) := rfl
abbrev aOf : Addr → Hp → Kp415.Model → List V → Kp415.Call → Prop := fun _ _ _ us k => ∃ (c : Int) (s : Nat), us = [.int c, .int (s : Int)] ∧ (c = 5 ∧ k = .signalProbability s ∨ c = 6 ∧ k = .posterior s)
theorem ok_of (U : Mu K CH "of_signal" "Hall.of_signal" (hM 16) ["self", "call", "signal"]) (TH : ClsH K CH) (TS : ClsS K CS) (B : Blt mg) (GS : Md P w K mg base (L2.CX P w) 6 CH "want_seen" ["self", "signal"] (spWSeen K CS CH CF)) (GW : Md P w K mg base (L2.CX P w) 4 CH "want_signal" ["self", "signal"] (spWSig K CS CH CF))
    (G1 : Md P w K mg base CX0 5 CS "probability" ["self", "signal"] (spSig K CS Kp415.signalProbability noR)) (G2 : Md P w K mg base CX0 6 CS "posterior" ["self", "signal"] (spSig K CS Kp415.posteriorTest fun m s => 0 < Kp415.signalProbability m s)) :
    Md P w K mg base (L2.CX P w) 7 CH "of_signal" ["self", "call", "signal"] (spH K CS CH CF aOf) := by
  refine U.okX scH16 (spH_len (n := 2) fun z H m us k h => by obtain ⟨c, s, rfl, _⟩ := h; rfl) (fun f cdv A outer s H vs Q E hr h => ?_)
  obtain ⟨z, hall, m, k, us, rfl, hh, ⟨c, s, rfl, hc⟩, o⟩ := h
  have hh' := hh
  obtain ⟨dx, a, h1, hM⟩ := hh
  obtain ⟨dm, t, p, r0, h2, _⟩ := hM.ex
  refine ⟨_, pss_cons (ps_if (pt_cmpR op_eq (pv 1) pe_int (nomark _)) (pss_cons (ps_expr (pe_m GW TH.cl hr (pv 0) (pa_cons (pv 2) pa_nil) passX))
      (pss_one (ps_ret (pe_op op_cat (pe_lst (pa_cons pe_int pa_nil)) (pe_callTy call_list_of (by rfl) B.list boot_li (pa_cons (pe_m G1 TS.cl hr (pe_fld (pv 0) rfl) (pa_cons (pv 2) pa_nil) pass0) pa_nil)))))) pss_nil)
    (pss_cons (ps_expr (pe_m GS TH.cl hr (pv 0) (pa_cons (pv 2) pa_nil) passX))
    (pss_one (ps_ret (pe_op op_cat (pe_lst (pa_cons pe_int pa_nil)) (pe_callTy call_list_of (by rfl) B.list boot_li (pa_cons (pe_m G2 TS.cl hr (pe_fld (pv 0) rfl) (pa_cons (pv 2) pa_nil) pass0) pa_nil)))))), ?_⟩
  rcases hc with ⟨rfl, rfl⟩ | ⟨rfl, rfl⟩
  · refine ⟨_, rfl, rfl, _, rfl, ite2 (fun cc => ?_) (fun cc => absurd rfl cc)⟩
    refine ⟨_, rfl, hall, dx, _, rfl, h1, hF_no (by decide +kernel) _, _, rfl, z, hall, m, s, rfl, hh', fun hs => ?_, fun hs => o.2 _ ?_⟩
    · have er : Kp415.step (some m) (.signalProbability s) = (some m, Kp415.withFraction 0 (Kp415.signalProbability m s)) := by
        show (some m, if Kp415.isSignal m s = true then _ else _) = _
        rw [sig_yes hs, if_pos rfl]
      refine ⟨(by show 1 ≤ sizeLine; decide), fun l0 nl0 => ?_⟩
      have e0 : Same H (upd H l0 (.lst [.int 0])) := same_upd nl0
      refine ⟨_, rfl, hall, CH, dx, _, _, rfl, e0 _ _ h1, TH.cl, TH.nM, hF_model _, a, dm, _, rfl, e0 _ _ h2, sF_no (by decide +kernel) (by decide +kernel) (by decide +kernel) t p r0, _, rfl, a, z, m, s, rfl, hM.same e0, hs, trivial, fun H2 b e2 fb => ?_⟩
      exact cat_k (e2 _ _ upd_same) fb (le500 1 rfl) (le500 2 rfl) fun H3 q e3 _ hq => o.keep er hh' (e0.trans (e2.trans e3)) hq
    · show (some m, if Kp415.isSignal m s = true then _ else _) = _
      rw [sig_no hs, if_neg (by decide)]
  · refine ⟨_, rfl, rfl, _, rfl, ite2 (fun cc => absurd cc (by decide)) (fun cc => ?_)⟩
    refine ⟨_, rfl, hall, dx, _, rfl, h1, hF_no (by decide +kernel) _, _, rfl, z, hall, m, s, rfl, hh', fun hs hp H1 e1 => ?_, fun hs => o.2 _ ?_, fun hs hp => o.2 _ ?_⟩
    · have er : Kp415.step (some m) (.posterior s) = (some m, Kp415.withFraction 0 (Kp415.posteriorTest m s)) := by
        show (some m, if Kp415.isSignal m s = false then _ else _) = _
        rw [sig_yes hs, if_neg (by decide), if_neg hp]
      refine ⟨(by show 1 ≤ sizeLine; decide), fun l0 nl0 => ?_⟩
      have e0 : Same H (upd H1 l0 (.lst [.int 0])) := e1.trans (same_upd nl0)
      refine ⟨_, rfl, hall, CH, dx, _, _, rfl, e0 _ _ h1, TH.cl, TH.nM, hF_model _, a, dm, _, rfl, e0 _ _ h2, sF_no (by decide +kernel) (by decide +kernel) (by decide +kernel) t p r0, _, rfl, a, z, m, s, rfl, hM.same e0, hs, pos_of (hM.ok.prob0 s) hp, fun H2 b e2 fb => ?_⟩
      exact cat_k (e2 _ _ upd_same) fb (le500 1 rfl) (le500 2 rfl) fun H3 q e3 _ hq => o.keep er hh' (e0.trans (e2.trans e3)) hq
    · show (some m, if Kp415.isSignal m s = false then _ else _) = _
      rw [sig_no hs, if_pos rfl]
    · show (some m, if Kp415.isSignal m s = false then _ else _) = _
      rw [sig_yes hs, if_neg (by decide), if_pos hp]
theorem ok_setShares (U : Mu K CH "set_shares" "Hall.set_shares" (hM 12) ["self", "mask"]) (TH : ClsH K CH) (TS : ClsS K CS) (B : Blt mg) (GW : Gd P w K mg base (L2.CX P w) 3 "want" ["is_so", "code"] (spWant CF)) (GM : Md P w K mg base CX0 1 CS "many" ["self"] (spMany K CS))
    (GS : Gd P w K mg base CX0 4 "shares" ["model", "mask"] (spShares K CS)) {t2 : Tok} (mO : mg "OUTSIDE" = some (.int (-22) t2)) :
    Md P w K mg base (L2.CX P w) 5 CH "set_shares" ["self", "mask"] (spH K CS CH CF (aSig .setShares)) := by
  refine U.okX scH12 (spH_len aSig_len) (fun f cdv A outer s H vs Q E hr h => ?_)
  obtain ⟨z, hall, m, k, us, rfl, hh, ⟨s, rfl, rfl⟩, o⟩ := h
  have hh' := hh
  obtain ⟨dx, a, h1, hM⟩ := hh
  obtain ⟨dm, t, p, r0, h2, _⟩ := hM.ex
  have n5 := hM.ok.n5
  refine ⟨_, pss_cons (ps_expr (pe_g GW hr (pa_cons (pe_cmpR op_lt (pv 1) (pe_op op_shl pe_int (pe_m0 GM TS.cl hr (pe_fld (pv 0) rfl) pass0)) (nomark _)) (pa_cons (pe_glob (v := .int (-22)) (by rfl) mO ⟨_, rfl⟩) pa_nil)) passX))
    (pss_cons (ps_asg (pe_g GS hr (pa_cons (pe_fld (pv 0) rfl) (pa_cons (pv 1) pa_nil)) pass0) (pg_tup (by rfl) (pgs_cons (pg_name (i := 2) scH12.nd rfl (.inl rfl)) (pgs_cons (pg_name (i := 3) scH12.nd rfl (.inl rfl)) pgs_nil))))
    (pss_one (ps_ret (pe_op op_cat (pe_op op_cat (pe_lst (pa_cons pe_int pa_nil)) (pe_callTy call_list_of (by rfl) B.list boot_li (pa_cons (pv 2) pa_nil))) (pe_callTy call_list_of (by rfl) B.list boot_li (pa_cons (pv 3) pa_nil)))))), ?_⟩
  refine ⟨_, rfl, _, rfl, hall, CH, dx, _, _, rfl, h1, TH.cl, TH.nM, hF_model _, a, dm, _, rfl, h2, sF_no (by decide +kernel) (by decide +kernel) (by decide +kernel) t p r0, a, z, m, rfl, hM, 1, _, rfl, rfl, ⟨by omega, by omega, by decide⟩, _, _, rfl, rfl, ?_⟩
  have el : decide ((s : Int) < 1 * 2 ^ ((m.testWeights.length : Nat) : Int).toNat) = decide (s < 2 ^ m.testWeights.length) := by
    rw [shl_is]
    exact decide_eq_decide.mpr Int.ofNat_lt
  refine ⟨_, _, rfl, fun c => ?_, fun c => o.2 _ ?_⟩
  · replace c : decide ((s : Int) < 1 * 2 ^ ((m.testWeights.length : Nat) : Int).toNat) = true := c
    rw [el] at c
    have hs := of_decide_eq_true c
    have er : Kp415.step (some m) (.setShares s) = (some m, ⟨0, Kp415.fraction (Kp415.setShare m.testWeights s) ++ Kp415.fraction (Kp415.setShare m.productionWeights s)⟩) := by
      show (some m, if 2 ^ Kp415.signalCount m ≤ s then _ else _) = _
      rw [if_neg (show ¬ 2 ^ Kp415.signalCount m ≤ s from Nat.not_le.mpr hs)]
    refine ⟨_, rfl, hall, CH, dx, _, _, rfl, h1, TH.cl, TH.nM, hF_model _, _, rfl, a, z, m, s, rfl, hM, fun H2 u x y e2 fu fx fy => ?_⟩
    refine ⟨u, _, rfl, fu, rfl, _, _, rfl, _, _, rfl, rfl, ?_⟩
    refine ⟨(by show 1 ≤ sizeLine; decide), fun l0 nl0 => ?_⟩
    have e3 : Same H2 (upd H2 l0 (.lst [.int 0])) := same_upd nl0
    refine ⟨_, rfl, cat_k upd_same (fx.same e3) (le500 1 rfl) (le500 2 rfl) fun H4 p4 e4 n4 h4 => ?_⟩
    refine ⟨_, rfl, cat_k h4 (fy.same (e3.trans e4)) (le500 3 rfl) (le500 2 rfl) fun H5 p5 e5 n5 h5 => ?_⟩
    exact o.keep er hh' (e2.trans (e3.trans (e4.trans e5))) h5
  · replace c : decide ((s : Int) < 1 * 2 ^ ((m.testWeights.length : Nat) : Int).toNat) = false := c
    rw [el] at c
    have hs := of_decide_eq_false c
    show (some m, if 2 ^ Kp415.signalCount m ≤ s then _ else _) = _
    rw [if_pos (show 2 ^ Kp415.signalCount m ≤ s from Nat.not_lt.mp hs)]
theorem ok_gap (U : Mu K CH "gap" "Hall.gap" (hM 14) ["self"]) (TH : ClsH K CH) (B : Blt mg) (GG : Gd P w K mg base CX0 5 "widest_gap" ["model"] (spWide K CS)) :
    Md P w K mg base CX0 6 CH "gap" ["self"] (spH K CS CH CF (aNone .widestGapSet)) := by
  refine U.ok scH14 (spH_len aNone_len) (fun f cdv A outer s H vs Q E hr h => ?_)
  obtain ⟨z, hall, m, k, us, rfl, hh, ⟨rfl, rfl⟩, o⟩ := h
  have hh' := hh
  obtain ⟨dx, a, h1, hM⟩ := hh
  refine ⟨_, pss_cons (ps_asg (pe_g GG hr (pa_cons (pe_fld (pv 0) rfl) pa_nil) pass0) (pg_tup (by rfl) (pgs_cons (pg_name (i := 1) scH14.nd rfl (.inl rfl)) (pgs_cons (pg_name (i := 2) scH14.nd rfl (.inl rfl)) pgs_nil))))
    (pss_one (ps_ret (pe_op op_cat (pe_lst (pa_cons (pv 1) pa_nil)) (pe_callTy call_list_of (by rfl) B.list boot_li (pa_cons (pv 2) pa_nil))))), ?_⟩
  refine ⟨_, rfl, hall, CH, dx, _, _, rfl, h1, TH.cl, TH.nM, hF_model _, a, z, m, rfl, hM, fun H2 v e2 hv => ?_⟩
  obtain ⟨u, b, rfl, fu, fb⟩ := hv
  refine ⟨u, _, rfl, fu, rfl, _, _, rfl, _, _, rfl, rfl, ?_⟩
  refine ⟨_, rfl, (by show 1 ≤ sizeLine; decide), fun l0 nl0 => ?_⟩
  have e3 : Same H2 (upd H2 l0 (.lst [.int ((Kp415.widestGapSet m : Nat) : Int)])) := same_upd nl0
  exact ⟨_, rfl, cat_k upd_same (fb.same e3) (le500 1 rfl) (le500 2 rfl) fun H4 p4 e4 n4 h4 => o.keep (a := Kp415.withFraction ((Kp415.widestGapSet m : Nat) : Int) (Kp415.shareGap m (Kp415.widestGapSet m))) rfl hh' (e2.trans (e3.trans e4)) h4⟩
abbrev aSeq : Addr → Hp → Kp415.Model → List V → Kp415.Call → Prop := fun _ _ _ us k => ∃ (c : Int) (l : Nat), us = [.int c, .int (l : Int)] ∧ (c = 14 ∧ k = .sequenceTotalVariation l ∨ c = 15 ∧ k = .sequenceAccuracy l)
theorem ok_seq (U : Mu K CH "sequence" "Hall.sequence" (hM 10) ["self", "call", "length"]) (TH : ClsH K CH) (B : Blt mg) (GW : Gd P w K mg base (L2.CX P w) 3 "want" ["is_so", "code"] (spWant CF))
    (G1 : Gd P w K mg base CX0 4 "sequence_variation" ["model", "length"] (spSeq K CS Kp415.sequenceTotalVariation)) (G2 : Gd P w K mg base CX0 5 "sequence_accuracy" ["model", "length"] (spSeq K CS Kp415.sequenceAccuracy))
    {t1 t2 : Tok} (m3 : mg "MOST_LENGTH" = some (.int 3 t1)) (mO : mg "OUTSIDE" = some (.int (-22) t2)) :
    Md P w K mg base (L2.CX P w) 6 CH "sequence" ["self", "call", "length"] (spH K CS CH CF aSeq) := by
  refine U.okX scH10 (spH_len (n := 2) fun z H m us k h => by obtain ⟨c, s, rfl, _⟩ := h; rfl) (fun f cdv A outer s H vs Q E hr h => ?_)
  obtain ⟨z, hall, m, k, us, rfl, hh, ⟨c, l, rfl, hc⟩, o⟩ := h
  have hh' := hh
  obtain ⟨dx, a, h1, hM⟩ := hh
  refine ⟨_, pss_cons (ps_expr (pe_g GW hr (pa_cons (pe_cmpR op_le (pv 2) (pe_glob (v := .int 3) (by rfl) m3 ⟨_, rfl⟩) (nomark _)) (pa_cons (pe_glob (v := .int (-22)) (by rfl) mO ⟨_, rfl⟩) pa_nil)) passX))
    (pss_cons (ps_if (pt_cmpR op_eq (pv 1) pe_int (nomark _)) (pss_one (ps_ret (pe_op op_cat (pe_lst (pa_cons pe_int pa_nil)) (pe_callTy call_list_of (by rfl) B.list boot_li (pa_cons (pe_g G1 hr (pa_cons (pe_fld (pv 0) rfl) (pa_cons (pv 2) pa_nil)) pass0) pa_nil))))) pss_nil)
    (pss_one (ps_ret (pe_op op_cat (pe_lst (pa_cons pe_int pa_nil)) (pe_callTy call_list_of (by rfl) B.list boot_li (pa_cons (pe_g G2 hr (pa_cons (pe_fld (pv 0) rfl) (pa_cons (pv 2) pa_nil)) pass0) pa_nil)))))), ?_⟩
  refine ⟨_, rfl, _, 3, rfl, rfl, _, _, rfl, fun cc => ?_, fun cc => o.2 _ ?_⟩
  · have hl : l ≤ 3 := by
      have := of_decide_eq_true cc
      omega
    rcases hc with ⟨rfl, rfl⟩ | ⟨rfl, rfl⟩
    · have er : Kp415.step (some m) (.sequenceTotalVariation l) = (some m, Kp415.withFraction 0 (Kp415.sequenceTotalVariation m l)) := by
        show (some m, if 3 < l then _ else _) = _
        rw [if_neg (by omega)]
      refine ⟨_, rfl, rfl, _, rfl, ite2 (fun c2 => ?_) (fun c2 => absurd rfl c2)⟩
      refine ⟨(by show 1 ≤ sizeLine; decide), fun l0 nl0 => ?_⟩
      have e0 : Same H (upd H l0 (.lst [.int 0])) := same_upd nl0
      refine ⟨_, rfl, hall, CH, dx, _, _, rfl, e0 _ _ h1, TH.cl, TH.nM, hF_model _, _, rfl, a, z, m, l, rfl, hM.same e0, hl, fun H2 b e2 fb => ?_⟩
      exact cat_k (e2 _ _ upd_same) fb (le500 1 rfl) (le500 2 rfl) fun H3 q e3 _ hq => o.keep er hh' (e0.trans (e2.trans e3)) hq
    · have er : Kp415.step (some m) (.sequenceAccuracy l) = (some m, Kp415.withFraction 0 (Kp415.sequenceAccuracy m l)) := by
        show (some m, if 3 < l then _ else _) = _
        rw [if_neg (by omega)]
      refine ⟨_, rfl, rfl, _, rfl, ite2 (fun c2 => absurd c2 (by decide)) (fun c2 => ?_)⟩
      refine ⟨(by show 1 ≤ sizeLine; decide), fun l0 nl0 => ?_⟩
      have e0 : Same H (upd H l0 (.lst [.int 0])) := same_upd nl0
      refine ⟨_, rfl, hall, CH, dx, _, _, rfl, e0 _ _ h1, TH.cl, TH.nM, hF_model _, _, rfl, a, z, m, l, rfl, hM.same e0, hl, fun H2 b e2 fb => ?_⟩
      exact cat_k (e2 _ _ upd_same) fb (le500 1 rfl) (le500 2 rfl) fun H3 q e3 _ hq => o.keep er hh' (e0.trans (e2.trans e3)) hq
  · have hl : 3 < l := by
      have := of_decide_eq_false cc
      omega
    rcases hc with ⟨rfl, rfl⟩ | ⟨rfl, rfl⟩
    · show (some m, if 3 < l then _ else _) = _
      rw [if_pos hl]
    · show (some m, if 3 < l then _ else _) = _
      rw [if_pos hl]
theorem nd_at0 (n d : Nat) : atI (vN [n, d]) 0 = some (.int (n : Int)) := atI_nat (j := 0) rfl
theorem nd_at1 (n d : Nat) : atI (vN [n, d]) 1 = some (.int (d : Int)) := atI_nat (j := 1) rfl
theorem vf_of {n d : Nat} (h : Kp415.validFraction n d = true) : n ≤ d ∧ 1 ≤ d ∧ d ≤ 99 := by
  unfold Kp415.validFraction at h
  obtain ⟨h1, h2⟩ := Bool.and_eq_true_iff.mp h
  obtain ⟨h3, h4⟩ := Bool.and_eq_true_iff.mp h1
  exact ⟨of_decide_eq_true h3, of_decide_eq_true h4, of_decide_eq_true h2⟩
theorem ok_detector (U : Mu K CH "detector" "Hall.detector" (hM 13) ["self", "numbers"]) (TH : ClsH K CH) (B : Blt mg) (GW : Gd P w K mg base (L2.CX P w) 4 "want_fraction" ["numbers"] (spWantF K CF)) (GL : Gd P w K mg base CX0 1 "lowest" ["upper", "lower"] (spLowest K))
    (GB : Gd P w K mg base CX0 5 "best_detector" ["model", "most"] (spBest K CS)) : Md P w K mg base (L2.CX P w) 6 CH "detector" ["self", "numbers"] (spH K CS CH CF (aFrac K .bestDetector)) := by
  refine U.okX scH13 (spH_len aFrac_len) (fun f cdv A outer s H vs Q E hr h => ?_)
  obtain ⟨z, hall, m, k, us, rfl, hh, ⟨b, n, d, rfl, hB, rfl⟩, o⟩ := h
  have hh' := hh
  obtain ⟨dx, a, h1, hM⟩ := hh
  refine ⟨_, pss_cons (ps_expr (pe_g GW hr (pa_cons (pv 1) pa_nil) passX))
    (pss_cons (ps_asg (pe_g GB hr (pa_cons (pe_fld (pv 0) rfl) (pa_cons (pe_g GL hr (pa_cons (pe_ix ix_list (pv 1) pe_int (fun _ _ => rfl)) (pa_cons (pe_ix ix_list (pv 1) pe_int (fun _ _ => rfl)) pa_nil)) pass0) pa_nil)) pass0) (pg_tup (by rfl) (pgs_cons (pg_name (i := 2) scH13.nd rfl (.inl rfl)) (pgs_cons (pg_name (i := 3) scH13.nd rfl (.inl rfl)) pgs_nil))))
    (pss_one (ps_ret (pe_op op_cat (pe_lst (pa_cons (pv 2) pa_nil)) (pe_callTy call_list_of (by rfl) B.list boot_li (pa_cons (pv 3) pa_nil)))))), ?_⟩
  refine ⟨_, rfl, b, n, d, rfl, hB, fun hv => ?_, fun hv => o.2 _ ?_⟩
  · obtain ⟨v1, v2, v3⟩ := vf_of hv
    have er : Kp415.step (some m) (.bestDetector n d) = (some m, Kp415.withFraction ((Kp415.bestDetector m (Kp415.toRat n d) : Nat) : Int) (Kp415.setShare m.testWeights (Kp415.bestDetector m (Kp415.toRat n d)))) := by
      show (some m, if Kp415.validFraction n d = false then _ else _) = _
      rw [hv, if_neg (by decide)]
    refine ⟨_, rfl, hall, CH, dx, _, _, rfl, h1, TH.cl, TH.nM, hF_model _, _, rfl, b, _, _, _, rfl, rfl, hB, nd_at0 n d, _, rfl, b, _, _, _, rfl, rfl, hB, nd_at1 n d, _, _, 7, rfl, by omega, by omega, by decide, fun H2 c e2 fc => ?_⟩
    have s7 := sm_nd v2 v3 v1
    rw [toRat_is] at fc s7
    refine ⟨a, z, c, m, _, rfl, hM.same e2, fc, s7, toRat_nonneg n d, fun H3 v e3 hv3 => ?_⟩
    obtain ⟨u, x, rfl, fu, fx⟩ := hv3
    refine ⟨u, _, rfl, fu, rfl, _, _, rfl, _, _, rfl, rfl, ?_⟩
    refine ⟨_, rfl, (by show 1 ≤ sizeLine; decide), fun l0 nl0 => ?_⟩
    have e4 : Same H3 (upd H3 l0 (.lst [.int ((Kp415.bestDetector m (Kp415.toRat n d) : Nat) : Int)])) := same_upd nl0
    exact ⟨_, rfl, cat_k upd_same (fx.same e4) (le500 1 rfl) (le500 2 rfl) fun H5 p5 e5 n5 h5 => o.keep er hh' (e2.trans (e3.trans (e4.trans e5))) h5⟩
  · show (some m, if Kp415.validFraction n d = false then _ else _) = _
    rw [if_pos hv]
theorem ok_forPrior (U : Mu K CH "for_prior" "Hall.for_prior" (hM 15) ["self", "numbers"]) (TH : ClsH K CH) (TS : ClsS K CS) (B : Blt mg) (GW : Gd P w K mg base (L2.CX P w) 4 "want_fraction" ["numbers"] (spWantF K CF)) (GP : Md P w K mg base CX0 3 CS "with_prior" ["self", "prior"] (spWith K CS))
    (GA : Md P w K mg base CX0 5 CS "accuracy" ["self"] (spMod K CS Kp415.bestAccuracy)) : Md P w K mg base (L2.CX P w) 6 CH "for_prior" ["self", "numbers"] (spH K CS CH CF (aFrac K .accuracyForPrior)) := by
  refine U.okX scH15 (spH_len aFrac_len) (fun f cdv A outer s H vs Q E hr h => ?_)
  obtain ⟨z, hall, m, k, us, rfl, hh, ⟨b, n, d, rfl, hB, rfl⟩, o⟩ := h
  have hh' := hh
  obtain ⟨dx, a, h1, hM⟩ := hh
  obtain ⟨dm, t, p, r0, h2, _⟩ := hM.ex
  refine ⟨_, pss_cons (ps_expr (pe_g GW hr (pa_cons (pv 1) pa_nil) passX))
    (pss_one (ps_ret (pe_op op_cat (pe_lst (pa_cons pe_int pa_nil)) (pe_callTy call_list_of (by rfl) B.list boot_li (pa_cons (pe_m0 GA TS.cl hr (pe_m GP TS.cl hr (pe_fld (pv 0) rfl) (pa_cons (pe_tup (pa_cons (pe_ix ix_list (pv 1) pe_int (fun _ _ => rfl)) (pa_cons (pe_ix ix_list (pv 1) pe_int (fun _ _ => rfl)) pa_nil))) pa_nil) pass0) pass0) pa_nil))))), ?_⟩
  refine ⟨_, rfl, b, n, d, rfl, hB, fun hv => ?_, fun hv => o.2 _ ?_⟩
  · obtain ⟨v1, v2, v3⟩ := vf_of hv
    have er : Kp415.step (some m) (.accuracyForPrior n d) = (some m, Kp415.withFraction 0 (Kp415.bestAccuracy { m with priorNum := n, priorDen := d })) := by
      show (some m, if Kp415.validFraction n d = true then _ else _) = _
      rw [if_pos hv]
    refine ⟨(by show 1 ≤ sizeLine; decide), fun l0 nl0 => ?_⟩
    have e0 : Same H (upd H l0 (.lst [.int 0])) := same_upd nl0
    refine ⟨_, rfl, hall, CH, dx, _, _, rfl, e0 _ _ h1, TH.cl, TH.nM, hF_model _, a, dm, _, rfl, e0 _ _ h2, sF_no (by decide +kernel) (by decide +kernel) (by decide +kernel) t p r0, ?_⟩
    refine ⟨_, rfl, b, _, _, _, rfl, rfl, e0.seq hB, nd_at0 n d, _, rfl, b, _, _, _, rfl, rfl, e0.seq hB, nd_at1 n d, (by show 2 ≤ sizeLine; decide), fun u nu => ?_⟩
    have e1 := e0.trans (same_upd (o := .tup [.int (n : Int), .int (d : Int)]) nu)
    refine ⟨a, z, u, m, n, d, rfl, hM.same e1, SqT.of upd_same, v1, v2, v3, fun H2 c e2 hM2 => ?_⟩
    have hM2' := hM2
    obtain ⟨dm2, t2, p2, r2, h3, _⟩ := hM2.ex
    refine ⟨c, dm2, _, rfl, h3, sF_no (by decide +kernel) (by decide +kernel) (by decide +kernel) t2 p2 r2, c, z, _, rfl, hM2', fun H3 x e3 fx => ?_⟩
    have hl0 : H3 l0 = some (.lst [.int 0]) := e3 _ _ (e2 _ _ (same_upd nu _ _ upd_same))
    exact cat_k hl0 fx (le500 1 rfl) (le500 2 rfl) fun H4 q e4 _ hq => o.keep er hh' (e1.trans (e2.trans (e3.trans e4))) hq
  · show (some m, if Kp415.validFraction n d = true then _ else _) = _
    rw [if_neg (by rw [hv]; decide)]
end
end Sg
/-! ### L. the hall's changes -/
namespace Sg
open PySem PySem.Spec PyProof.Rows L2
theorem dp_ints {K : PySem.W.Frag} {H : Hp} : ∀ ns : List Int, DpAll K H (vI ns) (ns.map PyData.int)
  | [] => .nil
  | n :: r => .cons (.int n) (dp_ints r)
theorem canlay_ints : ∀ ns : List Int, PyData.canLayAll0 (ns.map PyData.int) = true
  | [] => by simp [PyData.canLayAll0]
  | n :: r => by simp [PyData.canLayAll0, PyData.canLay0, canlay_ints r]
theorem depth_ints : ∀ ns : List Int, PyData.depthAll (ns.map PyData.int) = 0
  | [] => by simp [PyData.depthAll]
  | n :: r => by simp [PyData.depthAll, PyData.depth, depth_ints r]
theorem shaped_ints (ns : List Int) : SeqAt.shaped (.list (ns.map PyData.int)) = true := by
  unfold SeqAt.shaped
  rw [Bool.and_eq_true]
  refine ⟨?_, decide_eq_true ?_⟩
  · simp only [PyData.canLay0]
    exact canlay_ints ns
  · simp only [PyData.depth, depth_ints]
    omega
theorem eqv_empty (ns : List Int) : PyData.eqv (.list (ns.map PyData.int)) (.list []) = ns.isEmpty := by
  cases ns with
  | nil => simp [PyData.eqv, PyData.eqvAll]
  | cons n r => simp [PyData.eqv, PyData.eqvAll]
/-! #### the hall's field is set -/
theorem ins_ne {CS CH a hall dm dx : Addr} {t p r : Addr} {v : V} {H : Hp} (h : H a = some (.ins CS dm (sF t p r))) (k : H hall = some (.ins CH dx (hF v))) : a ≠ hall := by
  refine ne_of h k fun z => ?_
  injection z with _ _ z3
  exact absurd (congrArg List.length z3) (by show ¬ (3 = 1); decide)
theorem tup_put {K : PySem.W.Frag} {H : Hp} {D C dx a : Addr} {fs : List (Str × V)} {xs : List V} {o : HO} (hD : H D = some (.ins C dx fs)) (h : SqT K H a xs) : SqT K (upd H D o) a xs := by
  rcases h with (h | ⟨u, h⟩) | h
  · exact .inl (.inl (by rw [upd_ne (ne_of h hD (by intro z; cases z))]; exact h))
  · exact .inl (.inr ⟨u, by rw [upd_ne (ne_of h hD (by intro z; cases z))]; exact h⟩)
  · exact .inr h
theorem ModelAt.put {K : PySem.W.Frag} {CS CH z a hall dx : Addr} {H : Hp} {m : Kp415.Model} {v : V} {o : HO} (h : ModelAt K CS z H a m) (k : H hall = some (.ins CH dx (hF v))) : ModelAt K CS z (upd H hall o) a m := by
  obtain ⟨dm, t, p, r, h1, h2, h3, h4, h5, h6⟩ := h.ex
  refine ⟨⟨dm, t, p, r, ?_, ?_, ?_, tup_put k h4, h5, h6⟩, h.ok⟩
  · rw [upd_ne (ins_ne h1 k)]
    exact h1
  · rw [upd_ne (ne_of h2 k (by intro z; cases z))]
    exact h2
  · rw [upd_ne (ne_of h3 k (by intro z; cases z))]
    exact h3
/-- the new model stands in the hall; then the answer is made: the end of an operation that changes the hall -/
theorem Out.put {K : PySem.W.Frag} {CS CH CF z hall dx x : Addr} {H H1 H' : Hp} {v : V} {st : Kp415.State} {m : Kp415.Model} {a : Kp415.Ans} {r : Kp415.State × Kp415.Ans} {Q : VK} {E : XK} (o : Out K CS CH CF z H hall st r Q E) (er : r = (some m, a)) (e : Same H H1)
    (k : H1 hall = some (.ins CH dx (hF v))) (hm : ModelAt K CS z H1 x m) (e2 : Same (upd H1 hall (.ins CH dx (hF (.ref x)))) H') {p : Addr} (hp : H' p = some (.lst (vI (a.num :: a.nums)))) : Q (.ref p) H' := by
  subst er
  refine o.1 H' p (fun b ob hb hn => e2 _ _ (by rw [upd_ne hn]; exact e _ _ hb)) ⟨dx, x, e2 _ _ upd_same, (hm.put k).same e2⟩ hp
theorem sum_le : ∀ {l : List Nat}, (∀ x ∈ l, x ≤ 99) → l.sum ≤ 99 * l.length
  | [], _ => by simp
  | a :: r, h => by
    have h1 := h a (List.mem_cons_self ..)
    have h2 := sum_le (l := r) fun x hx => h x (List.mem_cons_of_mem _ hx)
    rw [List.sum_cons, List.length_cons]
    omega
theorem ones_ok {n : Nat} (h1 : 1 ≤ n) (h5 : n ≤ 5) : MOk ⟨List.replicate n 1, List.replicate n 1, 1, 2⟩ := by
  constructor <;> simp <;> omega
section
variable {P : Program} {w : World} {K : PySem.W.Frag} {mg : Str → Option Value} {base : Heap} {CS CH CF fI : Addr}
/-- create -/
def spCreate (K : PySem.W.Frag) (CS CH CF : Addr) : Sp := fun vs H Q E => ∃ (z hall : Addr) (st : Kp415.State) (n : Nat), vs = [.ref hall, .int (n : Int)] ∧ HallAt K CS CH z H hall st ∧ (∃ o, H z = some o) ∧ Out K CS CH CF z H hall st (Kp415.step st (.create n)) Q E
theorem HallAt.ins {z hall : Addr} {H : Hp} : ∀ {st : Kp415.State}, HallAt K CS CH z H hall st → ∃ dx v, H hall = some (.ins CH dx (hF v))
  | none, ⟨dx, h⟩ => ⟨dx, _, h⟩
  | some _, ⟨dx, _, h, _⟩ => ⟨dx, _, h⟩
theorem ok_create (U : Mu K CH "create" "Hall.create" (hM 1) ["self", "many"]) (TH : ClsH K CH) (GW : Gd P w K mg base (L2.CX P w) 3 "want" ["is_so", "code"] (spWant CF)) (GI : Md P w K mg base CX0 1 CS "__init__" ["self", "test", "production", "prior"] (spInitS CS)) (M : MkC K mg "Signals" CS)
    {t1 t2 : Tok} (m5 : mg "MOST_SIGNALS" = some (.int 5 t1)) (mO : mg "OUTSIDE" = some (.int (-22) t2)) : Md P w K mg base (L2.CX P w) 4 CH "create" ["self", "many"] (spCreate K CS CH CF) := by
  refine U.okX scH1 (fun vs H Q E h => ?_) (fun f cdv A outer s H vs Q E hr h => ?_)
  · obtain ⟨z, hall, st, n, rfl, _⟩ := h
    rfl
  · obtain ⟨z, hall, st, n, rfl, hh, hz, o⟩ := h
    obtain ⟨dx, v, h1⟩ := hh.ins
    refine ⟨_, pss_cons (ps_expr (pe_g GW hr (pa_cons (pe_chain op_le op_le pe_int (pv 1) (pe_glob (v := .int 5) (by rfl) m5 ⟨_, rfl⟩)) (pa_cons (pe_glob (v := .int (-22)) (by rfl) mO ⟨_, rfl⟩) pa_nil)) passX))
      (pss_cons (ps_fld (pv 0) (pe_mk GI M hr (pa_cons (pe_op op_rep (pe_lst (pa_cons pe_int pa_nil)) (pv 1)) (pa_cons (pe_op op_rep (pe_lst (pa_cons pe_int pa_nil)) (pv 1)) (pa_cons (pe_tup (pa_cons pe_int (pa_cons pe_int pa_nil))) pa_nil))) pass0) rfl)
      (pss_one (ps_ret (pe_lst (pa_cons pe_int pa_nil))))), ?_⟩
    have bad : ¬ (1 ≤ n ∧ n ≤ 5) → Err CF H E (-22) := fun hb => o.2 _ (by
      show (if n < 1 ∨ 5 < n then (st, Kp415.single (-22)) else _) = _
      rw [if_pos (by omega)])
    refine ⟨_, rfl, 1, _, rfl, rfl, _, rfl, ite2 (fun c1 => ?_) (fun c1 => ?_)⟩
    · have g1 := of_decide_eq_true c1
      refine ⟨_, 5, rfl, rfl, _, _, rfl, fun c2 => ?_, fun c2 => bad fun hb => ?_⟩
      · have g2 := of_decide_eq_true c2
        have er : Kp415.step st (.create n) = (some ⟨List.replicate n 1, List.replicate n 1, 1, 2⟩, Kp415.single 0) := by
          show (if n < 1 ∨ 5 < n then _ else _) = _
          rw [if_neg (by omega)]
        refine ⟨(by show 1 ≤ sizeLine; decide), fun l1 nl1 => ?_⟩
        have e1 : Same H (upd H l1 (.lst [.int 1])) := same_upd nl1
        refine ⟨_, rfl, l1, _, _, rfl, rfl, upd_same, by omega, by omega, Nat.le_of_lt (small1000 (by show 1 * n ≤ 1000; omega)), fun pT npT => ?_⟩
        have e2 := e1.trans (same_upd (o := .lst (List.replicate n [V.int 1]).flatten) npT)
        refine ⟨(by show 1 ≤ sizeLine; decide), fun l2 nl2 => ?_⟩
        have e3 := e2.trans (same_upd (o := .lst [.int 1]) nl2)
        refine ⟨_, rfl, l2, _, _, rfl, rfl, upd_same, by omega, by omega, Nat.le_of_lt (small1000 (by show 1 * n ≤ 1000; omega)), fun pP npP => ?_⟩
        have e4 := e3.trans (same_upd (o := .lst (List.replicate n [V.int 1]).flatten) npP)
        have hTl2 : pT ≠ l2 := ne_of_none upd_same nl2
        have hT3 : (upd (upd (upd H l1 (.lst [.int 1])) pT (.lst (List.replicate n [V.int 1]).flatten)) l2 (.lst [.int 1])) pT = some (.lst (List.replicate n [V.int 1]).flatten) := by
          rw [upd_ne hTl2]
          exact upd_same
        have nT : H pT = none := e1.free npT
        have nP : H pP = none := e3.free npP
        refine ⟨(by show 2 ≤ sizeLine; decide), fun u nu => ?_⟩
        have e5 := e4.trans (same_upd (o := .tup [.int 1, .int 2]) nu)
        have hT5 := (same_upd (o := .tup [.int 1, .int 2]) nu) _ _ ((same_upd (o := .lst (List.replicate n [V.int 1]).flatten) npP) _ _ hT3)
        have hP5 := (same_upd (o := .tup [.int 1, .int 2]) nu) _ _ (upd_same (H := upd (upd (upd H l1 (.lst [.int 1])) pT (.lst (List.replicate n [V.int 1]).flatten)) l2 (.lst [.int 1])) (a := pP) (o := .lst (List.replicate n [V.int 1]).flatten))
        intro x dx2 nx nd ne
        refine ⟨x, dx2, pT, pP, u, rfl, upd_same, fun H1 e6 k6 => ⟨rfl, ?_⟩⟩
        obtain ⟨oz, hz⟩ := hz
        obtain ⟨s1, m1⟩ := made_at (K := K) (z := z) (m := ⟨List.replicate n 1, List.replicate n 1, 1, 2⟩) nx nd e6 k6 (by show _ = some (HO.lst (vN (List.replicate n 1))); rw [← vN_rep]; exact hT5) (by show _ = some (HO.lst (vN (List.replicate n 1))); rw [← vN_rep]; exact hP5) (SqT.of upd_same) (Ne.symm (ne_of_none hz nT)) (Ne.symm (ne_of_none hz nP)) (ones_ok (by omega) (by omega))
        have hall1 := s1 _ _ (e5 _ _ h1)
        refine ⟨_, rfl, hall, CH, dx, _, rfl, hall1, TH.cl, TH.nM, (by show 1 < 1000; decide), ?_⟩
        rw [hF_put]
        refine ⟨(by show 1 ≤ sizeLine; decide), fun l nl => ?_⟩
        exact o.put er (e5.trans s1) hall1 m1 (same_upd nl) upd_same
      · have := of_decide_eq_false c2
        omega
    · have g1 : ¬ ((1 : Int) ≤ (n : Int)) := fun z => c1 (decide_eq_true z)
      refine ⟨_, _, rfl, fun c2 => Bool.noConfusion c2, fun c2 => bad fun hb => ?_⟩
      omega
/-- set_weights -/
abbrev aWts : Addr → Hp → Kp415.Model → List V → Kp415.Call → Prop := fun z H _ us k => ∃ (b : Addr) (l : List Nat) (c : Bool), us = [.ref b, .bl c] ∧ H b = some (.lst (vN l)) ∧ b ≠ z ∧ k = if c = true then .setTestWeights l else .setProductionWeights l
theorem all99 {l : List Nat} : l.all (fun x => decide (x ≤ 99)) = true ↔ ∀ x ∈ l, x ≤ 99 := by
  rw [List.all_eq_true]
  exact ⟨fun h x hx => of_decide_eq_true (h x hx), fun h x hx => decide_eq_true (h x hx)⟩
theorem vw_true {m : Kp415.Model} {l : List Nat} (h1 : l.length = m.testWeights.length) (h2 : ∀ x ∈ l, x ≤ 99) (h3 : 0 < l.sum) : Kp415.validWeights m l = true := by
  unfold Kp415.validWeights
  rw [all99.mpr h2, decide_eq_true (show l.length = Kp415.signalCount m from h1), decide_eq_true h3]
  rfl
theorem vw_false {m : Kp415.Model} {l : List Nat} (h : ¬ (l.length = m.testWeights.length ∧ (∀ x ∈ l, x ≤ 99) ∧ 0 < l.sum)) : Kp415.validWeights m l = false := by
  cases e : Kp415.validWeights m l with
  | false => rfl
  | true =>
    unfold Kp415.validWeights at e
    obtain ⟨e1, e2⟩ := Bool.and_eq_true_iff.mp e
    obtain ⟨e3, e4⟩ := Bool.and_eq_true_iff.mp e1
    exact absurd ⟨of_decide_eq_true e3, all99.mp e4, of_decide_eq_true e2⟩ h
theorem mem_nints {l : List Nat} {y : Int} (h : y ∈ nints l) : ∃ x ∈ l, y = (x : Int) := by
  obtain ⟨x, h1, h2⟩ := List.mem_map.mp h
  exact ⟨x, h1, h2.symm⟩
theorem nints_mem {l : List Nat} {x : Nat} (h : x ∈ l) : (x : Int) ∈ nints l := List.mem_map.mpr ⟨x, h, rfl⟩
theorem ok_weights (U : Mu K CH "set_weights" "Hall.set_weights" (hM 2) ["self", "weights", "is_test"]) (TH : ClsH K CH) (TS : ClsS K CS) (B : Blt mg) (GW : Gd P w K mg base (L2.CX P w) 3 "want" ["is_so", "code"] (spWant CF)) (GM : Md P w K mg base CX0 1 CS "many" ["self"] (spMany K CS))
    (GI : Md P w K mg base CX0 1 CS "__init__" ["self", "test", "production", "prior"] (spInitS CS)) (M : MkC K mg "Signals" CS) {t1 t2 : Tok} (m99 : mg "MOST_WEIGHT" = some (.int 99 t1)) (mO : mg "OUTSIDE" = some (.int (-22) t2)) :
    Md P w K mg base (L2.CX P w) 4 CH "set_weights" ["self", "weights", "is_test"] (spH K CS CH CF aWts) := by
  refine U.okX scH2 (spH_len (n := 2) fun z H m us k h => by obtain ⟨b, l, c, rfl, _⟩ := h; rfl) (fun f cdv A outer s H vs Q E hr h => ?_)
  obtain ⟨z, hall, m, k, us, rfl, hh, ⟨b, l, c, rfl, hB, hbz, rfl⟩, o⟩ := h
  obtain ⟨dx, a, h1, hM⟩ := hh
  obtain ⟨dm, t, p, r0, h2, h3, h4, h5, ht, hp⟩ := hM.ex
  have ok := hM.ok
  have n5 := ok.n5
  refine ⟨_, pss_cons (ps_set (i := 3) scH2.nd rfl (.inl rfl) (pe_fld (pv 0) rfl))
    (pss_cons (ps_expr (pe_g GW hr (pa_cons (pe_and (pe_cmpR op_eq (pe_callB call_len_seq (by rfl) B.len PySem.boot_len (pa_cons (pv 1) pa_nil)) (pe_m0 GM TS.cl hr (pv 3) pass0) (nomark _))
        (pe_and (pe_cmpR op_le (pe_callB (cr_max rfl) (by rfl) B.max PyProof.Rows.boot_max (pa_cons (pv 1) pa_nil)) (pe_glob (v := .int 99) (by rfl) m99 ⟨_, rfl⟩) (nomark _)) (pe_one (pe_cmpR op_gt (pe_callB (cr_sum rfl) (by rfl) B.sum PyProof.Rows.boot_sum (pa_cons (pv 1) pa_nil)) pe_int (nomark _)))))
      (pa_cons (pe_glob (v := .int (-22)) (by rfl) mO ⟨_, rfl⟩) pa_nil)) passX))
    (pss_cons (ps_if (pt_val (pv 2)) (pss_one (ps_fld (pv 0) (pe_mk GI M hr (pa_cons (pv 1) (pa_cons (pe_fld (pv 3) rfl) (pa_cons (pe_fld (pv 3) rfl) pa_nil))) pass0) rfl))
      (pss_one (ps_fld (pv 0) (pe_mk GI M hr (pa_cons (pe_fld (pv 3) rfl) (pa_cons (pv 1) (pa_cons (pe_fld (pv 3) rfl) pa_nil))) pass0) rfl)))
    (pss_one (ps_ret (pe_lst (pa_cons (pe_callB (cr_sum rfl) (by rfl) B.sum PyProof.Rows.boot_sum (pa_cons (pv 1) pa_nil)) pa_nil)))))), ?_⟩
  have bad : ¬ (l.length = m.testWeights.length ∧ (∀ x ∈ l, x ≤ 99) ∧ 0 < l.sum) → Err CF H E (-22) := fun hb => o.2 _ (by
    have hv := vw_false hb
    cases c with
    | true =>
      show (if Kp415.validWeights m l = true then _ else _) = _
      rw [hv]
      rfl
    | false =>
      show (if Kp415.validWeights m l = true then _ else _) = _
      rw [hv]
      rfl)
  refine ⟨_, rfl, hall, CH, dx, _, _, rfl, h1, TH.cl, TH.nM, hF_model _, ?_⟩
  refine ⟨_, rfl, b, _, rfl, .inl (SqL.of hB), _, rfl, a, dm, _, rfl, h2, sF_no (by decide +kernel) (by decide +kernel) (by decide +kernel) t p r0, a, z, m, rfl, hM, rfl, _, rfl, ite2 (fun c1 => ?_) (fun c1 => ?_)⟩
  · have g1 : l.length = m.testWeights.length := by
      have := V.int.inj (of_decide_eq_true c1)
      rw [vN_len] at this
      omega
    refine ⟨_, rfl, b, nints l, rfl, SqL.of hB, by rw [nints_len]; have := ok.n1; omega, fun mx hmx hle => ?_⟩
    refine ⟨_, 99, rfl, rfl, _, rfl, ite2 (fun c2 => ?_) (fun c2 => ?_)⟩
    · have g2 : ∀ x ∈ l, x ≤ 99 := fun x hx => by
        have k1 := hle _ (nints_mem hx)
        have k2 := of_decide_eq_true c2
        omega
      refine ⟨_, rfl, b, nints l, rfl, SqL.of hB, _, 0, rfl, rfl, _, _, rfl, fun c3 => ?_, fun c3 => bad fun hb => ?_⟩
      · have g3 : 0 < l.sum := by
          have := of_decide_eq_true c3
          rw [nints_sum] at this
          omega
        have hv := vw_true g1 g2 g3
        have hs := sum_le g2
        have sl : l.sum ≤ 495 := by omega
        refine ⟨_, rfl, c, rfl, ?_⟩
        cases c with
        | true =>
          have er : Kp415.step (some m) (if true = true then .setTestWeights l else .setProductionWeights l) = (some { m with testWeights := l }, Kp415.single ((l.sum : Nat) : Int)) := by
            show (if Kp415.validWeights m l = true then _ else _) = _
            rw [if_pos hv]
          refine iteT ⟨_, rfl, _, rfl, a, CS, dm, _, _, rfl, h2, TS.cl, TS.nP, sF_prod t p r0, _, rfl, a, CS, dm, _, _, rfl, h2, TS.cl, TS.nR, sF_prior t p r0, ?_⟩
          intro x dx2 nx nd ne
          refine ⟨x, dx2, b, p, r0, rfl, upd_same, fun H1 e6 k6 => ⟨rfl, ?_⟩⟩
          obtain ⟨s1, m1⟩ := made_at (K := K) (z := z) (m := { m with testWeights := l }) nx nd e6 k6 hB h4 h5 hbz hp ⟨by rw [g1]; exact ok.n1, by rw [g1]; exact ok.n5, by rw [g1]; exact ok.len, g3, sl, ok.p1, ok.p5, ok.d1, ok.d9, ok.nd⟩
          have hall1 := s1 _ _ h1
          refine ⟨_, rfl, hall, CH, dx, _, rfl, hall1, TH.cl, TH.nM, (by show 1 < 1000; decide), ?_⟩
          rw [hF_put]
          have hb1 : (upd H1 hall (.ins CH dx (hF (.ref x)))) b = some (.lst (vN l)) := by
            rw [upd_ne (ne_of (s1 _ _ hB) hall1 (by intro z; cases z))]
            exact s1 _ _ hB
          refine ⟨_, rfl, b, nints l, rfl, SqL.of hb1, (by show 1 ≤ sizeLine; decide), fun u nu => ?_⟩
          refine o.put er s1 hall1 m1 (same_upd nu) (upd_same.trans ?_)
          rw [nints_sum]
          rfl
        | false =>
          have er : Kp415.step (some m) (if false = true then .setTestWeights l else .setProductionWeights l) = (some { m with productionWeights := l }, Kp415.single ((l.sum : Nat) : Int)) := by
            show (if Kp415.validWeights m l = true then _ else _) = _
            rw [if_pos hv]
          refine iteF ⟨_, rfl, a, CS, dm, _, _, rfl, h2, TS.cl, TS.nT, sF_test t p r0, _, rfl, _, rfl, a, CS, dm, _, _, rfl, h2, TS.cl, TS.nR, sF_prior t p r0, ?_⟩
          intro x dx2 nx nd ne
          refine ⟨x, dx2, t, b, r0, rfl, upd_same, fun H1 e6 k6 => ⟨rfl, ?_⟩⟩
          obtain ⟨s1, m1⟩ := made_at (K := K) (z := z) (m := { m with productionWeights := l }) nx nd e6 k6 h3 hB h5 ht hbz ⟨ok.n1, ok.n5, g1, ok.t1, ok.t5, g3, sl, ok.d1, ok.d9, ok.nd⟩
          have hall1 := s1 _ _ h1
          refine ⟨_, rfl, hall, CH, dx, _, rfl, hall1, TH.cl, TH.nM, (by show 1 < 1000; decide), ?_⟩
          rw [hF_put]
          have hb1 : (upd H1 hall (.ins CH dx (hF (.ref x)))) b = some (.lst (vN l)) := by
            rw [upd_ne (ne_of (s1 _ _ hB) hall1 (by intro z; cases z))]
            exact s1 _ _ hB
          refine ⟨_, rfl, b, nints l, rfl, SqL.of hb1, (by show 1 ≤ sizeLine; decide), fun u nu => ?_⟩
          refine o.put er s1 hall1 m1 (same_upd nu) (upd_same.trans ?_)
          rw [nints_sum]
          rfl
      · have := of_decide_eq_false c3
        rw [nints_sum] at this
        have := hb.2.2
        omega
    · refine ⟨_, _, rfl, fun c3 => Bool.noConfusion c3, fun c3 => bad fun hb => ?_⟩
      obtain ⟨x, hx, rfl⟩ := mem_nints hmx
      have k1 := hb.2.1 x hx
      exact c2 (decide_eq_true (by omega))
  · refine ⟨_, _, rfl, fun c3 => Bool.noConfusion c3, fun c3 => bad fun hb => ?_⟩
    refine c1 (decide_eq_true ?_)
    rw [vN_len, hb.1]
theorem ok_setPrior (U : Mu K CH "set_prior" "Hall.set_prior" (hM 3) ["self", "numbers"]) (TH : ClsH K CH) (TS : ClsS K CS) (B : Blt mg) (GW : Gd P w K mg base (L2.CX P w) 4 "want_fraction" ["numbers"] (spWantF K CF)) (GP : Md P w K mg base CX0 3 CS "with_prior" ["self", "prior"] (spWith K CS)) :
    Md P w K mg base (L2.CX P w) 5 CH "set_prior" ["self", "numbers"] (spH K CS CH CF (aFrac K .setPrior)) := by
  refine U.okX scH3 (spH_len aFrac_len) (fun f cdv A outer s H vs Q E hr h => ?_)
  obtain ⟨z, hall, m, k, us, rfl, hh, ⟨b, n, d, rfl, hB, rfl⟩, o⟩ := h
  obtain ⟨dx, a, h1, hM⟩ := hh
  obtain ⟨dm, t, p, r0, h2, h3, h4, h5, ht, hp⟩ := hM.ex
  refine ⟨_, pss_cons (ps_expr (pe_g GW hr (pa_cons (pv 1) pa_nil) passX))
    (pss_cons (ps_set (i := 2) scH3.nd rfl (.inl rfl) (pe_fld (pe_fld (pv 0) rfl) rfl))
    (pss_cons (ps_fld (pv 0) (pe_m GP TS.cl hr (pe_fld (pv 0) rfl) (pa_cons (pe_tup (pa_cons (pe_ix ix_list (pv 1) pe_int (fun _ _ => rfl)) (pa_cons (pe_ix ix_list (pv 1) pe_int (fun _ _ => rfl)) pa_nil))) pa_nil) pass0) rfl)
    (pss_one (ps_ret (pe_op op_cat (pe_lst (pa_cons pe_int pa_nil)) (pe_callTy call_list_of (by rfl) B.list boot_li (pa_cons (pv 2) pa_nil))))))), ?_⟩
  refine ⟨_, rfl, b, n, d, rfl, hB, fun hv => ?_, fun hv => o.2 _ ?_⟩
  · obtain ⟨v1, v2, v3⟩ := vf_of hv
    have er : Kp415.step (some m) (.setPrior n d) = (some { m with priorNum := n, priorDen := d }, ⟨0, [(m.priorNum : Int), (m.priorDen : Int)]⟩) := by
      show (if Kp415.validFraction n d = true then _ else _) = _
      rw [if_pos hv]
    refine ⟨_, rfl, hall, CH, dx, _, _, rfl, h1, TH.cl, TH.nM, hF_model _, a, CS, dm, _, _, rfl, h2, TS.cl, TS.nR, sF_prior t p r0, ?_⟩
    refine ⟨_, rfl, hall, CH, dx, _, _, rfl, h1, TH.cl, TH.nM, hF_model _, a, dm, _, rfl, h2, sF_no (by decide +kernel) (by decide +kernel) (by decide +kernel) t p r0, ?_⟩
    refine ⟨_, rfl, b, _, _, _, rfl, rfl, hB, nd_at0 n d, _, rfl, b, _, _, _, rfl, rfl, hB, nd_at1 n d, (by show 2 ≤ sizeLine; decide), fun u nu => ?_⟩
    have e1 : Same H (upd H u (.tup [.int (n : Int), .int (d : Int)])) := same_upd nu
    refine ⟨a, z, u, m, n, d, rfl, hM.same e1, SqT.of upd_same, v1, v2, v3, fun H2 c e2 hM2 => ?_⟩
    have e12 := e1.trans e2
    have hall1 := e12 _ _ h1
    refine ⟨_, rfl, hall, CH, dx, _, rfl, hall1, TH.cl, TH.nM, (by show 1 < 1000; decide), ?_⟩
    rw [hF_put]
    refine ⟨(by show 1 ≤ sizeLine; decide), fun l0 nl0 => ?_⟩
    have hr1 : SqT K (upd H2 hall (.ins CH dx (hF (.ref c)))) r0 [.int (m.priorNum : Int), .int (m.priorDen : Int)] := tup_put hall1 (same_tup e12 h5)
    have e3 : Same (upd H2 hall (.ins CH dx (hF (.ref c)))) (upd (upd H2 hall (.ins CH dx (hF (.ref c)))) l0 (.lst [.int 0])) := same_upd nl0
    refine ⟨_, rfl, cat_k upd_same (same_tup e3 hr1) (le500 1 rfl) (le500 2 rfl) fun H4 q e4 _ hq => ?_⟩
    exact o.put er e12 hall1 hM2 (e3.trans e4) hq
  · show (if Kp415.validFraction n d = true then _ else _) = _
    rw [if_neg (by rw [hv]; decide)]
/-- merged, of the hall -/
def spMergedH (K : PySem.W.Frag) (CS CH CF : Addr) : Sp := fun vs H Q E => ∃ (z hall b : Addr) (m : Kp415.Model) (l : List Nat), vs = [.ref hall, .ref b] ∧ HallAt K CS CH z H hall (some m) ∧ SqL K H b (vN l) ∧ (∃ o, H z = some o) ∧
  (Kp415.validMapping m l = true → ∀ (H' : Hp) (p : Addr), Same H H' → ModelAt K CS z H' p (Kp415.mergeSignals m l) → Q (.ref p) H') ∧ (Kp415.validMapping m l = false → Err CF H E (-22))
theorem vm_iff {m : Kp415.Model} {l : List Nat} : Kp415.validMapping m l = true ↔ l.length = m.testWeights.length ∧ ∀ x ∈ l, x < m.testWeights.length := by
  unfold Kp415.validMapping
  rw [Bool.and_eq_true, List.all_eq_true]
  exact ⟨fun h => ⟨of_decide_eq_true h.1, fun x hx => of_decide_eq_true (h.2 x hx)⟩, fun h => ⟨decide_eq_true h.1, fun x hx => decide_eq_true (h.2 x hx)⟩⟩
theorem vm_false {m : Kp415.Model} {l : List Nat} (h : ¬ (l.length = m.testWeights.length ∧ ∀ x ∈ l, x < m.testWeights.length)) : Kp415.validMapping m l = false := by
  cases e : Kp415.validMapping m l with
  | false => rfl
  | true => exact absurd (vm_iff.mp e) h
theorem ok_mergedH (U : Mu K CH "merged" "Hall.merged" (hM 8) ["self", "mapping"]) (TH : ClsH K CH) (TS : ClsS K CS) (B : Blt mg) (GW : Gd P w K mg base (L2.CX P w) 3 "want" ["is_so", "code"] (spWant CF)) (GM : Md P w K mg base CX0 1 CS "many" ["self"] (spMany K CS))
    (GG : Md P w K mg base CX0 3 CS "merged" ["self", "mapping"] (spMerged K CS)) {t2 : Tok} (mO : mg "OUTSIDE" = some (.int (-22) t2)) :
    Md P w K mg base (L2.CX P w) 4 CH "merged" ["self", "mapping"] (spMergedH K CS CH CF) := by
  refine U.okX scH8 (fun vs H Q E h => ?_) (fun f cdv A outer s H vs Q E hr h => ?_)
  · obtain ⟨z, hall, b, m, l, rfl, _⟩ := h
    rfl
  · obtain ⟨z, hall, b, m, l, rfl, hh, hB, hz, qT, qF⟩ := h
    obtain ⟨dx, a, h1, hM⟩ := hh
    obtain ⟨dm, t, p, r0, h2, _⟩ := hM.ex
    have n1 := hM.ok.n1
    refine ⟨_, pss_cons (ps_set (i := 2) scH8.nd rfl (.inl rfl) (pe_m0 GM TS.cl hr (pe_fld (pv 0) rfl) pass0))
      (pss_cons (ps_expr (pe_g GW hr (pa_cons (pe_and (pe_cmpR op_eq (pe_callB call_len_seq (by rfl) B.len PySem.boot_len (pa_cons (pv 1) pa_nil)) (pv 2) (nomark _))
          (pe_one (pe_cmpR op_lt (pe_callB (cr_max rfl) (by rfl) B.max PyProof.Rows.boot_max (pa_cons (pv 1) pa_nil)) (pv 2) (nomark _)))) (pa_cons (pe_glob (v := .int (-22)) (by rfl) mO ⟨_, rfl⟩) pa_nil)) passX))
      (pss_one (ps_ret (pe_m GG TS.cl hr (pe_fld (pv 0) rfl) (pa_cons (pv 1) pa_nil) pass0)))), ?_⟩
    refine ⟨_, rfl, hall, CH, dx, _, _, rfl, h1, TH.cl, TH.nM, hF_model _, a, dm, _, rfl, h2, sF_no (by decide +kernel) (by decide +kernel) (by decide +kernel) t p r0, a, z, m, rfl, hM, ?_⟩
    refine ⟨_, rfl, b, _, rfl, .inl hB, _, rfl, rfl, _, rfl, ite2 (fun c1 => ?_) (fun c1 => ?_)⟩
    · have g1 : l.length = m.testWeights.length := by
        have := V.int.inj (of_decide_eq_true c1)
        rw [vN_len] at this
        omega
      refine ⟨_, rfl, b, nints l, rfl, hB, by rw [nints_len]; omega, fun mx hmx hle => ?_⟩
      refine ⟨_, rfl, _, _, rfl, rfl, _, _, rfl, fun c2 => ?_, fun c2 => qF (vm_false fun hb => ?_)⟩
      · have g2 : ∀ x ∈ l, x < m.testWeights.length := fun x hx => by
          have k1 := hle _ (nints_mem hx)
          have k2 := of_decide_eq_true c2
          omega
        refine ⟨_, rfl, hall, CH, dx, _, _, rfl, h1, TH.cl, TH.nM, hF_model _, a, dm, _, rfl, h2, sF_no (by decide +kernel) (by decide +kernel) (by decide +kernel) t p r0, _, rfl, a, z, b, m, l, rfl, hM, hB, g1, g2, hz, fun H' x e hx => ?_⟩
        exact qT (vm_iff.mpr ⟨g1, g2⟩) H' x e hx
      · obtain ⟨x, hx, rfl⟩ := mem_nints hmx
        have k1 := hb.2 x hx
        have := of_decide_eq_false c2
        omega
    · refine ⟨_, _, rfl, fun c3 => Bool.noConfusion c3, fun c3 => qF (vm_false fun hb => c1 (decide_eq_true ?_))⟩
      rw [vN_len, hb.1]
abbrev aMrg (K : PySem.W.Frag) : Addr → Hp → Kp415.Model → List V → Kp415.Call → Prop := fun z H _ us k => ∃ (c : Int) (b : Addr) (l : List Nat), us = [.int c, .ref b] ∧ SqL K H b (vN l) ∧ (∃ o, H z = some o) ∧ (c = 12 ∧ k = .mergeSignals l ∨ c = 13 ∧ k = .previewMerge l)
theorem ok_merge (U : Mu K CH "merge" "Hall.merge" (hM 9) ["self", "call", "mapping"]) (TH : ClsH K CH) (TS : ClsS K CS) (B : Blt mg) (GG : Md P w K mg base (L2.CX P w) 4 CH "merged" ["self", "mapping"] (spMergedH K CS CH CF)) (GV : Md P w K mg base CX0 4 CS "variation" ["self"] (spMod K CS Kp415.totalVariation))
    (GA : Md P w K mg base CX0 5 CS "accuracy" ["self"] (spMod K CS Kp415.bestAccuracy)) : Md P w K mg base (L2.CX P w) 6 CH "merge" ["self", "call", "mapping"] (spH K CS CH CF (aMrg K)) := by
  refine U.okX scH9 (spH_len (n := 2) fun z H m us k h => by obtain ⟨c, b, l, rfl, _⟩ := h; rfl) (fun f cdv A outer s H vs Q E hr h => ?_)
  obtain ⟨z, hall, m, k, us, rfl, hh, ⟨c, b, l, rfl, hB, hz, hc⟩, o⟩ := h
  have hh' := hh
  obtain ⟨dx, a, h1, hM⟩ := hh
  refine ⟨_, pss_cons (ps_set (i := 3) scH9.nd rfl (.inl rfl) (pe_m GG TH.cl hr (pv 0) (pa_cons (pv 2) pa_nil) passX))
    (pss_cons (ps_set (i := 4) scH9.nd rfl (.inl rfl) (pe_op op_cat (pe_lst (pa_cons pe_int pa_nil)) (pe_callTy call_list_of (by rfl) B.list boot_li (pa_cons (pe_m0 GV TS.cl hr (pv 3) pass0) pa_nil))))
    (pss_cons (ps_if (pt_cmpR op_eq (pv 1) pe_int (nomark _)) (pss_one (ps_ret (pe_op op_cat (pv 4) (pe_callTy call_list_of (by rfl) B.list boot_li (pa_cons (pe_m0 GA TS.cl hr (pv 3) pass0) pa_nil))))) pss_nil)
    (pss_cons (ps_fld (pv 0) (pv 3) rfl)
    (pss_one (ps_ret (pv 4)))))), ?_⟩
  refine ⟨_, rfl, hall, dx, _, rfl, h1, hF_no (by decide +kernel) _, _, rfl, z, hall, b, m, l, rfl, hh', hB, hz, fun hv H1 x e1 hx => ?_, fun hv => o.2 _ ?_⟩
  · have hx' := hx
    obtain ⟨dm, t, p, r0, h2, _⟩ := hx.ex
    refine ⟨(by show 1 ≤ sizeLine; decide), fun l0 nl0 => ?_⟩
    have e2 : Same H1 (upd H1 l0 (.lst [.int 0])) := same_upd nl0
    refine ⟨_, rfl, x, dm, _, rfl, e2 _ _ h2, sF_no (by decide +kernel) (by decide +kernel) (by decide +kernel) t p r0, x, z, _, rfl, hx'.same e2, fun H3 u e3 fu => ?_⟩
    refine cat_k (e3 _ _ upd_same) fu (le500 1 rfl) (le500 2 rfl) fun H4 q e4 nq hq => ?_
    have e14 := e2.trans (e3.trans e4)
    rcases hc with ⟨rfl, rfl⟩ | ⟨rfl, rfl⟩
    · have er : Kp415.step (some m) (.mergeSignals l) = (some (Kp415.mergeSignals m l), Kp415.withFraction 0 (Kp415.totalVariation (Kp415.mergeSignals m l))) := by
        show (if Kp415.validMapping m l = true then _ else _) = _
        rw [if_pos hv]
      refine ⟨_, rfl, rfl, _, rfl, ite2 (fun cc => absurd cc (by decide)) (fun cc => ?_)⟩
      have hall1 := e14 _ _ (e1 _ _ h1)
      refine ⟨_, rfl, _, rfl, hall, CH, dx, _, rfl, hall1, TH.cl, TH.nM, (by show 1 < 1000; decide), ?_⟩
      rw [hF_put]
      have hqh : (upd H4 hall (.ins CH dx (hF (.ref x)))) q = some (.lst (([V.int 0]) ++ frV (Kp415.totalVariation (Kp415.mergeSignals m l)))) := by
        rw [upd_ne (ne_of hq hall1 (by intro z; cases z))]
        exact hq
      exact ⟨_, rfl, o.put er (e1.trans e14) hall1 (hx'.same e14) (Same.refl _) hqh⟩
    · have er : Kp415.step (some m) (.previewMerge l) = (some m, ⟨0, Kp415.fraction (Kp415.totalVariation (Kp415.mergeSignals m l)) ++ Kp415.fraction (Kp415.bestAccuracy (Kp415.mergeSignals m l))⟩) := by
        show (some m, if Kp415.validMapping m l = true then _ else _) = _
        rw [if_pos hv]
      refine ⟨_, rfl, rfl, _, rfl, ite2 (fun cc => ?_) (fun cc => absurd rfl cc)⟩
      refine ⟨_, rfl, _, rfl, x, dm, _, rfl, e14 _ _ h2, sF_no (by decide +kernel) (by decide +kernel) (by decide +kernel) t p r0, x, z, _, rfl, hx'.same e14, fun H5 y e5 fy => ?_⟩
      refine cat_k (e5 _ _ hq) fy (le500 3 rfl) (le500 2 rfl) fun H6 q6 e6 _ hq6 => ?_
      exact o.keep er hh' (e1.trans (e14.trans (e5.trans e6))) hq6
  · rcases hc with ⟨rfl, rfl⟩ | ⟨rfl, rfl⟩
    · show (if Kp415.validMapping m l = true then _ else _) = _
      rw [if_neg (by rw [hv]; decide)]
    · show (some m, if Kp415.validMapping m l = true then _ else _) = _
      rw [if_neg (by rw [hv]; decide)]
end
end Sg
/-! ### M. the hall's ways in -/
namespace Sg
open PySem PySem.Spec PyProof.Rows L2
theorem jT_nonneg {m : Kp415.Model} (h : MOk m) (r : List Nat) : 0 ≤ jT m r := Rat.mul_nonneg h.pt0 (product_nonneg fun x hx => by
  obtain ⟨s, _, rfl⟩ := List.mem_map.mp hx
  exact share_nonneg _ _)
theorem jP_nonneg {m : Kp415.Model} (h : MOk m) (r : List Nat) : 0 ≤ jP m r := Rat.mul_nonneg h.pp0 (product_nonneg fun x hx => by
  obtain ⟨s, _, rfl⟩ := List.mem_map.mp hx
  exact share_nonneg _ _)
/-- the signals of a row that don't exist -/
def odd (n : Nat) (l : List Nat) : List Nat := l.filter fun s => decide (n ≤ s)
theorem odd_nil {m : Kp415.Model} {l : List Nat} : odd m.testWeights.length l = [] ↔ l.all (Kp415.isSignal m) = true := by
  unfold odd
  rw [List.filter_eq_nil_iff, List.all_eq_true]
  constructor
  · intro h s hs
    have := h s hs
    exact decide_eq_true (show s < m.testWeights.length by
      have k : ¬ m.testWeights.length ≤ s := fun z => this (decide_eq_true z)
      omega)
  · intro h s hs k
    have h1 : s < m.testWeights.length := of_decide_eq_true (h s hs)
    have h2 := of_decide_eq_true k
    omega
theorem odd_take {n : Nat} {l : List Nat} {i s : Nat} (h : l[i]? = some s) : odd n (l.take (i + 1)) = odd n (l.take i) ++ if n ≤ s then [s] else [] := by
  unfold odd
  rw [take_succ h, List.filter_append]
  congr 1
  by_cases k : n ≤ s
  · rw [if_pos k]
    simp [k]
  · rw [if_neg k]
    simp [k]
theorem nints_empty (l : List Nat) : (nints l).isEmpty = l.isEmpty := by cases l <;> rfl
section
variable {P : Program} {w : World} {K : PySem.W.Frag} {mg : Str → Option Value} {base : Heap} {CS CH CF fI : Addr}
abbrev aRow (K : PySem.W.Frag) : Addr → Hp → Kp415.Model → List V → Kp415.Call → Prop := fun _ H _ us k => ∃ (b : Addr) (l : List Nat), us = [.ref b] ∧ SqL K H b (vN l) ∧ k = .sequencePosterior l
abbrev nSp : List Str := ["self", "row", "many", "test", "production", "signal"]
theorem ok_seqPost (U : Mu K CH "sequence_posterior" "Hall.sequence_posterior" (hM 11) ["self", "row"]) (TH : ClsH K CH) (TS : ClsS K CS) (B : Blt mg) (GW : Gd P w K mg base (L2.CX P w) 3 "want" ["is_so", "code"] (spWant CF)) (GM : Md P w K mg base CX0 1 CS "many" ["self"] (spMany K CS))
    (GJ : Gd P w K mg base CX0 4 "joints" ["model", "row"] (spJoints K CS)) (GX : Gd P w K mg base CX0 2 "plus" two (spTwo K (· + ·) fun _ => True)) (GD : Gd P w K mg base CX0 2 "parted" two (spTwo K (· / ·) fun y => 0 < y))
    {t1 t2 t3 : Tok} (m6 : mg "MOST_SEEN" = some (.int 6 t1)) (mO : mg "OUTSIDE" = some (.int (-22) t2)) (mU : mg "UNDEFINED" = some (.int (-33) t3)) {aN : Addr} (mN : mg "NOUGHT" = some (.ref aN)) (wN : WrT K aN [.int 0, .int 1]) :
    Md P w K mg base (L2.CX P w) 5 CH "sequence_posterior" ["self", "row"] (spH K CS CH CF (aRow K)) := by
  refine U.okX scH11 (spH_len (n := 1) fun z H m us k h => by obtain ⟨b, l, rfl, _⟩ := h; rfl) (fun f cdv A outer s H vs Q E hr h => ?_)
  obtain ⟨z, hall, m, k, us, rfl, hh, ⟨b, l, rfl, hB, rfl⟩, o⟩ := h
  have hh' := hh
  obtain ⟨dx, a, h1, hM⟩ := hh
  obtain ⟨dm, t, p, r0, h2, _⟩ := hM.ex
  refine ⟨_, pss_cons (ps_set (i := 2) scH11.nd rfl (.inr rfl) (pe_m0 GM TS.cl hr (pe_fld (pv 0) rfl) pass0))
    (pss_cons (ps_expr (pe_g GW hr (pa_cons (pe_and (pe_cmpR op_le (pe_callB call_len_seq (by rfl) B.len PySem.boot_len (pa_cons (pv 1) pa_nil)) (pe_glob (v := .int 6) (by rfl) m6 ⟨_, rfl⟩) (nomark _))
        (pe_one (pe_cmpR (op_eqD hr.units) (pe_lc (own := [("signal", 5)]) (g := gName 5) rfl scH11.nd (pi_list (pv 1)) (blkOk_by (N := nSp) (sc := defScope (Sg.hM 11)) (by decide +kernel)) (fun _ _ _ _ _ => pg_name (i := 5) scH11.nd rfl (Or.inl rfl))
          (fun _ _ _ _ _ => pts_one (pt_cmpR op_ge (pv 5) (pv 2) (nomark _))) (fun _ _ _ _ _ => pv 5)) (pe_lst pa_nil) (nomark _))))
      (pa_cons (pe_glob (v := .int (-22)) (by rfl) mO ⟨_, rfl⟩) pa_nil)) passX))
    (pss_cons (ps_asg (pe_g GJ hr (pa_cons (pe_fld (pv 0) rfl) (pa_cons (pv 1) pa_nil)) pass0) (pg_tup (by rfl) (pgs_cons (pg_name (i := 3) scH11.nd rfl (.inl rfl)) (pgs_cons (pg_name (i := 4) scH11.nd rfl (.inl rfl)) pgs_nil))))
    (pss_cons (ps_expr (pe_g GW hr (pa_cons (pe_cmpR (op_neD hr.units) (pe_g GX hr (pa_cons (pv 3) (pa_cons (pv 4) pa_nil)) pass0) (pe_glob (v := .ref aN) (by rfl) mN rfl) (nomark _)) (pa_cons (pe_glob (v := .int (-33)) (by rfl) mU ⟨_, rfl⟩) pa_nil)) passX))
    (pss_one (ps_ret (pe_op op_cat (pe_lst (pa_cons pe_int pa_nil)) (pe_callTy call_list_of (by rfl) B.list boot_li (pa_cons (pe_g GD hr (pa_cons (pv 3) (pa_cons (pe_g GX hr (pa_cons (pv 3) (pa_cons (pv 4) pa_nil)) pass0) pa_nil)) pass0) pa_nil)))))))), ?_⟩
  have bad : (6 < l.length ∨ l.all (Kp415.isSignal m) = false) → Err CF H E (-22) := fun hb => o.2 _ (by
    show (some m, if 6 < l.length ∨ l.all (Kp415.isSignal m) = false then _ else _) = _
    rw [if_pos hb])
  refine ⟨_, rfl, hall, CH, dx, _, _, rfl, h1, TH.cl, TH.nM, hF_model _, a, dm, _, rfl, h2, sF_no (by decide +kernel) (by decide +kernel) (by decide +kernel) t p r0, a, z, m, rfl, hM, ?_⟩
  refine ⟨_, rfl, b, _, rfl, .inl hB, _, 6, rfl, rfl, _, rfl, ite2 (fun c1 => ?_) (fun c1 => ?_)⟩
  · have g1 : l.length ≤ 6 := by
      have := of_decide_eq_true c1
      rw [vN_len] at this
      omega
    refine ⟨_, rfl, b, rfl, ⟨_, hB⟩, fun D hD => ?_⟩
    refine lc_list (K := K) (a := b) (xs := vN l) (fun i H' => Same H H' ∧ H' D = some (.lst (vN (odd m.testWeights.length (l.take i))))) ⟨same_upd hD, upd_same⟩ (fun i H' _ hP => hP.1.seq hB) (fun i x H' hx hP => ?_) (fun H' hP => ?_)
    · obtain ⟨e, hL⟩ := hP
      have hi : i < l.length := by
        rw [← vN_len]
        exact (List.getElem?_eq_some_iff.mp hx).1
      rw [vN_at hi] at hx
      have ex := Option.some.inj hx
      subst ex
      have hget : l[i]? = some (l.getD i 0) := by
        rw [List.getD_eq_getElem?_getD, List.getElem?_eq_getElem hi]
        rfl
      have hst := odd_take (n := m.testWeights.length) hget
      generalize l.getD i 0 = x at hst
      refine ⟨rfl, _, rfl, _, rfl, _, _, rfl, rfl, _, rfl, ite2 (fun c => ?_) (fun c => ?_)⟩
      · have hc : m.testWeights.length ≤ x := by
          have := of_decide_eq_true c
          omega
        refine ⟨_, rfl, _, hL, ?_, same_grow hD e, ?_⟩
        · have hlen : (odd m.testWeights.length (l.take i)).length ≤ (l.take i).length := List.length_filter_le _ _
          rw [vN_len]
          rw [List.length_take] at hlen
          exact small1000 (by omega)
        · rw [upd_same, hst, if_pos hc, ← vN_snoc]
      · have hc : ¬ m.testWeights.length ≤ x := fun z => c (decide_eq_true (by omega))
        refine ⟨e, ?_⟩
        rw [hst, if_neg hc, List.append_nil]
        exact hL
    · obtain ⟨e, hL⟩ := hP
      rw [vN_len, List.take_length] at hL
      refine ⟨Nat.zero_le _, fun l0 nl0 => ?_⟩
      have e0 : Same H' (upd H' l0 (.lst [])) := same_upd nl0
      have e1 := e.trans e0
      refine ⟨.list ((nints (odd m.testWeights.length l)).map PyData.int), .list [], .lst (SqL.of (e0 _ _ hL)) (dp_ints _), .lst (SqL.of upd_same) .nil, shaped_ints _, rfl, ?_⟩
      rw [eqv_empty, nints_empty]
      refine ⟨_, _, rfl, fun c2 => ?_, fun c2 => ?_⟩
      · have g2 : l.all (Kp415.isSignal m) = true := odd_nil.mp (List.isEmpty_iff.mp c2)
        have g3 : ∀ s ∈ l, s < m.testWeights.length := fun s hs => of_decide_eq_true (List.all_eq_true.mp g2 s hs)
        have hB1 := e1.seq hB
        refine ⟨_, rfl, hall, CH, dx, _, _, rfl, e1 _ _ h1, TH.cl, TH.nM, hF_model _, _, rfl, a, z, b, m, l, rfl, hM.same e1, hB1, g1, g3, fun H2 u x y e2 fu fx fy => ?_⟩
        refine ⟨u, _, rfl, fu, rfl, _, _, rfl, _, _, rfl, rfl, ?_⟩
        have sT : Sm 62 (jT m l) := hM.ok.prior.mul (sm_row (m := m) (g := Kp415.testShare) hM.ok.ts g1)
        have sP : Sm 64 (jP m l) := hM.ok.prodPrior.mul (sm_row (m := m) (g := Kp415.productionShare) hM.ok.ps g1)
        refine ⟨_, rfl, _, rfl, x, y, _, _, 62, 64, rfl, fx, fy, sT, sP, by decide, trivial, fun H3 v e3 fv => ?_⟩
        refine ⟨_, _, fv.data, nought_data wN, rfl, rfl, ?_⟩
        rw [eqv_nought]
        refine ⟨_, _, rfl, fun c3 => ?_, fun c3 => ?_⟩
        · have hne : ¬ jT m l + jP m l = 0 := fun z => by
            rw [decide_eq_true z] at c3
            cases c3
          have er : Kp415.step (some m) (.sequencePosterior l) = (some m, Kp415.withFraction 0 (jT m l / (jT m l + jP m l))) := by
            show (some m, if 6 < l.length ∨ l.all (Kp415.isSignal m) = false then _ else if jT m l + jP m l = 0 then _ else _) = _
            rw [if_neg (by rw [g2]; rintro (z | z); omega; cases z), if_neg hne]
            rfl
          refine ⟨(by show 1 ≤ sizeLine; decide), fun l2 nl2 => ?_⟩
          have e4 : Same H3 (upd H3 l2 (.lst [.int 0])) := same_upd nl2
          have e34 := e3.trans e4
          refine ⟨_, rfl, _, rfl, _, rfl, x, y, _, _, 62, 64, rfl, fx.same e34, fy.same e34, sT, sP, by decide, trivial, fun H5 v5 e5 fv5 => ?_⟩
          have hpos := pos_of (Rat.add_nonneg (jT_nonneg hM.ok l) (jP_nonneg hM.ok l)) hne
          refine ⟨x, v5, _, _, 62, 127, rfl, (fx.same e34).same e5, fv5, sT, sT.add sP, by decide, hpos, fun H6 v6 e6 fv6 => ?_⟩
          exact cat_k (e6 _ _ (e5 _ _ upd_same)) fv6 (le500 1 rfl) (le500 2 rfl) fun H7 q e7 _ hq => o.keep er hh' (e1.trans (e2.trans (e34.trans (e5.trans (e6.trans e7))))) hq
        · have heq : jT m l + jP m l = 0 := by
            cases hz : decide (jT m l + jP m l = 0) with
            | true => exact of_decide_eq_true hz
            | false =>
              replace c3 : (!decide (jT m l + jP m l = 0)) = false := c3
              rw [hz] at c3
              cases c3
          refine (o.2 (-33) ?_).same (e1.trans (e2.trans e3))
          show (some m, if 6 < l.length ∨ l.all (Kp415.isSignal m) = false then _ else if jT m l + jP m l = 0 then _ else _) = _
          rw [if_neg (by rw [g2]; rintro (z | z); omega; cases z), if_pos heq]
      · refine (bad (.inr ?_)).same e1
        cases hz : l.all (Kp415.isSignal m) with
        | false => rfl
        | true =>
          rw [odd_nil.mpr hz] at c2
          cases c2
  · refine ⟨_, _, rfl, fun c3 => Bool.noConfusion c3, fun c3 => bad (.inl ?_)⟩
    have k : ¬ ((vN l).length : Int) ≤ 6 := fun z => c1 (decide_eq_true z)
    rw [vN_len] at k
    omega
end
end Sg
/-! ### N. early, late, answer -/
namespace Sg
open PySem PySem.Spec PyProof.Rows L2
theorem if_yes {c : Bool} {A B : Prop} (hc : c = true) (h : A) : if c = true then A else B := by
  rw [if_pos hc]
  exact h
theorem if_no {c : Bool} {A B : Prop} (hc : c = false) (h : B) : if c = true then A else B := by
  rw [hc, if_neg Bool.false_ne_true]
  exact h
section
variable {P : Program} {w : World} {K : PySem.W.Frag} {mg : Str → Option Value} {base : Heap} {CS CH CF fI : Addr}
theorem FnOk.lift {k : Nat} {f : Addr} {fd : FuncData} {ps : List Str} {sp : Sp} (F : FnOk P w K mg base CX0 k f fd ps sp) (CX : CXT) : FnOk P w K mg base CX k f fd ps sp :=
  ⟨F.len, fun A outer s H args us vs Q E hr he hb hv hs => codeAny_mono (F.run A outer s H args us vs Q E hr he hb hv hs) fun r s' h => by
    cases r with
    | ok fl => cases fl <;> exact h
    | error e => exact False.elim h⟩
theorem Md.lift {k : Nat} {C : Addr} {m : Str} {ps : List Str} {sp : Sp} (G : Md P w K mg base CX0 k C m ps sp) (CX : CXT) : Md P w K mg base CX k C m ps sp := by
  obtain ⟨f, fd, F, a, b⟩ := G.ex
  exact ⟨f, fd, FnOk.lift F CX, a, b⟩
/-- early, late: the operation's number lies between lo and hi -/
abbrev aWay (lo hi : Int) : Addr → Hp → Kp415.Model → List V → Kp415.Call → Prop := fun z H _ us k => ∃ (c : Int) (b : Addr) (ns : List Int), us = [.int c, .ref b] ∧ H b = some (.lst (vI ns)) ∧ b ≠ z ∧ (∃ o, H z = some o) ∧ Ask c ns k ∧ lo ≤ c ∧ c ≤ hi
theorem aWay_len {lo hi : Int} (z : Addr) (H : Hp) (m : Kp415.Model) (us : List V) (k : Kp415.Call) (h : aWay lo hi z H m us k) : us.length = 2 := by
  obtain ⟨c, b, ns, rfl, _⟩ := h
  rfl
theorem one_at (a : Int) : atI (vI [a]) 0 = some (.int a) := atI_nat (j := 0) rfl
abbrev nEa : List Str := ["self", "call", "numbers", "model"]
theorem ok_early (U : Mu K CH "early" "Hall.early" (hM 17) ["self", "call", "numbers"]) (TH : ClsH K CH) (TS : ClsS K CS) (B : Blt mg)
    (G12 : Md P w K mg base (L2.CX P w) 4 CH "set_weights" ["self", "weights", "is_test"] (spH K CS CH CF aWts))
    (G3 : Md P w K mg base (L2.CX P w) 5 CH "set_prior" ["self", "numbers"] (spH K CS CH CF (aFrac K .setPrior)))
    (GM : Md P w K mg base CX0 1 CS "many" ["self"] (spMany K CS))
    (G56 : Md P w K mg base (L2.CX P w) 7 CH "of_signal" ["self", "call", "signal"] (spH K CS CH CF aOf))
    (G7 : Md P w K mg base (L2.CX P w) 7 CH "certainty" ["self", "signal"] (spH K CS CH CF (aSig .certainty)))
    (G8 : Md P w K mg base CX0 4 CS "variation" ["self"] (spMod K CS Kp415.totalVariation))
    (G9 : Md P w K mg base CX0 5 CS "accuracy" ["self"] (spMod K CS Kp415.bestAccuracy))
    (G10' : Md P w K mg base CX0 5 CH "guesses" ["self"] (spH K CS CH CF (aNone .bestGuesses)))
    (G11 : Md P w K mg base CX0 4 CS "blind" ["self"] (spMod K CS Kp415.blindAccuracy)) :
    Md P w K mg base (L2.CX P w) 8 CH "early" ["self", "call", "numbers"] (spH K CS CH CF (aWay 1 11)) := by
  have G10 := G10'.lift (L2.CX P w)
  refine U.okX scH17 (spH_len aWay_len) (fun f cdv A outer s H vs Q E hr h => ?_)
  obtain ⟨z, hall, m, k, us, rfl, hh, ⟨c, b, ns, rfl, hB, hbz, hz, hA, hlo, hhi⟩, o⟩ := h
  have hh' := hh
  obtain ⟨dx, a, h1, hM⟩ := hh
  obtain ⟨dm, t, p, r0, h2, h3, h4, h5, ht, hp⟩ := hM.ex
  have n5 := hM.ok.n5
  refine ⟨_, pss_cons (ps_set (i := 3) scH17.nd rfl (.inl rfl) (pe_fld (pv 0) rfl))
    (pss_cons (ps_if (pt_cmpR op_in_seq (pv 1) (pe_tup (pa_cons pe_int (pa_cons pe_int pa_nil))) rfl) (pss_one (ps_ret (pe_m G12 TH.cl hr (pv 0) (pa_cons (pv 2) (pa_cons (pe_cmpR op_eq (pv 1) pe_int (nomark _)) pa_nil)) passX))) pss_nil)
    (pss_cons (ps_if (pt_cmpR op_eq (pv 1) pe_int (nomark _)) (pss_one (ps_ret (pe_m G3 TH.cl hr (pv 0) (pa_cons (pv 2) pa_nil) passX))) pss_nil)
    (pss_cons (ps_if (pt_cmpR op_eq (pv 1) pe_int (nomark _)) (pss_one (ps_ret (pe_op op_cat (pe_op op_cat (pe_lst (pa_cons (pe_m0 GM TS.cl hr (pv 3) pass0) pa_nil)) (pe_fld (pv 3) rfl)) (pe_fld (pv 3) rfl)))) pss_nil)
    (pss_cons (ps_if (pt_cmpR op_in_seq (pv 1) (pe_tup (pa_cons pe_int (pa_cons pe_int pa_nil))) rfl) (pss_one (ps_ret (pe_m G56 TH.cl hr (pv 0) (pa_cons (pv 1) (pa_cons (pe_ix ix_list (pv 2) pe_int (fun _ _ => rfl)) pa_nil)) passX))) pss_nil)
    (pss_cons (ps_if (pt_cmpR op_eq (pv 1) pe_int (nomark _)) (pss_one (ps_ret (pe_m G7 TH.cl hr (pv 0) (pa_cons (pe_ix ix_list (pv 2) pe_int (fun _ _ => rfl)) pa_nil) passX))) pss_nil)
    (pss_cons (ps_if (pt_cmpR op_eq (pv 1) pe_int (nomark _)) (pss_one (ps_ret (pe_op op_cat (pe_lst (pa_cons pe_int pa_nil)) (pe_callTy call_list_of (by rfl) B.list boot_li (pa_cons (pe_m0 G8 TS.cl hr (pv 3) pass0) pa_nil))))) pss_nil)
    (pss_cons (ps_if (pt_cmpR op_eq (pv 1) pe_int (nomark _)) (pss_one (ps_ret (pe_op op_cat (pe_lst (pa_cons pe_int pa_nil)) (pe_callTy call_list_of (by rfl) B.list boot_li (pa_cons (pe_m0 G9 TS.cl hr (pv 3) pass0) pa_nil))))) pss_nil)
    (pss_one (ps_ret (pe_ifExp (pt_cmpR op_eq (pv 1) pe_int (nomark _)) (pe_m0 G10 TH.cl hr (pv 0) passX)
      (pe_op op_cat (pe_lst (pa_cons pe_int pa_nil)) (pe_callTy call_list_of (by rfl) B.list boot_li (pa_cons (pe_m0 G11 TS.cl hr (pv 3) pass0) pa_nil))))))))))))), ?_⟩
  refine ⟨_, rfl, hall, CH, dx, _, _, rfl, h1, TH.cl, TH.nM, hF_model _, ?_⟩
  refine ⟨_, rfl, (by show 2 ≤ sizeLine; decide), fun p1 np1 => ?_⟩
  have e1 : Same H (upd H p1 (.tup [.int 1, .int 2])) := same_upd np1
  refine ⟨p1, _, rfl, .inr (SqT.of upd_same), rfl, rfl, _, rfl, ?_⟩
  generalize upd H p1 (.tup [.int 1, .int 2]) = H1 at e1
  cases hA with
  | setT l hl =>
    refine if_yes rfl ?_
    exact ⟨_, rfl, hall, dx, _, rfl, e1 _ _ h1, hF_no (by decide +kernel) _, _, rfl, _, rfl, rfl, z, hall, m, _, _, rfl, hh'.same e1, ⟨b, l, true, rfl, e1 _ _ hB, hbz, rfl⟩, o.same e1⟩
  | setP l hl =>
    refine if_yes rfl ?_
    exact ⟨_, rfl, hall, dx, _, rfl, e1 _ _ h1, hF_no (by decide +kernel) _, _, rfl, _, rfl, rfl, z, hall, m, _, _, rfl, hh'.same e1, ⟨b, l, false, rfl, e1 _ _ hB, hbz, rfl⟩, o.same e1⟩
  | prior u d =>
    refine if_no rfl ⟨_, rfl, rfl, _, rfl, if_yes rfl ?_⟩
    exact ⟨_, rfl, hall, dx, _, rfl, e1 _ _ h1, hF_no (by decide +kernel) _, _, rfl, z, hall, m, _, _, rfl, hh'.same e1, ⟨b, u, d, rfl, SqL.of (e1 _ _ hB), rfl⟩, o.same e1⟩
  | weights =>
    refine if_no rfl ⟨_, rfl, rfl, _, rfl, if_no rfl ⟨_, rfl, rfl, _, rfl, if_yes rfl ?_⟩⟩
    refine ⟨_, rfl, a, dm, _, rfl, e1 _ _ h2, sF_no (by decide +kernel) (by decide +kernel) (by decide +kernel) t p r0, a, z, m, rfl, hM.same e1, (by show 1 ≤ sizeLine; decide), fun l0 nl0 => ?_⟩
    have e2 := e1.trans (same_upd (o := .lst [.int (m.testWeights.length : Int)]) nl0)
    refine ⟨_, rfl, a, CS, dm, _, _, rfl, e2 _ _ h2, TS.cl, TS.nT, sF_test t p r0, ?_⟩
    refine ⟨l0, t, _, _, rfl, rfl, upd_same, e2 _ _ h3, ?_, fun l1 nl1 => ?_⟩
    · rw [vN_len]
      exact Nat.le_of_lt (small1000 (by show 1 + m.testWeights.length ≤ 1000; omega))
    have e3 := e2.trans (same_upd (o := .lst ([.int (m.testWeights.length : Int)] ++ vN m.testWeights)) nl1)
    refine ⟨_, rfl, a, CS, dm, _, _, rfl, e3 _ _ h2, TS.cl, TS.nP, sF_prod t p r0, ?_⟩
    refine ⟨l1, p, _, _, rfl, rfl, upd_same, e3 _ _ h4, ?_, fun l2 nl2 => ?_⟩
    · rw [List.length_append, vN_len, vN_len, hM.ok.len]
      exact Nat.le_of_lt (small1000 (by show 1 + m.testWeights.length + m.testWeights.length ≤ 1000; omega))
    refine o.keep (a := ⟨(Kp415.signalCount m : Int), (m.testWeights ++ m.productionWeights).map fun (x : Nat) => (x : Int)⟩) rfl hh' (e3.trans (same_upd nl2)) (upd_same.trans ?_)
    simp [vI, vN, nints, Kp415.signalCount]
  | prob s =>
    refine if_no rfl ⟨_, rfl, rfl, _, rfl, if_no rfl ⟨_, rfl, rfl, _, rfl, if_no rfl ⟨_, rfl, (by show 2 ≤ sizeLine; decide), fun p2 np2 => ?_⟩⟩⟩
    refine ⟨p2, _, rfl, .inr (SqT.of upd_same), rfl, rfl, _, rfl, if_yes rfl ?_⟩
    have e2 := e1.trans (same_upd (o := .tup [.int 5, .int 6]) np2)
    exact ⟨_, rfl, hall, dx, _, rfl, e2 _ _ h1, hF_no (by decide +kernel) _, _, rfl, _, rfl, b, _, _, _, rfl, rfl, SqL.of (e2 _ _ hB), one_at _, z, hall, m, _, _, rfl, hh'.same e2, ⟨_, s, rfl, .inl ⟨rfl, rfl⟩⟩, o.same e2⟩
  | post s =>
    refine if_no rfl ⟨_, rfl, rfl, _, rfl, if_no rfl ⟨_, rfl, rfl, _, rfl, if_no rfl ⟨_, rfl, (by show 2 ≤ sizeLine; decide), fun p2 np2 => ?_⟩⟩⟩
    refine ⟨p2, _, rfl, .inr (SqT.of upd_same), rfl, rfl, _, rfl, if_yes rfl ?_⟩
    have e2 := e1.trans (same_upd (o := .tup [.int 5, .int 6]) np2)
    exact ⟨_, rfl, hall, dx, _, rfl, e2 _ _ h1, hF_no (by decide +kernel) _, _, rfl, _, rfl, b, _, _, _, rfl, rfl, SqL.of (e2 _ _ hB), one_at _, z, hall, m, _, _, rfl, hh'.same e2, ⟨_, s, rfl, .inr ⟨rfl, rfl⟩⟩, o.same e2⟩
  | cert s =>
    refine if_no rfl ⟨_, rfl, rfl, _, rfl, if_no rfl ⟨_, rfl, rfl, _, rfl, if_no rfl ⟨_, rfl, (by show 2 ≤ sizeLine; decide), fun p2 np2 => ?_⟩⟩⟩
    refine ⟨p2, _, rfl, .inr (SqT.of upd_same), rfl, rfl, _, rfl, if_no rfl ⟨_, rfl, rfl, _, rfl, if_yes rfl ?_⟩⟩
    have e2 := e1.trans (same_upd (o := .tup [.int 5, .int 6]) np2)
    exact ⟨_, rfl, hall, dx, _, rfl, e2 _ _ h1, hF_no (by decide +kernel) _, _, rfl, b, _, _, _, rfl, rfl, SqL.of (e2 _ _ hB), one_at _, z, hall, m, _, _, rfl, hh'.same e2, ⟨s, rfl, rfl⟩, o.same e2⟩
  | tv =>
    refine if_no rfl ⟨_, rfl, rfl, _, rfl, if_no rfl ⟨_, rfl, rfl, _, rfl, if_no rfl ⟨_, rfl, (by show 2 ≤ sizeLine; decide), fun p2 np2 => ?_⟩⟩⟩
    refine ⟨p2, _, rfl, .inr (SqT.of upd_same), rfl, rfl, _, rfl, if_no rfl ⟨_, rfl, rfl, _, rfl, if_no rfl ⟨_, rfl, rfl, _, rfl, if_yes rfl ?_⟩⟩⟩
    have e2 := e1.trans (same_upd (o := .tup [.int 5, .int 6]) np2)
    refine ⟨(by show 1 ≤ sizeLine; decide), fun l0 nl0 => ?_⟩
    have e3 := e2.trans (same_upd (o := .lst [.int 0]) nl0)
    refine ⟨_, rfl, a, dm, _, rfl, e3 _ _ h2, sF_no (by decide +kernel) (by decide +kernel) (by decide +kernel) t p r0, a, z, m, rfl, hM.same e3, fun H4 x e4 fx => ?_⟩
    exact cat_k (e4 _ _ upd_same) fx (le500 1 rfl) (le500 2 rfl) fun H5 q e5 _ hq => o.keep (a := Kp415.withFraction 0 (Kp415.totalVariation m)) rfl hh' (e3.trans (e4.trans e5)) hq
  | acc =>
    refine if_no rfl ⟨_, rfl, rfl, _, rfl, if_no rfl ⟨_, rfl, rfl, _, rfl, if_no rfl ⟨_, rfl, (by show 2 ≤ sizeLine; decide), fun p2 np2 => ?_⟩⟩⟩
    refine ⟨p2, _, rfl, .inr (SqT.of upd_same), rfl, rfl, _, rfl, if_no rfl ⟨_, rfl, rfl, _, rfl, if_no rfl ⟨_, rfl, rfl, _, rfl, if_no rfl ⟨_, rfl, rfl, _, rfl, if_yes rfl ?_⟩⟩⟩⟩
    have e2 := e1.trans (same_upd (o := .tup [.int 5, .int 6]) np2)
    refine ⟨(by show 1 ≤ sizeLine; decide), fun l0 nl0 => ?_⟩
    have e3 := e2.trans (same_upd (o := .lst [.int 0]) nl0)
    refine ⟨_, rfl, a, dm, _, rfl, e3 _ _ h2, sF_no (by decide +kernel) (by decide +kernel) (by decide +kernel) t p r0, a, z, m, rfl, hM.same e3, fun H4 x e4 fx => ?_⟩
    exact cat_k (e4 _ _ upd_same) fx (le500 1 rfl) (le500 2 rfl) fun H5 q e5 _ hq => o.keep (a := Kp415.withFraction 0 (Kp415.bestAccuracy m)) rfl hh' (e3.trans (e4.trans e5)) hq
  | guess =>
    refine if_no rfl ⟨_, rfl, rfl, _, rfl, if_no rfl ⟨_, rfl, rfl, _, rfl, if_no rfl ⟨_, rfl, (by show 2 ≤ sizeLine; decide), fun p2 np2 => ?_⟩⟩⟩
    refine ⟨p2, _, rfl, .inr (SqT.of upd_same), rfl, rfl, _, rfl, if_no rfl ⟨_, rfl, rfl, _, rfl, if_no rfl ⟨_, rfl, rfl, _, rfl, if_no rfl ⟨_, rfl, rfl, _, rfl, if_no rfl ⟨_, rfl, rfl, _, rfl, if_yes rfl ?_⟩⟩⟩⟩⟩
    have e2 := e1.trans (same_upd (o := .tup [.int 5, .int 6]) np2)
    exact ⟨_, rfl, hall, dx, _, rfl, e2 _ _ h1, hF_no (by decide +kernel) _, z, hall, m, _, _, rfl, hh'.same e2, ⟨rfl, rfl⟩, o.same e2⟩
  | blind =>
    refine if_no rfl ⟨_, rfl, rfl, _, rfl, if_no rfl ⟨_, rfl, rfl, _, rfl, if_no rfl ⟨_, rfl, (by show 2 ≤ sizeLine; decide), fun p2 np2 => ?_⟩⟩⟩
    refine ⟨p2, _, rfl, .inr (SqT.of upd_same), rfl, rfl, _, rfl, if_no rfl ⟨_, rfl, rfl, _, rfl, if_no rfl ⟨_, rfl, rfl, _, rfl, if_no rfl ⟨_, rfl, rfl, _, rfl, if_no rfl ⟨_, rfl, rfl, _, rfl, if_no rfl ?_⟩⟩⟩⟩⟩
    have e2 := e1.trans (same_upd (o := .tup [.int 5, .int 6]) np2)
    refine ⟨(by show 1 ≤ sizeLine; decide), fun l0 nl0 => ?_⟩
    have e3 := e2.trans (same_upd (o := .lst [.int 0]) nl0)
    refine ⟨_, rfl, a, dm, _, rfl, e3 _ _ h2, sF_no (by decide +kernel) (by decide +kernel) (by decide +kernel) t p r0, a, z, m, rfl, hM.same e3, fun H4 x e4 fx => ?_⟩
    exact cat_k (e4 _ _ upd_same) fx (le500 1 rfl) (le500 2 rfl) fun H5 q e5 _ hq => o.keep (a := Kp415.withFraction 0 (Kp415.blindAccuracy m)) rfl hh' (e3.trans (e4.trans e5)) hq
  | create n => exact absurd hlo (by decide)
  | merge l hl => exact absurd hhi (by decide)
  | preview l hl => exact absurd hhi (by decide)
  | seqTv n => exact absurd hhi (by decide)
  | seqAcc n => exact absurd hhi (by decide)
  | seqPost l hl => exact absurd hhi (by decide)
  | shares n => exact absurd hhi (by decide)
  | detector u d => exact absurd hhi (by decide)
  | gap => exact absurd hhi (by decide)
  | forPrior u d => exact absurd hhi (by decide)
theorem ok_late (U : Mu K CH "late" "Hall.late" (hM 18) ["self", "call", "numbers"]) (TH : ClsH K CH)
    (G12 : Md P w K mg base (L2.CX P w) 6 CH "merge" ["self", "call", "mapping"] (spH K CS CH CF (aMrg K)))
    (G14 : Md P w K mg base (L2.CX P w) 6 CH "sequence" ["self", "call", "length"] (spH K CS CH CF aSeq))
    (G16 : Md P w K mg base (L2.CX P w) 5 CH "sequence_posterior" ["self", "row"] (spH K CS CH CF (aRow K)))
    (G17 : Md P w K mg base (L2.CX P w) 5 CH "set_shares" ["self", "mask"] (spH K CS CH CF (aSig .setShares)))
    (G18 : Md P w K mg base (L2.CX P w) 6 CH "detector" ["self", "numbers"] (spH K CS CH CF (aFrac K .bestDetector)))
    (G19' : Md P w K mg base CX0 6 CH "gap" ["self"] (spH K CS CH CF (aNone .widestGapSet)))
    (G20 : Md P w K mg base (L2.CX P w) 6 CH "for_prior" ["self", "numbers"] (spH K CS CH CF (aFrac K .accuracyForPrior))) :
    Md P w K mg base (L2.CX P w) 8 CH "late" ["self", "call", "numbers"] (spH K CS CH CF (aWay 12 20)) := by
  have G19 := G19'.lift (L2.CX P w)
  refine U.okX scH18 (spH_len aWay_len) (fun f cdv A outer s H vs Q E hr h => ?_)
  obtain ⟨z, hall, m, k, us, rfl, hh, ⟨c, b, ns, rfl, hB, hbz, hz, hA, hlo, hhi⟩, o⟩ := h
  have hh' := hh
  obtain ⟨dx, a, h1, hM⟩ := hh
  refine ⟨_, pss_cons (ps_if (pt_cmpR op_in_seq (pv 1) (pe_tup (pa_cons pe_int (pa_cons pe_int pa_nil))) rfl) (pss_one (ps_ret (pe_m G12 TH.cl hr (pv 0) (pa_cons (pv 1) (pa_cons (pv 2) pa_nil)) passX))) pss_nil)
    (pss_cons (ps_if (pt_cmpR op_in_seq (pv 1) (pe_tup (pa_cons pe_int (pa_cons pe_int pa_nil))) rfl) (pss_one (ps_ret (pe_m G14 TH.cl hr (pv 0) (pa_cons (pv 1) (pa_cons (pe_ix ix_list (pv 2) pe_int (fun _ _ => rfl)) pa_nil)) passX))) pss_nil)
    (pss_cons (ps_if (pt_cmpR op_eq (pv 1) pe_int (nomark _)) (pss_one (ps_ret (pe_m G16 TH.cl hr (pv 0) (pa_cons (pv 2) pa_nil) passX))) pss_nil)
    (pss_cons (ps_if (pt_cmpR op_eq (pv 1) pe_int (nomark _)) (pss_one (ps_ret (pe_m G17 TH.cl hr (pv 0) (pa_cons (pe_ix ix_list (pv 2) pe_int (fun _ _ => rfl)) pa_nil) passX))) pss_nil)
    (pss_cons (ps_if (pt_cmpR op_eq (pv 1) pe_int (nomark _)) (pss_one (ps_ret (pe_m G18 TH.cl hr (pv 0) (pa_cons (pv 2) pa_nil) passX))) pss_nil)
    (pss_one (ps_ret (pe_ifExp (pt_cmpR op_eq (pv 1) pe_int (nomark _)) (pe_m0 G19 TH.cl hr (pv 0) passX) (pe_m G20 TH.cl hr (pv 0) (pa_cons (pv 2) pa_nil) passX)))))))), ?_⟩
  refine ⟨_, rfl, (by show 2 ≤ sizeLine; decide), fun p1 np1 => ?_⟩
  have e1 : Same H (upd H p1 (.tup [.int 12, .int 13])) := same_upd np1
  refine ⟨p1, _, rfl, .inr (SqT.of upd_same), rfl, rfl, _, rfl, ?_⟩
  generalize upd H p1 (.tup [.int 12, .int 13]) = H1 at e1
  cases hA with
  | merge l hl =>
    refine if_yes rfl ?_
    obtain ⟨oz, hz⟩ := hz
    exact ⟨_, rfl, hall, dx, _, rfl, e1 _ _ h1, hF_no (by decide +kernel) _, _, rfl, _, rfl, z, hall, m, _, _, rfl, hh'.same e1, ⟨_, b, l, rfl, SqL.of (e1 _ _ hB), ⟨oz, e1 _ _ hz⟩, .inl ⟨rfl, rfl⟩⟩, o.same e1⟩
  | preview l hl =>
    refine if_yes rfl ?_
    obtain ⟨oz, hz⟩ := hz
    exact ⟨_, rfl, hall, dx, _, rfl, e1 _ _ h1, hF_no (by decide +kernel) _, _, rfl, _, rfl, z, hall, m, _, _, rfl, hh'.same e1, ⟨_, b, l, rfl, SqL.of (e1 _ _ hB), ⟨oz, e1 _ _ hz⟩, .inr ⟨rfl, rfl⟩⟩, o.same e1⟩
  | seqTv n =>
    refine if_no rfl ⟨_, rfl, (by show 2 ≤ sizeLine; decide), fun p2 np2 => ?_⟩
    refine ⟨p2, _, rfl, .inr (SqT.of upd_same), rfl, rfl, _, rfl, if_yes rfl ?_⟩
    have e2 := e1.trans (same_upd (o := .tup [.int 14, .int 15]) np2)
    exact ⟨_, rfl, hall, dx, _, rfl, e2 _ _ h1, hF_no (by decide +kernel) _, _, rfl, _, rfl, b, _, _, _, rfl, rfl, SqL.of (e2 _ _ hB), one_at _, z, hall, m, _, _, rfl, hh'.same e2, ⟨_, n, rfl, .inl ⟨rfl, rfl⟩⟩, o.same e2⟩
  | seqAcc n =>
    refine if_no rfl ⟨_, rfl, (by show 2 ≤ sizeLine; decide), fun p2 np2 => ?_⟩
    refine ⟨p2, _, rfl, .inr (SqT.of upd_same), rfl, rfl, _, rfl, if_yes rfl ?_⟩
    have e2 := e1.trans (same_upd (o := .tup [.int 14, .int 15]) np2)
    exact ⟨_, rfl, hall, dx, _, rfl, e2 _ _ h1, hF_no (by decide +kernel) _, _, rfl, _, rfl, b, _, _, _, rfl, rfl, SqL.of (e2 _ _ hB), one_at _, z, hall, m, _, _, rfl, hh'.same e2, ⟨_, n, rfl, .inr ⟨rfl, rfl⟩⟩, o.same e2⟩
  | seqPost l hl =>
    refine if_no rfl ⟨_, rfl, (by show 2 ≤ sizeLine; decide), fun p2 np2 => ?_⟩
    refine ⟨p2, _, rfl, .inr (SqT.of upd_same), rfl, rfl, _, rfl, if_no rfl ⟨_, rfl, rfl, _, rfl, if_yes rfl ?_⟩⟩
    have e2 := e1.trans (same_upd (o := .tup [.int 14, .int 15]) np2)
    exact ⟨_, rfl, hall, dx, _, rfl, e2 _ _ h1, hF_no (by decide +kernel) _, _, rfl, z, hall, m, _, _, rfl, hh'.same e2, ⟨b, l, rfl, SqL.of (e2 _ _ hB), rfl⟩, o.same e2⟩
  | shares n =>
    refine if_no rfl ⟨_, rfl, (by show 2 ≤ sizeLine; decide), fun p2 np2 => ?_⟩
    refine ⟨p2, _, rfl, .inr (SqT.of upd_same), rfl, rfl, _, rfl, if_no rfl ⟨_, rfl, rfl, _, rfl, if_no rfl ⟨_, rfl, rfl, _, rfl, if_yes rfl ?_⟩⟩⟩
    have e2 := e1.trans (same_upd (o := .tup [.int 14, .int 15]) np2)
    exact ⟨_, rfl, hall, dx, _, rfl, e2 _ _ h1, hF_no (by decide +kernel) _, _, rfl, b, _, _, _, rfl, rfl, SqL.of (e2 _ _ hB), one_at _, z, hall, m, _, _, rfl, hh'.same e2, ⟨n, rfl, rfl⟩, o.same e2⟩
  | detector u d =>
    refine if_no rfl ⟨_, rfl, (by show 2 ≤ sizeLine; decide), fun p2 np2 => ?_⟩
    refine ⟨p2, _, rfl, .inr (SqT.of upd_same), rfl, rfl, _, rfl, if_no rfl ⟨_, rfl, rfl, _, rfl, if_no rfl ⟨_, rfl, rfl, _, rfl, if_no rfl ⟨_, rfl, rfl, _, rfl, if_yes rfl ?_⟩⟩⟩⟩
    have e2 := e1.trans (same_upd (o := .tup [.int 14, .int 15]) np2)
    exact ⟨_, rfl, hall, dx, _, rfl, e2 _ _ h1, hF_no (by decide +kernel) _, _, rfl, z, hall, m, _, _, rfl, hh'.same e2, ⟨b, u, d, rfl, SqL.of (e2 _ _ hB), rfl⟩, o.same e2⟩
  | gap =>
    refine if_no rfl ⟨_, rfl, (by show 2 ≤ sizeLine; decide), fun p2 np2 => ?_⟩
    refine ⟨p2, _, rfl, .inr (SqT.of upd_same), rfl, rfl, _, rfl, if_no rfl ⟨_, rfl, rfl, _, rfl, if_no rfl ⟨_, rfl, rfl, _, rfl, if_no rfl ⟨_, rfl, rfl, _, rfl, if_no rfl ⟨_, rfl, rfl, _, rfl, if_yes rfl ?_⟩⟩⟩⟩⟩
    have e2 := e1.trans (same_upd (o := .tup [.int 14, .int 15]) np2)
    exact ⟨_, rfl, hall, dx, _, rfl, e2 _ _ h1, hF_no (by decide +kernel) _, z, hall, m, _, _, rfl, hh'.same e2, ⟨rfl, rfl⟩, o.same e2⟩
  | forPrior u d =>
    refine if_no rfl ⟨_, rfl, (by show 2 ≤ sizeLine; decide), fun p2 np2 => ?_⟩
    refine ⟨p2, _, rfl, .inr (SqT.of upd_same), rfl, rfl, _, rfl, if_no rfl ⟨_, rfl, rfl, _, rfl, if_no rfl ⟨_, rfl, rfl, _, rfl, if_no rfl ⟨_, rfl, rfl, _, rfl, if_no rfl ⟨_, rfl, rfl, _, rfl, if_no rfl ?_⟩⟩⟩⟩⟩
    have e2 := e1.trans (same_upd (o := .tup [.int 14, .int 15]) np2)
    exact ⟨_, rfl, hall, dx, _, rfl, e2 _ _ h1, hF_no (by decide +kernel) _, _, rfl, z, hall, m, _, _, rfl, hh'.same e2, ⟨b, u, d, rfl, SqL.of (e2 _ _ hB), rfl⟩, o.same e2⟩
  | create n => exact absurd hlo (by decide)
  | setT l hl => exact absurd hlo (by decide)
  | setP l hl => exact absurd hlo (by decide)
  | prior u d => exact absurd hlo (by decide)
  | weights => exact absurd hlo (by decide)
  | prob s => exact absurd hlo (by decide)
  | post s => exact absurd hlo (by decide)
  | cert s => exact absurd hlo (by decide)
  | tv => exact absurd hlo (by decide)
  | acc => exact absurd hlo (by decide)
  | guess => exact absurd hlo (by decide)
  | blind => exact absurd hlo (by decide)
end
end Sg
/-! ### O. one operation -/
namespace Sg
open PySem PySem.Spec PyProof.Rows L2
section
variable {P : Program} {w : World} {K : PySem.W.Frag} {mg : Str → Option Value} {base : Heap} {CS CH CF fI : Addr}
theorem step_no {c : Int} {ns : List Int} {k : Kp415.Call} (h : Ask c ns k) (h0 : c ≠ 0) : Kp415.step none k = (none, Kp415.single (-11)) := by
  cases h <;> first | rfl | exact absurd rfl h0
theorem ask_le {c : Int} {ns : List Int} {k : Kp415.Call} (h : Ask c ns k) : 0 ≤ c ∧ c ≤ 20 := by
  cases h <;> decide
/-- answer: what the operation answers, or its code -/
def spAnswer (K : PySem.W.Frag) (CS CH : Addr) : Sp := fun vs H Q _ => ∃ (z hall b : Addr) (st : Kp415.State) (c : Int) (ns : List Int) (k : Kp415.Call), vs = [.ref hall, .int c, .ref b] ∧ HallAt K CS CH z H hall st ∧ H b = some (.lst (vI ns)) ∧ b ≠ z ∧ (∃ o, H z = some o) ∧ Ask c ns k ∧
  ∀ (H' : Hp) (p : Addr), But hall H H' → HallAt K CS CH z H' hall (Kp415.step st k).1 → H' p = some (.lst (vI (row (Kp415.step st k)))) → Q (.ref p) H'
def rEqI : R2 := fun x y H Q => scal x y = true ∧ Q (.bl (decide (x = y))) H
def rLtI : R2 := rI0 fun i j => .bl (decide (i < j))
/-- the suite of the try -/
def tTryB (K : PySem.W.Frag) (CS CH CF : Addr) (W : WX) : TS :=
  tSeq (tIfS (tTest (tOp rEqI (tVar 1) (tC (.int 0)))) (tRet (tMeS CH "create" (spCreate K CS CH CF) (WE W) (tVar 0) (tCons (tOp (rIxL K) (tVar 2) (tC (.int 0))) tNil))) tNext)
  (tSeq (tDrop (tCallS (spWant CF) (WE W) (tCons (tNotN (tFld K (tVar 0) "model")) (tCons (tC (.int (-11))) tNil))))
  (tRet (tIf (tTest (tOp rLtI (tVar 1) (tC (.int 12)))) (tMeS CH "early" (spH K CS CH CF (aWay 1 11)) (WE W) (tVar 0) (tCons (tVar 1) (tCons (tVar 2) tNil)))
    (tMeS CH "late" (spH K CS CH CF (aWay 12 20)) (WE W) (tVar 0) (tCons (tVar 1) (tCons (tVar 2) tNil))))))
/-- the suite of the except clause -/
def tTryS (CF : Addr) : Addr → Value → Option Addr → TS := fun a cls d => tRet (tLst (tCons (tXf a cls d CF "code" (tVar 3)) tNil))
theorem ok_answer (U : Mu K CH "answer" "Hall.answer" (hM 19) ["self", "call", "numbers"]) (TH : ClsH K CH) (T : ClsF K mg CF fI) (GW : Gd P w K mg base (L2.CX P w) 3 "want" ["is_so", "code"] (spWant CF))
    (GC : Md P w K mg base (L2.CX P w) 4 CH "create" ["self", "many"] (spCreate K CS CH CF)) (GE : Md P w K mg base (L2.CX P w) 8 CH "early" ["self", "call", "numbers"] (spH K CS CH CF (aWay 1 11)))
    (GL : Md P w K mg base (L2.CX P w) 8 CH "late" ["self", "call", "numbers"] (spH K CS CH CF (aWay 12 20))) {t1 : Tok} (mM : mg "NO_MODEL" = some (.int (-11) t1)) :
    Md P w K mg base CX0 9 CH "answer" ["self", "call", "numbers"] (spAnswer K CS CH) := by
  refine U.ok scH19 (fun vs H Q E h => ?_) (fun f cdv A outer s H vs Q E hr h => ?_)
  · obtain ⟨z, hall, b, st, c, ns, k, rfl, _⟩ := h
    rfl
  · obtain ⟨z, hall, b, st, c, ns, k, rfl, hh, hB, hbz, hz, hA, q⟩ := h
    refine ⟨_, pss_one (ps_try_as (i := 3) (tb := tTryB K CS CH CF) (ts := tTryS CF) (Wout := fun _ _ _ _ => False) rfl rfl scH19.nd rfl rfl ⟨rfl, by decide, Or.inl T.g⟩ takes0
      (fun W pn xe tk _ => pss_cons (ps_if (pt_cmpR op_eq (pv 1) pe_int (nomark _)) (pss_one (ps_ret (pe_mS GC TH.cl hr (pv 0) (by exact (pa_cons (pe_ix ix_list (pv 2) pe_int (fun _ _ => rfl)) pa_nil)) (fun σ => passAt tk σ)))) pss_nil)
        (pss_cons (ps_expr (pe_gS GW hr (by exact (pa_cons (pe_cmp (pc_notN (pe_fld (pv 0) rfl))) (pa_cons (pe_glob (v := .int (-11)) (by rfl) mM ⟨_, rfl⟩) pa_nil))) (fun σ => passAt tk σ)))
        (pss_one (ps_ret (pe_ifExp (pt_cmpR op_lt (pv 1) pe_int (nomark _)) (pe_mS GE TH.cl hr (pv 0) (by exact (pa_cons (pv 1) (pa_cons (pv 2) pa_nil))) (fun σ => passAt tk σ)) (pe_mS GL TH.cl hr (pv 0) (by exact (pa_cons (pv 1) (pa_cons (pv 2) pa_nil))) (fun σ => passAt tk σ)))))))
      (fun a oe cls d pn hz hf => pss_one (ps_ret (pe_lst (by exact (pa_cons (pe_xf T.xf T.nC hz hf (pv 3)) pa_nil)))))), ?_⟩
    obtain ⟨dx, v, h1⟩ := hh.ins
    -- what a refusal comes to: the suite hands back its code
    have err : ∀ (D : Ends) (σ : L2.St) (H1 : Hp), D.rt = Q → (∀ a : Addr, (σ.set 3 (some (.ref a)))[3]? = some (some (.ref a))) → Same H H1 → ∀ e : Int, Kp415.step st k = (st, Kp415.single e) → Err CF H1 (WE (wAs K (.ref CF) 3 (tTryS CF) (fun _ _ _ _ => False) D) σ) e := fun D σ H1 hD hσ e1 e he H' d e2 hd => by
      refine ⟨true, T.te, fun _ a na => ?_, fun q => Bool.noConfusion q⟩
      refine ⟨_, hσ a, rfl, rfl, d, _, _, rfl, hd, lk_here, (by show 1 ≤ sizeLine; decide), fun p np => ?_⟩
      show D.rt (.ref p) _
      rw [hD]
      have e3 : Same H (upd H' p (.lst [.int e])) := e1.trans (e2.trans (same_upd np))
      refine q _ p (Same.but e3) ?_ ?_
      · rw [he]
        exact hh.same e3
      · rw [he]
        exact upd_same
    refine ⟨_, rfl, rfl, _, rfl, ite2 (fun c0 => ?_) (fun c0 => ?_)⟩
    · have hc : c = 0 := V.int.inj (of_decide_eq_true c0)
      subst hc
      cases hA with
      | create n =>
        refine ⟨_, rfl, hall, dx, _, rfl, h1, hF_no (by decide +kernel) _, _, rfl, b, _, _, _, rfl, rfl, SqL.of hB, one_at _, z, hall, st, n, rfl, hh, hz, fun H' p k1 k2 k3 => q H' p k1 k2 k3, fun e he => ?_⟩
        exact err _ _ H rfl (fun a => rfl) (Same.refl H) e he
    · have hc : c ≠ 0 := fun z => c0 (decide_eq_true (by rw [z]))
      refine ⟨_, rfl, hall, CH, dx, _, _, rfl, h1, TH.cl, TH.nM, hF_model _, _, _, rfl, fun hb => ?_, fun hb => ?_⟩
      · cases st with
        | none =>
          obtain ⟨dx2, h2⟩ := hh
          rw [h1] at h2
          have e2 := Option.some.inj h2
          injection e2 with _ _ e3
          have e4 : v = .non := (Prod.mk.inj (List.cons.inj e3).1).2
          subst e4
          cases hb
        | some m =>
          have hrange := ask_le hA
          refine ⟨_, rfl, _, _, rfl, rfl, _, rfl, ite2 (fun c1 => ?_) (fun c1 => ?_)⟩
          · have hlt := of_decide_eq_true c1
            refine ⟨_, rfl, hall, dx, _, rfl, h1, hF_no (by decide +kernel) _, _, rfl, _, rfl, z, hall, m, k, _, rfl, hh, ⟨c, b, ns, rfl, hB, hbz, hz, hA, by omega, by omega⟩, fun H' p k1 k2 k3 => q H' p k1 k2 k3, fun e he => ?_⟩
            exact err _ _ H rfl (fun a => rfl) (Same.refl H) e he
          · have hlt : ¬ c < 12 := fun z => c1 (decide_eq_true z)
            refine ⟨_, rfl, hall, dx, _, rfl, h1, hF_no (by decide +kernel) _, _, rfl, _, rfl, z, hall, m, k, _, rfl, hh, ⟨c, b, ns, rfl, hB, hbz, hz, hA, by omega, by omega⟩, fun H' p k1 k2 k3 => q H' p k1 k2 k3, fun e he => ?_⟩
            exact err _ _ H rfl (fun a => rfl) (Same.refl H) e he
      · cases st with
        | none => exact err _ _ H rfl (fun a => rfl) (Same.refl H) (-11) (step_no hA hc)
        | some m =>
          obtain ⟨dx2, a, h2, _⟩ := hh
          rw [h1] at h2
          have e2 := Option.some.inj h2
          injection e2 with _ _ e3
          have e4 : v = .ref a := (Prod.mk.inj (List.cons.inj e3).1).2
          subst e4
          cases hb
end
end Sg
/-! ### P. the whole list of calls -/
namespace Sg
open PySem PySem.Spec PyProof.Rows L2
theorem HallAt.grow {K : PySem.W.Frag} {CS CH F hall : Addr} {H : Hp} {l : List V} {o : HO} (hF : H F = some (.lst l)) : ∀ {st : Kp415.State}, HallAt K CS CH F H hall st → HallAt K CS CH F (upd H F o) hall st
  | none, ⟨dx, h⟩ => ⟨dx, by rw [upd_ne (ne_of h hF (by intro z; cases z))]; exact h⟩
  | some m, ⟨dx, a, h, hM⟩ => by
    obtain ⟨dm, t, p, r, h1, h2, h3, h4, h5, h6⟩ := hM.ex
    refine ⟨dx, a, by rw [upd_ne (ne_of h hF (by intro z; cases z))]; exact h, ⟨dm, t, p, r, ?_, ?_, ?_, tup_grow hF h4, h5, h6⟩, hM.ok⟩
    · rw [upd_ne (ne_of h1 hF (by intro z; cases z))]
      exact h1
    · rw [upd_ne h5]
      exact h2
    · rw [upd_ne h6]
      exact h3
theorem vI_at {l : List Int} {i : Nat} {x : Int} (h : l[i]? = some x) : (vI l)[i]? = some (.int x) := by
  rw [vI, List.getElem?_map, h]
  rfl
theorem vI_len (l : List Int) : (vI l).length = l.length := by simp [vI]
theorem cut_mid {l ns : List Int} {a : Nat} (h : (l.take (a + ns.length)).drop a = ns) (k : a + ns.length ≤ l.length) : cutV (vI l) (some (a : Int)) (some ((a + ns.length : Nat) : Int)) = vI ns := by
  unfold cutV
  rw [HT.sIx_nat, HT.sIx_nat, vI_len, Nat.min_eq_left (show a ≤ l.length by omega), Nat.min_eq_left k]
  have e : a + ns.length - a = ns.length := by omega
  rw [e, vI, ← List.map_drop, ← List.map_take]
  rw [List.drop_take, e] at h
  rw [h]
  rfl
section
variable {P : Program} {w : World} {K : PySem.W.Frag} {mg : Str → Option Value} {base : Heap} {CS CH CF fI : Addr}
abbrev nAn : List Str := ["calls", "hall", "found", "at", "call", "many", "numbers", "one"]
theorem sc42 : FnScope nAn ["calls"] (defScope (top 42)) := ⟨rfl, rfl, rfl, by decide +kernel, rfl, by decide +kernel, by decide +kernel⟩
def spAns (K : PySem.W.Frag) : Sp := fun vs H Q _ => ∃ (a : Addr) (ns : List Int), vs = [.ref a] ∧ SqL K H a (ns.map V.int) ∧ PyKp415.answers_asked ns = true ∧
  ∀ (H' : Hp) (p : Addr), H' p = some (.lst ((PyKp415.answers ns).map V.int)) → Q (.ref p) H'
theorem size_ok {n : Nat} (h : n ≤ 10000000) : n ≤ sizeLine := Nat.le_trans h (by decide)
theorem ok_answers {f : Addr} {fd : FuncData} (F0 : Fun K "answers" "answers" (top 42) f fd) (TH : ClsH K CH) (B : Blt mg) (GI : Md P w K mg base CX0 1 CH "__init__" ["self"] (spInitH CH)) (M : MkC K mg "Hall" CH) (GA : Md P w K mg base CX0 9 CH "answer" ["self", "call", "numbers"] (spAnswer K CS CH)) :
    FnOk P w K mg base CX0 10 f fd ["calls"] (spAns K) := by
  refine F0.ok sc42 (fun vs H Q E h => ?_) (fun cdv A outer s H vs Q E hr h => ?_)
  · obtain ⟨a, ns, rfl, _⟩ := h
    rfl
  · obtain ⟨a, l, rfl, hS, hask, q⟩ := h
    obtain ⟨cs, C⟩ := calls_of hask
    refine ⟨_, pss_cons (ps_par3 (i := 1) (j := 2) (l := 3) rfl sc42.nd rfl rfl rfl (by decide) (by decide) (by decide) rfl rfl rfl (pa_cons (pe_mk0 GI M hr pass0) (pa_cons (pe_lst pa_nil) (pa_cons pe_int pa_nil))) (by rfl))
      (pss_cons (ps_while PassesOwn.never (pt_cmpR op_lt (pv 3) (pe_callB call_len_seq (by rfl) B.len PySem.boot_len (pa_cons (pv 0) pa_nil)) (nomark _))
        (pss_cons (ps_par (i := 4) (j := 5) rfl sc42.nd rfl rfl (by decide) rfl rfl (pa_cons (pe_ix ix_list (pv 0) (pv 3) (fun _ _ => rfl)) (pa_cons (pe_ix ix_list (pv 0) (pe_op op_add (pv 3) pe_int) (fun _ _ => rfl)) pa_nil)) (by rfl))
        (pss_cons (ps_set (i := 6) sc42.nd rfl (.inl rfl) (pe_slice sl_list (pv 0) (po_some (pe_op op_add (pv 3) pe_int)) (po_some (pe_op op_add (pe_op op_add (pv 3) pe_int) (pv 5)))))
        (pss_cons (ps_aug (i := 3) sc42.nd rfl (.inl rfl) (pe_op op_add pe_int (pv 5)) ip_add)
        (pss_cons (ps_set (i := 7) sc42.nd rfl (.inl rfl) (pe_m GA TH.cl hr (pv 1) (pa_cons (pv 4) (pa_cons (pv 6) pa_nil)) pass0))
        (pss_one (ps_expr (pe_bm PySem.F.plainAttrs_list PySem.F.slot_list_extend PySem.F.type_list_extend mt_extend (pv 2) (pa_cons (pe_op op_cat (pe_lst (pa_cons (pe_callB call_len_seq (by rfl) B.len PySem.boot_len (pa_cons (pv 7) pa_nil)) pa_nil)) (pv 7)) pa_nil)))))))))
      (pss_one (ps_ret (pv 2)))), ?_⟩
    intro x dx nx nd ne
    refine ⟨x, dx, rfl, upd_same, fun H1 hx k => ⟨rfl, ?_⟩⟩
    have e1 : Same H H1 := Same.made nx nd k
    refine ⟨Nat.zero_le _, fun F nF => ?_⟩
    have eF : Same H1 (upd H1 F (.lst [])) := same_upd nF
    have nF0 : H F = none := e1.free nF
    have hxF : x ≠ F := ne_of_none hx nF
    refine ⟨_, _, _, rfl, ?_⟩
    refine ⟨fun n σ H2 => ∃ (done rest : List (List (List Int))) (v4 v5 v6 v7 : Option V), n = rest.length ∧ cs = done ++ rest ∧ σ = [some (.ref a), some (.ref x), some (.ref F), some (.int ((put done).length : Int)), v4, v5, v6, v7] ∧
        Same H H2 ∧ HallAt K CS CH F H2 x (after none done) ∧ H2 F = some (.lst (vI (said none done))),
      ⟨cs.length, [], cs, none, none, none, none, rfl, rfl, rfl, e1.trans eF, ⟨dx, eF _ _ hx⟩, upd_same⟩, fun n σ H2 hW => ?_⟩
    obtain ⟨done, rest, v4, v5, v6, v7, rfl, ecs, rfl, e2, hh, hF⟩ := hW
    have el : l = put (done ++ rest) := by rw [← ecs]; exact C.eq
    have hS2 := e2.seq hS
    refine ⟨_, rfl, _, rfl, a, _, rfl, .inl hS2, _, _, rfl, rfl, _, rfl, ite2 (fun c => ?_) (fun c => ?_)⟩
    · -- one more call
      have hlt : (put done).length < l.length := by
        have := of_decide_eq_true c
        rw [List.length_map] at this
        omega
      cases rest with
      | nil =>
        rw [el, List.append_nil] at hlt
        exact absurd hlt (Nat.lt_irrefl _)
      | cons c0 rest =>
        have hin : c0 ∈ cs := by
          rw [ecs]
          exact List.mem_append_right _ (List.mem_cons_self ..)
        obtain ⟨p, ns, kk, rfl, hA, hk⟩ := ask_of (C.ask c0 hin)
        obtain ⟨g1, g2, g3, g4⟩ := at_call done rest p ns
        rw [← el] at g1 g2 g3 g4
        have hst := step_of hk (after none done)
        have hrest : rest.length < ([p :: ns] :: rest).length := by
          rw [List.length_cons]
          omega
        have hcs2 : cs = (done ++ [[p :: ns]]) ++ rest := by
          rw [ecs, List.append_assoc]
          rfl
        -- what is told after it
        have hsaid : said none (done ++ [[p :: ns]]) = said none done ++ (((row (Kp415.step (after none done) kk)).length : Int) :: row (Kp415.step (after none done) kk)) := by
          rw [said_snoc, hst]
        have hshort : (said none (done ++ [[p :: ns]])).length ≤ 10000000 := by
          have h1 := C.short
          rw [hcs2, said_append, List.length_append] at h1
          omega
        have hlens : (said none done).length + (1 + (row (Kp415.step (after none done) kk)).length) ≤ 10000000 := by
          rw [hsaid, List.length_append, List.length_cons] at hshort
          omega
        refine ⟨fun σ' H' => ∃ v4 v5 v6 v7 : Option V, σ' = [some (.ref a), some (.ref x), some (.ref F), some (.int ((put (done ++ [[p :: ns]])).length : Int)), v4, v5, v6, v7] ∧ Same H H' ∧ HallAt K CS CH F H' x (after none (done ++ [[p :: ns]])) ∧ H' F = some (.lst (vI (said none (done ++ [[p :: ns]])))), fun σ' H' hN => ?_, ?_⟩
        · obtain ⟨u4, u5, u6, u7, k1, k2, k3, k4⟩ := hN
          exact ⟨rest.length, hrest, done ++ [[p :: ns]], rest, u4, u5, u6, u7, rfl, hcs2, k1, k2, k3, k4⟩
        · -- call, many = calls[at], calls[at + 1]
          refine ⟨_, rfl, _, rfl, a, _, _, _, rfl, rfl, hS2, atI_nat (vI_at g1), ?_⟩
          refine ⟨_, rfl, _, rfl, _, _, rfl, rfl, a, _, _, _, rfl, rfl, hS2, atI_nat (j := (put done).length + 1) (vI_at g2), _, _, rfl, ?_⟩
          -- numbers = calls[at + 2:at + 2 + many]
          refine ⟨_, rfl, _, rfl, _, _, rfl, rfl, _, rfl, _, rfl, _, _, rfl, rfl, _, rfl, _, _, rfl, rfl, _, rfl, a, _, rfl, hS2, fun nb nnb => ?_⟩
          have ecut : cutV (l.map V.int) (some (((put done).length : Int) + 2)) (some (((put done).length : Int) + 2 + (ns.length : Int))) = vI ns := by
            have h1 := cut_mid (a := (put done).length + 2) g3 (Nat.le_of_lt g4)
            exact h1
          rw [ecut]
          have e3 : Same H2 (upd H2 nb (.lst (vI ns))) := same_upd nnb
          have e03 := e2.trans e3
          -- at += 3 + many
          refine ⟨_, rfl, _, rfl, _, _, rfl, rfl, _, _, rfl, rfl, ?_⟩
          have eat : ((put done).length : Int) + (3 + (ns.length : Int)) = ((put (done ++ [[p :: ns]])).length : Int) := by
            rw [put_snoc]
            omega
          -- one = hall.answer(call, numbers)
          obtain ⟨dx2, v2, hx2⟩ := hh.ins
          have hnF : nb ≠ F := fun z => by
            rw [z, hF] at nnb
            cases nnb
          refine ⟨_, rfl, x, dx2, _, rfl, e3 _ _ hx2, hF_no (by decide +kernel) _, _, rfl, _, rfl, F, x, nb, after none done, p, ns, kk, rfl, hh.same e3, upd_same, hnF, ⟨_, e3 _ _ hF⟩, hA, fun H3 r k1 k2 k3 => ?_⟩
          have hF3 : H3 F = some (.lst (vI (said none done))) := k1 _ _ (e3 _ _ hF) (Ne.symm hxF)
          have e05 : Same H H3 := k1.same e03 nx
          -- found.extend([len(one)] + one)
          refine ⟨_, rfl, .inl ⟨rfl, _, SqL.of hF3⟩, _, rfl, r, _, rfl, .inl (SqL.of k3), (by show 1 ≤ sizeLine; decide), fun l0 nl0 => ?_⟩
          have e4 := same_upd (H := H3) (o := .lst [V.int (((vI (row (Kp415.step (after none done) kk))).length : Nat) : Int)]) nl0
          refine ⟨_, rfl, l0, r, _, _, rfl, rfl, upd_same, e4 _ _ k3, ?_, fun l1 nl1 => ?_⟩
          · rw [vI_len]
            exact size_ok (by show 1 + (row (Kp415.step (after none done) kk)).length ≤ 10000000; omega)
          have e5 := e4.trans (same_upd (o := .lst ([V.int (((vI (row (Kp415.step (after none done) kk))).length : Nat) : Int)] ++ vI (row (Kp415.step (after none done) kk)))) nl1)
          refine ⟨F, l1, _, _, rfl, rfl, e5 _ _ hF3, upd_same, ?_, ?_⟩
          · rw [vI_len, List.length_append, vI_len]
            exact size_ok (by show (said none done).length + (1 + (row (Kp415.step (after none done) kk)).length) ≤ 10000000; omega)
          refine ⟨some (.int p), some (.int (ns.length : Int)), some (.ref nb), some (.ref r), ?_, ?_, ?_, ?_⟩
          · rw [← eat]
            rfl
          · exact same_grow nF0 (e05.trans e5)
          · rw [after_snoc, hst]
            exact (k2.same e5).grow (e5 _ _ hF3)
          · rw [upd_same, hsaid, vI_len]
            simp [vI]
    · -- the end
      have hge : ¬ ((put done).length : Int) < ((l.map V.int).length : Int) := fun z => c (decide_eq_true z)
      rw [List.length_map, el] at hge
      have hnil := rest_nil (a := done) (r := rest) (by omega) fun c0 hc0 => C.ask c0 (by rw [ecs]; exact List.mem_append_right _ hc0)
      subst hnil
      rw [List.append_nil] at ecs
      refine ⟨_, rfl, q H2 F ?_⟩
      rw [hF, C.said, ecs]
      rfl
end
end Sg
/-! ### Q. all promises joined -/
namespace Sg
open PySem PySem.Spec PyProof.Rows L2
/-- how a def's arguments bind -/
def BindsOk (x q : Str) (st : Stmt) (ps : List Str) : Prop := ∀ (kV doc pm : Value) (an : Option Addr) (cdv ct : Value) (us : List Value), us.length = ps.length → bindArgs (PySem.W.fnOf x q (defArgs st) (defBody st) (defScope st) .none kV doc pm an cdv ct) ⟨us, []⟩ = pure (ps.zip us)
section
variable {K : PySem.W.Frag} {h : Heap} {mg : Str → Option Value} {x q : Str} {st : Stmt} {ps : List Str} {f C : Addr} {oc : Value} {od an : Option Addr} {kV dc pm cd ct : Value} {sl : Array (Option Value)}
theorem fu_mk (X : K.In h) (N : h.Ns mainGlobals mg) (b : BindsOk x x st ps) (a : PySem.W.nsIn K mainGlobals x = some (some (.ref f))) (l : K.lookup f = some ⟨oc, od, .func (PySem.W.fnOf x x (defArgs st) (defBody st) (defScope st) .none kV dc pm an cd ct), sl⟩)
    (c : PySem.W.codeIn K cd x = true) (k : PySem.W.keepIn K (.ref f) = true) : Fu K mg x st ps := ⟨f, _, fun_mk l c k, PySem.W.mg_of X N a, .all (b kV dc pm an cd ct)⟩
theorem mu_mk (b : BindsOk x q st ps) (a : PySem.W.findIn K (.ref C) x = some (some (.ref f))) (i : PySem.W.isFn K (.ref f) = true) (l : K.lookup f = some ⟨oc, od, .func (PySem.W.fnOf x q (defArgs st) (defBody st) (defScope st) .none kV dc pm an cd ct), sl⟩)
    (c : PySem.W.codeIn K cd q = true) (k : PySem.W.keepIn K (.ref f) = true) : Mu K C x q st ps := ⟨f, _, fun_mk l c k, ⟨a, i, k⟩, .all (b kV dc pm an cd ct)⟩
theorem fa_mk (b : BindsOk "__init__" q st ps) (l : K.lookup f = some ⟨oc, od, .func (PySem.W.fnOf "__init__" q (defArgs st) (defBody st) (defScope st) .none kV dc pm an cd ct), sl⟩)
    (c : PySem.W.codeIn K cd q = true) (k : PySem.W.keepIn K (.ref f) = true) : Fa K q st ps f := ⟨_, fun_mk l c k, .all (b kV dc pm an cd ct)⟩
theorem tup_mk {t u : Tok} {i j : Int} {n : Nat} {d : Option Addr} {a : Addr} (X : K.In h) (N : h.Ns mainGlobals mg) (e : PySem.W.nsIn K mainGlobals x = some (some (.ref a))) (l : K.lookup a = some ⟨.type "tuple", d, .seq #[.int i t, .int j u] n, sl⟩) : ∃ a, mg x = some (.ref a) ∧ WrT K a [.int i, .int j] :=
  ⟨a, PySem.W.mg_of X N e, _, _, _, l, rfl, rfl, (by show 2 ≤ sizeLine; decide), .cons ⟨_, rfl⟩ (.cons ⟨_, rfl⟩ .nil)⟩
theorem int_mk {t : Tok} {i : Int} (X : K.In h) (N : h.Ns mainGlobals mg) (e : PySem.W.nsIn K mainGlobals x = some (some (.int i t))) : ∃ t, mg x = some (.int i t) := ⟨t, PySem.W.mg_of X N e⟩
end
theorem bg3 : BindsOk "lowest" "lowest" (top 3) ["upper", "lower"] := fun _ _ _ _ _ _ us hl => match us, hl with | [_, _], _ => rfl
theorem bg4 : BindsOk "plus" "plus" (top 4) ["one", "other"] := fun _ _ _ _ _ _ us hl => match us, hl with | [_, _], _ => rfl
theorem bg5 : BindsOk "minus" "minus" (top 5) ["one", "other"] := fun _ _ _ _ _ _ us hl => match us, hl with | [_, _], _ => rfl
theorem bg6 : BindsOk "times" "times" (top 6) ["one", "other"] := fun _ _ _ _ _ _ us hl => match us, hl with | [_, _], _ => rfl
theorem bg7 : BindsOk "parted" "parted" (top 7) ["one", "other"] := fun _ _ _ _ _ _ us hl => match us, hl with | [_, _], _ => rfl
theorem bg8 : BindsOk "is_less" "is_less" (top 8) ["one", "other"] := fun _ _ _ _ _ _ us hl => match us, hl with | [_, _], _ => rfl
theorem bg9 : BindsOk "greater" "greater" (top 9) ["one", "other"] := fun _ _ _ _ _ _ us hl => match us, hl with | [_, _], _ => rfl
theorem bg10 : BindsOk "size" "size" (top 10) ["one"] := fun _ _ _ _ _ _ us hl => match us, hl with | [_], _ => rfl
theorem bg11 : BindsOk "total" "total" (top 11) ["some"] := fun _ _ _ _ _ _ us hl => match us, hl with | [_], _ => rfl
theorem bg13 : BindsOk "members" "members" (top 13) ["mask", "many"] := fun _ _ _ _ _ _ us hl => match us, hl with | [_, _], _ => rfl
theorem bg14 : BindsOk "shares" "shares" (top 14) ["model", "mask"] := fun _ _ _ _ _ _ us hl => match us, hl with | [_, _], _ => rfl
theorem bg15 : BindsOk "first_greatest" "first_greatest" (top 15) ["pairs"] := fun _ _ _ _ _ _ us hl => match us, hl with | [_], _ => rfl
theorem bg16 : BindsOk "best_detector" "best_detector" (top 16) ["model", "most"] := fun _ _ _ _ _ _ us hl => match us, hl with | [_, _], _ => rfl
theorem bg17 : BindsOk "widest_gap" "widest_gap" (top 17) ["model"] := fun _ _ _ _ _ _ us hl => match us, hl with | [_], _ => rfl
theorem bg20 : BindsOk "all_sequences" "all_sequences" (top 20) ["many", "length"] := fun _ _ _ _ _ _ us hl => match us, hl with | [_, _], _ => rfl
theorem bg21 : BindsOk "test_probability" "test_probability" (top 21) ["model", "row"] := fun _ _ _ _ _ _ us hl => match us, hl with | [_, _], _ => rfl
theorem bg22 : BindsOk "production_probability" "production_probability" (top 22) ["model", "row"] := fun _ _ _ _ _ _ us hl => match us, hl with | [_, _], _ => rfl
theorem bg23 : BindsOk "joints" "joints" (top 23) ["model", "row"] := fun _ _ _ _ _ _ us hl => match us, hl with | [_, _], _ => rfl
theorem bg24 : BindsOk "sequence_variation" "sequence_variation" (top 24) ["model", "length"] := fun _ _ _ _ _ _ us hl => match us, hl with | [_, _], _ => rfl
theorem bg25 : BindsOk "sequence_accuracy" "sequence_accuracy" (top 25) ["model", "length"] := fun _ _ _ _ _ _ us hl => match us, hl with | [_, _], _ => rfl
theorem bg39 : BindsOk "want" "want" (top 39) ["is_so", "code"] := fun _ _ _ _ _ _ us hl => match us, hl with | [_, _], _ => rfl
theorem bg40 : BindsOk "want_fraction" "want_fraction" (top 40) ["numbers"] := fun _ _ _ _ _ _ us hl => match us, hl with | [_], _ => rfl
theorem bg42 : BindsOk "answers" "answers" (top 42) ["calls"] := fun _ _ _ _ _ _ us hl => match us, hl with | [_], _ => rfl
theorem bs0 : BindsOk "__init__" "Signals.__init__" (sM 0) ["self", "test", "production", "prior"] := fun _ _ _ _ _ _ us hl => match us, hl with | [_, _, _, _], _ => rfl
theorem bs1 : BindsOk "many" "Signals.many" (sM 1) ["self"] := fun _ _ _ _ _ _ us hl => match us, hl with | [_], _ => rfl
theorem bs2 : BindsOk "test_share" "Signals.test_share" (sM 2) ["self", "signal"] := fun _ _ _ _ _ _ us hl => match us, hl with | [_, _], _ => rfl
theorem bs3 : BindsOk "production_share" "Signals.production_share" (sM 3) ["self", "signal"] := fun _ _ _ _ _ _ us hl => match us, hl with | [_, _], _ => rfl
theorem bs4 : BindsOk "test_prior" "Signals.test_prior" (sM 4) ["self"] := fun _ _ _ _ _ _ us hl => match us, hl with | [_], _ => rfl
theorem bs5 : BindsOk "production_prior" "Signals.production_prior" (sM 5) ["self"] := fun _ _ _ _ _ _ us hl => match us, hl with | [_], _ => rfl
theorem bs6 : BindsOk "joint_test" "Signals.joint_test" (sM 6) ["self", "signal"] := fun _ _ _ _ _ _ us hl => match us, hl with | [_, _], _ => rfl
theorem bs7 : BindsOk "joint_production" "Signals.joint_production" (sM 7) ["self", "signal"] := fun _ _ _ _ _ _ us hl => match us, hl with | [_, _], _ => rfl
theorem bs8 : BindsOk "probability" "Signals.probability" (sM 8) ["self", "signal"] := fun _ _ _ _ _ _ us hl => match us, hl with | [_, _], _ => rfl
theorem bs9 : BindsOk "posterior" "Signals.posterior" (sM 9) ["self", "signal"] := fun _ _ _ _ _ _ us hl => match us, hl with | [_, _], _ => rfl
theorem bs10 : BindsOk "variation" "Signals.variation" (sM 10) ["self"] := fun _ _ _ _ _ _ us hl => match us, hl with | [_], _ => rfl
theorem bs11 : BindsOk "accuracy" "Signals.accuracy" (sM 11) ["self"] := fun _ _ _ _ _ _ us hl => match us, hl with | [_], _ => rfl
theorem bs12 : BindsOk "blind" "Signals.blind" (sM 12) ["self"] := fun _ _ _ _ _ _ us hl => match us, hl with | [_], _ => rfl
theorem bs13 : BindsOk "merged" "Signals.merged" (sM 13) ["self", "mapping"] := fun _ _ _ _ _ _ us hl => match us, hl with | [_, _], _ => rfl
theorem bs14 : BindsOk "with_prior" "Signals.with_prior" (sM 14) ["self", "prior"] := fun _ _ _ _ _ _ us hl => match us, hl with | [_, _], _ => rfl
theorem bh0 : BindsOk "__init__" "Hall.__init__" (hM 0) ["self"] := fun _ _ _ _ _ _ us hl => match us, hl with | [_], _ => rfl
theorem bh1 : BindsOk "create" "Hall.create" (hM 1) ["self", "many"] := fun _ _ _ _ _ _ us hl => match us, hl with | [_, _], _ => rfl
theorem bh2 : BindsOk "set_weights" "Hall.set_weights" (hM 2) ["self", "weights", "is_test"] := fun _ _ _ _ _ _ us hl => match us, hl with | [_, _, _], _ => rfl
theorem bh3 : BindsOk "set_prior" "Hall.set_prior" (hM 3) ["self", "numbers"] := fun _ _ _ _ _ _ us hl => match us, hl with | [_, _], _ => rfl
theorem bh4 : BindsOk "want_signal" "Hall.want_signal" (hM 4) ["self", "signal"] := fun _ _ _ _ _ _ us hl => match us, hl with | [_, _], _ => rfl
theorem bh5 : BindsOk "want_seen" "Hall.want_seen" (hM 5) ["self", "signal"] := fun _ _ _ _ _ _ us hl => match us, hl with | [_, _], _ => rfl
theorem bh6 : BindsOk "certainty" "Hall.certainty" (hM 6) ["self", "signal"] := fun _ _ _ _ _ _ us hl => match us, hl with | [_, _], _ => rfl
theorem bh7 : BindsOk "guesses" "Hall.guesses" (hM 7) ["self"] := fun _ _ _ _ _ _ us hl => match us, hl with | [_], _ => rfl
theorem bh8 : BindsOk "merged" "Hall.merged" (hM 8) ["self", "mapping"] := fun _ _ _ _ _ _ us hl => match us, hl with | [_, _], _ => rfl
theorem bh9 : BindsOk "merge" "Hall.merge" (hM 9) ["self", "call", "mapping"] := fun _ _ _ _ _ _ us hl => match us, hl with | [_, _, _], _ => rfl
theorem bh10 : BindsOk "sequence" "Hall.sequence" (hM 10) ["self", "call", "length"] := fun _ _ _ _ _ _ us hl => match us, hl with | [_, _, _], _ => rfl
theorem bh11 : BindsOk "sequence_posterior" "Hall.sequence_posterior" (hM 11) ["self", "row"] := fun _ _ _ _ _ _ us hl => match us, hl with | [_, _], _ => rfl
theorem bh12 : BindsOk "set_shares" "Hall.set_shares" (hM 12) ["self", "mask"] := fun _ _ _ _ _ _ us hl => match us, hl with | [_, _], _ => rfl
theorem bh13 : BindsOk "detector" "Hall.detector" (hM 13) ["self", "numbers"] := fun _ _ _ _ _ _ us hl => match us, hl with | [_, _], _ => rfl
theorem bh14 : BindsOk "gap" "Hall.gap" (hM 14) ["self"] := fun _ _ _ _ _ _ us hl => match us, hl with | [_], _ => rfl
theorem bh15 : BindsOk "for_prior" "Hall.for_prior" (hM 15) ["self", "numbers"] := fun _ _ _ _ _ _ us hl => match us, hl with | [_, _], _ => rfl
theorem bh16 : BindsOk "of_signal" "Hall.of_signal" (hM 16) ["self", "call", "signal"] := fun _ _ _ _ _ _ us hl => match us, hl with | [_, _, _], _ => rfl
theorem bh17 : BindsOk "early" "Hall.early" (hM 17) ["self", "call", "numbers"] := fun _ _ _ _ _ _ us hl => match us, hl with | [_, _, _], _ => rfl
theorem bh18 : BindsOk "late" "Hall.late" (hM 18) ["self", "call", "numbers"] := fun _ _ _ _ _ _ us hl => match us, hl with | [_, _, _], _ => rfl
theorem bh19 : BindsOk "answer" "Hall.answer" (hM 19) ["self", "call", "numbers"] := fun _ _ _ _ _ _ us hl => match us, hl with | [_, _, _], _ => rfl
theorem br0 : BindsOk "__init__" "Refused.__init__" sRI ["self", "code"] := fun _ _ _ _ _ _ us hl => match us, hl with | [_, _], _ => rfl
/-- what the text leaves, the def answers apart -/
structure Top (K : PySem.W.Frag) (mg : Str → Option Value) (CS CH CF fI : Addr) : Prop where
  g3 : Fu K mg "lowest" (top 3) ["upper", "lower"]
  g4 : Fu K mg "plus" (top 4) ["one", "other"]
  g5 : Fu K mg "minus" (top 5) ["one", "other"]
  g6 : Fu K mg "times" (top 6) ["one", "other"]
  g7 : Fu K mg "parted" (top 7) ["one", "other"]
  g8 : Fu K mg "is_less" (top 8) ["one", "other"]
  g9 : Fu K mg "greater" (top 9) ["one", "other"]
  g10 : Fu K mg "size" (top 10) ["one"]
  g11 : Fu K mg "total" (top 11) ["some"]
  g13 : Fu K mg "members" (top 13) ["mask", "many"]
  g14 : Fu K mg "shares" (top 14) ["model", "mask"]
  g15 : Fu K mg "first_greatest" (top 15) ["pairs"]
  g16 : Fu K mg "best_detector" (top 16) ["model", "most"]
  g17 : Fu K mg "widest_gap" (top 17) ["model"]
  g20 : Fu K mg "all_sequences" (top 20) ["many", "length"]
  g21 : Fu K mg "test_probability" (top 21) ["model", "row"]
  g22 : Fu K mg "production_probability" (top 22) ["model", "row"]
  g23 : Fu K mg "joints" (top 23) ["model", "row"]
  g24 : Fu K mg "sequence_variation" (top 24) ["model", "length"]
  g25 : Fu K mg "sequence_accuracy" (top 25) ["model", "length"]
  g39 : Fu K mg "want" (top 39) ["is_so", "code"]
  g40 : Fu K mg "want_fraction" (top 40) ["numbers"]
  s0 : Mu K CS "__init__" "Signals.__init__" (sM 0) ["self", "test", "production", "prior"]
  s1 : Mu K CS "many" "Signals.many" (sM 1) ["self"]
  s2 : Mu K CS "test_share" "Signals.test_share" (sM 2) ["self", "signal"]
  s3 : Mu K CS "production_share" "Signals.production_share" (sM 3) ["self", "signal"]
  s4 : Mu K CS "test_prior" "Signals.test_prior" (sM 4) ["self"]
  s5 : Mu K CS "production_prior" "Signals.production_prior" (sM 5) ["self"]
  s6 : Mu K CS "joint_test" "Signals.joint_test" (sM 6) ["self", "signal"]
  s7 : Mu K CS "joint_production" "Signals.joint_production" (sM 7) ["self", "signal"]
  s8 : Mu K CS "probability" "Signals.probability" (sM 8) ["self", "signal"]
  s9 : Mu K CS "posterior" "Signals.posterior" (sM 9) ["self", "signal"]
  s10 : Mu K CS "variation" "Signals.variation" (sM 10) ["self"]
  s11 : Mu K CS "accuracy" "Signals.accuracy" (sM 11) ["self"]
  s12 : Mu K CS "blind" "Signals.blind" (sM 12) ["self"]
  s13 : Mu K CS "merged" "Signals.merged" (sM 13) ["self", "mapping"]
  s14 : Mu K CS "with_prior" "Signals.with_prior" (sM 14) ["self", "prior"]
  h0 : Mu K CH "__init__" "Hall.__init__" (hM 0) ["self"]
  h1 : Mu K CH "create" "Hall.create" (hM 1) ["self", "many"]
  h2 : Mu K CH "set_weights" "Hall.set_weights" (hM 2) ["self", "weights", "is_test"]
  h3 : Mu K CH "set_prior" "Hall.set_prior" (hM 3) ["self", "numbers"]
  h4 : Mu K CH "want_signal" "Hall.want_signal" (hM 4) ["self", "signal"]
  h5 : Mu K CH "want_seen" "Hall.want_seen" (hM 5) ["self", "signal"]
  h6 : Mu K CH "certainty" "Hall.certainty" (hM 6) ["self", "signal"]
  h7 : Mu K CH "guesses" "Hall.guesses" (hM 7) ["self"]
  h8 : Mu K CH "merged" "Hall.merged" (hM 8) ["self", "mapping"]
  h9 : Mu K CH "merge" "Hall.merge" (hM 9) ["self", "call", "mapping"]
  h10 : Mu K CH "sequence" "Hall.sequence" (hM 10) ["self", "call", "length"]
  h11 : Mu K CH "sequence_posterior" "Hall.sequence_posterior" (hM 11) ["self", "row"]
  h12 : Mu K CH "set_shares" "Hall.set_shares" (hM 12) ["self", "mask"]
  h13 : Mu K CH "detector" "Hall.detector" (hM 13) ["self", "numbers"]
  h14 : Mu K CH "gap" "Hall.gap" (hM 14) ["self"]
  h15 : Mu K CH "for_prior" "Hall.for_prior" (hM 15) ["self", "numbers"]
  h16 : Mu K CH "of_signal" "Hall.of_signal" (hM 16) ["self", "call", "signal"]
  h17 : Mu K CH "early" "Hall.early" (hM 17) ["self", "call", "numbers"]
  h18 : Mu K CH "late" "Hall.late" (hM 18) ["self", "call", "numbers"]
  h19 : Mu K CH "answer" "Hall.answer" (hM 19) ["self", "call", "numbers"]
  r0 : Fa K "Refused.__init__" sRI ["self", "code"] fI
  cS : ClsS K CS
  cH : ClsH K CH
  cF : ClsF K mg CF fI
  kS : MkC K mg "Signals" CS
  kH : MkC K mg "Hall" CH
  b : Blt mg
  tNOUGHT : ∃ a, mg "NOUGHT" = some (.ref a) ∧ WrT K a [.int 0, .int 1]
  tONE : ∃ a, mg "ONE" = some (.ref a) ∧ WrT K a [.int 1, .int 1]
  tHALF_sequences : ∃ a, mg "HALF_sequences" = some (.ref a) ∧ WrT K a [.int 1, .int 2]
  tHALF_signals : ∃ a, mg "HALF_signals" = some (.ref a) ∧ WrT K a [.int 1, .int 2]
  iNO_SIGNAL : ∃ t, mg "NO_SIGNAL" = some (.int (-2) t)
  iNO_MODEL : ∃ t, mg "NO_MODEL" = some (.int (-11) t)
  iOUTSIDE : ∃ t, mg "OUTSIDE" = some (.int (-22) t)
  iUNDEFINED : ∃ t, mg "UNDEFINED" = some (.int (-33) t)
  iMOST_SIGNALS : ∃ t, mg "MOST_SIGNALS" = some (.int 5 t)
  iMOST_WEIGHT : ∃ t, mg "MOST_WEIGHT" = some (.int 99 t)
  iMOST_LENGTH : ∃ t, mg "MOST_LENGTH" = some (.int 3 t)
  iMOST_SEEN : ∃ t, mg "MOST_SEEN" = some (.int 6 t)
theorem ok_program {P : Program} {w : World} {K : PySem.W.Frag} {mg : Str → Option Value} {base : Heap} {CS CH CF fI f : Addr} {fd : FuncData} (T : Top K mg CS CH CF fI) (F : Fun K "answers" "answers" (top 42) f fd) : FnOk P w K mg base CX0 10 f fd ["calls"] (spAns K) := by
  obtain ⟨aN, mN, wN⟩ := T.tNOUGHT
  obtain ⟨aO, mO, wO⟩ := T.tONE
  obtain ⟨aQ, mQ, wQ⟩ := T.tHALF_sequences
  obtain ⟨aG, mG, wG⟩ := T.tHALF_signals
  obtain ⟨_, i1⟩ := T.iNO_SIGNAL
  obtain ⟨_, i2⟩ := T.iNO_MODEL
  obtain ⟨_, i3⟩ := T.iOUTSIDE
  obtain ⟨_, i4⟩ := T.iUNDEFINED
  obtain ⟨_, i5⟩ := T.iMOST_SIGNALS
  obtain ⟨_, i6⟩ := T.iMOST_WEIGHT
  obtain ⟨_, i7⟩ := T.iMOST_LENGTH
  obtain ⟨_, i8⟩ := T.iMOST_SEEN
  have B := T.b
  have low := ok_lowest (P := P) (w := w) (base := base) T.g3 B.abs
  have plus := ok_plus T.g4 low
  have minus := ok_minus T.g5 low
  have times := ok_times T.g6 low
  have parted := ok_parted T.g7 low
  have less := ok_less (P := P) (w := w) (base := base) T.g8
  have greater := ok_greater T.g9 less
  have size := ok_size (P := P) (w := w) (base := base) T.g10 B.abs
  have total := ok_total T.g11 plus mN wN
  have initS := ok_initS (P := P) (w := w) (mg := mg) (base := base) T.s0 T.cS
  have many := ok_many (P := P) (w := w) (base := base) T.s1 T.cS B.len
  have tsh := ok_test_share T.s2 T.cS B.sum low
  have psh := ok_production_share T.s3 T.cS B.sum low
  have tp := ok_test_prior T.s4 T.cS low
  have pp := ok_production_prior T.s5 T.cS mO wO minus tp
  have jt := ok_joint_test T.s6 T.cS times tp tsh
  have jp := ok_joint_production T.s7 T.cS times pp psh
  have prob := ok_probability T.s8 T.cS plus jt jp
  have post := ok_posterior T.s9 T.cS parted jt prob
  have vari := ok_variation T.s10 T.cS B.range mG wG many minus times size total tsh psh
  have acc := ok_accuracy T.s11 T.cS B.range many greater total jt jp
  have blind := ok_blind T.s12 T.cS greater tp pp
  have mergedS := ok_mergedS T.s13 T.cS B.enumerate many initS T.kS
  have withP := ok_with T.s14 T.cS initS T.kS
  have all := ok_all (P := P) (w := w) (base := base) T.g20 B.range
  have tpr := ok_test_probability T.g21 T.cS mO wO times tsh
  have ppr := ok_production_probability T.g22 T.cS mO wO times psh
  have joints := ok_joints T.g23 T.cS times tp pp tpr ppr
  have sv := ok_sequence_variation T.g24 T.cS mQ wQ many all minus times size total tpr ppr
  have sa := ok_sequence_accuracy T.g25 T.cS many all greater total joints
  have members := ok_members (P := P) (w := w) (base := base) T.g13 B.range
  have shares := ok_shares T.g14 T.cS many members total tsh psh
  have first := ok_first T.g15 less
  have best := ok_best T.g16 T.cS B.range many shares less first
  have wide := ok_wide T.g17 T.cS B.range many shares minus first
  have ref := ok_ref (P := P) (w := w) (base := base) T.r0 T.cF
  have want := ok_want T.g39 T.cF ref
  have wantF := ok_wantF T.g40 want i6 i3
  have initH := ok_initH (P := P) (w := w) (mg := mg) (base := base) T.h0 T.cH
  have wsig := ok_wsig T.h4 T.cH T.cS want many i1
  have wseen := ok_wseen T.h5 T.cH T.cS want wsig prob i4 mN wN
  have create := ok_create T.h1 T.cH want initS T.kS i5 i3
  have weights := ok_weights T.h2 T.cH T.cS B want many initS T.kS i6 i3
  have setP := ok_setPrior T.h3 T.cH T.cS B wantF withP
  have cert := ok_certainty T.h6 T.cH T.cS B wseen jt jp mN wN
  have guesses := ok_guesses (CF := CF) T.h7 T.cH T.cS B many less jt jp
  have mergedH := ok_mergedH T.h8 T.cH T.cS B want many mergedS i3
  have merge := ok_merge T.h9 T.cH T.cS B mergedH vari acc
  have seq := ok_seq T.h10 T.cH B want sv sa i7 i3
  have seqP := ok_seqPost T.h11 T.cH T.cS B want many joints plus parted i8 i3 i4 mN wN
  have setS := ok_setShares T.h12 T.cH T.cS B want many shares i3
  have det := ok_detector T.h13 T.cH B wantF low best
  have gap := ok_gap (CF := CF) T.h14 T.cH B wide
  have forP := ok_forPrior T.h15 T.cH T.cS B wantF withP acc
  have ofS := ok_of T.h16 T.cH T.cS B wseen wsig prob post
  have early := ok_early T.h17 T.cH T.cS B weights setP many ofS cert vari acc guesses blind
  have late := ok_late T.h18 T.cH merge seq seqP setS det gap forP
  have answer := ok_answer T.h19 T.cH T.cF want create early late i2
  exact ok_answers F T.cH B initH T.kH answer
end Sg
/-! ### R. the end -/
namespace Sg
open PySem PySem.Spec PyProof.Rows L2
/-- an error of the class at S is what its except clause names -/
theorem exm_own {K : PySem.W.Frag} {S : Addr} (h1 : PySem.W.subIn K (.ref S) (.type "BaseException") = some true) (h2 : PySem.W.isClsIn K S = true) (h3 : PySem.W.typeIn K (.ref S) = some (.type "type")) (h4 : PySem.W.subIn K (.ref S) (.ref S) = some true) :
    PySem.W.exmOne K (.ref S) (.ref S) = some true := by
  have e1 : (PySem.W.subIn K (.ref S) (.type "BaseException") == some true) = true := by rw [h1] <;> rfl
  have e2 : ((PySem.W.clsIn K S).isSome && PySem.W.typeIn K (.ref S) == some (.type "type")) = true := by
    have h2' : (PySem.W.clsIn K S).isSome = true := h2
    rw [h2', h3] <;> rfl
  show (if (PySem.W.subIn K (.ref S) (.type "BaseException") == some true) = true then (if ((PySem.W.clsIn K S).isSome && PySem.W.typeIn K (.ref S) == some (.type "type")) = true then PySem.W.subIn K (.ref S) (.ref S) else none) else none) = some true
  rw [if_pos e1, if_pos e2]
  exact h4
theorem no_attr {K : PySem.W.Frag} {C : Addr} {f : Str} (h : PySem.W.findIn K (.ref C) f = some none) : NoAttr K C f := h
theorem clsF_mk {K : PySem.W.Frag} {h : Heap} {mg : Str → Option Value} {CF fI : Addr} {nm q : Str} {N : Addr} {bs : List Value} {sn : List Str} {sub : List Value} {ab : Bool} {col : Option Bool} {dd : Option Addr} {m0 m1 m2 m3 m5 : Option Value} (X : K.In h) (G : h.Ns mainGlobals mg)
    (a : PySem.W.nsIn K mainGlobals "Refused" = some (some (.ref CF)))
    (l : K.lookup CF = some (excClassObj nm q CF N bs [.type "ValueError", .type "Exception", .type "BaseException", .type "object"] true sn sub ab col dd m0 m1 m2 m3 m5 "ValueError.__new__"))
    (sa : PySem.W.findIn K (.ref CF) "__setattr__" = some (some (.builtin "object.__setattr__"))) (ga : PySem.W.findIn K (.ref CF) "__getattribute__" = some (some (.builtin "BaseException.__getattribute__"))) (gg : PySem.W.findIn K (.ref CF) "__getattr__" = some none) (nc : PySem.W.findIn K (.ref CF) "code" = some none)
    (i : PySem.W.findIn K (.ref CF) "__init__" = some (some (.ref fI))) (t : PySem.W.typeIn K (.ref fI) = some (.type "function")) (k : PySem.W.keepIn K (.ref CF) = true) (e : PySem.W.subIn K (.ref CF) (.type "BaseException") = some true) (ty : PySem.W.typeIn K (.ref CF) = some (.type "type"))
    (hd : PySem.W.hasDictIn K CF = true) (ic : PySem.W.isClsIn K CF = true) (s : PySem.W.subIn K (.ref CF) (.ref CF) = some true) : ClsF K mg CF fI :=
  ⟨⟨⟨nm, q, N, bs, _, sn, sub, ab, col, dd, m0, m1, m2, m3, m5, l, by decide +kernel⟩, sa, e, ty, k⟩, ⟨ga, gg, e, hd⟩, nc, i, t, PySem.W.mg_of X G a, exm_own e ic ty s⟩
theorem end_mk {P : Program} {w : World} {K : PySem.W.Frag} {h : Heap} {mg : Str → Option Value} {CS CH CF fI f fa : Addr} {oc : Value} {od an : Option Addr} {kV dc pm cd ct : Value} {sl : Array (Option Value)} (X : K.In h) (G : h.Ns mainGlobals mg) (hfa : mg "answers" = some (.ref fa)) (_aS : PySem.W.nsIn K mainGlobals "Signals" = some (some (.ref CS))) (_aH : PySem.W.nsIn K mainGlobals "Hall" = some (some (.ref CH))) (_aF : PySem.W.nsIn K mainGlobals "Refused" = some (some (.ref CF)))
    (_aI : PySem.W.findIn K (.ref CF) "__init__" = some (some (.ref fI))) (T : Top K mg CS CH CF fI)
    (a : PySem.W.nsIn K mainGlobals "answers" = some (some (.ref f))) (l : K.lookup f = some ⟨oc, od, .func (PySem.W.fnOf "answers" "answers" (defArgs (top 42)) (defBody (top 42)) (defScope (top 42)) .none kV dc pm an cd ct), sl⟩)
    (c : PySem.W.codeIn K cd "answers" = true) (k : PySem.W.keepIn K (.ref f) = true) :
    ∃ fd : FuncData, (∀ (s : Shared) (us : List Value), us.length = (["calls"] : List Str).length → BindsTo s fd ⟨us, []⟩ ((["calls"] : List Str).zip us)) ∧ ∀ base : Heap, K.In base → base.Ns mainGlobals mg → FnOk P w K mg base CX0 10 fa fd ["calls"] (spAns K) := by
  have e := hfa.symm.trans (PySem.W.mg_of X G a)
  cases e
  exact ⟨_, fun s us hu => .of_eq (bg42 kV dc pm an cd ct us hu), fun base _ _ => ok_program T (fun_mk (st := top 42) l c k)⟩
end Sg
open PySem PySem.W PyProof.Rows
set_option maxRecDepth 100000 in
set_option maxHeartbeats 16000000 in
theorem PySem.Challenge.cw_sessionsigns_s01_answers_holds : PySem.Challenge.rw_sessionsigns_s01_answers.Holds := by
  w_on; k_headS; (case hw => exact ⟨[.list [.int 4, .int 0, .int 0]], by decide +kernel, by decide +kernel⟩)
  k_fillS
  refine L2.walk_specK (r := PySem.Challenge.rw_sessionsigns_s01_answers) (k := 10) (CX := L2.CX0) (ps := ["calls"]) (sp := Sg.spAns) (by decide +kernel) rfl rfl ⟨rfl, by decide, by decide⟩ (fun w h Y => PySem.W.kIn_of Y) ?F ?S (fun _ _ _ _ z => z)
  case F =>
    intro w mg fa h Y KX G hmg
    refine' Sg.end_mk KX G hmg ?aS ?aH ?aF ?aI ?T ?a ?l ?c ?k
    (case aS => k_is)
    (case aH => k_is)
    (case aF => k_is)
    (case aI => k_is)
    case T =>
      refine' { g3 := ?g3, g4 := ?g4, g5 := ?g5, g6 := ?g6, g7 := ?g7, g8 := ?g8, g9 := ?g9, g10 := ?g10, g11 := ?g11, g13 := ?g13, g14 := ?g14, g15 := ?g15, g16 := ?g16, g17 := ?g17, g20 := ?g20, g21 := ?g21, g22 := ?g22, g23 := ?g23, g24 := ?g24, g25 := ?g25, g39 := ?g39, g40 := ?g40, s0 := ?s0, s1 := ?s1, s2 := ?s2, s3 := ?s3, s4 := ?s4, s5 := ?s5, s6 := ?s6, s7 := ?s7, s8 := ?s8, s9 := ?s9, s10 := ?s10, s11 := ?s11, s12 := ?s12, s13 := ?s13, s14 := ?s14, h0 := ?h0, h1 := ?h1, h2 := ?h2, h3 := ?h3, h4 := ?h4, h5 := ?h5, h6 := ?h6, h7 := ?h7, h8 := ?h8, h9 := ?h9, h10 := ?h10, h11 := ?h11, h12 := ?h12, h13 := ?h13, h14 := ?h14, h15 := ?h15, h16 := ?h16, h17 := ?h17, h18 := ?h18, h19 := ?h19, r0 := ?r0, cS := ?cS, cH := ?cH, cF := ?cF, kS := ?kS, kH := ?kH, b := ?b, tNOUGHT := ?tNOUGHT, tONE := ?tONE, tHALF_sequences := ?tHALF_sequences, tHALF_signals := ?tHALF_signals, iNO_SIGNAL := ?iNO_SIGNAL, iNO_MODEL := ?iNO_MODEL, iOUTSIDE := ?iOUTSIDE, iUNDEFINED := ?iUNDEFINED, iMOST_SIGNALS := ?iMOST_SIGNALS, iMOST_WEIGHT := ?iMOST_WEIGHT, iMOST_LENGTH := ?iMOST_LENGTH, iMOST_SEEN := ?iMOST_SEEN }
      case g3 =>
        refine' Sg.fu_mk KX G Sg.bg3 ?g3_a ?g3_l ?g3_c ?g3_k
        (case g3_a => k_is)
        (case g3_l => k_is)
        (case g3_c => k_is)
        (case g3_k => k_is)
      case g4 =>
        refine' Sg.fu_mk KX G Sg.bg4 ?g4_a ?g4_l ?g4_c ?g4_k
        (case g4_a => k_is)
        (case g4_l => k_is)
        (case g4_c => k_is)
        (case g4_k => k_is)
      case g5 =>
        refine' Sg.fu_mk KX G Sg.bg5 ?g5_a ?g5_l ?g5_c ?g5_k
        (case g5_a => k_is)
        (case g5_l => k_is)
        (case g5_c => k_is)
        (case g5_k => k_is)
      case g6 =>
        refine' Sg.fu_mk KX G Sg.bg6 ?g6_a ?g6_l ?g6_c ?g6_k
        (case g6_a => k_is)
        (case g6_l => k_is)
        (case g6_c => k_is)
        (case g6_k => k_is)
      case g7 =>
        refine' Sg.fu_mk KX G Sg.bg7 ?g7_a ?g7_l ?g7_c ?g7_k
        (case g7_a => k_is)
        (case g7_l => k_is)
        (case g7_c => k_is)
        (case g7_k => k_is)
      case g8 =>
        refine' Sg.fu_mk KX G Sg.bg8 ?g8_a ?g8_l ?g8_c ?g8_k
        (case g8_a => k_is)
        (case g8_l => k_is)
        (case g8_c => k_is)
        (case g8_k => k_is)
      case g9 =>
        refine' Sg.fu_mk KX G Sg.bg9 ?g9_a ?g9_l ?g9_c ?g9_k
        (case g9_a => k_is)
        (case g9_l => k_is)
        (case g9_c => k_is)
        (case g9_k => k_is)
      case g10 =>
        refine' Sg.fu_mk KX G Sg.bg10 ?g10_a ?g10_l ?g10_c ?g10_k
        (case g10_a => k_is)
        (case g10_l => k_is)
        (case g10_c => k_is)
        (case g10_k => k_is)
      case g11 =>
        refine' Sg.fu_mk KX G Sg.bg11 ?g11_a ?g11_l ?g11_c ?g11_k
        (case g11_a => k_is)
        (case g11_l => k_is)
        (case g11_c => k_is)
        (case g11_k => k_is)
      case g13 =>
        refine' Sg.fu_mk KX G Sg.bg13 ?g13_a ?g13_l ?g13_c ?g13_k
        (case g13_a => k_is)
        (case g13_l => k_is)
        (case g13_c => k_is)
        (case g13_k => k_is)
      case g14 =>
        refine' Sg.fu_mk KX G Sg.bg14 ?g14_a ?g14_l ?g14_c ?g14_k
        (case g14_a => k_is)
        (case g14_l => k_is)
        (case g14_c => k_is)
        (case g14_k => k_is)
      case g15 =>
        refine' Sg.fu_mk KX G Sg.bg15 ?g15_a ?g15_l ?g15_c ?g15_k
        (case g15_a => k_is)
        (case g15_l => k_is)
        (case g15_c => k_is)
        (case g15_k => k_is)
      case g16 =>
        refine' Sg.fu_mk KX G Sg.bg16 ?g16_a ?g16_l ?g16_c ?g16_k
        (case g16_a => k_is)
        (case g16_l => k_is)
        (case g16_c => k_is)
        (case g16_k => k_is)
      case g17 =>
        refine' Sg.fu_mk KX G Sg.bg17 ?g17_a ?g17_l ?g17_c ?g17_k
        (case g17_a => k_is)
        (case g17_l => k_is)
        (case g17_c => k_is)
        (case g17_k => k_is)
      case g20 =>
        refine' Sg.fu_mk KX G Sg.bg20 ?g20_a ?g20_l ?g20_c ?g20_k
        (case g20_a => k_is)
        (case g20_l => k_is)
        (case g20_c => k_is)
        (case g20_k => k_is)
      case g21 =>
        refine' Sg.fu_mk KX G Sg.bg21 ?g21_a ?g21_l ?g21_c ?g21_k
        (case g21_a => k_is)
        (case g21_l => k_is)
        (case g21_c => k_is)
        (case g21_k => k_is)
      case g22 =>
        refine' Sg.fu_mk KX G Sg.bg22 ?g22_a ?g22_l ?g22_c ?g22_k
        (case g22_a => k_is)
        (case g22_l => k_is)
        (case g22_c => k_is)
        (case g22_k => k_is)
      case g23 =>
        refine' Sg.fu_mk KX G Sg.bg23 ?g23_a ?g23_l ?g23_c ?g23_k
        (case g23_a => k_is)
        (case g23_l => k_is)
        (case g23_c => k_is)
        (case g23_k => k_is)
      case g24 =>
        refine' Sg.fu_mk KX G Sg.bg24 ?g24_a ?g24_l ?g24_c ?g24_k
        (case g24_a => k_is)
        (case g24_l => k_is)
        (case g24_c => k_is)
        (case g24_k => k_is)
      case g25 =>
        refine' Sg.fu_mk KX G Sg.bg25 ?g25_a ?g25_l ?g25_c ?g25_k
        (case g25_a => k_is)
        (case g25_l => k_is)
        (case g25_c => k_is)
        (case g25_k => k_is)
      case g39 =>
        refine' Sg.fu_mk KX G Sg.bg39 ?g39_a ?g39_l ?g39_c ?g39_k
        (case g39_a => k_is)
        (case g39_l => k_is)
        (case g39_c => k_is)
        (case g39_k => k_is)
      case g40 =>
        refine' Sg.fu_mk KX G Sg.bg40 ?g40_a ?g40_l ?g40_c ?g40_k
        (case g40_a => k_is)
        (case g40_l => k_is)
        (case g40_c => k_is)
        (case g40_k => k_is)
      case s0 =>
        refine' Sg.mu_mk Sg.bs0 ?s0_a ?s0_i ?s0_l ?s0_c ?s0_k
        (case s0_a => k_is)
        (case s0_i => k_is)
        (case s0_l => k_is)
        (case s0_c => k_is)
        (case s0_k => k_is)
      case s1 =>
        refine' Sg.mu_mk Sg.bs1 ?s1_a ?s1_i ?s1_l ?s1_c ?s1_k
        (case s1_a => k_is)
        (case s1_i => k_is)
        (case s1_l => k_is)
        (case s1_c => k_is)
        (case s1_k => k_is)
      case s2 =>
        refine' Sg.mu_mk Sg.bs2 ?s2_a ?s2_i ?s2_l ?s2_c ?s2_k
        (case s2_a => k_is)
        (case s2_i => k_is)
        (case s2_l => k_is)
        (case s2_c => k_is)
        (case s2_k => k_is)
      case s3 =>
        refine' Sg.mu_mk Sg.bs3 ?s3_a ?s3_i ?s3_l ?s3_c ?s3_k
        (case s3_a => k_is)
        (case s3_i => k_is)
        (case s3_l => k_is)
        (case s3_c => k_is)
        (case s3_k => k_is)
      case s4 =>
        refine' Sg.mu_mk Sg.bs4 ?s4_a ?s4_i ?s4_l ?s4_c ?s4_k
        (case s4_a => k_is)
        (case s4_i => k_is)
        (case s4_l => k_is)
        (case s4_c => k_is)
        (case s4_k => k_is)
      case s5 =>
        refine' Sg.mu_mk Sg.bs5 ?s5_a ?s5_i ?s5_l ?s5_c ?s5_k
        (case s5_a => k_is)
        (case s5_i => k_is)
        (case s5_l => k_is)
        (case s5_c => k_is)
        (case s5_k => k_is)
      case s6 =>
        refine' Sg.mu_mk Sg.bs6 ?s6_a ?s6_i ?s6_l ?s6_c ?s6_k
        (case s6_a => k_is)
        (case s6_i => k_is)
        (case s6_l => k_is)
        (case s6_c => k_is)
        (case s6_k => k_is)
      case s7 =>
        refine' Sg.mu_mk Sg.bs7 ?s7_a ?s7_i ?s7_l ?s7_c ?s7_k
        (case s7_a => k_is)
        (case s7_i => k_is)
        (case s7_l => k_is)
        (case s7_c => k_is)
        (case s7_k => k_is)
      case s8 =>
        refine' Sg.mu_mk Sg.bs8 ?s8_a ?s8_i ?s8_l ?s8_c ?s8_k
        (case s8_a => k_is)
        (case s8_i => k_is)
        (case s8_l => k_is)
        (case s8_c => k_is)
        (case s8_k => k_is)
      case s9 =>
        refine' Sg.mu_mk Sg.bs9 ?s9_a ?s9_i ?s9_l ?s9_c ?s9_k
        (case s9_a => k_is)
        (case s9_i => k_is)
        (case s9_l => k_is)
        (case s9_c => k_is)
        (case s9_k => k_is)
      case s10 =>
        refine' Sg.mu_mk Sg.bs10 ?s10_a ?s10_i ?s10_l ?s10_c ?s10_k
        (case s10_a => k_is)
        (case s10_i => k_is)
        (case s10_l => k_is)
        (case s10_c => k_is)
        (case s10_k => k_is)
      case s11 =>
        refine' Sg.mu_mk Sg.bs11 ?s11_a ?s11_i ?s11_l ?s11_c ?s11_k
        (case s11_a => k_is)
        (case s11_i => k_is)
        (case s11_l => k_is)
        (case s11_c => k_is)
        (case s11_k => k_is)
      case s12 =>
        refine' Sg.mu_mk Sg.bs12 ?s12_a ?s12_i ?s12_l ?s12_c ?s12_k
        (case s12_a => k_is)
        (case s12_i => k_is)
        (case s12_l => k_is)
        (case s12_c => k_is)
        (case s12_k => k_is)
      case s13 =>
        refine' Sg.mu_mk Sg.bs13 ?s13_a ?s13_i ?s13_l ?s13_c ?s13_k
        (case s13_a => k_is)
        (case s13_i => k_is)
        (case s13_l => k_is)
        (case s13_c => k_is)
        (case s13_k => k_is)
      case s14 =>
        refine' Sg.mu_mk Sg.bs14 ?s14_a ?s14_i ?s14_l ?s14_c ?s14_k
        (case s14_a => k_is)
        (case s14_i => k_is)
        (case s14_l => k_is)
        (case s14_c => k_is)
        (case s14_k => k_is)
      case h0 =>
        refine' Sg.mu_mk Sg.bh0 ?h0_a ?h0_i ?h0_l ?h0_c ?h0_k
        (case h0_a => k_is)
        (case h0_i => k_is)
        (case h0_l => k_is)
        (case h0_c => k_is)
        (case h0_k => k_is)
      case h1 =>
        refine' Sg.mu_mk Sg.bh1 ?h1_a ?h1_i ?h1_l ?h1_c ?h1_k
        (case h1_a => k_is)
        (case h1_i => k_is)
        (case h1_l => k_is)
        (case h1_c => k_is)
        (case h1_k => k_is)
      case h2 =>
        refine' Sg.mu_mk Sg.bh2 ?h2_a ?h2_i ?h2_l ?h2_c ?h2_k
        (case h2_a => k_is)
        (case h2_i => k_is)
        (case h2_l => k_is)
        (case h2_c => k_is)
        (case h2_k => k_is)
      case h3 =>
        refine' Sg.mu_mk Sg.bh3 ?h3_a ?h3_i ?h3_l ?h3_c ?h3_k
        (case h3_a => k_is)
        (case h3_i => k_is)
        (case h3_l => k_is)
        (case h3_c => k_is)
        (case h3_k => k_is)
      case h4 =>
        refine' Sg.mu_mk Sg.bh4 ?h4_a ?h4_i ?h4_l ?h4_c ?h4_k
        (case h4_a => k_is)
        (case h4_i => k_is)
        (case h4_l => k_is)
        (case h4_c => k_is)
        (case h4_k => k_is)
      case h5 =>
        refine' Sg.mu_mk Sg.bh5 ?h5_a ?h5_i ?h5_l ?h5_c ?h5_k
        (case h5_a => k_is)
        (case h5_i => k_is)
        (case h5_l => k_is)
        (case h5_c => k_is)
        (case h5_k => k_is)
      case h6 =>
        refine' Sg.mu_mk Sg.bh6 ?h6_a ?h6_i ?h6_l ?h6_c ?h6_k
        (case h6_a => k_is)
        (case h6_i => k_is)
        (case h6_l => k_is)
        (case h6_c => k_is)
        (case h6_k => k_is)
      case h7 =>
        refine' Sg.mu_mk Sg.bh7 ?h7_a ?h7_i ?h7_l ?h7_c ?h7_k
        (case h7_a => k_is)
        (case h7_i => k_is)
        (case h7_l => k_is)
        (case h7_c => k_is)
        (case h7_k => k_is)
      case h8 =>
        refine' Sg.mu_mk Sg.bh8 ?h8_a ?h8_i ?h8_l ?h8_c ?h8_k
        (case h8_a => k_is)
        (case h8_i => k_is)
        (case h8_l => k_is)
        (case h8_c => k_is)
        (case h8_k => k_is)
      case h9 =>
        refine' Sg.mu_mk Sg.bh9 ?h9_a ?h9_i ?h9_l ?h9_c ?h9_k
        (case h9_a => k_is)
        (case h9_i => k_is)
        (case h9_l => k_is)
        (case h9_c => k_is)
        (case h9_k => k_is)
      case h10 =>
        refine' Sg.mu_mk Sg.bh10 ?h10_a ?h10_i ?h10_l ?h10_c ?h10_k
        (case h10_a => k_is)
        (case h10_i => k_is)
        (case h10_l => k_is)
        (case h10_c => k_is)
        (case h10_k => k_is)
      case h11 =>
        refine' Sg.mu_mk Sg.bh11 ?h11_a ?h11_i ?h11_l ?h11_c ?h11_k
        (case h11_a => k_is)
        (case h11_i => k_is)
        (case h11_l => k_is)
        (case h11_c => k_is)
        (case h11_k => k_is)
      case h12 =>
        refine' Sg.mu_mk Sg.bh12 ?h12_a ?h12_i ?h12_l ?h12_c ?h12_k
        (case h12_a => k_is)
        (case h12_i => k_is)
        (case h12_l => k_is)
        (case h12_c => k_is)
        (case h12_k => k_is)
      case h13 =>
        refine' Sg.mu_mk Sg.bh13 ?h13_a ?h13_i ?h13_l ?h13_c ?h13_k
        (case h13_a => k_is)
        (case h13_i => k_is)
        (case h13_l => k_is)
        (case h13_c => k_is)
        (case h13_k => k_is)
      case h14 =>
        refine' Sg.mu_mk Sg.bh14 ?h14_a ?h14_i ?h14_l ?h14_c ?h14_k
        (case h14_a => k_is)
        (case h14_i => k_is)
        (case h14_l => k_is)
        (case h14_c => k_is)
        (case h14_k => k_is)
      case h15 =>
        refine' Sg.mu_mk Sg.bh15 ?h15_a ?h15_i ?h15_l ?h15_c ?h15_k
        (case h15_a => k_is)
        (case h15_i => k_is)
        (case h15_l => k_is)
        (case h15_c => k_is)
        (case h15_k => k_is)
      case h16 =>
        refine' Sg.mu_mk Sg.bh16 ?h16_a ?h16_i ?h16_l ?h16_c ?h16_k
        (case h16_a => k_is)
        (case h16_i => k_is)
        (case h16_l => k_is)
        (case h16_c => k_is)
        (case h16_k => k_is)
      case h17 =>
        refine' Sg.mu_mk Sg.bh17 ?h17_a ?h17_i ?h17_l ?h17_c ?h17_k
        (case h17_a => k_is)
        (case h17_i => k_is)
        (case h17_l => k_is)
        (case h17_c => k_is)
        (case h17_k => k_is)
      case h18 =>
        refine' Sg.mu_mk Sg.bh18 ?h18_a ?h18_i ?h18_l ?h18_c ?h18_k
        (case h18_a => k_is)
        (case h18_i => k_is)
        (case h18_l => k_is)
        (case h18_c => k_is)
        (case h18_k => k_is)
      case h19 =>
        refine' Sg.mu_mk Sg.bh19 ?h19_a ?h19_i ?h19_l ?h19_c ?h19_k
        (case h19_a => k_is)
        (case h19_i => k_is)
        (case h19_l => k_is)
        (case h19_c => k_is)
        (case h19_k => k_is)
      case r0 =>
        refine' Sg.fa_mk Sg.br0 ?r0_l ?r0_c ?r0_k
        (case r0_l => k_is)
        (case r0_c => k_is)
        (case r0_k => k_is)
      case cS =>
        refine' ⟨⟨?cS_pg, ?cS_hd, ?cS_po, ?cS_sa⟩, Sg.no_attr ?cS_n1, Sg.no_attr ?cS_n2, Sg.no_attr ?cS_n3⟩
        (case cS_pg => k_is)
        (case cS_hd => k_is)
        (case cS_po => k_is)
        (case cS_sa => k_is)
        (case cS_n1 => k_is)
        (case cS_n2 => k_is)
        (case cS_n3 => k_is)
      case cH =>
        refine' ⟨⟨?cH_pg, ?cH_hd, ?cH_po, ?cH_sa⟩, Sg.no_attr ?cH_n1⟩
        (case cH_pg => k_is)
        (case cH_hd => k_is)
        (case cH_po => k_is)
        (case cH_sa => k_is)
        (case cH_n1 => k_is)
      case cF =>
        refine' Sg.clsF_mk KX G ?cF_a ?cF_l ?cF_sa ?cF_ga ?cF_gg ?cF_nc ?cF_i ?cF_t ?cF_k ?cF_e ?cF_ty ?cF_hd ?cF_ic ?cF_s
        (case cF_a => k_is)
        (case cF_l => k_is)
        (case cF_sa => k_is)
        (case cF_ga => k_is)
        (case cF_gg => k_is)
        (case cF_nc => k_is)
        (case cF_i => k_is)
        (case cF_t => k_is)
        (case cF_k => k_is)
        (case cF_e => k_is)
        (case cF_ty => k_is)
        (case cF_hd => k_is)
        (case cF_ic => k_is)
        (case cF_s => first | rfl | k_is)
      case kS =>
        refine' ⟨?kS_m, ?kS_k, PySem.W.mg_of KX G ?kS_a⟩
        (case kS_a => k_is)
        (case kS_m => k_is)
        (case kS_k => k_is)
      case kH =>
        refine' ⟨?kH_m, ?kH_k, PySem.W.mg_of KX G ?kH_a⟩
        (case kH_a => k_is)
        (case kH_m => k_is)
        (case kH_k => k_is)
      case b =>
        refine' ⟨PySem.W.mg_none_of KX G ?b_b0, PySem.W.mg_none_of KX G ?b_b1, PySem.W.mg_none_of KX G ?b_b2, PySem.W.mg_none_of KX G ?b_b3, PySem.W.mg_none_of KX G ?b_b4, PySem.W.mg_none_of KX G ?b_b5, PySem.W.mg_none_of KX G ?b_b6, PySem.W.mg_none_of KX G ?b_b7⟩
        (case b_b0 => k_is)
        (case b_b1 => k_is)
        (case b_b2 => k_is)
        (case b_b3 => k_is)
        (case b_b4 => k_is)
        (case b_b5 => k_is)
        (case b_b6 => k_is)
        (case b_b7 => k_is)
      case tNOUGHT =>
        refine' Sg.tup_mk KX G ?tNOUGHT_e ?tNOUGHT_l
        (case tNOUGHT_e => k_is)
        (case tNOUGHT_l => k_is)
      case tONE =>
        refine' Sg.tup_mk KX G ?tONE_e ?tONE_l
        (case tONE_e => k_is)
        (case tONE_l => k_is)
      case tHALF_sequences =>
        refine' Sg.tup_mk KX G ?tHALF_sequences_e ?tHALF_sequences_l
        (case tHALF_sequences_e => k_is)
        (case tHALF_sequences_l => k_is)
      case tHALF_signals =>
        refine' Sg.tup_mk KX G ?tHALF_signals_e ?tHALF_signals_l
        (case tHALF_signals_e => k_is)
        (case tHALF_signals_l => k_is)
      case iNO_SIGNAL =>
        refine' Sg.int_mk KX G ?iNO_SIGNAL_e
        (case iNO_SIGNAL_e => k_is)
      case iNO_MODEL =>
        refine' Sg.int_mk KX G ?iNO_MODEL_e
        (case iNO_MODEL_e => k_is)
      case iOUTSIDE =>
        refine' Sg.int_mk KX G ?iOUTSIDE_e
        (case iOUTSIDE_e => k_is)
      case iUNDEFINED =>
        refine' Sg.int_mk KX G ?iUNDEFINED_e
        (case iUNDEFINED_e => k_is)
      case iMOST_SIGNALS =>
        refine' Sg.int_mk KX G ?iMOST_SIGNALS_e
        (case iMOST_SIGNALS_e => k_is)
      case iMOST_WEIGHT =>
        refine' Sg.int_mk KX G ?iMOST_WEIGHT_e
        (case iMOST_WEIGHT_e => k_is)
      case iMOST_LENGTH =>
        refine' Sg.int_mk KX G ?iMOST_LENGTH_e
        (case iMOST_LENGTH_e => k_is)
      case iMOST_SEEN =>
        refine' Sg.int_mk KX G ?iMOST_SEEN_e
        (case iMOST_SEEN_e => k_is)
    (case a => k_is)
    (case l => k_is)
    (case c => k_is)
    (case k => k_is)
  case S =>
    intro K H xs a hO hwi hask hx
    cases hx with
    | cons h1 h2 =>
      cases h2
      cases h1 with
      | lst hs ha =>
        have e := L2.ints_dw a.1 _ ha
        subst e
        exact ⟨_, a.1, rfl, hs, hask, fun H' p hp => .lst (L2.SqL.of hp) (L2.dw_ints _)⟩
