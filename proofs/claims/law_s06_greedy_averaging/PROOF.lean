import PyProof.Rows.All
import Wide.All
import OpenK.AllK
import Wide.FinOn
import Open.SpecLaws
import KE.OsGo
import HandS.Spec
import HandS.Words
import HandS.WordsList
import HandS.Comp
import HandS.Wide
import PySem.Challenge.RW_meanpairs_s06_greedy_averaging
set_option Elab.async false
set_option linter.all false
set_option maxRecDepth 100000
set_option maxHeartbeats 2000000
/-! ## 1. The plain mathematics: functions over whole numbers that say what the specification says -/
namespace Mp
open Ks604 (Rational)
/-! ### rational numbers: those of the specification are core Lean's -/
def ofRat (r : Rat) : Rational := ⟨r.num, r.den⟩
theorem ofRat_inj {a b : Rat} (h : ofRat a = ofRat b) : a = b := by
  have h1 : a.num = b.num := congrArg Rational.num h
  have h2 : a.den = b.den := congrArg Rational.den h
  exact Rat.ext h1 h2
theorem make_rat (n : Int) (d : Nat) : Rational.make n d = ofRat (mkRat n d) := by
  unfold Rational.make ofRat
  rw [Rat.num_mkRat, Rat.den_mkRat]
  by_cases h : d = 0
  · rw [if_pos h, if_pos h, if_pos h]
  · rw [if_neg h, if_neg h, if_neg h, Nat.gcd_comm]
theorem add_rat (a b : Rat) : ofRat a + ofRat b = ofRat (a + b) := by
  show Rational.make (a.num * b.den + b.num * a.den) (a.den * b.den) = _
  rw [make_rat, Rat.add_def']
theorem sub_rat (a b : Rat) : ofRat a - ofRat b = ofRat (a - b) := by
  show Rational.make (a.num * b.den + (-b.num) * a.den) (a.den * b.den) = _
  rw [make_rat, Rat.sub_def', Int.neg_mul, Int.sub_eq_add_neg]
theorem mul_rat (a b : Rat) : ofRat a * ofRat b = ofRat (a * b) := by
  show Rational.make (a.num * b.num) (a.den * b.den) = _
  rw [make_rat, Rat.mul_def']
theorem lt_rat (a b : Rat) : Rational.lt (ofRat a) (ofRat b) = decide (a < b) := by
  show decide (a.num * b.den < b.num * a.den) = _
  rw [decide_eq_decide]
  exact (Rat.lt_iff a b).symm
/-- n over d -/
abbrev fr (n : Int) (d : Nat) : Rational := Rational.make n d
theorem mkRat_add_same (a b : Int) {d : Nat} (h : d ≠ 0) : mkRat a d + mkRat b d = mkRat (a + b) d := by
  rw [Rat.mkRat_add_mkRat _ _ h h, ← Int.add_mul, Rat.mkRat_mul_right h]
theorem mkRat_sub_same (a b : Int) {d : Nat} (h : d ≠ 0) : mkRat a d - mkRat b d = mkRat (a - b) d := by
  rw [Rat.sub_eq_add_neg, Rat.neg_mkRat, mkRat_add_same _ _ h, Int.sub_eq_add_neg]
theorem fr_add (a b : Int) {d : Nat} (h : d ≠ 0) : fr a d + fr b d = fr (a + b) d := by
  unfold fr
  rw [make_rat, make_rat, make_rat, add_rat, mkRat_add_same _ _ h]
theorem fr_sub (a b : Int) {d : Nat} (h : d ≠ 0) : fr a d - fr b d = fr (a - b) d := by
  unfold fr
  rw [make_rat, make_rat, make_rat, sub_rat, mkRat_sub_same _ _ h]
theorem fr_mul (a b : Int) (d e : Nat) : fr a d * fr b e = fr (a * b) (d * e) := by
  unfold fr
  rw [make_rat, make_rat, make_rat, mul_rat, Rat.mkRat_mul_mkRat]
theorem fr_half (a : Int) (d : Nat) : fr a d * Rational.make 1 2 = fr a (2 * d) := by
  rw [fr_mul, Int.mul_one, Nat.mul_comm]
theorem fr_two (a : Int) (d : Nat) : fr (2 * a) (2 * d) = fr a d := by
  unfold fr
  rw [make_rat, make_rat]
  have := Rat.mkRat_mul_left (n := a) (d := d) (a := 2) (by decide)
  exact congrArg ofRat this
theorem fr_inj {a b : Int} {d : Nat} (h : d ≠ 0) : fr a d = fr b d ↔ a = b := by
  constructor
  · intro e
    unfold fr at e
    rw [make_rat, make_rat] at e
    have e2 := (Rat.mkRat_eq_iff h h).mp (ofRat_inj e)
    exact Int.eq_of_mul_eq_mul_right (by omega) e2
  · intro e
    rw [e]
theorem fr_lt (a b : Int) {d : Nat} (h : d ≠ 0) : Rational.lt (fr a d) (fr b d) = decide (a < b) := by
  unfold fr
  rw [make_rat, make_rat, lt_rat, decide_eq_decide, ← Rat.not_le, Rat.le_iff_sub_nonneg, mkRat_sub_same _ _ h, ← Rat.divInt_ofNat, Rat.divInt_nonneg_iff_of_pos_right (by omega)]
  omega
theorem fr_zero (d : Nat) : fr 0 d = Rational.zero := by
  unfold fr
  rw [make_rat, Rat.zero_mkRat]
  rfl
theorem fr_one (a : Int) : fr a 1 = ⟨a, 1⟩ := by
  unfold fr Rational.make
  rw [if_neg (by decide), Nat.gcd_one_right]
  simp
theorem fr_lowest (a : Int) (d : Nat) (h : d ≠ 0) : fr a d = ⟨a / (Nat.gcd a.natAbs d : Nat), d / Nat.gcd a.natAbs d⟩ := by
  unfold fr Rational.make
  rw [if_neg h]
end Mp
namespace Mp
open Ks604 (Rational)
/-! ### values with one denominator -/
def vals (ns : List Int) (d : Nat) : Ks606.Values := ns.map fun n => fr n d
/-- means.averaged -/
def averaged (ns : List Int) (i j : Nat) : List Int :=
  ((ns.map fun n => 2 * n).set i (ns.getD i 0 + ns.getD j 0)).set j (ns.getD i 0 + ns.getD j 0)
theorem averaged_len (ns : List Int) (i j : Nat) : (averaged ns i j).length = ns.length := by
  unfold averaged
  rw [List.length_set, List.length_set, List.length_map]
theorem vals_len (ns : List Int) (d : Nat) : (vals ns d).length = ns.length := List.length_map _
theorem valueAt_vals (ns : List Int) (d : Nat) (i : Nat) : Ks606.valueAt (vals ns d) i = fr (ns.getD i 0) d := by
  unfold Ks606.valueAt vals
  rw [List.getD_eq_getElem?_getD, List.getD_eq_getElem?_getD, List.getElem?_map]
  cases ns[i]? with
  | none => exact (fr_zero d).symm
  | some x => rfl
theorem vals_two (ns : List Int) (d : Nat) : vals (ns.map fun n => 2 * n) (2 * d) = vals ns d := by
  unfold vals
  rw [List.map_map]
  refine List.map_congr_left fun n _ => ?_
  exact fr_two n d
theorem average_vals (ns : List Int) {d : Nat} (h : d ≠ 0) (i j : Nat) : Ks606.average (vals ns d) i j = vals (averaged ns i j) (2 * d) := by
  unfold Ks606.average averaged
  rw [valueAt_vals, valueAt_vals, fr_add _ _ h, fr_half]
  show ((vals ns d).set i _).set j _ = _
  rw [← vals_two]
  unfold vals
  rw [List.map_set, List.map_set]
theorem areEqual_vals (ns : List Int) {d : Nat} (h : d ≠ 0) : Ks606.areEqual (vals ns d) = ns.all fun n => n == ns.headD 0 := by
  unfold Ks606.areEqual
  have e : (vals ns d).headD Rational.zero = fr (ns.headD 0) d := by
    cases ns with
    | nil => exact (fr_zero d).symm
    | cons x r => rfl
  rw [e]
  unfold vals
  rw [List.all_map]
  congr 1
  funext n
  show (fr n d == fr (ns.headD 0) d) = (n == ns.headD 0)
  rw [Bool.eq_iff_iff, beq_iff_eq, beq_iff_eq]
  exact fr_inj h
/-! ### pairs -/
def pairs2 : List Int → List (Nat × Nat)
  | i :: j :: r => (i.toNat, j.toNat) :: pairs2 r
  | _ => []
theorem pairs2_len : ∀ ps : List Int, (pairs2 ps).length = ps.length / 2
  | [] => rfl
  | [_] => by
    show 0 = 1 / 2
    rfl
  | i :: j :: r => by
    show (pairs2 r).length + 1 = (r.length + 1 + 1) / 2
    rw [pairs2_len r]
    omega
theorem pairs2_get : ∀ (ps : List Int) (k : Nat), 2 * k + 1 < ps.length → (pairs2 ps)[k]? = some ((ps.getD (2 * k) 0).toNat, (ps.getD (2 * k + 1) 0).toNat)
  | [], _, h => by simp at h
  | [_], k, h => by
    have : 2 * k + 1 < 1 := h
    omega
  | i :: j :: r, 0, _ => rfl
  | i :: j :: r, k + 1, h => by
    have h2 : 2 * k + 1 < r.length := by
      have : 2 * (k + 1) + 1 < r.length + 1 + 1 := h
      omega
    have ih := pairs2_get r k h2
    show (pairs2 r)[k]? = _
    rw [ih]
    rfl
def isPair (c : Nat) (p : Nat × Nat) : Bool := decide (p.1 < c) && decide (p.2 < c) && decide (p.1 ≠ p.2)
def okPairs (c : Nat) (ps : List Int) : Bool := decide (ps.length % 2 = 0) && decide (ps.length ≤ 40) && (pairs2 ps).all (isPair c)
theorem parse_eq (c : Nat) : ∀ ps : List Int, Ks606.parsePairs c (ps.map Int.toNat) = if ps.length % 2 = 0 ∧ (pairs2 ps).all (isPair c) = true then some (pairs2 ps) else none
  | [] => rfl
  | [i] => by
    rw [if_neg]
    · rfl
    · rintro ⟨h, _⟩
      cases h
  | i :: j :: r => by
    have ih := parse_eq c r
    show (if c ≤ i.toNat ∨ c ≤ j.toNat ∨ i.toNat = j.toNat then none else (Ks606.parsePairs c (r.map Int.toNat)).map fun pairs => (i.toNat, j.toNat) :: pairs) = _
    rw [ih]
    have el : (i :: j :: r).length % 2 = r.length % 2 := by
      show (r.length + 1 + 1) % 2 = r.length % 2
      omega
    have ea : (pairs2 (i :: j :: r)).all (isPair c) = (isPair c (i.toNat, j.toNat) && (pairs2 r).all (isPair c)) := rfl
    rw [el, ea]
    by_cases g : c ≤ i.toNat ∨ c ≤ j.toNat ∨ i.toNat = j.toNat
    · rw [if_pos g, if_neg]
      rintro ⟨_, h⟩
      rw [Bool.and_eq_true] at h
      have h1 := h.1
      unfold isPair at h1
      simp only [Bool.and_eq_true, decide_eq_true_eq] at h1
      omega
    · rw [if_neg g]
      have h1 : isPair c (i.toNat, j.toNat) = true := by
        unfold isPair
        simp only [Bool.and_eq_true, decide_eq_true_eq]
        omega
      rw [h1, Bool.true_and]
      by_cases g2 : r.length % 2 = 0 ∧ (pairs2 r).all (isPair c) = true
      · rw [if_pos g2, if_pos g2]
        rfl
      · rw [if_neg g2, if_neg g2]
        rfl
theorem withPairs_eq (c : Nat) (ps : List Int) (f : List (Nat × Nat) → Ks606.Result) : Ks606.withPairs c (ps.map Int.toNat) f = if okPairs c ps = true then f (pairs2 ps) else Ks606.number (-22) := by
  unfold Ks606.withPairs
  rw [parse_eq]
  unfold okPairs
  by_cases g : ps.length % 2 = 0 ∧ (pairs2 ps).all (isPair c) = true
  · rw [if_pos g]
    show (if 20 < (pairs2 ps).length then Ks606.number (-22) else f (pairs2 ps)) = _
    rw [pairs2_len, g.2, Bool.and_true, decide_eq_true g.1, Bool.true_and]
    by_cases g2 : ps.length ≤ 40
    · rw [if_neg (by omega), if_pos (decide_eq_true g2)]
    · rw [if_pos (by omega), if_neg]
      rw [decide_eq_true_eq]
      exact g2
  · rw [if_neg g, if_neg]
    simp only [Bool.and_eq_true, decide_eq_true_eq]
    rintro ⟨⟨h1, _⟩, h2⟩
    exact g ⟨h1, h2⟩
/-! ### sequences -/
def afterPairs (ns : List Int) (l : List (Nat × Nat)) : List Int := l.foldl (fun f p => averaged f p.1 p.2) ns
theorem afterPairs_len : ∀ (l : List (Nat × Nat)) (ns : List Int), (afterPairs ns l).length = ns.length
  | [], _ => rfl
  | p :: r, ns => by
    show (afterPairs (averaged ns p.1 p.2) r).length = _
    rw [afterPairs_len r, averaged_len]
theorem averageAll_vals : ∀ (l : List (Nat × Nat)) (ns : List Int) (d : Nat), d ≠ 0 → Ks606.averageAll (vals ns d) l = vals (afterPairs ns l) (2 ^ l.length * d)
  | [], ns, d, _ => by
    show vals ns d = vals ns (1 * d)
    rw [Nat.one_mul]
  | p :: r, ns, d, h => by
    show Ks606.averageAll (Ks606.average (vals ns d) p.1 p.2) r = vals (afterPairs (averaged ns p.1 p.2) r) (2 ^ (r.length + 1) * d)
    rw [average_vals ns h, averageAll_vals r _ _ (by omega), Nat.pow_succ, Nat.mul_assoc]
/-! ### values -/
def okValues (vs : List Int) : Bool := decide (1 ≤ vs.length) && decide (vs.length ≤ 8) && vs.all fun v => decide (0 ≤ v) && decide (v ≤ 99)
theorem withValues_eq (vs : List Int) (hv : ∀ v ∈ vs, 0 ≤ v) (f : Ks606.Values → Ks606.Result) : Ks606.withValues (vs.map Int.toNat) f = if okValues vs = true then f (vals vs 1) else Ks606.number (-22) := by
  unfold Ks606.withValues okValues
  have e1 : ((vs.map Int.toNat).map Rational.ofNat) = vals vs 1 := by
    unfold vals
    rw [List.map_map]
    refine List.map_congr_left fun v h => ?_
    rw [fr_one]
    show (⟨((v.toNat : Nat) : Int), 1⟩ : Rational) = _
    rw [Int.toNat_of_nonneg (hv v h)]
  have e2 : ((vs.map Int.toNat).any fun x => decide (99 < x)) = !(vs.all fun v => decide (0 ≤ v) && decide (v ≤ 99)) := by
    rw [List.any_map, List.not_all_eq_any_not]
    refine Bool.eq_iff_iff.mpr ?_
    rw [List.any_eq_true, List.any_eq_true]
    constructor
    · rintro ⟨x, hx, q⟩
      refine ⟨x, hx, ?_⟩
      have q2 : 99 < x.toNat := of_decide_eq_true q
      simp only [Bool.not_eq_true', Bool.and_eq_false_iff, decide_eq_false_iff_not]
      omega
    · rintro ⟨x, hx, q⟩
      refine ⟨x, hx, ?_⟩
      have h0 := hv x hx
      simp only [Bool.not_eq_true', Bool.and_eq_false_iff, decide_eq_false_iff_not] at q
      show decide (99 < x.toNat) = true
      rw [decide_eq_true_eq]
      omega
  rw [e1, e2, List.length_map]
  unfold Ks606.maxValues
  cases (vs.all fun v => decide (0 ≤ v) && decide (v ≤ 99)) with
  | true =>
    by_cases g : 1 ≤ vs.length ∧ vs.length ≤ 8
    · rw [if_neg, if_pos]
      · simp only [Bool.and_eq_true, decide_eq_true_eq, and_true]
        exact g
      · rintro (h | h | h)
        · omega
        · omega
        · cases h
    · rw [if_pos, if_neg]
      · simp only [Bool.and_eq_true, decide_eq_true_eq, and_true]
        exact g
      · omega
  | false =>
    rw [if_pos, if_neg]
    · simp
    · exact .inr (.inr rfl)
theorem withCount_eq (c : Int) (h : 0 ≤ c) (f : Unit → Ks606.Result) : Ks606.withCount c.toNat f = if 1 ≤ c ∧ c ≤ 8 then f () else Ks606.number (-22) := by
  unfold Ks606.withCount Ks606.maxValues
  by_cases g : 1 ≤ c ∧ c ≤ 8
  · rw [if_neg (by omega), if_pos g]
  · rw [if_pos (by omega), if_neg g]
/-! ### lists of rational numbers in lowest terms -/
def gcdI (a b : Int) : Int := ((Nat.gcd a.natAbs b.natAbs : Nat) : Int)
def lowest (a b : Int) : List Int := [a / gcdI a b, b / gcdI a b]
def listed (ns : List Int) (d : Int) : List Int := ns.flatMap fun n => lowest n d
theorem lowest_fr (a : Int) (d : Nat) (h : d ≠ 0) : lowest a (d : Int) = [(fr a d).num, ((fr a d).den : Int)] := by
  rw [fr_lowest a d h]
  unfold lowest gcdI
  rw [Int.natAbs_natCast]
  show _ = [a / ((Nat.gcd a.natAbs d : Nat) : Int), ((d / Nat.gcd a.natAbs d : Nat) : Int)]
  rw [Int.natCast_ediv]
theorem listed_vals (ns : List Int) (d : Nat) (h : d ≠ 0) : Ks604.pairs (vals ns d) = listed ns (d : Int) := by
  unfold Ks604.pairs listed vals
  rw [List.flatMap_map]
  congr 1
  funext n
  exact (lowest_fr n d h).symm
def allEqual (ns : List Int) : Int := if (ns.all fun n => n == ns.headD 0) = true then 1 else 0
theorem allEqual_vals (ns : List Int) (d : Nat) (h : d ≠ 0) : (if Ks606.areEqual (vals ns d) = true then (1 : Int) else 0) = allEqual ns := by
  rw [areEqual_vals ns h]
  rfl
end Mp
namespace Mp
open Ks604 (Rational)
/-! ### what each function of the interface answers, over whole numbers; and that the specification says the same -/
def den (ps : List Int) : Nat := 2 ^ (ps.length / 2)
theorem den_ne (ps : List Int) : den ps ≠ 0 := Nat.ne_of_gt (Nat.pow_pos (by decide))
theorem averageAll_one (vs ps : List Int) : Ks606.averageAll (vals vs 1) (pairs2 ps) = vals (afterPairs vs (pairs2 ps)) (den ps) := by
  rw [averageAll_vals _ _ _ (by decide), Nat.mul_one, pairs2_len]
  rfl
def ansApply (vs ps : List Int) : List Int :=
  if okValues vs = true then (if okPairs vs.length ps = true then allEqual (afterPairs vs (pairs2 ps)) :: listed (afterPairs vs (pairs2 ps)) (den ps) else [-22]) else [-22]
theorem apply_spec (vs ps : List Int) (hv : ∀ v ∈ vs, 0 ≤ v) : PyKs606.apply_averages vs ps = ansApply vs ps := by
  show Ks606Neutral.integers (Ks606.answer (.applyAverages (vs.map Int.toNat) (ps.map Int.toNat))) = _
  unfold Ks606.answer
  dsimp only
  rw [withValues_eq vs hv]
  unfold ansApply
  split
  · rw [withPairs_eq, vals_len]
    split
    · rw [averageAll_one]
      show (if Ks606.areEqual _ = true then (1 : Int) else 0) :: Ks604.pairs _ = _
      rw [allEqual_vals _ _ (den_ne ps), listed_vals _ _ (den_ne ps)]
    · rfl
  · rfl
/-! influence -/
def unit (c i : Nat) : List Int := (List.replicate c (0 : Int)).set i 1
theorem unit_len (c i : Nat) : (unit c i).length = c := by
  unfold unit
  rw [List.length_set, List.length_replicate]
theorem unit_vals (c i : Nat) : Ks606.unitValues c i = vals (unit c i) 1 := by
  unfold Ks606.unitValues vals unit
  refine List.ext_getElem? fun k => ?_
  rw [List.getElem?_map, List.getElem?_map, List.getElem?_set]
  by_cases hk : k < c
  · rw [List.getElem?_range hk]
    by_cases e : i = k
    · subst e
      rw [if_pos rfl, if_pos (by rw [List.length_replicate]; exact hk)]
      show some (if i = i then Rational.one else Rational.zero) = some (fr 1 1)
      rw [if_pos rfl, fr_one]
      rfl
    · rw [if_neg e, List.getElem?_replicate, if_pos hk]
      show some (if k = i then Rational.one else Rational.zero) = some (fr 0 1)
      rw [if_neg (fun z => e z.symm), fr_one]
      rfl
  · rw [List.getElem?_eq_none (by rw [List.length_range]; omega)]
    by_cases e : i = k
    · subst e
      rw [if_pos rfl, if_neg (by rw [List.length_replicate]; exact hk)]
      rfl
    · rw [if_neg e, List.getElem?_replicate, if_neg hk]
      rfl
theorem influence_vals (c i : Nat) (ps : List Int) : Ks606.influence c i (pairs2 ps) = vals (afterPairs (unit c i) (pairs2 ps)) (den ps) := by
  unfold Ks606.influence
  rw [unit_vals, averageAll_one]
def ansInfluence (c i : Int) (ps : List Int) : List Int :=
  if 1 ≤ c ∧ c ≤ 8 then
    (if i < c then (if okPairs c.toNat ps = true then c :: listed (afterPairs (unit c.toNat i.toNat) (pairs2 ps)) (den ps) else [-22]) else [-2])
  else [-22]
theorem influence_spec (c i : Int) (ps : List Int) (hc : 0 ≤ c) (hi : 0 ≤ i) : PyKs606.influence c i ps = ansInfluence c i ps := by
  show Ks606Neutral.integers (Ks606.answer (.influence c.toNat i.toNat (ps.map Int.toNat))) = _
  unfold Ks606.answer
  dsimp only
  rw [withCount_eq c hc]
  unfold ansInfluence
  split
  · by_cases g : i < c
    · rw [if_pos g, if_neg (by omega), withPairs_eq]
      split
      · rw [influence_vals]
        show ((c.toNat : Nat) : Int) :: Ks604.pairs _ = _
        rw [listed_vals _ _ (den_ne ps), Int.toNat_of_nonneg hc]
      · rfl
    · rw [if_neg g, if_pos (by omega)]
      rfl
  · rfl
/-! always_equalizes -/
def alwaysEqual (c : Nat) (ps : List Int) : Int := if ((List.range c).all fun i => allEqual (afterPairs (unit c i) (pairs2 ps)) != 0) = true then 1 else 0
def ansAlways (c : Int) (ps : List Int) : List Int :=
  if 1 ≤ c ∧ c ≤ 8 then (if okPairs c.toNat ps = true then [alwaysEqual c.toNat ps] else [-22]) else [-22]
theorem always_spec (c : Int) (ps : List Int) (hc : 0 ≤ c) : PyKs606.always_equalizes c ps = ansAlways c ps := by
  show Ks606Neutral.integers (Ks606.answer (.alwaysEqualizes c.toNat (ps.map Int.toNat))) = _
  unfold Ks606.answer
  dsimp only
  rw [withCount_eq c hc]
  unfold ansAlways
  split
  · rw [withPairs_eq]
    split
    · show [(if Ks606.alwaysEqualizes c.toNat (pairs2 ps) = true then (1 : Int) else 0)] = [alwaysEqual c.toNat ps]
      have e : Ks606.alwaysEqualizes c.toNat (pairs2 ps) = (List.range c.toNat).all fun i => allEqual (afterPairs (unit c.toNat i) (pairs2 ps)) != 0 := by
        unfold Ks606.alwaysEqualizes
        congr 1
        funext i
        rw [influence_vals, ← allEqual_vals _ _ (den_ne ps)]
        cases Ks606.areEqual _ <;> rfl
      rw [e]
      rfl
    · rfl
  · rfl
/-! plan -/
def roundOf (d : Int) (n : Nat) : List Int := (List.range n).flatMap fun (i : Nat) => if ((i : Nat) : Int) % (2 * d) < d then [((i : Nat) : Int), (i : Nat) + d] else []
def planPairs (c : Int) : List Int := [1, 2, 4].flatMap fun d => if d < c then roundOf d c.toNat else []
def ansPlan (c : Int) : List Int :=
  if 1 ≤ c ∧ c ≤ 8 then (if c = 1 ∨ c = 2 ∨ c = 4 ∨ c = 8 then (((planPairs c).length : Int) / 2) :: planPairs c else [-33]) else [-22]
theorem plan_spec (c : Int) (hc : 0 ≤ c) : PyKs606.plan c = ansPlan c := by
  by_cases g : 1 ≤ c ∧ c ≤ 8
  · obtain ⟨n, rfl⟩ : ∃ n : Nat, c = n := ⟨c.toNat, by omega⟩
    have h : n = 1 ∨ n = 2 ∨ n = 3 ∨ n = 4 ∨ n = 5 ∨ n = 6 ∨ n = 7 ∨ n = 8 := by omega
    rcases h with rfl | rfl | rfl | rfl | rfl | rfl | rfl | rfl <;> decide +kernel
  · show Ks606Neutral.integers (Ks606.withCount c.toNat _) = _
    rw [withCount_eq c hc, if_neg g]
    unfold ansPlan
    rw [if_neg g]
    rfl
/-! spread -/
def maxL (ns : List Int) : Int := ns.foldl (fun b x => if b < x then x else b) (ns.headD 0)
def minL (ns : List Int) : Int := ns.foldl (fun b x => if x < b then x else b) (ns.headD 0)
def sumSq (ns : List Int) : Int := ns.foldl (fun t n => t + n * n) 0
theorem headD_vals (ns : List Int) (d : Nat) : (vals ns d).headD Rational.zero = fr (ns.headD 0) d := by
  cases ns with
  | nil => exact (fr_zero d).symm
  | cons x r => rfl
theorem largest_vals (ns : List Int) {d : Nat} (h : d ≠ 0) : Ks606.largest (vals ns d) = fr (maxL ns) d := by
  unfold Ks606.largest maxL
  rw [headD_vals]
  generalize ns.headD 0 = b
  unfold vals
  rw [List.foldl_map]
  induction ns generalizing b with
  | nil => rfl
  | cons x r ih =>
    rw [List.foldl_cons, List.foldl_cons, fr_lt _ _ h]
    by_cases g : b < x
    · rw [if_pos (decide_eq_true g), if_pos g]
      exact ih x
    · rw [if_neg (by rw [decide_eq_true_eq]; exact g), if_neg g]
      exact ih b
theorem smallest_vals (ns : List Int) {d : Nat} (h : d ≠ 0) : Ks606.smallest (vals ns d) = fr (minL ns) d := by
  unfold Ks606.smallest minL
  rw [headD_vals]
  generalize ns.headD 0 = b
  unfold vals
  rw [List.foldl_map]
  induction ns generalizing b with
  | nil => rfl
  | cons x r ih =>
    rw [List.foldl_cons, List.foldl_cons, fr_lt _ _ h]
    by_cases g : x < b
    · rw [if_pos (decide_eq_true g), if_pos g]
      exact ih x
    · rw [if_neg (by rw [decide_eq_true_eq]; exact g), if_neg g]
      exact ih b
theorem sumsq_vals (ns : List Int) {d : Nat} (h : d ≠ 0) : Ks606.sumOfSquares (vals ns d) = fr (sumSq ns) (d * d) := by
  unfold Ks606.sumOfSquares sumSq
  rw [← fr_zero (d * d)]
  generalize (0 : Int) = b
  unfold vals
  rw [List.foldl_map]
  induction ns generalizing b with
  | nil => rfl
  | cons x r ih =>
    rw [List.foldl_cons, List.foldl_cons, fr_mul, fr_add _ _ (Nat.mul_ne_zero h h)]
    exact ih (b + x * x)
def ansSpread (vs ps : List Int) : List Int :=
  if okValues vs = true then (if okPairs vs.length ps = true then
    0 :: (lowest (maxL (afterPairs vs (pairs2 ps)) - minL (afterPairs vs (pairs2 ps))) (den ps) ++ lowest (sumSq (afterPairs vs (pairs2 ps))) ((den ps * den ps : Nat) : Int))
    else [-22]) else [-22]
theorem spread_spec (vs ps : List Int) (hv : ∀ v ∈ vs, 0 ≤ v) : PyKs606.spread vs ps = ansSpread vs ps := by
  show Ks606Neutral.integers (Ks606.answer (.spread (vs.map Int.toNat) (ps.map Int.toNat))) = _
  unfold Ks606.answer
  dsimp only
  rw [withValues_eq vs hv]
  unfold ansSpread
  split
  · rw [withPairs_eq, vals_len]
    split
    · rw [averageAll_one]
      have d0 := den_ne ps
      rw [largest_vals _ d0, smallest_vals _ d0, fr_sub _ _ d0, sumsq_vals _ d0, lowest_fr _ _ d0, lowest_fr _ _ (Nat.mul_ne_zero d0 d0)]
      rfl
    · rfl
  · rfl
/-- the greatest is told by what it is -/
theorem maxL_is {ns : List Int} {m : Int} (hm : m ∈ ns) (hl : ∀ n ∈ ns, n ≤ m) : m = maxL ns := by
  unfold maxL
  have key : ∀ (l : List Int) (b : Int), (b ≤ m) → (∀ n ∈ l, n ≤ m) → (b = m ∨ m ∈ l) → m = l.foldl (fun b x => if b < x then x else b) b := by
    intro l
    induction l with
    | nil =>
      intro b _ _ h
      rcases h with h | h
      · exact h.symm
      · cases h
    | cons x r ih =>
      intro b hb hl h
      rw [List.foldl_cons]
      have hx : x ≤ m := hl x List.mem_cons_self
      refine ih _ ?_ (fun n q => hl n (List.mem_cons_of_mem _ q)) ?_
      · split <;> omega
      · rcases h with h | h
        · left
          split <;> omega
        · rcases List.mem_cons.mp h with h | h
          · left
            split <;> omega
          · exact .inr h
  cases ns with
  | nil => cases hm
  | cons x r => exact key _ _ (hl x List.mem_cons_self) hl (.inr hm)
theorem minL_is {ns : List Int} {m : Int} (hm : m ∈ ns) (hl : ∀ n ∈ ns, m ≤ n) : m = minL ns := by
  unfold minL
  have key : ∀ (l : List Int) (b : Int), (m ≤ b) → (∀ n ∈ l, m ≤ n) → (b = m ∨ m ∈ l) → m = l.foldl (fun b x => if x < b then x else b) b := by
    intro l
    induction l with
    | nil =>
      intro b _ _ h
      rcases h with h | h
      · exact h.symm
      · cases h
    | cons x r ih =>
      intro b hb hl h
      rw [List.foldl_cons]
      have hx : m ≤ x := hl x List.mem_cons_self
      refine ih _ ?_ (fun n q => hl n (List.mem_cons_of_mem _ q)) ?_
      · split <;> omega
      · rcases h with h | h
        · left
          split <;> omega
        · rcases List.mem_cons.mp h with h | h
          · left
            split <;> omega
          · exact .inr h
  cases ns with
  | nil => cases hm
  | cons x r => exact key _ _ (hl x List.mem_cons_self) hl (.inr hm)
end Mp
namespace Mp
open Ks604 (Rational)
/-! greedy averages -/
def diff (ns : List Int) (p : Nat × Nat) : Int := if ns.getD p.1 0 - ns.getD p.2 0 < 0 then -(ns.getD p.1 0 - ns.getD p.2 0) else ns.getD p.1 0 - ns.getD p.2 0
def better (ns : List Int) (b p : Nat × Nat) : Nat × Nat := if diff ns b < diff ns p then p else b
/-- the pairs that begin at i -/
def row (n i : Nat) : List (Nat × Nat) := (List.range (n - (i + 1))).map fun j => (i, i + 1 + j)
def rows (n : Nat) : List (Nat × Nat) := (List.range n).flatMap (row n)
def bestPair (ns : List Int) : Nat × Nat := (rows ns.length).foldl (better ns) (0, 1)
def step (ns : List Int) : List Int := if ns.length = 1 then [2 * ns.getD 0 0] else averaged ns (bestPair ns).1 (bestPair ns).2
def steps : Nat → List Int → List Int
  | 0, ns => ns
  | k + 1, ns => steps k (step ns)
theorem steps_succ : ∀ (k : Nat) (ns : List Int), steps (k + 1) ns = step (steps k ns)
  | 0, _ => rfl
  | k + 1, ns => by
    show steps (k + 1) (step ns) = step (steps k (step ns))
    exact steps_succ k (step ns)
theorem step_len (ns : List Int) : (step ns).length = ns.length := by
  unfold step
  split
  · rename_i h
    exact h.symm
  · exact averaged_len _ _ _
theorem steps_len : ∀ (k : Nat) (ns : List Int), (steps k ns).length = ns.length
  | 0, _ => rfl
  | k + 1, ns => by
    show (steps k (step ns)).length = _
    rw [steps_len k, step_len]
theorem rows_spec : ∀ n : Nat, n ≤ 8 → Ks606.allPairs n = rows n := by
  intro n h
  have h2 : n = 0 ∨ n = 1 ∨ n = 2 ∨ n = 3 ∨ n = 4 ∨ n = 5 ∨ n = 6 ∨ n = 7 ∨ n = 8 := by omega
  rcases h2 with rfl | rfl | rfl | rfl | rfl | rfl | rfl | rfl | rfl <;> decide +kernel
theorem diff_vals (ns : List Int) {d : Nat} (h : d ≠ 0) (p : Nat × Nat) : Ks606.difference (vals ns d) p = fr (diff ns p) d := by
  unfold Ks606.difference diff
  dsimp only
  rw [valueAt_vals, valueAt_vals, fr_sub _ _ h, ← fr_zero d, fr_lt _ _ h, fr_sub _ _ h, Int.zero_sub]
  by_cases g : ns.getD p.1 0 - ns.getD p.2 0 < 0
  · rw [if_pos (decide_eq_true g), if_pos g]
  · rw [if_neg (by rw [decide_eq_true_eq]; exact g), if_neg g]
theorem rows_first (n : Nat) (h2 : 2 ≤ n) (h8 : n ≤ 8) : ∃ r, rows n = (0, 1) :: r := by
  have h : n = 2 ∨ n = 3 ∨ n = 4 ∨ n = 5 ∨ n = 6 ∨ n = 7 ∨ n = 8 := by omega
  rcases h with rfl | rfl | rfl | rfl | rfl | rfl | rfl <;> exact ⟨_, rfl⟩
theorem best_vals (ns : List Int) {d : Nat} (h : d ≠ 0) (h2 : 2 ≤ ns.length) (h8 : ns.length ≤ 8) : Ks606.bestPair (vals ns d) = some (bestPair ns) := by
  unfold Ks606.bestPair bestPair
  rw [vals_len, rows_spec _ h8]
  obtain ⟨r, e⟩ := rows_first ns.length h2 h8
  rw [e]
  have e2 : better ns (0, 1) (0, 1) = (0, 1) := by
    unfold better
    rw [if_neg (Int.lt_irrefl _)]
  rw [List.foldl_cons, e2]
  dsimp only
  have e3 : (fun (best pair : Nat × Nat) => if Ks604.Rational.lt (Ks606.difference (vals ns d) best) (Ks606.difference (vals ns d) pair) = true then pair else best) = better ns := by
    funext b p
    unfold better
    rw [diff_vals ns h, diff_vals ns h, fr_lt _ _ h]
    by_cases g : diff ns b < diff ns p
    · rw [if_pos (decide_eq_true g), if_pos g]
    · rw [if_neg (by rw [decide_eq_true_eq]; exact g), if_neg g]
  rw [e3]
theorem best_single (ns : List Int) (d : Nat) (h1 : ns.length = 1) : Ks606.bestPair (vals ns d) = none := by
  unfold Ks606.bestPair
  rw [vals_len, h1]
  rfl
theorem step_single (ns : List Int) (d : Nat) (h1 : ns.length = 1) : vals (step ns) (2 * d) = vals ns d := by
  match ns, h1 with
  | [x], _ =>
    show [fr (2 * x) (2 * d)] = [fr x d]
    rw [fr_two]
theorem greedy_single : ∀ (k : Nat) (vs : Ks606.Values), Ks606.bestPair vs = none → Ks606.greedyAveraging k vs = vs
  | 0, _, _ => rfl
  | k + 1, vs, h => by
    unfold Ks606.greedyAveraging
    rw [h]
theorem greedy_vals : ∀ (k : Nat) (ns : List Int) (d : Nat), d ≠ 0 → 1 ≤ ns.length → ns.length ≤ 8 → Ks606.greedyAveraging k (vals ns d) = vals (steps k ns) (2 ^ k * d)
  | 0, ns, d, _, _, _ => by
    show vals ns d = vals ns (1 * d)
    rw [Nat.one_mul]
  | k + 1, ns, d, h, h1, h8 => by
    show _ = vals (steps k (step ns)) (2 ^ (k + 1) * d)
    have ih := greedy_vals k (step ns) (2 * d) (by omega) (by rw [step_len]; exact h1) (by rw [step_len]; exact h8)
    rw [Nat.pow_succ, Nat.mul_assoc, ← ih]
    by_cases g : ns.length = 1
    · rw [step_single ns d g, greedy_single _ _ (best_single ns d g), greedy_single _ _ (best_single ns d g)]
    · have hb := best_vals ns h (by omega) h8
      conv => lhs; unfold Ks606.greedyAveraging
      rw [hb]
      dsimp only
      rw [average_vals ns h]
      unfold step
      rw [if_neg g]
def ansGreedy (k : Int) (vs : List Int) : List Int :=
  if okValues vs = true then (if k ≤ 12 then allEqual (steps k.toNat vs) :: listed (steps k.toNat vs) ((2 ^ k.toNat : Nat) : Int) else [-22]) else [-22]
theorem greedy_spec (k : Int) (vs : List Int) (hk : 0 ≤ k) (hv : ∀ v ∈ vs, 0 ≤ v) : PyKs606.greedy_averaging k vs = ansGreedy k vs := by
  show Ks606Neutral.integers (Ks606.answer (.greedyAveraging k.toNat (vs.map Int.toNat))) = _
  unfold Ks606.answer
  dsimp only
  rw [withValues_eq vs hv]
  unfold ansGreedy
  split
  · rename_i ok
    have ok2 := ok
    unfold okValues at ok2
    simp only [Bool.and_eq_true, decide_eq_true_eq] at ok2
    by_cases g : k ≤ 12
    · rw [if_pos g, if_neg (by omega), greedy_vals _ _ _ (by decide) ok2.1.1 ok2.1.2, Nat.mul_one]
      have p0 : (2 ^ k.toNat : Nat) ≠ 0 := Nat.ne_of_gt (Nat.pow_pos (by decide))
      show (if Ks606.areEqual _ = true then (1 : Int) else 0) :: Ks604.pairs _ = _
      rw [allEqual_vals _ _ p0, listed_vals _ _ p0]
    · rw [if_neg g, if_pos (by omega)]
      rfl
  · rfl
end Mp
namespace Mp
/-! the numerators stay in bounds -/
theorem averaged_in {ns : List Int} {b : Int} (h : ∀ n ∈ ns, 0 ≤ n ∧ n ≤ b) (hb : 0 ≤ b) (i j : Nat) : ∀ n ∈ averaged ns i j, 0 ≤ n ∧ n ≤ 2 * b := by
  have hg : ∀ k : Nat, 0 ≤ ns.getD k 0 ∧ ns.getD k 0 ≤ b := fun k => by
    rw [List.getD_eq_getElem?_getD]
    cases e : ns[k]? with
    | none => exact ⟨Int.le_refl 0, hb⟩
    | some z => exact h z (List.mem_of_getElem? e)
  have h1 := hg i
  have h2 := hg j
  intro n hn
  unfold averaged at hn
  rcases List.mem_or_eq_of_mem_set hn with hn | rfl
  · rcases List.mem_or_eq_of_mem_set hn with hn | rfl
    · obtain ⟨m, hm, rfl⟩ := List.mem_map.mp hn
      have := h m hm
      omega
    · omega
  · omega
theorem afterPairs_in : ∀ (l : List (Nat × Nat)) {ns : List Int} {b : Int}, (∀ n ∈ ns, 0 ≤ n ∧ n ≤ b) → 0 ≤ b → ∀ n ∈ afterPairs ns l, 0 ≤ n ∧ n ≤ ((2 ^ l.length : Nat) : Int) * b
  | [], ns, b, h, hb => by
    intro n hn
    have := h n hn
    show 0 ≤ n ∧ n ≤ ((1 : Nat) : Int) * b
    omega
  | p :: r, ns, b, h, hb => by
    intro n hn
    have ih := afterPairs_in r (averaged_in h hb p.1 p.2) (by omega) n hn
    show 0 ≤ n ∧ n ≤ ((2 ^ (r.length + 1) : Nat) : Int) * b
    rw [Nat.pow_succ, Int.natCast_mul, Int.mul_assoc]
    exact ih
theorem step_in {ns : List Int} {b : Int} (h : ∀ n ∈ ns, 0 ≤ n ∧ n ≤ b) (hb : 0 ≤ b) : ∀ n ∈ step ns, 0 ≤ n ∧ n ≤ 2 * b := by
  unfold step
  split
  · intro n hn
    rename_i h1
    match ns, h1 with
    | [x], _ =>
      have e : n = 2 * x := by simpa using hn
      have := h x List.mem_cons_self
      omega
  · exact averaged_in h hb _ _
theorem steps_nonneg : ∀ (k : Nat) {ns : List Int} {b : Int}, (∀ n ∈ ns, 0 ≤ n ∧ n ≤ b) → 0 ≤ b → ∀ n ∈ steps k ns, 0 ≤ n
  | 0, _, _, h, _ => fun n hn => (h n hn).1
  | k + 1, _, _, h, hb => steps_nonneg k (step_in h hb) (by omega)
theorem okValues_in {vs : List Int} (h : okValues vs = true) : 1 ≤ vs.length ∧ vs.length ≤ 8 ∧ ∀ v ∈ vs, 0 ≤ v ∧ v ≤ 99 := by
  unfold okValues at h
  rw [Bool.and_eq_true, Bool.and_eq_true, decide_eq_true_eq, decide_eq_true_eq, List.all_eq_true] at h
  refine ⟨h.1.1, h.1.2, fun v hv => ?_⟩
  have := h.2 v hv
  rw [Bool.and_eq_true, decide_eq_true_eq, decide_eq_true_eq] at this
  exact this
theorem okPairs_in {c : Nat} {ps : List Int} (h : okPairs c ps = true) : ps.length ≤ 40 ∧ ∀ x ∈ pairs2 ps, x.1 < c ∧ x.2 < c := by
  unfold okPairs at h
  rw [Bool.and_eq_true, Bool.and_eq_true, decide_eq_true_eq, decide_eq_true_eq, List.all_eq_true] at h
  refine ⟨h.1.2, fun x hx => ?_⟩
  have := h.2 x hx
  unfold isPair at this
  rw [Bool.and_eq_true, Bool.and_eq_true, decide_eq_true_eq, decide_eq_true_eq] at this
  exact this.1
theorem den_lt {ps : List Int} (h : ps.length ≤ 40) : den ps ≤ 2 ^ 20 := Nat.pow_le_pow_right (by decide) (by omega)
theorem den_pos (ps : List Int) : 0 < den ps := Nat.pow_pos (by decide)
end Mp
namespace Mp
/-! the spread and the sum of the squares are not negative -/
theorem foldMax_ge : ∀ (l : List Int) (b : Int), b ≤ l.foldl (fun b x => if b < x then x else b) b
  | [], b => Int.le_refl b
  | x :: r, b => by
    rw [List.foldl_cons]
    have ih := foldMax_ge r (if b < x then x else b)
    refine Int.le_trans ?_ ih
    split <;> omega
theorem foldMin_le : ∀ (l : List Int) (b : Int), l.foldl (fun b x => if x < b then x else b) b ≤ b
  | [], b => Int.le_refl b
  | x :: r, b => by
    rw [List.foldl_cons]
    have ih := foldMin_le r (if x < b then x else b)
    refine Int.le_trans ih ?_
    split <;> omega
theorem spread_nonneg (ns : List Int) : 0 ≤ maxL ns - minL ns := by
  have h1 := foldMax_ge ns (ns.headD 0)
  have h2 := foldMin_le ns (ns.headD 0)
  unfold maxL minL
  omega
theorem sumSq_more (l : List Int) (z : Int) : sumSq (l ++ [z]) = sumSq l + z * z := by
  unfold sumSq
  rw [List.foldl_append]
  rfl
theorem sumSq_nonneg (ns : List Int) : 0 ≤ sumSq ns := by
  have key : ∀ (l : List Int) (b : Int), 0 ≤ b → 0 ≤ l.foldl (fun t n => t + n * n) b := by
    intro l
    induction l with
    | nil => exact fun b h => h
    | cons x r ih =>
      intro b hb
      rw [List.foldl_cons]
      have hx : 0 ≤ x * x := by
        rcases Int.le_total 0 x with h | h
        · exact Int.mul_nonneg h h
        · have := Int.mul_nonneg (show 0 ≤ -x by omega) (show 0 ≤ -x by omega)
          rw [Int.neg_mul_neg] at this
          exact this
      exact ih _ (by omega)
  exact key ns 0 (by decide)
end Mp
/-! ## 2. The program, def by def -/
namespace Mw
open PySem PySem.Spec PyProof.Rows L2
/-! ### words for all defs -/
/-- a def that may be called: what a caller asks -/
structure Cal (P : Program) (w : World) (K : PySem.W.Frag) (mg : Str → Option Value) (base : Heap) (k : Nat) (x : Str) (ps : List Str) (sp : Sp) (f : Addr) (fd : FuncData) : Prop where
  ok : FnOk P w K mg base CX0 k f fd ps sp
  at_ : mg x = some (.ref f)
  kp : PySem.W.keepIn K (.ref f) = true
  bi : Binds K fd ps []
/-- a new list of whole numbers is handed back, all else stands -/
def RetL (H : Hp) (Q : VK) (ns : List Int) : Prop := ∀ (H' : Hp) (p : Addr), Same H H' → H p = none → H' p = some (.lst (ns.map V.int)) → Q (.ref p) H'
theorem RetL.mono {H H1 : Hp} {Q : VK} {ns : List Int} (h : RetL H Q ns) (s : Same H H1) : RetL H1 Q ns := fun H' p s' n e => h H' p (s.trans s') (s.free n) e
theorem same_new {H : Hp} {p : Addr} (h : H p = none) (o : HO) : Same H (upd H p o) := fun b u q => by
  rw [upd_ne (ne_of_none q h)]
  exact q
theorem same_upd {H H1 : Hp} {p : Addr} {o : HO} (h : H p = none) (s : Same H H1) : Same H (upd H1 p o) := fun b u q => by
  rw [upd_ne (ne_of_none q h)]
  exact s _ _ q
theorem RetL.at_new {H H1 : Hp} {Q : VK} {ns : List Int} (h : RetL H Q ns) (s : Same H H1) {p : Addr} (n : H1 p = none) {xs : List V} (e : xs = ns.map V.int) : Q (.ref p) (upd H1 p (.lst xs)) := by
  subst e
  exact h _ p (s.trans (same_new n _)) (s.free n) upd_same
theorem get_int {ns : List Int} {i : Nat} {v : V} (h : (ns.map V.int)[i]? = some v) : ∃ z, ns[i]? = some z ∧ v = .int z := by
  rw [List.getElem?_map] at h
  cases e : ns[i]? with
  | none =>
    rw [e] at h
    cases h
  | some z =>
    rw [e] at h
    exact ⟨z, rfl, (Option.some.inj h).symm⟩
theorem take_more {α : Type} : ∀ {l : List α} {i : Nat} {x : α}, l[i]? = some x → l.take (i + 1) = l.take i ++ [x]
  | [], i, x, h => by simp at h
  | a :: l, 0, x, h => by
    have e : a = x := Option.some.inj h
    subst e
    rfl
  | a :: l, i + 1, x, h => by
    have ih := take_more (l := l) (i := i) (x := x) h
    show a :: l.take (i + 1) = a :: l.take i ++ [x]
    rw [ih]
    rfl
theorem small {n : Nat} (h : n ≤ 1000) : n ≤ sizeLine := Nat.le_of_lt (small1000 h)
theorem at_int {ns : List Int} {i : Int} (h0 : 0 ≤ i) (h : i.toNat < ns.length) : atI (ns.map V.int) i = some (.int (ns.getD i.toNat 0)) := by
  have e : i = ((i.toNat : Nat) : Int) := by omega
  have q : atI (ns.map V.int) ((i.toNat : Nat) : Int) = some (.int (ns.getD i.toNat 0)) := atI_nat (by
    rw [List.getElem?_map, List.getD_eq_getElem?_getD, List.getElem?_eq_getElem h]
    rfl)
  rw [← e] at q
  exact q
theorem not_true {b : Bool} (h : ¬ b = true) : b = false := Bool.eq_false_iff.mpr h
theorem of_not {b : Bool} (h : (!b) = true) : b = false := by
  cases b
  · rfl
  · cases h
theorem of_nnot {b : Bool} (h : ¬ (!b) = true) : b = true := by
  cases b
  · exact absurd rfl h
  · rfl
/-- the test error != 0 -/
theorem ne_test {i : Int} (h : (!decide (V.int i = V.int 0)) = true) : ¬ i = 0 := fun e => by
  rw [e, decide_eq_true rfl] at h
  cases h
theorem eq_test {i : Int} (h : ¬ (!decide (V.int i = V.int 0)) = true) : i = 0 := V.int.inj (of_decide_eq_true (of_nnot h))
/-! the text: its statements by their places -/
def topS (i : Nat) : Stmt := PySem.Challenge.pw_meanpairs_s06_greedy_averaging.main.body.getD i (.Pass ⟨0, 0, 0, 0⟩)
abbrev sGcd : Stmt := topS 1
abbrev sLow : Stmt := topS 2
abbrev sListed : Stmt := topS 3
abbrev sDoubled : Stmt := topS 4
abbrev sAveraged : Stmt := topS 6
abbrev sAllEq : Stmt := topS 7
abbrev sCount : Stmt := topS 18
abbrev sValues : Stmt := topS 19
abbrev sDiff : Stmt := topS 9
abbrev sBest : Stmt := topS 10
abbrev sSteps : Stmt := topS 11
abbrev sAreSteps : Stmt := topS 20
abbrev sErrS : Stmt := topS 21
abbrev sGreedy : Stmt := topS 23
section
variable {P : Program} {w : World} {K : PySem.W.Frag} {mg : Str → Option Value} {base : Heap}
/-! ### greatest_divisor -/
def spGcd : Sp := fun vs H Q _ => ∃ a b : Int, vs = [.int a, .int b] ∧ 0 ≤ a ∧ 0 < b ∧ Q (.int (Mp.gcdI a b)) H
theorem scGcd : FnScope ["one", "other", "left", "right"] ["one", "other"] (defScope sGcd) := ⟨rfl, rfl, rfl, by decide +kernel, rfl, by decide +kernel, by decide +kernel⟩
theorem gcd_zero {r : Int} (h : 0 < r) : Mp.gcdI 0 r = r := by
  unfold Mp.gcdI
  rw [Int.natAbs_zero, Nat.gcd_zero_left, Int.natAbs_of_nonneg (by omega)]
theorem gcd_turn {l r : Int} (hl : 0 < l) (hr : 0 < r) : Mp.gcdI (r % l) l = Mp.gcdI l r := by
  unfold Mp.gcdI
  obtain ⟨m, rfl⟩ : ∃ m : Nat, l = m := ⟨l.toNat, by omega⟩
  obtain ⟨n, rfl⟩ : ∃ n : Nat, r = n := ⟨r.toNat, by omega⟩
  rw [← Int.natCast_emod, Int.natAbs_natCast, Int.natAbs_natCast, Int.natAbs_natCast, ← Nat.gcd_rec]
theorem ok_gcd {f : Addr} {fd : FuncData} (F : Fun K "greatest_divisor" "greatest_divisor" sGcd f fd) : FnOk P w K mg base CX0 1 f fd ["one", "other"] spGcd := by
  refine F.ok scGcd (fun vs H Q E h => ?_) (fun cdv A outer s H vs Q E hr h => ?_)
  · obtain ⟨a, b, rfl, _⟩ := h
    rfl
  obtain ⟨a, b, rfl, ha, hb, q⟩ := h
  refine ⟨_, pss_cons (ps_set (i := 2) scGcd.nd rfl (.inl rfl) (pv 0)) (pss_cons (ps_set (i := 3) scGcd.nd rfl (.inl rfl) (pv 1))
    (pss_cons (ps_while PassesOwn.never (pt_cmpR op_gt (pv 2) pe_int (nomark _))
      (pss_one (ps_par (i := 2) (j := 3) (by rfl) scGcd.nd rfl rfl (by decide) rfl rfl (pa_cons (pe_op op_mod (pv 3) (pv 2)) (pa_cons (pv 2) pa_nil)) (by rfl))))
    (pss_one (ps_ret (pv 3))))), ?_⟩
  refine ⟨_, rfl, _, rfl, fun m σ H' => ∃ l r : Int, σ = [some (.int a), some (.int b), some (.int l), some (.int r)] ∧ 0 ≤ l ∧ 0 < r ∧ Mp.gcdI l r = Mp.gcdI a b ∧ m = l.toNat ∧ H' = H, ⟨_, a, b, rfl, ha, hb, rfl, rfl, rfl⟩, fun m σ H' hW => ?_⟩
  obtain ⟨l, r, rfl, hl, hr', hg, rfl, rfl⟩ := hW
  refine ⟨_, rfl, _, _, rfl, rfl, _, rfl, ite2 (fun c => ?_) (fun c => ?_)⟩
  · have c' : 0 < l := of_decide_eq_true c
    refine ⟨fun σ' H1 => σ' = [some (.int a), some (.int b), some (.int (r % l)), some (.int l)] ∧ H1 = H', fun σ' H1 hN => ?_, ?_⟩
    · obtain ⟨rfl, rfl⟩ := hN
      have h0 := Int.emod_nonneg r (show l ≠ 0 by omega)
      have h1 := Int.emod_lt_of_pos r c'
      exact ⟨_, by omega, r % l, l, rfl, h0, c', (gcd_turn c' hr').trans hg, rfl, rfl⟩
    · exact ⟨_, rfl, _, rfl, _, _, rfl, rfl, c', _, rfl, _, _, rfl, rfl, rfl⟩
  · have c' : ¬ 0 < l := of_decide_eq_false (Bool.eq_false_iff.mpr c)
    have e : l = 0 := by omega
    subst e
    rw [gcd_zero hr'] at hg
    refine ⟨_, rfl, ?_⟩
    rw [hg]
    exact q
/-! ### lowest_terms -/
def spLow : Sp := fun vs H Q _ => ∃ a b : Int, vs = [.int a, .int b] ∧ 0 ≤ a ∧ 0 < b ∧ b < 2 ^ 100 ∧ RetL H Q (Mp.lowest a b)
theorem scLow : FnScope ["numerator", "denominator", "divisor"] ["numerator", "denominator"] (defScope sLow) := ⟨rfl, rfl, rfl, by decide +kernel, rfl, by decide +kernel, by decide +kernel⟩
theorem gcd_pos {a b : Int} (hb : 0 < b) : 0 < Mp.gcdI a b := by
  unfold Mp.gcdI
  have := Nat.gcd_pos_of_pos_right a.natAbs (show 0 < b.natAbs by omega)
  omega
theorem gcd_le {a b : Int} (hb : 0 < b) : Mp.gcdI a b ≤ b := by
  unfold Mp.gcdI
  have := Nat.gcd_le_right a.natAbs (show 0 < b.natAbs by omega)
  omega
theorem ok_low {f fG : Addr} {fd fdG : FuncData} (F : Fun K "lowest_terms" "lowest_terms" sLow f fd) (CG : Cal P w K mg base 1 "greatest_divisor" ["one", "other"] spGcd fG fdG) : FnOk P w K mg base CX0 2 f fd ["numerator", "denominator"] spLow := by
  refine F.ok scLow (fun vs H Q E h => ?_) (fun cdv A outer s H vs Q E hr h => ?_)
  · obtain ⟨a, b, rfl, _⟩ := h
    rfl
  obtain ⟨a, b, rfl, ha, hb, hlt, q⟩ := h
  refine ⟨_, pss_cons (ps_set (i := 2) scLow.nd rfl (.inl rfl) (pe_call CG.ok hr (by rfl) CG.at_ CG.kp CG.bi .nil pass0 (pa_cons (pv 0) (pa_cons (pv 1) pa_nil))))
    (pss_one (ps_ret (pe_lst (pa_cons (pe_op op_fdivW (pv 0) (pv 2)) (pa_cons (pe_op op_fdivW (pv 1) (pv 2)) pa_nil))))), ?_⟩
  have hd : CDivW a (Mp.gcdI a b) := wide_div (b := 100) (gcd_pos hb) (by have h1 := gcd_le (a := a) hb; have h2 := gcd_pos (a := a) hb; omega) (by decide) (by decide)
  have hd2 : CDivW b (Mp.gcdI a b) := wide_div (b := 100) (gcd_pos hb) (by have h1 := gcd_le (a := a) hb; have h2 := gcd_pos (a := a) hb; omega) (by decide) (by decide)
  refine ⟨_, rfl, _, rfl, a, b, rfl, ha, hb, ?_⟩
  refine ⟨_, rfl, _, rfl, _, _, rfl, rfl, hd, _, rfl, _, rfl, _, _, rfl, rfl, hd2, (by show 2 ≤ sizeLine; decide), fun p np => ?_⟩
  exact q.at_new (Same.refl _) np rfl
/-! ### listed -/
def spListed (K : PySem.W.Frag) : Sp := fun vs H Q _ => ∃ (a : Addr) (ns : List Int) (d : Int), vs = [.ref a, .int d] ∧ SqL K H a (ns.map V.int) ∧ ns.length ≤ 100 ∧ (∀ n ∈ ns, 0 ≤ n) ∧ 0 < d ∧ d < 2 ^ 100 ∧ RetL H Q (Mp.listed ns d)
theorem scListed : FnScope ["numerators", "denominator", "found", "numerator"] ["numerators", "denominator"] (defScope sListed) := ⟨rfl, rfl, rfl, by decide +kernel, rfl, by decide +kernel, by decide +kernel⟩
theorem listed_len (ns : List Int) (d : Int) : (Mp.listed ns d).length = 2 * ns.length := by
  induction ns with
  | nil => rfl
  | cons n r ih =>
    show ([_, _] ++ Mp.listed r d).length = 2 * (r.length + 1)
    rw [List.length_append, ih]
    show 2 + _ = _
    omega
theorem listed_more {ns : List Int} {i : Nat} {z d : Int} (h : ns[i]? = some z) : Mp.listed (ns.take (i + 1)) d = Mp.listed (ns.take i) d ++ Mp.lowest z d := by
  unfold Mp.listed
  rw [take_more h, List.flatMap_append, List.flatMap_cons, List.flatMap_nil, List.append_nil]
theorem ok_listed {f fG : Addr} {fd fdG : FuncData} (F : Fun K "listed" "listed" sListed f fd) (CL : Cal P w K mg base 2 "lowest_terms" ["numerator", "denominator"] spLow fG fdG) : FnOk P w K mg base CX0 3 f fd ["numerators", "denominator"] (spListed K) := by
  refine F.ok scListed (fun vs H Q E h => ?_) (fun cdv A outer s H vs Q E hr h => ?_)
  · obtain ⟨a, ns, d, rfl, _⟩ := h
    rfl
  obtain ⟨a, ns, d, rfl, hS, hlen, hpos, hd, hlt, q⟩ := h
  refine ⟨_, pss_cons (ps_set (i := 2) scListed.nd rfl (.inl rfl) (pe_lst pa_nil))
    (pss_cons (ps_for PassesOwn.never rfl (pi_list (pv 0)) (pg_name (i := 3) scListed.nd rfl (.inl rfl))
      (pss_one (ps_set (i := 2) scListed.nd rfl (.inl rfl) (pe_op op_cat (pv 2) (pe_call CL.ok hr (by rfl) CL.at_ CL.kp CL.bi .nil pass0 (pa_cons (pv 3) (pa_cons (pv 1) pa_nil)))))))
    (pss_one (ps_ret (pv 2)))), ?_⟩
  refine ⟨(by show 0 ≤ sizeLine; decide), fun o no => ?_⟩
  have s1 : Same H (upd H o (.lst [])) := same_new no _
  refine ⟨_, rfl, a, rfl, ⟨_, s1.seq hS⟩, for_list (K := K) (a := a) (xs := ns.map V.int) (fun i σ H' => ∃ (p : Addr) (v : Option V), σ = [some (.ref a), some (.int d), some (.ref p), v] ∧ Same H H' ∧ H p = none ∧ H' p = some (.lst ((Mp.listed (ns.take i) d).map V.int)))
    ⟨o, none, rfl, s1, no, upd_same⟩ (fun i σ H' _ ⟨_, _, _, s5, _⟩ => s5.seq hS) ?_ ?_⟩
  · rintro i y σ H' hi ⟨p, v, rfl, s5, np, ep⟩
    obtain ⟨z, hz, rfl⟩ := get_int hi
    refine ⟨_, rfl, _, rfl, _, rfl, z, d, rfl, hpos z (List.mem_of_getElem? hz), hd, hlt, fun H2 p2 s6 n2 e2 => ?_⟩
    refine ⟨p, p2, _, _, rfl, rfl, s6 _ _ ep, e2, ?_, fun p3 n3 => ?_⟩
    · rw [List.length_map, List.length_map, listed_len, List.length_take]
      refine small ?_
      show 2 * min i ns.length + 2 ≤ 1000
      omega
    · refine ⟨p3, some (.int z), rfl, (s5.trans s6).trans (same_new n3 _), (s5.trans s6).free n3, ?_⟩
      rw [upd_same, listed_more hz, List.map_append]
  · rintro σ H' ⟨p, v, rfl, s5, np, ep⟩
    rw [List.length_map, List.take_length] at ep
    exact ⟨_, rfl, q _ p s5 np ep⟩
/-! ### doubled -/
def spDoubled : Sp := fun vs H Q _ => ∃ k : Nat, vs = [.int k] ∧ k ≤ 1000 ∧ Q (.int ((2 ^ k : Nat) : Int)) H
theorem scDoubled : FnScope ["times", "found", "turn"] ["times"] (defScope sDoubled) := ⟨rfl, rfl, rfl, by decide +kernel, rfl, by decide +kernel, by decide +kernel⟩
theorem ok_doubled {f : Addr} {fd : FuncData} (F : Fun K "doubled" "doubled" sDoubled f fd) (mr : mg "range" = none) : FnOk P w K mg base CX0 1 f fd ["times"] spDoubled := by
  refine F.ok scDoubled (fun vs H Q E h => ?_) (fun cdv A outer s H vs Q E hr h => ?_)
  · obtain ⟨k, rfl, _⟩ := h
    rfl
  obtain ⟨k, rfl, hk, q⟩ := h
  refine ⟨_, pss_cons (ps_set (i := 1) scDoubled.nd rfl (.inl rfl) pe_int)
    (pss_cons (ps_for PassesOwn.never rfl (pi_range1 rfl mr (pa_cons (pv 0) pa_nil)) (pg_name (i := 2) scDoubled.nd rfl (.inl rfl))
      (pss_one (ps_set (i := 1) scDoubled.nd rfl (.inl rfl) (pe_op op_mul (pv 1) pe_int))))
    (pss_one (ps_ret (pv 1)))), ?_⟩
  refine ⟨_, rfl, (k : Int), rfl, by omega, by omega, for_range (lo := 0) (n := (k : Int).toNat) (fun i σ H' => ∃ v : Option V, σ = [some (.int k), some (.int ((2 ^ i : Nat) : Int)), v] ∧ H' = H) ⟨none, rfl, rfl⟩ ?_ ?_⟩
  · rintro i σ H' hi ⟨v, rfl, rfl⟩
    refine ⟨_, rfl, _, _, rfl, rfl, .inr ⟨by decide, by decide⟩, some (.int (0 + (i : Int))), ?_, rfl⟩
    show [some (V.int k), some (V.int (((2 ^ i : Nat) : Int) * 2)), some (V.int (0 + (i : Int)))] = _
    rw [Nat.pow_succ, Int.natCast_mul]
    rfl
  · rintro σ H' ⟨v, rfl, rfl⟩
    rw [Int.toNat_natCast]
    exact ⟨_, rfl, q⟩
/-! ### averaged -/
def spAveraged (K : PySem.W.Frag) : Sp := fun vs H Q _ => ∃ (a : Addr) (ns : List Int) (i j : Int), vs = [.ref a, .int i, .int j] ∧ SqL K H a (ns.map V.int) ∧ ns.length ≤ 100 ∧
  0 ≤ i ∧ i.toNat < ns.length ∧ 0 ≤ j ∧ j.toNat < ns.length ∧ RetL H Q (Mp.averaged ns i.toNat j.toNat)
theorem scAveraged : FnScope ["numerators", "one", "other", "total", "found", "numerator"] ["numerators", "one", "other"] (defScope sAveraged) := ⟨rfl, rfl, rfl, by decide +kernel, rfl, by decide +kernel, by decide +kernel⟩
theorem ixN_nat {n : Nat} {i : Int} (h0 : 0 ≤ i) (h : i.toNat < n) : ixN n i = some i.toNat := by
  unfold ixN
  rw [if_pos h0, if_pos (by omega)]
theorem ok_averaged {f : Addr} {fd : FuncData} (F : Fun K "averaged" "averaged" sAveraged f fd) : FnOk P w K mg base CX0 1 f fd ["numerators", "one", "other"] (spAveraged K) := by
  refine F.ok scAveraged (fun vs H Q E h => ?_) (fun cdv A outer s H vs Q E hr h => ?_)
  · obtain ⟨a, ns, i, j, rfl, _⟩ := h
    rfl
  obtain ⟨a, ns, i, j, rfl, hS, hlen, hi0, hi, hj0, hj, q⟩ := h
  refine ⟨_, pss_cons (ps_set (i := 3) scAveraged.nd rfl (.inl rfl) (pe_op op_add (pe_ix ix_list (pv 0) (pv 1) (fun _ _ => rfl)) (pe_ix ix_list (pv 0) (pv 2) (fun _ _ => rfl))))
    (pss_cons (ps_setLc (i := 4) (own := [("numerator", 5)]) (g := gName 5) (tt := tYes) rfl scAveraged.nd rfl rfl (sw_true rfl rfl rfl (by decide +kernel)) (pi_list (pv 0)) (blkOk_by (own := [("numerator", 5)]) (N := ["numerators", "one", "other", "total", "found", "numerator"]) (sc := defScope sAveraged) (by decide +kernel))
      (fun _ _ _ _ _ => pg_name (i := 5) scAveraged.nd rfl (.inl rfl)) (fun _ _ _ _ _ => pts_nil) (fun _ _ _ _ _ => pe_op op_mul pe_int (pv 5)))
    (pss_cons (ps_asg (pv 3) (pg_sub (pv 4) (pv 1) set_list))
    (pss_cons (ps_asg (pv 3) (pg_sub (pv 4) (pv 2) set_list))
    (pss_one (ps_ret (pv 4)))))), ?_⟩
  refine ⟨_, rfl, _, rfl, a, _, _, _, rfl, rfl, hS, at_int hi0 hi, _, rfl, _, rfl, a, _, _, _, rfl, rfl, hS, at_int hj0 hj, _, _, rfl, rfl, ?_⟩
  refine ⟨_, rfl, a, rfl, ⟨_, hS⟩, fun D nD => ?_⟩
  refine lc_list (K := K) (a := a) (xs := ns.map V.int) (fun k H' => Same H H' ∧ H' D = some (.lst (((ns.take k).map fun n => 2 * n).map V.int))) ⟨same_new nD _, upd_same⟩ (fun k H' _ p => p.1.seq hS) ?_ ?_
  · rintro k x H' hk ⟨sm, eD⟩
    obtain ⟨z, hz, rfl⟩ := get_int hk
    refine ⟨rfl, _, rfl, 2, z, rfl, rfl, .inl ⟨by decide, by decide⟩, _, eD, ?_, same_upd nD sm, ?_⟩
    · rw [List.length_map, List.length_map, List.length_take]
      exact small1000 (by omega)
    · rw [upd_same, take_more hz, List.map_append, List.map_append]
      rfl
  · rintro H' ⟨sm, eD⟩
    rw [List.length_map, List.take_length] at eD
    have l1 : (((ns.map fun n => 2 * n).map V.int)).length = ns.length := by rw [List.length_map, List.length_map]
    refine ⟨_, rfl, _, rfl, _, rfl, D, _, i, i.toNat, rfl, rfl, eD, ixN_nat hi0 (by rw [l1]; exact hi), ?_⟩
    refine ⟨_, rfl, _, rfl, _, rfl, D, _, j, j.toNat, rfl, rfl, upd_same, ixN_nat hj0 (by rw [List.length_set, l1]; exact hj), ?_⟩
    refine ⟨_, rfl, q _ D (same_upd nD (same_upd nD sm)) nD ?_⟩
    rw [upd_same]
    unfold Mp.averaged
    rw [List.map_set, List.map_set]
/-! ### all_equal -/
def spAllEq (K : PySem.W.Frag) : Sp := fun vs H Q _ => ∃ (a : Addr) (ns : List Int), vs = [.ref a] ∧ SqL K H a (ns.map V.int) ∧ Q (.int (Mp.allEqual ns)) H
theorem scAllEq : FnScope ["numerators", "numerator"] ["numerators"] (defScope sAllEq) := ⟨rfl, rfl, rfl, by decide +kernel, rfl, by decide +kernel, by decide +kernel⟩
theorem head_get {ns : List Int} (h : 0 < ns.length) : ns.getD 0 0 = ns.headD 0 := by
  cases ns with
  | nil => cases h
  | cons x r => rfl
theorem ok_alleq {f : Addr} {fd : FuncData} (F : Fun K "all_equal" "all_equal" sAllEq f fd) : FnOk P w K mg base CX0 1 f fd ["numerators"] (spAllEq K) := by
  refine F.ok scAllEq (fun vs H Q E h => ?_) (fun cdv A outer s H vs Q E hr h => ?_)
  · obtain ⟨a, ns, rfl, _⟩ := h
    rfl
  obtain ⟨a, ns, rfl, hS, q⟩ := h
  refine ⟨_, pss_cons (ps_for PassesOwn.never rfl (pi_list (pv 0)) (pg_name (i := 1) scAllEq.nd rfl (.inl rfl))
      (pss_one (ps_if (pt_cmpR op_ne (pv 1) (pe_ix ix_list (pv 0) pe_int (fun _ _ => rfl)) (nomark _)) (pss_one (ps_ret pe_int)) pss_nil)))
    (pss_one (ps_ret pe_int)), ?_⟩
  refine ⟨_, rfl, a, rfl, ⟨_, hS⟩, for_list (K := K) (a := a) (xs := ns.map V.int) (fun i σ H' => ∃ v : Option V, σ = [some (.ref a), v] ∧ H' = H ∧ ∀ n ∈ ns.take i, n = ns.headD 0)
    ⟨none, rfl, rfl, fun n hn => by cases hn⟩ (fun i σ H' _ ⟨_, _, e, _⟩ => by rw [e]; exact hS) ?_ ?_⟩
  · rintro i y σ H' hi ⟨v, rfl, rfl, hall⟩
    obtain ⟨z, hz, rfl⟩ := get_int hi
    have hlen : 0 < ns.length := Nat.lt_of_le_of_lt (Nat.zero_le i) (List.getElem?_eq_some_iff.mp hz).1
    have a0 : atI (ns.map V.int) 0 = some (.int (ns.headD 0)) := by
      rw [← head_get hlen]
      exact at_int (by decide) (by show 0 < ns.length; exact hlen)
    refine ⟨_, rfl, _, rfl, a, _, _, _, rfl, rfl, hS, a0, rfl, _, rfl, ite2 (fun c => ?_) (fun c => ?_)⟩
    · have ne : ¬ z = ns.headD 0 := fun e => by
        rw [e, decide_eq_true rfl] at c
        cases c
      have e0 : Mp.allEqual ns = 0 := by
        unfold Mp.allEqual
        rw [if_neg]
        intro h
        have := List.all_eq_true.mp h z (List.mem_of_getElem? hz)
        exact ne (beq_iff_eq.mp this)
      rw [e0] at q
      exact q
    · have e : z = ns.headD 0 := by
        by_cases e : z = ns.headD 0
        · exact e
        · exfalso
          refine c ?_
          rw [decide_eq_false (fun x => e (V.int.inj x))]
          rfl
      refine ⟨_, rfl, rfl, fun n hn => ?_⟩
      rw [take_more hz] at hn
      rcases List.mem_append.mp hn with h | h
      · exact hall n h
      · rw [List.mem_singleton.mp h]
        exact e
  · rintro σ H' ⟨v, rfl, rfl, hall⟩
    rw [List.length_map, List.take_length] at hall
    have e1 : Mp.allEqual ns = 1 := by
      unfold Mp.allEqual
      rw [if_pos]
      exact List.all_eq_true.mpr fun n hn => beq_iff_eq.mpr (hall n hn)
    rw [e1] at q
    exact q
/-! ### is_count -/
def spCount : Sp := fun vs H Q _ => ∃ c : Int, vs = [.int c] ∧ Q (.bl (decide (1 ≤ c ∧ c ≤ 8))) H
theorem scCount : FnScope ["count"] ["count"] (defScope sCount) := ⟨rfl, rfl, rfl, by decide +kernel, rfl, by decide +kernel, by decide +kernel⟩
theorem ok_count {f : Addr} {fd : FuncData} (F : Fun K "is_count" "is_count" sCount f fd) {t1 t2 : Tok} (m1 : mg "LEAST_COUNT" = some (.int 1 t1)) (m2 : mg "MOST_COUNT" = some (.int 8 t2)) : FnOk P w K mg base CX0 1 f fd ["count"] spCount := by
  refine F.ok scCount (fun vs H Q E h => ?_) (fun cdv A outer s H vs Q E hr h => ?_)
  · obtain ⟨c, rfl, _⟩ := h
    rfl
  obtain ⟨c, rfl, q⟩ := h
  refine ⟨_, pss_one (ps_ret (pe_and (pe_cmpR op_le (pe_glob (v := .int 1) rfl m1 ⟨_, rfl⟩) (pv 0) (nomark _)) (pe_one (pe_cmpR op_le (pv 0) (pe_glob (v := .int 8) rfl m2 ⟨_, rfl⟩) (nomark _))))), ?_⟩
  refine ⟨_, rfl, _, _, rfl, rfl, _, rfl, ite2 (fun h => ?_) (fun h => ?_)⟩
  · have h1 : 1 ≤ c := of_decide_eq_true h
    refine ⟨_, rfl, _, _, rfl, rfl, ?_⟩
    have e : decide (1 ≤ c ∧ c ≤ 8) = decide (c ≤ 8) := decide_eq_decide.mpr ⟨fun x => x.2, fun x => ⟨h1, x⟩⟩
    rw [e] at q
    exact q
  · have h1 : ¬ 1 ≤ c := of_decide_eq_false (Bool.eq_false_iff.mpr h)
    have e : decide (1 ≤ c ∧ c ≤ 8) = false := decide_eq_false fun x => h1 x.1
    rw [e] at q
    exact q
/-! ### are_values -/
def spValues (K : PySem.W.Frag) : Sp := fun vs H Q _ => ∃ (a : Addr) (ns : List Int), vs = [.ref a] ∧ SqL K H a (ns.map V.int) ∧ Q (.bl (Mp.okValues ns)) H
theorem scValues : FnScope ["values", "value"] ["values"] (defScope sValues) := ⟨rfl, rfl, rfl, by decide +kernel, rfl, by decide +kernel, by decide +kernel⟩
theorem ok_values {f fC : Addr} {fd fdC : FuncData} (F : Fun K "are_values" "are_values" sValues f fd) (CC : Cal P w K mg base 1 "is_count" ["count"] spCount fC fdC) (mlen : mg "len" = none) {t : Tok} (m : mg "MOST_VALUE" = some (.int 99 t)) :
    FnOk P w K mg base CX0 2 f fd ["values"] (spValues K) := by
  refine F.ok scValues (fun vs H Q E h => ?_) (fun cdv A outer s H vs Q E hr h => ?_)
  · obtain ⟨a, ns, rfl, _⟩ := h
    rfl
  obtain ⟨a, ns, rfl, hS, q⟩ := h
  refine ⟨_, pss_cons (ps_if (pt_not (pt_val (pe_call CC.ok hr (by rfl) CC.at_ CC.kp CC.bi .nil pass0 (pa_cons (pe_callB call_len_seq (by rfl) mlen PySem.boot_len (pa_cons (pv 0) pa_nil)) pa_nil)))) (pss_one (ps_ret pe_bl)) pss_nil)
    (pss_cons (ps_for PassesOwn.never rfl (pi_list (pv 0)) (pg_name (i := 1) scValues.nd rfl (.inl rfl))
      (pss_one (ps_if (PW.pt (pw_or (pt_cmpR op_lt (pv 1) pe_int (nomark _)) (pw_or1 (pt_cmpR op_gt (pv 1) (pe_glob (v := .int 99) rfl m ⟨_, rfl⟩) (nomark _))))) (pss_one (ps_ret pe_bl)) pss_nil)))
    (pss_one (ps_ret pe_bl))), ?_⟩
  have ll : (ns.map V.int).length = ns.length := List.length_map _
  refine ⟨_, rfl, a, _, rfl, .inl hS, _, rfl, _, rfl, ite2 (fun h => ?_) (fun h => ?_)⟩
  · have e : Mp.okValues ns = false := by
      unfold Mp.okValues
      rw [ll] at h
      have h2 : ¬ (1 ≤ (ns.length : Int) ∧ (ns.length : Int) ≤ 8) := fun x => by
        rw [decide_eq_true x] at h
        cases h
      rw [Bool.and_eq_false_iff, Bool.and_eq_false_iff, decide_eq_false_iff_not, decide_eq_false_iff_not]
      left
      omega
    rw [e] at q
    exact q
  have hc : 1 ≤ ns.length ∧ ns.length ≤ 8 := by
    rw [ll] at h
    by_cases x : 1 ≤ (ns.length : Int) ∧ (ns.length : Int) ≤ 8
    · omega
    · exfalso
      refine h ?_
      rw [decide_eq_false x]
      rfl
  refine ⟨_, rfl, a, rfl, ⟨_, hS⟩, for_list (K := K) (a := a) (xs := ns.map V.int) (fun i σ H' => ∃ v : Option V, σ = [some (.ref a), v] ∧ H' = H ∧ ∀ n ∈ ns.take i, 0 ≤ n ∧ n ≤ 99)
    ⟨none, rfl, rfl, fun n hn => by cases hn⟩ (fun i σ H' _ ⟨_, _, e, _⟩ => by rw [e]; exact hS) ?_ ?_⟩
  · rintro i y σ H' hi ⟨v, rfl, rfl, hall⟩
    obtain ⟨z, hz, rfl⟩ := get_int hi
    have bad : ¬ (0 ≤ z ∧ z ≤ 99) → Mp.okValues ns = false := fun hb => by
      unfold Mp.okValues
      rw [Bool.and_eq_false_iff]
      right
      rw [List.all_eq_false]
      refine ⟨z, List.mem_of_getElem? hz, ?_⟩
      simp only [Bool.and_eq_true, decide_eq_true_eq]
      exact hb
    refine ⟨_, rfl, _, _, rfl, rfl, _, rfl, ite2 (fun c => ?_) (fun c => ?_)⟩
    · have c' : z < 0 := of_decide_eq_true c
      rw [bad (by omega)] at q
      refine iteT ?_
      exact q
    · have c' : ¬ z < 0 := of_decide_eq_false (Bool.eq_false_iff.mpr c)
      refine ⟨_, rfl, _, _, rfl, rfl, _, rfl, ite2 (fun d => ?_) (fun d => ?_)⟩
      · have d' : 99 < z := of_decide_eq_true d
        rw [bad (by omega)] at q
        exact q
      · have d' : ¬ 99 < z := of_decide_eq_false (Bool.eq_false_iff.mpr d)
        refine ⟨_, rfl, rfl, fun n hn => ?_⟩
        rw [take_more hz] at hn
        rcases List.mem_append.mp hn with h | h
        · exact hall n h
        · rw [List.mem_singleton.mp h]
          omega
  · rintro σ H' ⟨v, rfl, rfl, hall⟩
    rw [List.length_map, List.take_length] at hall
    have e1 : Mp.okValues ns = true := by
      unfold Mp.okValues
      rw [Bool.and_eq_true, Bool.and_eq_true, decide_eq_true_eq, decide_eq_true_eq]
      refine ⟨hc, List.all_eq_true.mpr fun n hn => ?_⟩
      rw [Bool.and_eq_true, decide_eq_true_eq, decide_eq_true_eq]
      exact hall n hn
    rw [e1] at q
    exact q
/-! ### difference -/
def spDiff (K : PySem.W.Frag) : Sp := fun vs H Q _ => ∃ (a : Addr) (ns : List Int) (i j : Int), vs = [.ref a, .int i, .int j] ∧ SqL K H a (ns.map V.int) ∧ 0 ≤ i ∧ i.toNat < ns.length ∧ 0 ≤ j ∧ j.toNat < ns.length ∧ Q (.int (Mp.diff ns (i.toNat, j.toNat))) H
theorem scDiff : FnScope ["numerators", "one", "other"] ["numerators", "one", "other"] (defScope sDiff) := ⟨rfl, rfl, rfl, by decide +kernel, rfl, by decide +kernel, by decide +kernel⟩
theorem ok_diff {f : Addr} {fd : FuncData} (F : Fun K "difference" "difference" sDiff f fd) (mabs : mg "abs" = none) : FnOk P w K mg base CX0 1 f fd ["numerators", "one", "other"] (spDiff K) := by
  refine F.ok scDiff (fun vs H Q E h => ?_) (fun cdv A outer s H vs Q E hr h => ?_)
  · obtain ⟨a, ns, i, j, rfl, _⟩ := h
    rfl
  obtain ⟨a, ns, i, j, rfl, hS, hi0, hi, hj0, hj, q⟩ := h
  refine ⟨_, pss_one (ps_ret (pe_callB call_abs (by rfl) mabs (by decide +kernel) (pa_cons (pe_op op_sub (pe_ix ix_list (pv 0) (pv 1) (fun _ _ => rfl)) (pe_ix ix_list (pv 0) (pv 2) (fun _ _ => rfl))) pa_nil))), ?_⟩
  exact ⟨_, rfl, _, rfl, a, _, _, _, rfl, rfl, hS, at_int hi0 hi, _, rfl, _, rfl, a, _, _, _, rfl, rfl, hS, at_int hj0 hj, _, _, rfl, rfl, _, rfl, q⟩
/-! ### best_pair -/
def tupV (b : Nat × Nat) : HO := .tup [V.int (b.1 : Int), V.int (b.2 : Int)]
def spBest (K : PySem.W.Frag) : Sp := fun vs H Q _ => ∃ (a : Addr) (ns : List Int), vs = [.ref a] ∧ SqL K H a (ns.map V.int) ∧ 2 ≤ ns.length ∧ ns.length ≤ 100 ∧
  ∀ (H' : Hp) (t : Addr), Same H H' → H' t = some (tupV (Mp.bestPair ns)) → (Mp.bestPair ns).1 < ns.length → (Mp.bestPair ns).2 < ns.length → Q (.ref t) H'
theorem scBest : FnScope ["numerators", "best", "one", "other"] ["numerators"] (defScope sBest) := ⟨rfl, rfl, rfl, by decide +kernel, rfl, by decide +kernel, by decide +kernel⟩
/-- the best of the pairs that begin below i; then of those that begin at i, the first j of them, too -/
def bestTo (ns : List Int) (i : Nat) : Nat × Nat := ((List.range i).flatMap (Mp.row ns.length)).foldl (Mp.better ns) (0, 1)
def bestIn (ns : List Int) (i j : Nat) : Nat × Nat := ((List.range j).map fun k => (i, i + 1 + k)).foldl (Mp.better ns) (bestTo ns i)
theorem bestIn_more (ns : List Int) (i j : Nat) : bestIn ns i (j + 1) = Mp.better ns (bestIn ns i j) (i, i + 1 + j) := by
  unfold bestIn
  rw [List.range_succ, List.map_append, List.foldl_append]
  rfl
theorem bestTo_more (ns : List Int) (i : Nat) : bestTo ns (i + 1) = bestIn ns i (ns.length - (i + 1)) := by
  unfold bestTo bestIn
  rw [List.range_succ, List.flatMap_append, List.foldl_append, List.flatMap_cons, List.flatMap_nil, List.append_nil]
  rfl
theorem better_in {ns : List Int} {b p : Nat × Nat} {n : Nat} (hb : b.1 < n ∧ b.2 < n) (hp : p.1 < n ∧ p.2 < n) : (Mp.better ns b p).1 < n ∧ (Mp.better ns b p).2 < n := by
  unfold Mp.better
  split
  · exact hp
  · exact hb
theorem ok_best {f fD : Addr} {fd fdD : FuncData} (F : Fun K "best_pair" "best_pair" sBest f fd) (CD : Cal P w K mg base 1 "difference" ["numerators", "one", "other"] (spDiff K) fD fdD) (mlen : mg "len" = none) (mr : mg "range" = none) :
    FnOk P w K mg base CX0 2 f fd ["numerators"] (spBest K) := by
  refine F.ok scBest (fun vs H Q E h => ?_) (fun cdv A outer s H vs Q E hr h => ?_)
  · obtain ⟨a, ns, rfl, _⟩ := h
    rfl
  obtain ⟨a, ns, rfl, hS, h2, hlen, q⟩ := h
  refine ⟨_, pss_cons (ps_set (i := 1) scBest.nd rfl (.inl rfl) (pe_tup (pa_cons pe_int (pa_cons pe_int pa_nil))))
    (pss_cons (ps_for PassesOwn.never rfl (pi_range1 rfl mr (pa_cons (pe_callB call_len_seq (by rfl) mlen PySem.boot_len (pa_cons (pv 0) pa_nil)) pa_nil)) (pg_name (i := 2) scBest.nd rfl (.inl rfl))
      (pss_one (ps_for PassesOwn.never rfl (pi_range2 rfl mr (pa_cons (pe_op op_add (pv 2) pe_int) (pa_cons (pe_callB call_len_seq (by rfl) mlen PySem.boot_len (pa_cons (pv 0) pa_nil)) pa_nil))) (pg_name (i := 3) scBest.nd rfl (.inl rfl))
        (pss_one (ps_if (pt_cmpR op_gt (pe_call CD.ok hr (by rfl) CD.at_ CD.kp CD.bi .nil pass0 (pa_cons (pv 0) (pa_cons (pv 2) (pa_cons (pv 3) pa_nil))))
            (pe_call CD.ok hr (by rfl) CD.at_ CD.kp CD.bi .nil pass0 (pa_cons (pv 0) (pa_cons (pe_ix ix_tup (pv 1) pe_int (fun _ _ => rfl)) (pa_cons (pe_ix ix_tup (pv 1) pe_int (fun _ _ => rfl)) pa_nil)))) (nomark _))
          (pss_one (ps_set (i := 1) scBest.nd rfl (.inl rfl) (pe_tup (pa_cons (pv 2) (pa_cons (pv 3) pa_nil))))) pss_nil)))))
    (pss_one (ps_ret (pv 1)))), ?_⟩
  have ll : (ns.map V.int).length = ns.length := List.length_map _
  refine ⟨(by show 2 ≤ sizeLine; decide), fun o no => ?_⟩
  have s1 := same_new no (.tup [V.int 0, V.int 1])
  refine ⟨_, rfl, a, _, rfl, .inl (s1.seq hS), _, rfl, by omega, by omega,
    for_range (lo := 0) (n := ((ns.map V.int).length : Int).toNat) (fun i σ H' => ∃ (t : Addr) (v u : Option V), σ = [some (.ref a), some (.ref t), v, u] ∧ Same H H' ∧ H' t = some (tupV (bestTo ns i)) ∧ (bestTo ns i).1 < ns.length ∧ (bestTo ns i).2 < ns.length)
      ⟨o, none, none, rfl, s1, upd_same, (by show 0 < ns.length; omega), (by show 1 < ns.length; omega)⟩ ?_ ?_⟩
  · rintro i σ H' hi ⟨t, v, u, rfl, sm, et, b1, b2⟩
    have hi2 : i < ns.length := by omega
    have z : (0 : Int) + (i : Int) = (i : Int) := Int.zero_add _
    have en : (((ns.map V.int).length : Int) - (0 + (i : Int) + 1)).toNat = ns.length - (i + 1) := by omega
    refine ⟨_, rfl, _, _, rfl, rfl, _, rfl, a, _, rfl, .inl (sm.seq hS), _, _, rfl, by omega,
      for_range (lo := 0 + (i : Int) + 1) (n := (((ns.map V.int).length : Int) - (0 + (i : Int) + 1)).toNat) (fun j σ H' => ∃ (t : Addr) (u : Option V), σ = [some (.ref a), some (.ref t), some (.int (0 + (i : Int))), u] ∧ Same H H' ∧ H' t = some (tupV (bestIn ns i j)) ∧ (bestIn ns i j).1 < ns.length ∧ (bestIn ns i j).2 < ns.length)
        ⟨t, u, rfl, sm, et, b1, b2⟩ ?_ ?_⟩
    · rintro j σ H2 hj ⟨t2, u2, rfl, sm2, et2, c1, c2⟩
      have hj2 : i + 1 + j < ns.length := by omega
      have ej : (0 + (i : Int) + 1 + (j : Int)).toNat = i + 1 + j := by omega
      have ei : (0 + (i : Int)).toNat = i := by omega
      refine ⟨_, rfl, _, rfl, _, rfl, a, ns, _, _, rfl, sm2.seq hS, by omega, by omega, by omega, by omega, ?_⟩
      refine ⟨_, rfl, _, rfl, t2, _, 0, _, rfl, rfl, SqT.of et2, atI_nat (j := 0) rfl, _, rfl, t2, _, 1, _, rfl, rfl, SqT.of et2, atI_nat (j := 1) rfl, a, ns, _, _, rfl, sm2.seq hS, Int.natCast_nonneg _, ?_, Int.natCast_nonneg _, ?_, _, _, rfl, rfl, _, rfl, ?_⟩
      · rw [Int.toNat_natCast]
        exact c1
      · rw [Int.toNat_natCast]
        exact c2
      rw [ei, ej, Int.toNat_natCast, Int.toNat_natCast]
      have hb := better_in (ns := ns) (b := bestIn ns i j) (p := (i, i + 1 + j)) ⟨c1, c2⟩ ⟨hi2, hj2⟩
      have eb := bestIn_more ns i j
      refine ite2 (fun h => ?_) (fun h => ?_)
      · have h1 : Mp.diff ns (bestIn ns i j) < Mp.diff ns (i, i + 1 + j) := of_decide_eq_true h
        have eb2 : bestIn ns i (j + 1) = (i, i + 1 + j) := by
          rw [eb]
          unfold Mp.better
          rw [if_pos h1]
        refine ⟨_, rfl, _, rfl, (by show 2 ≤ sizeLine; decide), fun t3 n3 => ?_⟩
        refine ⟨t3, some (.int (0 + (i : Int) + 1 + (j : Int))), rfl, sm2.trans (same_new n3 _), ?_, ?_, ?_⟩
        · rw [upd_same, eb2]
          unfold tupV
          have e1 : (0 + (i : Int)) = ((i : Nat) : Int) := z
          have e2 : (0 + (i : Int) + 1 + (j : Int)) = ((i + 1 + j : Nat) : Int) := by omega
          rw [e2, e1]
        · rw [eb2]
          exact hi2
        · rw [eb2]
          exact hj2
      · have h1 : ¬ Mp.diff ns (bestIn ns i j) < Mp.diff ns (i, i + 1 + j) := of_decide_eq_false (Bool.eq_false_iff.mpr h)
        have eb2 : bestIn ns i (j + 1) = bestIn ns i j := by
          rw [eb]
          unfold Mp.better
          rw [if_neg h1]
        refine ⟨t2, some (.int (0 + (i : Int) + 1 + (j : Int))), rfl, sm2, ?_, ?_, ?_⟩
        · rw [eb2]
          exact et2
        · rw [eb2]
          exact c1
        · rw [eb2]
          exact c2
    · rintro σ H2 ⟨t2, u2, rfl, sm2, et2, c1, c2⟩
      rw [en, ← bestTo_more] at et2 c1 c2
      exact ⟨t2, _, u2, rfl, sm2, et2, c1, c2⟩
  · rintro σ H' ⟨t, v, u, rfl, sm, et, b1, b2⟩
    have e : bestTo ns ((ns.map V.int).length : Int).toNat = Mp.bestPair ns := by
      rw [Int.toNat_natCast, ll]
      rfl
    rw [e] at et b1 b2
    exact ⟨_, rfl, q _ t sm et b1 b2⟩
/-! ### after_steps -/
def spSteps (K : PySem.W.Frag) : Sp := fun vs H Q _ => ∃ (a : Addr) (ns : List Int) (k : Int), vs = [.ref a, .int k] ∧ SqL K H a (ns.map V.int) ∧ 1 ≤ ns.length ∧ ns.length ≤ 100 ∧ 0 ≤ k ∧ k ≤ 100 ∧ RetL H Q (Mp.steps k.toNat ns)
theorem scSteps : FnScope ["values", "steps", "found", "turn", "one", "other"] ["values", "steps"] (defScope sSteps) := ⟨rfl, rfl, rfl, by decide +kernel, rfl, by decide +kernel, by decide +kernel⟩
theorem ok_steps {f fB fA : Addr} {fd fdB fdA : FuncData} (F : Fun K "after_steps" "after_steps" sSteps f fd) (CB : Cal P w K mg base 2 "best_pair" ["numerators"] (spBest K) fB fdB) (CA : Cal P w K mg base 1 "averaged" ["numerators", "one", "other"] (spAveraged K) fA fdA)
    (ml : mg "list" = none) (mr : mg "range" = none) (mlen : mg "len" = none) : FnOk P w K mg base CX0 3 f fd ["values", "steps"] (spSteps K) := by
  refine F.ok scSteps (fun vs H Q E h => ?_) (fun cdv A outer s H vs Q E hr h => ?_)
  · obtain ⟨a, ns, k, rfl, _⟩ := h
    rfl
  obtain ⟨a, ns, k, rfl, hS, h1, hlen, hk0, hk, q⟩ := h
  refine ⟨_, pss_cons (ps_set (i := 2) scSteps.nd rfl (.inl rfl) (pe_callTy call_list_of (by rfl) ml (by decide +kernel) (pa_cons (pv 0) pa_nil)))
    (pss_cons (ps_for PassesOwn.never rfl (pi_range1 rfl mr (pa_cons (pv 1) pa_nil)) (pg_name (i := 3) scSteps.nd rfl (.inl rfl))
      (pss_one (ps_if (pt_cmpR op_eq (pe_callB call_len_seq (by rfl) mlen PySem.boot_len (pa_cons (pv 2) pa_nil)) pe_int (nomark _))
        (pss_one (ps_set (i := 2) scSteps.nd rfl (.inl rfl) (pe_lst (pa_cons (pe_op op_mul pe_int (pe_ix ix_list (pv 2) pe_int (fun _ _ => rfl))) pa_nil))))
        (pss_cons (ps_asg (pe_call CB.ok (hr.mono (by decide)) (by rfl) CB.at_ CB.kp CB.bi .nil pass0 (pa_cons (pv 2) pa_nil)) (pg_tup (by rfl) (pgs_cons (pg_name (i := 4) scSteps.nd rfl (.inl rfl)) (pgs_cons (pg_name (i := 5) scSteps.nd rfl (.inl rfl)) pgs_nil))))
        (pss_one (ps_set (i := 2) scSteps.nd rfl (.inl rfl) (pe_call CA.ok (hr.mono (by decide)) (by rfl) CA.at_ CA.kp CA.bi .nil pass0 (pa_cons (pv 2) (pa_cons (pv 4) (pa_cons (pv 5) pa_nil))))))))))
    (pss_one (ps_ret (pv 2)))), ?_⟩
  refine ⟨_, rfl, a, _, rfl, .inl hS, fun o no => ?_⟩
  refine ⟨_, rfl, k, rfl, by omega, by omega, for_range (lo := 0) (n := k.toNat) (fun i σ H' => ∃ (p : Addr) (v u x : Option V), σ = [some (.ref a), some (.int k), some (.ref p), v, u, x] ∧ Same H H' ∧ H p = none ∧ H' p = some (.lst ((Mp.steps i ns).map V.int)))
    ⟨o, none, none, none, rfl, same_new no _, no, upd_same⟩ ?_ ?_⟩
  · rintro i σ H' hi ⟨p, v, u, x, rfl, sm, np, ep⟩
    have sl := Mp.steps_len i ns
    have ll : ((Mp.steps i ns).map V.int).length = ns.length := by rw [List.length_map, sl]
    refine ⟨_, rfl, p, _, rfl, .inl (SqL.of ep), rfl, _, rfl, ite2 (fun h => ?_) (fun h => ?_)⟩
    · have e1 := V.int.inj (of_decide_eq_true h)
      have e2 : ns.length = 1 := by omega
      have es : Mp.steps (i + 1) ns = [2 * (Mp.steps i ns).getD 0 0] := by
        rw [Mp.steps_succ]
        unfold Mp.step
        rw [sl, if_pos e2]
      refine ⟨_, rfl, p, _, 0, _, rfl, rfl, SqL.of ep, at_int (by decide) (by show 0 < _; omega), _, _, rfl, rfl, .inl ⟨by decide, by decide⟩, (by show 1 ≤ sizeLine; decide), fun l nl => ?_⟩
      refine ⟨l, _, u, x, rfl, sm.trans (same_new nl _), sm.free nl, ?_⟩
      rw [upd_same, es]
      rfl
    · have e1 : ns.length ≠ 1 := fun z => h (by rw [ll, z]; exact decide_eq_true rfl)
      have es : Mp.steps (i + 1) ns = Mp.averaged (Mp.steps i ns) (Mp.bestPair (Mp.steps i ns)).1 (Mp.bestPair (Mp.steps i ns)).2 := by
        rw [Mp.steps_succ]
        unfold Mp.step
        rw [sl, if_neg e1]
      refine ⟨_, rfl, p, _, rfl, SqL.of ep, by omega, by omega, fun H2 t s2 et b1 b2 => ?_⟩
      refine ⟨t, _, rfl, SqT.of et, rfl, _, _, rfl, _, _, rfl, rfl, ?_⟩
      refine ⟨_, rfl, _, rfl, _, rfl, p, _, _, _, rfl, SqL.of (s2 _ _ ep), by omega, Int.natCast_nonneg _, by omega, Int.natCast_nonneg _, by omega, fun H3 p3 s3 n3 e3 => ?_⟩
      refine ⟨p3, _, _, _, rfl, sm.trans (s2.trans s3), (sm.trans s2).free n3, ?_⟩
      rw [e3, es, Int.toNat_natCast, Int.toNat_natCast]
  · rintro σ H' ⟨p, v, u, x, rfl, sm, np, ep⟩
    exact ⟨_, rfl, q _ p sm np ep⟩
/-! ### are_steps -/
def spAreSteps : Sp := fun vs H Q _ => ∃ c : Int, vs = [.int c] ∧ Q (.bl (decide (0 ≤ c ∧ c ≤ 12))) H
theorem scAreSteps : FnScope ["steps"] ["steps"] (defScope sAreSteps) := ⟨rfl, rfl, rfl, by decide +kernel, rfl, by decide +kernel, by decide +kernel⟩
theorem ok_aresteps {f : Addr} {fd : FuncData} (F : Fun K "are_steps" "are_steps" sAreSteps f fd) {t2 : Tok} (m2 : mg "MOST_STEPS" = some (.int 12 t2)) : FnOk P w K mg base CX0 1 f fd ["steps"] spAreSteps := by
  refine F.ok scAreSteps (fun vs H Q E h => ?_) (fun cdv A outer s H vs Q E hr h => ?_)
  · obtain ⟨c, rfl, _⟩ := h
    rfl
  obtain ⟨c, rfl, q⟩ := h
  refine ⟨_, pss_one (ps_ret (pe_and (pe_cmpR op_le pe_int (pv 0) (nomark _)) (pe_one (pe_cmpR op_le (pv 0) (pe_glob (v := .int 12) rfl m2 ⟨_, rfl⟩) (nomark _))))), ?_⟩
  refine ⟨_, rfl, _, _, rfl, rfl, _, rfl, ite2 (fun h => ?_) (fun h => ?_)⟩
  · have h1 : 0 ≤ c := of_decide_eq_true h
    refine ⟨_, rfl, _, _, rfl, rfl, ?_⟩
    have e : decide (0 ≤ c ∧ c ≤ 12) = decide (c ≤ 12) := decide_eq_decide.mpr ⟨fun x => x.2, fun x => ⟨h1, x⟩⟩
    rw [e] at q
    exact q
  · have h1 : ¬ 0 ≤ c := of_decide_eq_false (Bool.eq_false_iff.mpr h)
    have e : decide (0 ≤ c ∧ c ≤ 12) = false := decide_eq_false fun x => h1 x.1
    rw [e] at q
    exact q
/-! ### error_of_steps -/
def errS (k : Int) (ns : List Int) : Int := if Mp.okValues ns = true then (if k ≤ 12 then 0 else -22) else -22
def spErrS (K : PySem.W.Frag) : Sp := fun vs H Q _ => ∃ (k : Int) (a : Addr) (ns : List Int), vs = [.int k, .ref a] ∧ SqL K H a (ns.map V.int) ∧ 0 ≤ k ∧ Q (.int (errS k ns)) H
theorem scErrS : FnScope ["steps", "values"] ["steps", "values"] (defScope sErrS) := ⟨rfl, rfl, rfl, by decide +kernel, rfl, by decide +kernel, by decide +kernel⟩
theorem ok_errs {f fV fP : Addr} {fd fdV fdP : FuncData} (F : Fun K "error_of_steps" "error_of_steps" sErrS f fd) (CV : Cal P w K mg base 2 "are_values" ["values"] (spValues K) fV fdV) (CP : Cal P w K mg base 1 "are_steps" ["steps"] spAreSteps fP fdP)
    {t : Tok} (mO : mg "OUTSIDE" = some (.int (-22) t)) : FnOk P w K mg base CX0 4 f fd ["steps", "values"] (spErrS K) := by
  refine F.ok scErrS (fun vs H Q E h => ?_) (fun cdv A outer s H vs Q E hr h => ?_)
  · obtain ⟨k, a, ns, rfl, _⟩ := h
    rfl
  obtain ⟨k, a, ns, rfl, hA, hk0, q⟩ := h
  refine ⟨_, pss_cons (ps_if (pt_not (pt_val (pe_call CV.ok (hr.mono (by decide)) (by rfl) CV.at_ CV.kp CV.bi .nil pass0 (pa_cons (pv 1) pa_nil)))) (pss_one (ps_ret (pe_glob (v := .int (-22)) rfl mO ⟨_, rfl⟩))) pss_nil)
    (pss_cons (ps_if (pt_not (pt_val (pe_call CP.ok (hr.mono (by decide)) (by rfl) CP.at_ CP.kp CP.bi .nil pass0 (pa_cons (pv 0) pa_nil)))) (pss_one (ps_ret (pe_glob (v := .int (-22)) rfl mO ⟨_, rfl⟩))) pss_nil)
    (pss_one (ps_ret pe_int))), ?_⟩
  refine ⟨_, rfl, a, ns, rfl, hA, _, rfl, ite2 (fun h => ?_) (fun h => ?_)⟩
  · have e : errS k ns = -22 := by
      unfold errS
      rw [of_not h, if_neg Bool.false_ne_true]
    rw [e] at q
    exact q
  · refine ⟨_, rfl, k, rfl, _, rfl, ite2 (fun g => ?_) (fun g => ?_)⟩
    · have g1 := of_decide_eq_false (of_not g)
      have e : errS k ns = -22 := by
        unfold errS
        rw [of_nnot h, if_pos rfl, if_neg (fun z => g1 ⟨hk0, z⟩)]
      rw [e] at q
      exact q
    · have g1 := of_decide_eq_true (of_nnot g)
      have e : errS k ns = 0 := by
        unfold errS
        rw [of_nnot h, if_pos rfl, if_pos g1.2]
      rw [e] at q
      exact q
/-! ### greedy_averaging -/
def spGreedy (K : PySem.W.Frag) : Sp := fun vs H Q _ => ∃ (k : Int) (a : Addr) (ns : List Int), vs = [.int k, .ref a] ∧ SqL K H a (ns.map V.int) ∧ 0 ≤ k ∧ RetL H Q (Mp.ansGreedy k ns)
theorem scGreedy : FnScope ["steps", "values", "error", "found"] ["steps", "values"] (defScope sGreedy) := ⟨rfl, rfl, rfl, by decide +kernel, rfl, by decide +kernel, by decide +kernel⟩
theorem errS_zero {k : Int} {ns : List Int} (h : errS k ns = 0) : Mp.okValues ns = true ∧ k ≤ 12 := by
  unfold errS at h
  split at h
  · rename_i h1
    split at h
    · rename_i h2
      exact ⟨h1, h2⟩
    · cases h
  · cases h
theorem errS_ne {k : Int} {ns : List Int} (h : ¬ errS k ns = 0) : Mp.ansGreedy k ns = [errS k ns] := by
  unfold errS at h ⊢
  unfold Mp.ansGreedy
  split
  · rename_i h1
    rw [if_pos h1] at h
    split
    · rename_i h2
      rw [if_pos h2] at h
      exact absurd rfl h
    · rfl
  · rfl
theorem ok_greedy {f fE fA fQ fL fD : Addr} {fd fdE fdA fdQ fdL fdD : FuncData} (F : Fun K "greedy_averaging" "greedy_averaging" sGreedy f fd) (CE : Cal P w K mg base 4 "error_of_steps" ["steps", "values"] (spErrS K) fE fdE)
    (CA : Cal P w K mg base 3 "after_steps" ["values", "steps"] (spSteps K) fA fdA) (CQ : Cal P w K mg base 1 "all_equal" ["numerators"] (spAllEq K) fQ fdQ) (CL : Cal P w K mg base 3 "listed" ["numerators", "denominator"] (spListed K) fL fdL)
    (CD : Cal P w K mg base 1 "doubled" ["times"] spDoubled fD fdD) : FnOk P w K mg base CX0 5 f fd ["steps", "values"] (spGreedy K) := by
  refine F.ok scGreedy (fun vs H Q E h => ?_) (fun cdv A outer s H vs Q E hr h => ?_)
  · obtain ⟨k, a, ns, rfl, _⟩ := h
    rfl
  obtain ⟨k, a, ns, rfl, hA, hk0, q⟩ := h
  refine ⟨_, pss_cons (ps_set (i := 2) scGreedy.nd rfl (.inl rfl) (pe_call CE.ok (hr.mono (by decide)) (by rfl) CE.at_ CE.kp CE.bi .nil pass0 (pa_cons (pv 0) (pa_cons (pv 1) pa_nil))))
    (pss_cons (ps_if (pt_cmpR op_ne (pv 2) pe_int (nomark _)) (pss_one (ps_ret (pe_lst (pa_cons (pv 2) pa_nil)))) pss_nil)
    (pss_cons (ps_set (i := 3) scGreedy.nd rfl (.inl rfl) (pe_call CA.ok (hr.mono (by decide)) (by rfl) CA.at_ CA.kp CA.bi .nil pass0 (pa_cons (pv 1) (pa_cons (pv 0) pa_nil))))
    (pss_one (ps_ret (pe_op op_cat (pe_lst (pa_cons (pe_call CQ.ok (hr.mono (by decide)) (by rfl) CQ.at_ CQ.kp CQ.bi .nil pass0 (pa_cons (pv 3) pa_nil)) pa_nil))
      (pe_call CL.ok (hr.mono (by decide)) (by rfl) CL.at_ CL.kp CL.bi .nil pass0 (pa_cons (pv 3) (pa_cons (pe_call CD.ok (hr.mono (by decide)) (by rfl) CD.at_ CD.kp CD.bi .nil pass0 (pa_cons (pv 0) pa_nil)) pa_nil)))))))), ?_⟩
  refine ⟨_, rfl, _, rfl, k, a, ns, rfl, hA, hk0, _, rfl, rfl, _, rfl, ite2 (fun h => ?_) (fun h => ?_)⟩
  · have e3 := errS_ne (ne_test h)
    refine ⟨_, rfl, (by show 1 ≤ sizeLine; decide), fun p np => ?_⟩
    exact q.at_new (Same.refl _) np (by rw [e3]; rfl)
  obtain ⟨e1, e2⟩ := errS_zero (eq_test h)
  have e3 : Mp.ansGreedy k ns = Mp.allEqual (Mp.steps k.toNat ns) :: Mp.listed (Mp.steps k.toNat ns) ((2 ^ k.toNat : Nat) : Int) := by
    unfold Mp.ansGreedy
    rw [if_pos e1, if_pos e2]
  obtain ⟨n1, n8, nin⟩ := Mp.okValues_in e1
  have d1 : 2 ^ k.toNat ≤ 2 ^ 12 := Nat.pow_le_pow_right (by decide) (by omega)
  have d0 : 0 < 2 ^ k.toNat := Nat.pow_pos (by decide)
  have fl := Mp.steps_len k.toNat ns
  refine ⟨_, rfl, _, rfl, a, ns, k, rfl, hA, n1, by omega, hk0, by omega, fun H1 o s1 no e4 => ?_⟩
  refine ⟨_, rfl, o, _, rfl, SqL.of e4, (by show 1 ≤ sizeLine; decide), fun l nl => ?_⟩
  have s2 := s1.trans (same_new nl (.lst [.int (Mp.allEqual (Mp.steps k.toNat ns))]))
  refine ⟨_, rfl, _, rfl, k.toNat, ?_, by omega, o, _, _, rfl, SqL.of (same_new nl _ _ _ e4), by omega, fun n hn => Mp.steps_nonneg _ nin (by decide) n hn, by omega, by omega, fun H3 r s3 n3 e5 => ?_⟩
  · rw [Int.toNat_of_nonneg hk0]
    rfl
  refine ⟨l, r, _, _, rfl, rfl, s3 _ _ upd_same, e5, ?_, fun t nt => ?_⟩
  · rw [List.length_map, listed_len]
    refine small ?_
    show 1 + _ ≤ 1000
    omega
  · exact q.at_new (s2.trans s3) nt (by rw [e3]; rfl)
end
/-! ## 3. The end: what the top has written -/
theorem all_mk {P : Program} {w : World} {K : PySem.W.Frag} {h : Heap} {mg : Str → Option Value} {fa f1 f2 f3 f4 f5 f6 f7 f8 f9 f10 f11 f12 f13 f14 : Addr} (X : K.In h) (G : h.Ns mainGlobals mg) (hfa : mg "greedy_averaging" = some (.ref fa))
    {od1 an1 od2 an2 od3 an3 od4 an4 od5 an5 od6 an6 od7 an7 od8 an8 od9 an9 od10 an10 od11 an11 od12 an12 od13 an13 od14 an14 : Option Addr} {sl1 sl2 sl3 sl4 sl5 sl6 sl7 sl8 sl9 sl10 sl11 sl12 sl13 sl14 : Array (Option Value)} {oc1 kV1 dc1 pm1 cd1 ct1 oc2 kV2 dc2 pm2 cd2 ct2 oc3 kV3 dc3 pm3 cd3 ct3 oc4 kV4 dc4 pm4 cd4 ct4 oc5 kV5 dc5 pm5 cd5 ct5 oc6 kV6 dc6 pm6 cd6 ct6 oc7 kV7 dc7 pm7 cd7 ct7 oc8 kV8 dc8 pm8 cd8 ct8 oc9 kV9 dc9 pm9 cd9 ct9 oc10 kV10 dc10 pm10 cd10 ct10 oc11 kV11 dc11 pm11 cd11 ct11 oc12 kV12 dc12 pm12 cd12 ct12 oc13 kV13 dc13 pm13 cd13 ct13 oc14 kV14 dc14 pm14 cd14 ct14 : Value}
    {t_OUTSIDE t_LEAST_COUNT t_MOST_COUNT t_MOST_VALUE t_MOST_STEPS : Tok}
    (a1 : PySem.W.nsIn K mainGlobals "greatest_divisor" = some (some (.ref f1)))
    (l1 : K.lookup f1 = some ⟨oc1, od1, .func (PySem.W.fnOf "greatest_divisor" "greatest_divisor" (defArgs sGcd) (defBody sGcd) (defScope sGcd) .none kV1 dc1 pm1 an1 cd1 ct1), sl1⟩)
    (c1 : PySem.W.codeIn K cd1 "greatest_divisor" = true) (k1 : PySem.W.keepIn K (.ref f1) = true)
    (a2 : PySem.W.nsIn K mainGlobals "lowest_terms" = some (some (.ref f2)))
    (l2 : K.lookup f2 = some ⟨oc2, od2, .func (PySem.W.fnOf "lowest_terms" "lowest_terms" (defArgs sLow) (defBody sLow) (defScope sLow) .none kV2 dc2 pm2 an2 cd2 ct2), sl2⟩)
    (c2 : PySem.W.codeIn K cd2 "lowest_terms" = true) (k2 : PySem.W.keepIn K (.ref f2) = true)
    (a3 : PySem.W.nsIn K mainGlobals "listed" = some (some (.ref f3)))
    (l3 : K.lookup f3 = some ⟨oc3, od3, .func (PySem.W.fnOf "listed" "listed" (defArgs sListed) (defBody sListed) (defScope sListed) .none kV3 dc3 pm3 an3 cd3 ct3), sl3⟩)
    (c3 : PySem.W.codeIn K cd3 "listed" = true) (k3 : PySem.W.keepIn K (.ref f3) = true)
    (a4 : PySem.W.nsIn K mainGlobals "doubled" = some (some (.ref f4)))
    (l4 : K.lookup f4 = some ⟨oc4, od4, .func (PySem.W.fnOf "doubled" "doubled" (defArgs sDoubled) (defBody sDoubled) (defScope sDoubled) .none kV4 dc4 pm4 an4 cd4 ct4), sl4⟩)
    (c4 : PySem.W.codeIn K cd4 "doubled" = true) (k4 : PySem.W.keepIn K (.ref f4) = true)
    (a5 : PySem.W.nsIn K mainGlobals "averaged" = some (some (.ref f5)))
    (l5 : K.lookup f5 = some ⟨oc5, od5, .func (PySem.W.fnOf "averaged" "averaged" (defArgs sAveraged) (defBody sAveraged) (defScope sAveraged) .none kV5 dc5 pm5 an5 cd5 ct5), sl5⟩)
    (c5 : PySem.W.codeIn K cd5 "averaged" = true) (k5 : PySem.W.keepIn K (.ref f5) = true)
    (a6 : PySem.W.nsIn K mainGlobals "all_equal" = some (some (.ref f6)))
    (l6 : K.lookup f6 = some ⟨oc6, od6, .func (PySem.W.fnOf "all_equal" "all_equal" (defArgs sAllEq) (defBody sAllEq) (defScope sAllEq) .none kV6 dc6 pm6 an6 cd6 ct6), sl6⟩)
    (c6 : PySem.W.codeIn K cd6 "all_equal" = true) (k6 : PySem.W.keepIn K (.ref f6) = true)
    (a7 : PySem.W.nsIn K mainGlobals "is_count" = some (some (.ref f7)))
    (l7 : K.lookup f7 = some ⟨oc7, od7, .func (PySem.W.fnOf "is_count" "is_count" (defArgs sCount) (defBody sCount) (defScope sCount) .none kV7 dc7 pm7 an7 cd7 ct7), sl7⟩)
    (c7 : PySem.W.codeIn K cd7 "is_count" = true) (k7 : PySem.W.keepIn K (.ref f7) = true)
    (a8 : PySem.W.nsIn K mainGlobals "are_values" = some (some (.ref f8)))
    (l8 : K.lookup f8 = some ⟨oc8, od8, .func (PySem.W.fnOf "are_values" "are_values" (defArgs sValues) (defBody sValues) (defScope sValues) .none kV8 dc8 pm8 an8 cd8 ct8), sl8⟩)
    (c8 : PySem.W.codeIn K cd8 "are_values" = true) (k8 : PySem.W.keepIn K (.ref f8) = true)
    (a9 : PySem.W.nsIn K mainGlobals "difference" = some (some (.ref f9)))
    (l9 : K.lookup f9 = some ⟨oc9, od9, .func (PySem.W.fnOf "difference" "difference" (defArgs sDiff) (defBody sDiff) (defScope sDiff) .none kV9 dc9 pm9 an9 cd9 ct9), sl9⟩)
    (c9 : PySem.W.codeIn K cd9 "difference" = true) (k9 : PySem.W.keepIn K (.ref f9) = true)
    (a10 : PySem.W.nsIn K mainGlobals "best_pair" = some (some (.ref f10)))
    (l10 : K.lookup f10 = some ⟨oc10, od10, .func (PySem.W.fnOf "best_pair" "best_pair" (defArgs sBest) (defBody sBest) (defScope sBest) .none kV10 dc10 pm10 an10 cd10 ct10), sl10⟩)
    (c10 : PySem.W.codeIn K cd10 "best_pair" = true) (k10 : PySem.W.keepIn K (.ref f10) = true)
    (a11 : PySem.W.nsIn K mainGlobals "after_steps" = some (some (.ref f11)))
    (l11 : K.lookup f11 = some ⟨oc11, od11, .func (PySem.W.fnOf "after_steps" "after_steps" (defArgs sSteps) (defBody sSteps) (defScope sSteps) .none kV11 dc11 pm11 an11 cd11 ct11), sl11⟩)
    (c11 : PySem.W.codeIn K cd11 "after_steps" = true) (k11 : PySem.W.keepIn K (.ref f11) = true)
    (a12 : PySem.W.nsIn K mainGlobals "are_steps" = some (some (.ref f12)))
    (l12 : K.lookup f12 = some ⟨oc12, od12, .func (PySem.W.fnOf "are_steps" "are_steps" (defArgs sAreSteps) (defBody sAreSteps) (defScope sAreSteps) .none kV12 dc12 pm12 an12 cd12 ct12), sl12⟩)
    (c12 : PySem.W.codeIn K cd12 "are_steps" = true) (k12 : PySem.W.keepIn K (.ref f12) = true)
    (a13 : PySem.W.nsIn K mainGlobals "error_of_steps" = some (some (.ref f13)))
    (l13 : K.lookup f13 = some ⟨oc13, od13, .func (PySem.W.fnOf "error_of_steps" "error_of_steps" (defArgs sErrS) (defBody sErrS) (defScope sErrS) .none kV13 dc13 pm13 an13 cd13 ct13), sl13⟩)
    (c13 : PySem.W.codeIn K cd13 "error_of_steps" = true) (k13 : PySem.W.keepIn K (.ref f13) = true)
    (a14 : PySem.W.nsIn K mainGlobals "greedy_averaging" = some (some (.ref f14)))
    (l14 : K.lookup f14 = some ⟨oc14, od14, .func (PySem.W.fnOf "greedy_averaging" "greedy_averaging" (defArgs sGreedy) (defBody sGreedy) (defScope sGreedy) .none kV14 dc14 pm14 an14 cd14 ct14), sl14⟩)
    (c14 : PySem.W.codeIn K cd14 "greedy_averaging" = true) (k14 : PySem.W.keepIn K (.ref f14) = true)
    (n_OUTSIDE : PySem.W.nsIn K mainGlobals "OUTSIDE" = some (some (.int (-22) t_OUTSIDE)))
    (n_LEAST_COUNT : PySem.W.nsIn K mainGlobals "LEAST_COUNT" = some (some (.int (1) t_LEAST_COUNT)))
    (n_MOST_COUNT : PySem.W.nsIn K mainGlobals "MOST_COUNT" = some (some (.int (8) t_MOST_COUNT)))
    (n_MOST_VALUE : PySem.W.nsIn K mainGlobals "MOST_VALUE" = some (some (.int (99) t_MOST_VALUE)))
    (n_MOST_STEPS : PySem.W.nsIn K mainGlobals "MOST_STEPS" = some (some (.int (12) t_MOST_STEPS)))
    (z_abs : PySem.W.nsIn K mainGlobals "abs" = some none)
    (z_len : PySem.W.nsIn K mainGlobals "len" = some none)
    (z_list : PySem.W.nsIn K mainGlobals "list" = some none)
    (z_range : PySem.W.nsIn K mainGlobals "range" = some none)
    : ∃ fd : FuncData, (∀ (s : Shared) (us : List Value), us.length = (["steps", "values"] : List Str).length → BindsTo s fd ⟨us, []⟩ ((["steps", "values"] : List Str).zip us)) ∧ ∀ base : Heap, K.In base → base.Ns mainGlobals mg → FnOk P w K mg base CX0 5 fa fd ["steps", "values"] (spGreedy K) := by
  have e := hfa.symm.trans (PySem.W.mg_of X G a14)
  cases e
  have F1 := fun_mk (st := sGcd) l1 c1 k1
  have b1 := F1.binds (ps := ["one", "other"]) fun _ _ _ _ _ _ us hl => match us, hl with | [_, _], _ => rfl
  have F2 := fun_mk (st := sLow) l2 c2 k2
  have b2 := F2.binds (ps := ["numerator", "denominator"]) fun _ _ _ _ _ _ us hl => match us, hl with | [_, _], _ => rfl
  have F3 := fun_mk (st := sListed) l3 c3 k3
  have b3 := F3.binds (ps := ["numerators", "denominator"]) fun _ _ _ _ _ _ us hl => match us, hl with | [_, _], _ => rfl
  have F4 := fun_mk (st := sDoubled) l4 c4 k4
  have b4 := F4.binds (ps := ["times"]) fun _ _ _ _ _ _ us hl => match us, hl with | [_], _ => rfl
  have F5 := fun_mk (st := sAveraged) l5 c5 k5
  have b5 := F5.binds (ps := ["numerators", "one", "other"]) fun _ _ _ _ _ _ us hl => match us, hl with | [_, _, _], _ => rfl
  have F6 := fun_mk (st := sAllEq) l6 c6 k6
  have b6 := F6.binds (ps := ["numerators"]) fun _ _ _ _ _ _ us hl => match us, hl with | [_], _ => rfl
  have F7 := fun_mk (st := sCount) l7 c7 k7
  have b7 := F7.binds (ps := ["count"]) fun _ _ _ _ _ _ us hl => match us, hl with | [_], _ => rfl
  have F8 := fun_mk (st := sValues) l8 c8 k8
  have b8 := F8.binds (ps := ["values"]) fun _ _ _ _ _ _ us hl => match us, hl with | [_], _ => rfl
  have F9 := fun_mk (st := sDiff) l9 c9 k9
  have b9 := F9.binds (ps := ["numerators", "one", "other"]) fun _ _ _ _ _ _ us hl => match us, hl with | [_, _, _], _ => rfl
  have F10 := fun_mk (st := sBest) l10 c10 k10
  have b10 := F10.binds (ps := ["numerators"]) fun _ _ _ _ _ _ us hl => match us, hl with | [_], _ => rfl
  have F11 := fun_mk (st := sSteps) l11 c11 k11
  have b11 := F11.binds (ps := ["values", "steps"]) fun _ _ _ _ _ _ us hl => match us, hl with | [_, _], _ => rfl
  have F12 := fun_mk (st := sAreSteps) l12 c12 k12
  have b12 := F12.binds (ps := ["steps"]) fun _ _ _ _ _ _ us hl => match us, hl with | [_], _ => rfl
  have F13 := fun_mk (st := sErrS) l13 c13 k13
  have b13 := F13.binds (ps := ["steps", "values"]) fun _ _ _ _ _ _ us hl => match us, hl with | [_, _], _ => rfl
  have F14 := fun_mk (st := sGreedy) l14 c14 k14
  have y_abs := PySem.W.mg_none_of X G z_abs
  have y_len := PySem.W.mg_none_of X G z_len
  have y_list := PySem.W.mg_none_of X G z_list
  have y_range := PySem.W.mg_none_of X G z_range
  have y_OUTSIDE := PySem.W.mg_of X G n_OUTSIDE
  have y_LEAST_COUNT := PySem.W.mg_of X G n_LEAST_COUNT
  have y_MOST_COUNT := PySem.W.mg_of X G n_MOST_COUNT
  have y_MOST_VALUE := PySem.W.mg_of X G n_MOST_VALUE
  have y_MOST_STEPS := PySem.W.mg_of X G n_MOST_STEPS
  refine ⟨PySem.W.fnOf "greedy_averaging" "greedy_averaging" (defArgs sGreedy) (defBody sGreedy) (defScope sGreedy) .none kV14 dc14 pm14 an14 cd14 ct14, fun s us hu => match us, hu with | [_, _], _ => .of_eq rfl, fun base _ _ => ?_⟩
  have C1 : Cal P w K mg base 1 "greatest_divisor" ["one", "other"] spGcd f1 _ := ⟨ok_gcd F1 , PySem.W.mg_of X G a1, k1, b1⟩
  have C2 : Cal P w K mg base 2 "lowest_terms" ["numerator", "denominator"] spLow f2 _ := ⟨ok_low F2 C1, PySem.W.mg_of X G a2, k2, b2⟩
  have C3 : Cal P w K mg base 3 "listed" ["numerators", "denominator"] (spListed K) f3 _ := ⟨ok_listed F3 C2, PySem.W.mg_of X G a3, k3, b3⟩
  have C4 : Cal P w K mg base 1 "doubled" ["times"] spDoubled f4 _ := ⟨ok_doubled F4 y_range, PySem.W.mg_of X G a4, k4, b4⟩
  have C5 : Cal P w K mg base 1 "averaged" ["numerators", "one", "other"] (spAveraged K) f5 _ := ⟨ok_averaged F5 , PySem.W.mg_of X G a5, k5, b5⟩
  have C6 : Cal P w K mg base 1 "all_equal" ["numerators"] (spAllEq K) f6 _ := ⟨ok_alleq F6 , PySem.W.mg_of X G a6, k6, b6⟩
  have C7 : Cal P w K mg base 1 "is_count" ["count"] spCount f7 _ := ⟨ok_count F7 y_LEAST_COUNT y_MOST_COUNT, PySem.W.mg_of X G a7, k7, b7⟩
  have C8 : Cal P w K mg base 2 "are_values" ["values"] (spValues K) f8 _ := ⟨ok_values F8 C7 y_len y_MOST_VALUE, PySem.W.mg_of X G a8, k8, b8⟩
  have C9 : Cal P w K mg base 1 "difference" ["numerators", "one", "other"] (spDiff K) f9 _ := ⟨ok_diff F9 y_abs, PySem.W.mg_of X G a9, k9, b9⟩
  have C10 : Cal P w K mg base 2 "best_pair" ["numerators"] (spBest K) f10 _ := ⟨ok_best F10 C9 y_len y_range, PySem.W.mg_of X G a10, k10, b10⟩
  have C11 : Cal P w K mg base 3 "after_steps" ["values", "steps"] (spSteps K) f11 _ := ⟨ok_steps F11 C10 C5 y_list y_range y_len, PySem.W.mg_of X G a11, k11, b11⟩
  have C12 : Cal P w K mg base 1 "are_steps" ["steps"] spAreSteps f12 _ := ⟨ok_aresteps F12 y_MOST_STEPS, PySem.W.mg_of X G a12, k12, b12⟩
  have C13 : Cal P w K mg base 4 "error_of_steps" ["steps", "values"] (spErrS K) f13 _ := ⟨ok_errs F13 C8 C12 y_OUTSIDE, PySem.W.mg_of X G a13, k13, b13⟩
  exact ok_greedy F14 C13 C11 C6 C3 C4
end Mw
/-! ## 4. The statement -/
open PySem PySem.W PyProof.Rows
set_option maxRecDepth 100000 in
set_option maxHeartbeats 8000000 in
theorem PySem.Challenge.cw_meanpairs_s06_greedy_averaging_holds : PySem.Challenge.rw_meanpairs_s06_greedy_averaging.Holds := by
  w_on; k_headS; (case hw => exact ⟨[.int 0, .list []], by decide +kernel, by decide +kernel⟩)
  k_fillS
  refine L2.walk_specK (r := PySem.Challenge.rw_meanpairs_s06_greedy_averaging) (k := 5) (CX := L2.CX0) (ps := ["steps", "values"]) (sp := Mw.spGreedy) (by decide +kernel) rfl rfl ⟨rfl, by decide, by decide⟩ (fun w h Y => PySem.W.kIn_of Y) ?F ?S (fun _ _ _ _ z => z)
  case F =>
    intro w mg fa h Y KX G hmg
    refine' Mw.all_mk KX G hmg ?a1 ?l1 ?c1 ?k1 ?a2 ?l2 ?c2 ?k2 ?a3 ?l3 ?c3 ?k3 ?a4 ?l4 ?c4 ?k4 ?a5 ?l5 ?c5 ?k5 ?a6 ?l6 ?c6 ?k6 ?a7 ?l7 ?c7 ?k7 ?a8 ?l8 ?c8 ?k8 ?a9 ?l9 ?c9 ?k9 ?a10 ?l10 ?c10 ?k10 ?a11 ?l11 ?c11 ?k11 ?a12 ?l12 ?c12 ?k12 ?a13 ?l13 ?c13 ?k13 ?a14 ?l14 ?c14 ?k14 ?n_OUTSIDE ?n_LEAST_COUNT ?n_MOST_COUNT ?n_MOST_VALUE ?n_MOST_STEPS ?z_abs ?z_len ?z_list ?z_range
    (case a1 => k_is); (case l1 => k_is); (case c1 => k_is); (case k1 => k_is); (case a2 => k_is); (case l2 => k_is); (case c2 => k_is); (case k2 => k_is)
    (case a3 => k_is); (case l3 => k_is); (case c3 => k_is); (case k3 => k_is); (case a4 => k_is); (case l4 => k_is); (case c4 => k_is); (case k4 => k_is)
    (case a5 => k_is); (case l5 => k_is); (case c5 => k_is); (case k5 => k_is); (case a6 => k_is); (case l6 => k_is); (case c6 => k_is); (case k6 => k_is)
    (case a7 => k_is); (case l7 => k_is); (case c7 => k_is); (case k7 => k_is); (case a8 => k_is); (case l8 => k_is); (case c8 => k_is); (case k8 => k_is)
    (case a9 => k_is); (case l9 => k_is); (case c9 => k_is); (case k9 => k_is); (case a10 => k_is); (case l10 => k_is); (case c10 => k_is); (case k10 => k_is)
    (case a11 => k_is); (case l11 => k_is); (case c11 => k_is); (case k11 => k_is); (case a12 => k_is); (case l12 => k_is); (case c12 => k_is); (case k12 => k_is)
    (case a13 => k_is); (case l13 => k_is); (case c13 => k_is); (case k13 => k_is); (case a14 => k_is); (case l14 => k_is); (case c14 => k_is); (case k14 => k_is)
    (case n_OUTSIDE => k_is); (case n_LEAST_COUNT => k_is); (case n_MOST_COUNT => k_is); (case n_MOST_VALUE => k_is); (case n_MOST_STEPS => k_is); (case z_abs => k_is); (case z_len => k_is); (case z_list => k_is)
    (case z_range => k_is)
  case S =>
    intro K H xs a hO hwi hask hx
    have q : (Codec.inInt 0 4294967295 a.1 && ((Codec.inLen 0 10 a.2.1 && a.2.1.all (Codec.inInt 0 4294967295)) && true)) = true := hwi
    simp only [Bool.and_eq_true] at q
    have p0 : 0 ≤ a.1 := (Codec.inInt_iff.mp q.1).1
    have n1 := (Codec.inNat_iff.mp q.2.1.1).2
    have p1 : ∀ v ∈ a.2.1, 0 ≤ v := fun v hv => (Codec.inInt_iff.mp (List.all_eq_true.mp q.2.1.2 v hv)).1
    cases hx with
    | cons h0 r0 =>
    cases r0 with
    | cons h1 r1 =>
    cases r1
    cases h0
    cases h1
    rename_i hs1 ha1
    have e1 := L2.ints_dw a.2.1 _ ha1
    subst e1
    refine ⟨a.1, _, a.2.1, rfl, hs1, p0, ?_⟩
    intro H' p _ _ hp
    show L2.Dw K H' (.ref p) (WData.list ((PyKs606.greedy_averaging a.1 a.2.1).map WData.int))
    rw [Mp.greedy_spec _ _ p0 p1]
    exact .lst (L2.SqL.of hp) (L2.dw_ints _)
#print axioms PySem.Challenge.cw_meanpairs_s06_greedy_averaging_holds
