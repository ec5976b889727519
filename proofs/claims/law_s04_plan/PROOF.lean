import PyProof.Rows.All
import Wide.All
import OpenK.AllK
import Wide.FinOn
import Open.SpecLaws
import KE.OsGo
import HandS.Spec
import HandS.Words
import HandS.WordsList
import HandS.Comp
import HandS.Wide
import PySem.Challenge.RW_meanpairs_s04_plan
set_option Elab.async false
set_option linter.all false
set_option maxRecDepth 100000
set_option maxHeartbeats 2000000
/-! ## 1. The plain mathematics: functions over whole numbers that say what the specification says -/
namespace Mp
open Ks604 (Rational)
/-! ### rational numbers: those of the specification are core Lean's -/
def ofRat (r : Rat) : Rational := ⟨r.num, r.den⟩
theorem ofRat_inj {a b : Rat} (h : ofRat a = ofRat b) : a = b := by
  have h1 : a.num = b.num := congrArg Rational.num h
  have h2 : a.den = b.den := congrArg Rational.den h
  exact Rat.ext h1 h2
theorem make_rat (n : Int) (d : Nat) : Rational.make n d = ofRat (mkRat n d) := by
  unfold Rational.make ofRat
  rw [Rat.num_mkRat, Rat.den_mkRat]
  by_cases h : d = 0
  · rw [if_pos h, if_pos h, if_pos h]
  · rw [if_neg h, if_neg h, if_neg h, Nat.gcd_comm]
theorem add_rat (a b : Rat) : ofRat a + ofRat b = ofRat (a + b) := by
  show Rational.make (a.num * b.den + b.num * a.den) (a.den * b.den) = _
  rw [make_rat, Rat.add_def']
theorem sub_rat (a b : Rat) : ofRat a - ofRat b = ofRat (a - b) := by
  show Rational.make (a.num * b.den + (-b.num) * a.den) (a.den * b.den) = _
  rw [make_rat, Rat.sub_def', Int.neg_mul, Int.sub_eq_add_neg]
theorem mul_rat (a b : Rat) : ofRat a * ofRat b = ofRat (a * b) := by
  show Rational.make (a.num * b.num) (a.den * b.den) = _
  rw [make_rat, Rat.mul_def']
theorem lt_rat (a b : Rat) : Rational.lt (ofRat a) (ofRat b) = decide (a < b) := by
  show decide (a.num * b.den < b.num * a.den) = _
  rw [decide_eq_decide]
  exact (Rat.lt_iff a b).symm
/-- n over d -/
abbrev fr (n : Int) (d : Nat) : Rational := Rational.make n d
theorem mkRat_add_same (a b : Int) {d : Nat} (h : d ≠ 0) : mkRat a d + mkRat b d = mkRat (a + b) d := by
  rw [Rat.mkRat_add_mkRat _ _ h h, ← Int.add_mul, Rat.mkRat_mul_right h]
theorem mkRat_sub_same (a b : Int) {d : Nat} (h : d ≠ 0) : mkRat a d - mkRat b d = mkRat (a - b) d := by
  rw [Rat.sub_eq_add_neg, Rat.neg_mkRat, mkRat_add_same _ _ h, Int.sub_eq_add_neg]
theorem fr_add (a b : Int) {d : Nat} (h : d ≠ 0) : fr a d + fr b d = fr (a + b) d := by
  unfold fr
  rw [make_rat, make_rat, make_rat, add_rat, mkRat_add_same _ _ h]
theorem fr_sub (a b : Int) {d : Nat} (h : d ≠ 0) : fr a d - fr b d = fr (a - b) d := by
  unfold fr
  rw [make_rat, make_rat, make_rat, sub_rat, mkRat_sub_same _ _ h]
theorem fr_mul (a b : Int) (d e : Nat) : fr a d * fr b e = fr (a * b) (d * e) := by
  unfold fr
  rw [make_rat, make_rat, make_rat, mul_rat, Rat.mkRat_mul_mkRat]
theorem fr_half (a : Int) (d : Nat) : fr a d * Rational.make 1 2 = fr a (2 * d) := by
  rw [fr_mul, Int.mul_one, Nat.mul_comm]
theorem fr_two (a : Int) (d : Nat) : fr (2 * a) (2 * d) = fr a d := by
  unfold fr
  rw [make_rat, make_rat]
  have := Rat.mkRat_mul_left (n := a) (d := d) (a := 2) (by decide)
  exact congrArg ofRat this
theorem fr_inj {a b : Int} {d : Nat} (h : d ≠ 0) : fr a d = fr b d ↔ a = b := by
  constructor
  · intro e
    unfold fr at e
    rw [make_rat, make_rat] at e
    have e2 := (Rat.mkRat_eq_iff h h).mp (ofRat_inj e)
    exact Int.eq_of_mul_eq_mul_right (by omega) e2
  · intro e
    rw [e]
theorem fr_lt (a b : Int) {d : Nat} (h : d ≠ 0) : Rational.lt (fr a d) (fr b d) = decide (a < b) := by
  unfold fr
  rw [make_rat, make_rat, lt_rat, decide_eq_decide, ← Rat.not_le, Rat.le_iff_sub_nonneg, mkRat_sub_same _ _ h, ← Rat.divInt_ofNat, Rat.divInt_nonneg_iff_of_pos_right (by omega)]
  omega
theorem fr_zero (d : Nat) : fr 0 d = Rational.zero := by
  unfold fr
  rw [make_rat, Rat.zero_mkRat]
  rfl
theorem fr_one (a : Int) : fr a 1 = ⟨a, 1⟩ := by
  unfold fr Rational.make
  rw [if_neg (by decide), Nat.gcd_one_right]
  simp
theorem fr_lowest (a : Int) (d : Nat) (h : d ≠ 0) : fr a d = ⟨a / (Nat.gcd a.natAbs d : Nat), d / Nat.gcd a.natAbs d⟩ := by
  unfold fr Rational.make
  rw [if_neg h]
end Mp
namespace Mp
open Ks604 (Rational)
/-! ### values with one denominator -/
def vals (ns : List Int) (d : Nat) : Ks606.Values := ns.map fun n => fr n d
/-- means.averaged -/
def averaged (ns : List Int) (i j : Nat) : List Int :=
  ((ns.map fun n => 2 * n).set i (ns.getD i 0 + ns.getD j 0)).set j (ns.getD i 0 + ns.getD j 0)
theorem averaged_len (ns : List Int) (i j : Nat) : (averaged ns i j).length = ns.length := by
  unfold averaged
  rw [List.length_set, List.length_set, List.length_map]
theorem vals_len (ns : List Int) (d : Nat) : (vals ns d).length = ns.length := List.length_map _
theorem valueAt_vals (ns : List Int) (d : Nat) (i : Nat) : Ks606.valueAt (vals ns d) i = fr (ns.getD i 0) d := by
  unfold Ks606.valueAt vals
  rw [List.getD_eq_getElem?_getD, List.getD_eq_getElem?_getD, List.getElem?_map]
  cases ns[i]? with
  | none => exact (fr_zero d).symm
  | some x => rfl
theorem vals_two (ns : List Int) (d : Nat) : vals (ns.map fun n => 2 * n) (2 * d) = vals ns d := by
  unfold vals
  rw [List.map_map]
  refine List.map_congr_left fun n _ => ?_
  exact fr_two n d
theorem average_vals (ns : List Int) {d : Nat} (h : d ≠ 0) (i j : Nat) : Ks606.average (vals ns d) i j = vals (averaged ns i j) (2 * d) := by
  unfold Ks606.average averaged
  rw [valueAt_vals, valueAt_vals, fr_add _ _ h, fr_half]
  show ((vals ns d).set i _).set j _ = _
  rw [← vals_two]
  unfold vals
  rw [List.map_set, List.map_set]
theorem areEqual_vals (ns : List Int) {d : Nat} (h : d ≠ 0) : Ks606.areEqual (vals ns d) = ns.all fun n => n == ns.headD 0 := by
  unfold Ks606.areEqual
  have e : (vals ns d).headD Rational.zero = fr (ns.headD 0) d := by
    cases ns with
    | nil => exact (fr_zero d).symm
    | cons x r => rfl
  rw [e]
  unfold vals
  rw [List.all_map]
  congr 1
  funext n
  show (fr n d == fr (ns.headD 0) d) = (n == ns.headD 0)
  rw [Bool.eq_iff_iff, beq_iff_eq, beq_iff_eq]
  exact fr_inj h
/-! ### pairs -/
def pairs2 : List Int → List (Nat × Nat)
  | i :: j :: r => (i.toNat, j.toNat) :: pairs2 r
  | _ => []
theorem pairs2_len : ∀ ps : List Int, (pairs2 ps).length = ps.length / 2
  | [] => rfl
  | [_] => by
    show 0 = 1 / 2
    rfl
  | i :: j :: r => by
    show (pairs2 r).length + 1 = (r.length + 1 + 1) / 2
    rw [pairs2_len r]
    omega
theorem pairs2_get : ∀ (ps : List Int) (k : Nat), 2 * k + 1 < ps.length → (pairs2 ps)[k]? = some ((ps.getD (2 * k) 0).toNat, (ps.getD (2 * k + 1) 0).toNat)
  | [], _, h => by simp at h
  | [_], k, h => by
    have : 2 * k + 1 < 1 := h
    omega
  | i :: j :: r, 0, _ => rfl
  | i :: j :: r, k + 1, h => by
    have h2 : 2 * k + 1 < r.length := by
      have : 2 * (k + 1) + 1 < r.length + 1 + 1 := h
      omega
    have ih := pairs2_get r k h2
    show (pairs2 r)[k]? = _
    rw [ih]
    rfl
def isPair (c : Nat) (p : Nat × Nat) : Bool := decide (p.1 < c) && decide (p.2 < c) && decide (p.1 ≠ p.2)
def okPairs (c : Nat) (ps : List Int) : Bool := decide (ps.length % 2 = 0) && decide (ps.length ≤ 40) && (pairs2 ps).all (isPair c)
theorem parse_eq (c : Nat) : ∀ ps : List Int, Ks606.parsePairs c (ps.map Int.toNat) = if ps.length % 2 = 0 ∧ (pairs2 ps).all (isPair c) = true then some (pairs2 ps) else none
  | [] => rfl
  | [i] => by
    rw [if_neg]
    · rfl
    · rintro ⟨h, _⟩
      cases h
  | i :: j :: r => by
    have ih := parse_eq c r
    show (if c ≤ i.toNat ∨ c ≤ j.toNat ∨ i.toNat = j.toNat then none else (Ks606.parsePairs c (r.map Int.toNat)).map fun pairs => (i.toNat, j.toNat) :: pairs) = _
    rw [ih]
    have el : (i :: j :: r).length % 2 = r.length % 2 := by
      show (r.length + 1 + 1) % 2 = r.length % 2
      omega
    have ea : (pairs2 (i :: j :: r)).all (isPair c) = (isPair c (i.toNat, j.toNat) && (pairs2 r).all (isPair c)) := rfl
    rw [el, ea]
    by_cases g : c ≤ i.toNat ∨ c ≤ j.toNat ∨ i.toNat = j.toNat
    · rw [if_pos g, if_neg]
      rintro ⟨_, h⟩
      rw [Bool.and_eq_true] at h
      have h1 := h.1
      unfold isPair at h1
      simp only [Bool.and_eq_true, decide_eq_true_eq] at h1
      omega
    · rw [if_neg g]
      have h1 : isPair c (i.toNat, j.toNat) = true := by
        unfold isPair
        simp only [Bool.and_eq_true, decide_eq_true_eq]
        omega
      rw [h1, Bool.true_and]
      by_cases g2 : r.length % 2 = 0 ∧ (pairs2 r).all (isPair c) = true
      · rw [if_pos g2, if_pos g2]
        rfl
      · rw [if_neg g2, if_neg g2]
        rfl
theorem withPairs_eq (c : Nat) (ps : List Int) (f : List (Nat × Nat) → Ks606.Result) : Ks606.withPairs c (ps.map Int.toNat) f = if okPairs c ps = true then f (pairs2 ps) else Ks606.number (-22) := by
  unfold Ks606.withPairs
  rw [parse_eq]
  unfold okPairs
  by_cases g : ps.length % 2 = 0 ∧ (pairs2 ps).all (isPair c) = true
  · rw [if_pos g]
    show (if 20 < (pairs2 ps).length then Ks606.number (-22) else f (pairs2 ps)) = _
    rw [pairs2_len, g.2, Bool.and_true, decide_eq_true g.1, Bool.true_and]
    by_cases g2 : ps.length ≤ 40
    · rw [if_neg (by omega), if_pos (decide_eq_true g2)]
    · rw [if_pos (by omega), if_neg]
      rw [decide_eq_true_eq]
      exact g2
  · rw [if_neg g, if_neg]
    simp only [Bool.and_eq_true, decide_eq_true_eq]
    rintro ⟨⟨h1, _⟩, h2⟩
    exact g ⟨h1, h2⟩
/-! ### sequences -/
def afterPairs (ns : List Int) (l : List (Nat × Nat)) : List Int := l.foldl (fun f p => averaged f p.1 p.2) ns
theorem afterPairs_len : ∀ (l : List (Nat × Nat)) (ns : List Int), (afterPairs ns l).length = ns.length
  | [], _ => rfl
  | p :: r, ns => by
    show (afterPairs (averaged ns p.1 p.2) r).length = _
    rw [afterPairs_len r, averaged_len]
theorem averageAll_vals : ∀ (l : List (Nat × Nat)) (ns : List Int) (d : Nat), d ≠ 0 → Ks606.averageAll (vals ns d) l = vals (afterPairs ns l) (2 ^ l.length * d)
  | [], ns, d, _ => by
    show vals ns d = vals ns (1 * d)
    rw [Nat.one_mul]
  | p :: r, ns, d, h => by
    show Ks606.averageAll (Ks606.average (vals ns d) p.1 p.2) r = vals (afterPairs (averaged ns p.1 p.2) r) (2 ^ (r.length + 1) * d)
    rw [average_vals ns h, averageAll_vals r _ _ (by omega), Nat.pow_succ, Nat.mul_assoc]
/-! ### values -/
def okValues (vs : List Int) : Bool := decide (1 ≤ vs.length) && decide (vs.length ≤ 8) && vs.all fun v => decide (0 ≤ v) && decide (v ≤ 99)
theorem withValues_eq (vs : List Int) (hv : ∀ v ∈ vs, 0 ≤ v) (f : Ks606.Values → Ks606.Result) : Ks606.withValues (vs.map Int.toNat) f = if okValues vs = true then f (vals vs 1) else Ks606.number (-22) := by
  unfold Ks606.withValues okValues
  have e1 : ((vs.map Int.toNat).map Rational.ofNat) = vals vs 1 := by
    unfold vals
    rw [List.map_map]
    refine List.map_congr_left fun v h => ?_
    rw [fr_one]
    show (⟨((v.toNat : Nat) : Int), 1⟩ : Rational) = _
    rw [Int.toNat_of_nonneg (hv v h)]
  have e2 : ((vs.map Int.toNat).any fun x => decide (99 < x)) = !(vs.all fun v => decide (0 ≤ v) && decide (v ≤ 99)) := by
    rw [List.any_map, List.not_all_eq_any_not]
    refine Bool.eq_iff_iff.mpr ?_
    rw [List.any_eq_true, List.any_eq_true]
    constructor
    · rintro ⟨x, hx, q⟩
      refine ⟨x, hx, ?_⟩
      have q2 : 99 < x.toNat := of_decide_eq_true q
      simp only [Bool.not_eq_true', Bool.and_eq_false_iff, decide_eq_false_iff_not]
      omega
    · rintro ⟨x, hx, q⟩
      refine ⟨x, hx, ?_⟩
      have h0 := hv x hx
      simp only [Bool.not_eq_true', Bool.and_eq_false_iff, decide_eq_false_iff_not] at q
      show decide (99 < x.toNat) = true
      rw [decide_eq_true_eq]
      omega
  rw [e1, e2, List.length_map]
  unfold Ks606.maxValues
  cases (vs.all fun v => decide (0 ≤ v) && decide (v ≤ 99)) with
  | true =>
    by_cases g : 1 ≤ vs.length ∧ vs.length ≤ 8
    · rw [if_neg, if_pos]
      · simp only [Bool.and_eq_true, decide_eq_true_eq, and_true]
        exact g
      · rintro (h | h | h)
        · omega
        · omega
        · cases h
    · rw [if_pos, if_neg]
      · simp only [Bool.and_eq_true, decide_eq_true_eq, and_true]
        exact g
      · omega
  | false =>
    rw [if_pos, if_neg]
    · simp
    · exact .inr (.inr rfl)
theorem withCount_eq (c : Int) (h : 0 ≤ c) (f : Unit → Ks606.Result) : Ks606.withCount c.toNat f = if 1 ≤ c ∧ c ≤ 8 then f () else Ks606.number (-22) := by
  unfold Ks606.withCount Ks606.maxValues
  by_cases g : 1 ≤ c ∧ c ≤ 8
  · rw [if_neg (by omega), if_pos g]
  · rw [if_pos (by omega), if_neg g]
/-! ### lists of rational numbers in lowest terms -/
def gcdI (a b : Int) : Int := ((Nat.gcd a.natAbs b.natAbs : Nat) : Int)
def lowest (a b : Int) : List Int := [a / gcdI a b, b / gcdI a b]
def listed (ns : List Int) (d : Int) : List Int := ns.flatMap fun n => lowest n d
theorem lowest_fr (a : Int) (d : Nat) (h : d ≠ 0) : lowest a (d : Int) = [(fr a d).num, ((fr a d).den : Int)] := by
  rw [fr_lowest a d h]
  unfold lowest gcdI
  rw [Int.natAbs_natCast]
  show _ = [a / ((Nat.gcd a.natAbs d : Nat) : Int), ((d / Nat.gcd a.natAbs d : Nat) : Int)]
  rw [Int.natCast_ediv]
theorem listed_vals (ns : List Int) (d : Nat) (h : d ≠ 0) : Ks604.pairs (vals ns d) = listed ns (d : Int) := by
  unfold Ks604.pairs listed vals
  rw [List.flatMap_map]
  congr 1
  funext n
  exact (lowest_fr n d h).symm
def allEqual (ns : List Int) : Int := if (ns.all fun n => n == ns.headD 0) = true then 1 else 0
theorem allEqual_vals (ns : List Int) (d : Nat) (h : d ≠ 0) : (if Ks606.areEqual (vals ns d) = true then (1 : Int) else 0) = allEqual ns := by
  rw [areEqual_vals ns h]
  rfl
end Mp
namespace Mp
open Ks604 (Rational)
/-! ### what each function of the interface answers, over whole numbers; and that the specification says the same -/
def den (ps : List Int) : Nat := 2 ^ (ps.length / 2)
theorem den_ne (ps : List Int) : den ps ≠ 0 := Nat.ne_of_gt (Nat.pow_pos (by decide))
theorem averageAll_one (vs ps : List Int) : Ks606.averageAll (vals vs 1) (pairs2 ps) = vals (afterPairs vs (pairs2 ps)) (den ps) := by
  rw [averageAll_vals _ _ _ (by decide), Nat.mul_one, pairs2_len]
  rfl
def ansApply (vs ps : List Int) : List Int :=
  if okValues vs = true then (if okPairs vs.length ps = true then allEqual (afterPairs vs (pairs2 ps)) :: listed (afterPairs vs (pairs2 ps)) (den ps) else [-22]) else [-22]
theorem apply_spec (vs ps : List Int) (hv : ∀ v ∈ vs, 0 ≤ v) : PyKs606.apply_averages vs ps = ansApply vs ps := by
  show Ks606Neutral.integers (Ks606.answer (.applyAverages (vs.map Int.toNat) (ps.map Int.toNat))) = _
  unfold Ks606.answer
  dsimp only
  rw [withValues_eq vs hv]
  unfold ansApply
  split
  · rw [withPairs_eq, vals_len]
    split
    · rw [averageAll_one]
      show (if Ks606.areEqual _ = true then (1 : Int) else 0) :: Ks604.pairs _ = _
      rw [allEqual_vals _ _ (den_ne ps), listed_vals _ _ (den_ne ps)]
    · rfl
  · rfl
/-! influence -/
def unit (c i : Nat) : List Int := (List.replicate c (0 : Int)).set i 1
theorem unit_len (c i : Nat) : (unit c i).length = c := by
  unfold unit
  rw [List.length_set, List.length_replicate]
theorem unit_vals (c i : Nat) : Ks606.unitValues c i = vals (unit c i) 1 := by
  unfold Ks606.unitValues vals unit
  refine List.ext_getElem? fun k => ?_
  rw [List.getElem?_map, List.getElem?_map, List.getElem?_set]
  by_cases hk : k < c
  · rw [List.getElem?_range hk]
    by_cases e : i = k
    · subst e
      rw [if_pos rfl, if_pos (by rw [List.length_replicate]; exact hk)]
      show some (if i = i then Rational.one else Rational.zero) = some (fr 1 1)
      rw [if_pos rfl, fr_one]
      rfl
    · rw [if_neg e, List.getElem?_replicate, if_pos hk]
      show some (if k = i then Rational.one else Rational.zero) = some (fr 0 1)
      rw [if_neg (fun z => e z.symm), fr_one]
      rfl
  · rw [List.getElem?_eq_none (by rw [List.length_range]; omega)]
    by_cases e : i = k
    · subst e
      rw [if_pos rfl, if_neg (by rw [List.length_replicate]; exact hk)]
      rfl
    · rw [if_neg e, List.getElem?_replicate, if_neg hk]
      rfl
theorem influence_vals (c i : Nat) (ps : List Int) : Ks606.influence c i (pairs2 ps) = vals (afterPairs (unit c i) (pairs2 ps)) (den ps) := by
  unfold Ks606.influence
  rw [unit_vals, averageAll_one]
def ansInfluence (c i : Int) (ps : List Int) : List Int :=
  if 1 ≤ c ∧ c ≤ 8 then
    (if i < c then (if okPairs c.toNat ps = true then c :: listed (afterPairs (unit c.toNat i.toNat) (pairs2 ps)) (den ps) else [-22]) else [-2])
  else [-22]
theorem influence_spec (c i : Int) (ps : List Int) (hc : 0 ≤ c) (hi : 0 ≤ i) : PyKs606.influence c i ps = ansInfluence c i ps := by
  show Ks606Neutral.integers (Ks606.answer (.influence c.toNat i.toNat (ps.map Int.toNat))) = _
  unfold Ks606.answer
  dsimp only
  rw [withCount_eq c hc]
  unfold ansInfluence
  split
  · by_cases g : i < c
    · rw [if_pos g, if_neg (by omega), withPairs_eq]
      split
      · rw [influence_vals]
        show ((c.toNat : Nat) : Int) :: Ks604.pairs _ = _
        rw [listed_vals _ _ (den_ne ps), Int.toNat_of_nonneg hc]
      · rfl
    · rw [if_neg g, if_pos (by omega)]
      rfl
  · rfl
/-! always_equalizes -/
def alwaysEqual (c : Nat) (ps : List Int) : Int := if ((List.range c).all fun i => allEqual (afterPairs (unit c i) (pairs2 ps)) != 0) = true then 1 else 0
def ansAlways (c : Int) (ps : List Int) : List Int :=
  if 1 ≤ c ∧ c ≤ 8 then (if okPairs c.toNat ps = true then [alwaysEqual c.toNat ps] else [-22]) else [-22]
theorem always_spec (c : Int) (ps : List Int) (hc : 0 ≤ c) : PyKs606.always_equalizes c ps = ansAlways c ps := by
  show Ks606Neutral.integers (Ks606.answer (.alwaysEqualizes c.toNat (ps.map Int.toNat))) = _
  unfold Ks606.answer
  dsimp only
  rw [withCount_eq c hc]
  unfold ansAlways
  split
  · rw [withPairs_eq]
    split
    · show [(if Ks606.alwaysEqualizes c.toNat (pairs2 ps) = true then (1 : Int) else 0)] = [alwaysEqual c.toNat ps]
      have e : Ks606.alwaysEqualizes c.toNat (pairs2 ps) = (List.range c.toNat).all fun i => allEqual (afterPairs (unit c.toNat i) (pairs2 ps)) != 0 := by
        unfold Ks606.alwaysEqualizes
        congr 1
        funext i
        rw [influence_vals, ← allEqual_vals _ _ (den_ne ps)]
        cases Ks606.areEqual _ <;> rfl
      rw [e]
      rfl
    · rfl
  · rfl
/-! plan -/
def roundOf (d : Int) (n : Nat) : List Int := (List.range n).flatMap fun (i : Nat) => if ((i : Nat) : Int) % (2 * d) < d then [((i : Nat) : Int), (i : Nat) + d] else []
def planPairs (c : Int) : List Int := [1, 2, 4].flatMap fun d => if d < c then roundOf d c.toNat else []
def ansPlan (c : Int) : List Int :=
  if 1 ≤ c ∧ c ≤ 8 then (if c = 1 ∨ c = 2 ∨ c = 4 ∨ c = 8 then (((planPairs c).length : Int) / 2) :: planPairs c else [-33]) else [-22]
theorem plan_spec (c : Int) (hc : 0 ≤ c) : PyKs606.plan c = ansPlan c := by
  by_cases g : 1 ≤ c ∧ c ≤ 8
  · obtain ⟨n, rfl⟩ : ∃ n : Nat, c = n := ⟨c.toNat, by omega⟩
    have h : n = 1 ∨ n = 2 ∨ n = 3 ∨ n = 4 ∨ n = 5 ∨ n = 6 ∨ n = 7 ∨ n = 8 := by omega
    rcases h with rfl | rfl | rfl | rfl | rfl | rfl | rfl | rfl <;> decide +kernel
  · show Ks606Neutral.integers (Ks606.withCount c.toNat _) = _
    rw [withCount_eq c hc, if_neg g]
    unfold ansPlan
    rw [if_neg g]
    rfl
/-! spread -/
def maxL (ns : List Int) : Int := ns.foldl (fun b x => if b < x then x else b) (ns.headD 0)
def minL (ns : List Int) : Int := ns.foldl (fun b x => if x < b then x else b) (ns.headD 0)
def sumSq (ns : List Int) : Int := ns.foldl (fun t n => t + n * n) 0
theorem headD_vals (ns : List Int) (d : Nat) : (vals ns d).headD Rational.zero = fr (ns.headD 0) d := by
  cases ns with
  | nil => exact (fr_zero d).symm
  | cons x r => rfl
theorem largest_vals (ns : List Int) {d : Nat} (h : d ≠ 0) : Ks606.largest (vals ns d) = fr (maxL ns) d := by
  unfold Ks606.largest maxL
  rw [headD_vals]
  generalize ns.headD 0 = b
  unfold vals
  rw [List.foldl_map]
  induction ns generalizing b with
  | nil => rfl
  | cons x r ih =>
    rw [List.foldl_cons, List.foldl_cons, fr_lt _ _ h]
    by_cases g : b < x
    · rw [if_pos (decide_eq_true g), if_pos g]
      exact ih x
    · rw [if_neg (by rw [decide_eq_true_eq]; exact g), if_neg g]
      exact ih b
theorem smallest_vals (ns : List Int) {d : Nat} (h : d ≠ 0) : Ks606.smallest (vals ns d) = fr (minL ns) d := by
  unfold Ks606.smallest minL
  rw [headD_vals]
  generalize ns.headD 0 = b
  unfold vals
  rw [List.foldl_map]
  induction ns generalizing b with
  | nil => rfl
  | cons x r ih =>
    rw [List.foldl_cons, List.foldl_cons, fr_lt _ _ h]
    by_cases g : x < b
    · rw [if_pos (decide_eq_true g), if_pos g]
      exact ih x
    · rw [if_neg (by rw [decide_eq_true_eq]; exact g), if_neg g]
      exact ih b
theorem sumsq_vals (ns : List Int) {d : Nat} (h : d ≠ 0) : Ks606.sumOfSquares (vals ns d) = fr (sumSq ns) (d * d) := by
  unfold Ks606.sumOfSquares sumSq
  rw [← fr_zero (d * d)]
  generalize (0 : Int) = b
  unfold vals
  rw [List.foldl_map]
  induction ns generalizing b with
  | nil => rfl
  | cons x r ih =>
    rw [List.foldl_cons, List.foldl_cons, fr_mul, fr_add _ _ (Nat.mul_ne_zero h h)]
    exact ih (b + x * x)
def ansSpread (vs ps : List Int) : List Int :=
  if okValues vs = true then (if okPairs vs.length ps = true then
    0 :: (lowest (maxL (afterPairs vs (pairs2 ps)) - minL (afterPairs vs (pairs2 ps))) (den ps) ++ lowest (sumSq (afterPairs vs (pairs2 ps))) ((den ps * den ps : Nat) : Int))
    else [-22]) else [-22]
theorem spread_spec (vs ps : List Int) (hv : ∀ v ∈ vs, 0 ≤ v) : PyKs606.spread vs ps = ansSpread vs ps := by
  show Ks606Neutral.integers (Ks606.answer (.spread (vs.map Int.toNat) (ps.map Int.toNat))) = _
  unfold Ks606.answer
  dsimp only
  rw [withValues_eq vs hv]
  unfold ansSpread
  split
  · rw [withPairs_eq, vals_len]
    split
    · rw [averageAll_one]
      have d0 := den_ne ps
      rw [largest_vals _ d0, smallest_vals _ d0, fr_sub _ _ d0, sumsq_vals _ d0, lowest_fr _ _ d0, lowest_fr _ _ (Nat.mul_ne_zero d0 d0)]
      rfl
    · rfl
  · rfl
/-- the greatest is told by what it is -/
theorem maxL_is {ns : List Int} {m : Int} (hm : m ∈ ns) (hl : ∀ n ∈ ns, n ≤ m) : m = maxL ns := by
  unfold maxL
  have key : ∀ (l : List Int) (b : Int), (b ≤ m) → (∀ n ∈ l, n ≤ m) → (b = m ∨ m ∈ l) → m = l.foldl (fun b x => if b < x then x else b) b := by
    intro l
    induction l with
    | nil =>
      intro b _ _ h
      rcases h with h | h
      · exact h.symm
      · cases h
    | cons x r ih =>
      intro b hb hl h
      rw [List.foldl_cons]
      have hx : x ≤ m := hl x List.mem_cons_self
      refine ih _ ?_ (fun n q => hl n (List.mem_cons_of_mem _ q)) ?_
      · split <;> omega
      · rcases h with h | h
        · left
          split <;> omega
        · rcases List.mem_cons.mp h with h | h
          · left
            split <;> omega
          · exact .inr h
  cases ns with
  | nil => cases hm
  | cons x r => exact key _ _ (hl x List.mem_cons_self) hl (.inr hm)
theorem minL_is {ns : List Int} {m : Int} (hm : m ∈ ns) (hl : ∀ n ∈ ns, m ≤ n) : m = minL ns := by
  unfold minL
  have key : ∀ (l : List Int) (b : Int), (m ≤ b) → (∀ n ∈ l, m ≤ n) → (b = m ∨ m ∈ l) → m = l.foldl (fun b x => if x < b then x else b) b := by
    intro l
    induction l with
    | nil =>
      intro b _ _ h
      rcases h with h | h
      · exact h.symm
      · cases h
    | cons x r ih =>
      intro b hb hl h
      rw [List.foldl_cons]
      have hx : m ≤ x := hl x List.mem_cons_self
      refine ih _ ?_ (fun n q => hl n (List.mem_cons_of_mem _ q)) ?_
      · split <;> omega
      · rcases h with h | h
        · left
          split <;> omega
        · rcases List.mem_cons.mp h with h | h
          · left
            split <;> omega
          · exact .inr h
  cases ns with
  | nil => cases hm
  | cons x r => exact key _ _ (hl x List.mem_cons_self) hl (.inr hm)
end Mp
namespace Mp
open Ks604 (Rational)
/-! greedy averages -/
def diff (ns : List Int) (p : Nat × Nat) : Int := if ns.getD p.1 0 - ns.getD p.2 0 < 0 then -(ns.getD p.1 0 - ns.getD p.2 0) else ns.getD p.1 0 - ns.getD p.2 0
def better (ns : List Int) (b p : Nat × Nat) : Nat × Nat := if diff ns b < diff ns p then p else b
/-- the pairs that begin at i -/
def row (n i : Nat) : List (Nat × Nat) := (List.range (n - (i + 1))).map fun j => (i, i + 1 + j)
def rows (n : Nat) : List (Nat × Nat) := (List.range n).flatMap (row n)
def bestPair (ns : List Int) : Nat × Nat := (rows ns.length).foldl (better ns) (0, 1)
def step (ns : List Int) : List Int := if ns.length = 1 then [2 * ns.getD 0 0] else averaged ns (bestPair ns).1 (bestPair ns).2
def steps : Nat → List Int → List Int
  | 0, ns => ns
  | k + 1, ns => steps k (step ns)
theorem steps_succ : ∀ (k : Nat) (ns : List Int), steps (k + 1) ns = step (steps k ns)
  | 0, _ => rfl
  | k + 1, ns => by
    show steps (k + 1) (step ns) = step (steps k (step ns))
    exact steps_succ k (step ns)
theorem step_len (ns : List Int) : (step ns).length = ns.length := by
  unfold step
  split
  · rename_i h
    exact h.symm
  · exact averaged_len _ _ _
theorem steps_len : ∀ (k : Nat) (ns : List Int), (steps k ns).length = ns.length
  | 0, _ => rfl
  | k + 1, ns => by
    show (steps k (step ns)).length = _
    rw [steps_len k, step_len]
theorem rows_spec : ∀ n : Nat, n ≤ 8 → Ks606.allPairs n = rows n := by
  intro n h
  have h2 : n = 0 ∨ n = 1 ∨ n = 2 ∨ n = 3 ∨ n = 4 ∨ n = 5 ∨ n = 6 ∨ n = 7 ∨ n = 8 := by omega
  rcases h2 with rfl | rfl | rfl | rfl | rfl | rfl | rfl | rfl | rfl <;> decide +kernel
theorem diff_vals (ns : List Int) {d : Nat} (h : d ≠ 0) (p : Nat × Nat) : Ks606.difference (vals ns d) p = fr (diff ns p) d := by
  unfold Ks606.difference diff
  dsimp only
  rw [valueAt_vals, valueAt_vals, fr_sub _ _ h, ← fr_zero d, fr_lt _ _ h, fr_sub _ _ h, Int.zero_sub]
  by_cases g : ns.getD p.1 0 - ns.getD p.2 0 < 0
  · rw [if_pos (decide_eq_true g), if_pos g]
  · rw [if_neg (by rw [decide_eq_true_eq]; exact g), if_neg g]
theorem rows_first (n : Nat) (h2 : 2 ≤ n) (h8 : n ≤ 8) : ∃ r, rows n = (0, 1) :: r := by
  have h : n = 2 ∨ n = 3 ∨ n = 4 ∨ n = 5 ∨ n = 6 ∨ n = 7 ∨ n = 8 := by omega
  rcases h with rfl | rfl | rfl | rfl | rfl | rfl | rfl <;> exact ⟨_, rfl⟩
theorem best_vals (ns : List Int) {d : Nat} (h : d ≠ 0) (h2 : 2 ≤ ns.length) (h8 : ns.length ≤ 8) : Ks606.bestPair (vals ns d) = some (bestPair ns) := by
  unfold Ks606.bestPair bestPair
  rw [vals_len, rows_spec _ h8]
  obtain ⟨r, e⟩ := rows_first ns.length h2 h8
  rw [e]
  have e2 : better ns (0, 1) (0, 1) = (0, 1) := by
    unfold better
    rw [if_neg (Int.lt_irrefl _)]
  rw [List.foldl_cons, e2]
  dsimp only
  have e3 : (fun (best pair : Nat × Nat) => if Ks604.Rational.lt (Ks606.difference (vals ns d) best) (Ks606.difference (vals ns d) pair) = true then pair else best) = better ns := by
    funext b p
    unfold better
    rw [diff_vals ns h, diff_vals ns h, fr_lt _ _ h]
    by_cases g : diff ns b < diff ns p
    · rw [if_pos (decide_eq_true g), if_pos g]
    · rw [if_neg (by rw [decide_eq_true_eq]; exact g), if_neg g]
  rw [e3]
theorem best_single (ns : List Int) (d : Nat) (h1 : ns.length = 1) : Ks606.bestPair (vals ns d) = none := by
  unfold Ks606.bestPair
  rw [vals_len, h1]
  rfl
theorem step_single (ns : List Int) (d : Nat) (h1 : ns.length = 1) : vals (step ns) (2 * d) = vals ns d := by
  match ns, h1 with
  | [x], _ =>
    show [fr (2 * x) (2 * d)] = [fr x d]
    rw [fr_two]
theorem greedy_single : ∀ (k : Nat) (vs : Ks606.Values), Ks606.bestPair vs = none → Ks606.greedyAveraging k vs = vs
  | 0, _, _ => rfl
  | k + 1, vs, h => by
    unfold Ks606.greedyAveraging
    rw [h]
theorem greedy_vals : ∀ (k : Nat) (ns : List Int) (d : Nat), d ≠ 0 → 1 ≤ ns.length → ns.length ≤ 8 → Ks606.greedyAveraging k (vals ns d) = vals (steps k ns) (2 ^ k * d)
  | 0, ns, d, _, _, _ => by
    show vals ns d = vals ns (1 * d)
    rw [Nat.one_mul]
  | k + 1, ns, d, h, h1, h8 => by
    show _ = vals (steps k (step ns)) (2 ^ (k + 1) * d)
    have ih := greedy_vals k (step ns) (2 * d) (by omega) (by rw [step_len]; exact h1) (by rw [step_len]; exact h8)
    rw [Nat.pow_succ, Nat.mul_assoc, ← ih]
    by_cases g : ns.length = 1
    · rw [step_single ns d g, greedy_single _ _ (best_single ns d g), greedy_single _ _ (best_single ns d g)]
    · have hb := best_vals ns h (by omega) h8
      conv => lhs; unfold Ks606.greedyAveraging
      rw [hb]
      dsimp only
      rw [average_vals ns h]
      unfold step
      rw [if_neg g]
def ansGreedy (k : Int) (vs : List Int) : List Int :=
  if okValues vs = true then (if k ≤ 12 then allEqual (steps k.toNat vs) :: listed (steps k.toNat vs) ((2 ^ k.toNat : Nat) : Int) else [-22]) else [-22]
theorem greedy_spec (k : Int) (vs : List Int) (hk : 0 ≤ k) (hv : ∀ v ∈ vs, 0 ≤ v) : PyKs606.greedy_averaging k vs = ansGreedy k vs := by
  show Ks606Neutral.integers (Ks606.answer (.greedyAveraging k.toNat (vs.map Int.toNat))) = _
  unfold Ks606.answer
  dsimp only
  rw [withValues_eq vs hv]
  unfold ansGreedy
  split
  · rename_i ok
    have ok2 := ok
    unfold okValues at ok2
    simp only [Bool.and_eq_true, decide_eq_true_eq] at ok2
    by_cases g : k ≤ 12
    · rw [if_pos g, if_neg (by omega), greedy_vals _ _ _ (by decide) ok2.1.1 ok2.1.2, Nat.mul_one]
      have p0 : (2 ^ k.toNat : Nat) ≠ 0 := Nat.ne_of_gt (Nat.pow_pos (by decide))
      show (if Ks606.areEqual _ = true then (1 : Int) else 0) :: Ks604.pairs _ = _
      rw [allEqual_vals _ _ p0, listed_vals _ _ p0]
    · rw [if_neg g, if_pos (by omega)]
      rfl
  · rfl
end Mp
namespace Mp
/-! the numerators stay in bounds -/
theorem averaged_in {ns : List Int} {b : Int} (h : ∀ n ∈ ns, 0 ≤ n ∧ n ≤ b) (hb : 0 ≤ b) (i j : Nat) : ∀ n ∈ averaged ns i j, 0 ≤ n ∧ n ≤ 2 * b := by
  have hg : ∀ k : Nat, 0 ≤ ns.getD k 0 ∧ ns.getD k 0 ≤ b := fun k => by
    rw [List.getD_eq_getElem?_getD]
    cases e : ns[k]? with
    | none => exact ⟨Int.le_refl 0, hb⟩
    | some z => exact h z (List.mem_of_getElem? e)
  have h1 := hg i
  have h2 := hg j
  intro n hn
  unfold averaged at hn
  rcases List.mem_or_eq_of_mem_set hn with hn | rfl
  · rcases List.mem_or_eq_of_mem_set hn with hn | rfl
    · obtain ⟨m, hm, rfl⟩ := List.mem_map.mp hn
      have := h m hm
      omega
    · omega
  · omega
theorem afterPairs_in : ∀ (l : List (Nat × Nat)) {ns : List Int} {b : Int}, (∀ n ∈ ns, 0 ≤ n ∧ n ≤ b) → 0 ≤ b → ∀ n ∈ afterPairs ns l, 0 ≤ n ∧ n ≤ ((2 ^ l.length : Nat) : Int) * b
  | [], ns, b, h, hb => by
    intro n hn
    have := h n hn
    show 0 ≤ n ∧ n ≤ ((1 : Nat) : Int) * b
    omega
  | p :: r, ns, b, h, hb => by
    intro n hn
    have ih := afterPairs_in r (averaged_in h hb p.1 p.2) (by omega) n hn
    show 0 ≤ n ∧ n ≤ ((2 ^ (r.length + 1) : Nat) : Int) * b
    rw [Nat.pow_succ, Int.natCast_mul, Int.mul_assoc]
    exact ih
theorem step_in {ns : List Int} {b : Int} (h : ∀ n ∈ ns, 0 ≤ n ∧ n ≤ b) (hb : 0 ≤ b) : ∀ n ∈ step ns, 0 ≤ n ∧ n ≤ 2 * b := by
  unfold step
  split
  · intro n hn
    rename_i h1
    match ns, h1 with
    | [x], _ =>
      have e : n = 2 * x := by simpa using hn
      have := h x List.mem_cons_self
      omega
  · exact averaged_in h hb _ _
theorem steps_nonneg : ∀ (k : Nat) {ns : List Int} {b : Int}, (∀ n ∈ ns, 0 ≤ n ∧ n ≤ b) → 0 ≤ b → ∀ n ∈ steps k ns, 0 ≤ n
  | 0, _, _, h, _ => fun n hn => (h n hn).1
  | k + 1, _, _, h, hb => steps_nonneg k (step_in h hb) (by omega)
theorem okValues_in {vs : List Int} (h : okValues vs = true) : 1 ≤ vs.length ∧ vs.length ≤ 8 ∧ ∀ v ∈ vs, 0 ≤ v ∧ v ≤ 99 := by
  unfold okValues at h
  rw [Bool.and_eq_true, Bool.and_eq_true, decide_eq_true_eq, decide_eq_true_eq, List.all_eq_true] at h
  refine ⟨h.1.1, h.1.2, fun v hv => ?_⟩
  have := h.2 v hv
  rw [Bool.and_eq_true, decide_eq_true_eq, decide_eq_true_eq] at this
  exact this
theorem okPairs_in {c : Nat} {ps : List Int} (h : okPairs c ps = true) : ps.length ≤ 40 ∧ ∀ x ∈ pairs2 ps, x.1 < c ∧ x.2 < c := by
  unfold okPairs at h
  rw [Bool.and_eq_true, Bool.and_eq_true, decide_eq_true_eq, decide_eq_true_eq, List.all_eq_true] at h
  refine ⟨h.1.2, fun x hx => ?_⟩
  have := h.2 x hx
  unfold isPair at this
  rw [Bool.and_eq_true, Bool.and_eq_true, decide_eq_true_eq, decide_eq_true_eq] at this
  exact this.1
theorem den_lt {ps : List Int} (h : ps.length ≤ 40) : den ps ≤ 2 ^ 20 := Nat.pow_le_pow_right (by decide) (by omega)
theorem den_pos (ps : List Int) : 0 < den ps := Nat.pow_pos (by decide)
end Mp
namespace Mp
/-! the spread and the sum of the squares are not negative -/
theorem foldMax_ge : ∀ (l : List Int) (b : Int), b ≤ l.foldl (fun b x => if b < x then x else b) b
  | [], b => Int.le_refl b
  | x :: r, b => by
    rw [List.foldl_cons]
    have ih := foldMax_ge r (if b < x then x else b)
    refine Int.le_trans ?_ ih
    split <;> omega
theorem foldMin_le : ∀ (l : List Int) (b : Int), l.foldl (fun b x => if x < b then x else b) b ≤ b
  | [], b => Int.le_refl b
  | x :: r, b => by
    rw [List.foldl_cons]
    have ih := foldMin_le r (if x < b then x else b)
    refine Int.le_trans ih ?_
    split <;> omega
theorem spread_nonneg (ns : List Int) : 0 ≤ maxL ns - minL ns := by
  have h1 := foldMax_ge ns (ns.headD 0)
  have h2 := foldMin_le ns (ns.headD 0)
  unfold maxL minL
  omega
theorem sumSq_more (l : List Int) (z : Int) : sumSq (l ++ [z]) = sumSq l + z * z := by
  unfold sumSq
  rw [List.foldl_append]
  rfl
theorem sumSq_nonneg (ns : List Int) : 0 ≤ sumSq ns := by
  have key : ∀ (l : List Int) (b : Int), 0 ≤ b → 0 ≤ l.foldl (fun t n => t + n * n) b := by
    intro l
    induction l with
    | nil => exact fun b h => h
    | cons x r ih =>
      intro b hb
      rw [List.foldl_cons]
      have hx : 0 ≤ x * x := by
        rcases Int.le_total 0 x with h | h
        · exact Int.mul_nonneg h h
        · have := Int.mul_nonneg (show 0 ≤ -x by omega) (show 0 ≤ -x by omega)
          rw [Int.neg_mul_neg] at this
          exact this
      exact ih _ (by omega)
  exact key ns 0 (by decide)
end Mp
/-! ## 2. The program, def by def -/
namespace Mw
open PySem PySem.Spec PyProof.Rows L2
/-! ### words for all defs -/
/-- a def that may be called: what a caller asks -/
structure Cal (P : Program) (w : World) (K : PySem.W.Frag) (mg : Str → Option Value) (base : Heap) (k : Nat) (x : Str) (ps : List Str) (sp : Sp) (f : Addr) (fd : FuncData) : Prop where
  ok : FnOk P w K mg base CX0 k f fd ps sp
  at_ : mg x = some (.ref f)
  kp : PySem.W.keepIn K (.ref f) = true
  bi : Binds K fd ps []
/-- a new list of whole numbers is handed back, all else stands -/
def RetL (H : Hp) (Q : VK) (ns : List Int) : Prop := ∀ (H' : Hp) (p : Addr), Same H H' → H p = none → H' p = some (.lst (ns.map V.int)) → Q (.ref p) H'
theorem RetL.mono {H H1 : Hp} {Q : VK} {ns : List Int} (h : RetL H Q ns) (s : Same H H1) : RetL H1 Q ns := fun H' p s' n e => h H' p (s.trans s') (s.free n) e
theorem same_new {H : Hp} {p : Addr} (h : H p = none) (o : HO) : Same H (upd H p o) := fun b u q => by
  rw [upd_ne (ne_of_none q h)]
  exact q
theorem same_upd {H H1 : Hp} {p : Addr} {o : HO} (h : H p = none) (s : Same H H1) : Same H (upd H1 p o) := fun b u q => by
  rw [upd_ne (ne_of_none q h)]
  exact s _ _ q
theorem RetL.at_new {H H1 : Hp} {Q : VK} {ns : List Int} (h : RetL H Q ns) (s : Same H H1) {p : Addr} (n : H1 p = none) {xs : List V} (e : xs = ns.map V.int) : Q (.ref p) (upd H1 p (.lst xs)) := by
  subst e
  exact h _ p (s.trans (same_new n _)) (s.free n) upd_same
theorem get_int {ns : List Int} {i : Nat} {v : V} (h : (ns.map V.int)[i]? = some v) : ∃ z, ns[i]? = some z ∧ v = .int z := by
  rw [List.getElem?_map] at h
  cases e : ns[i]? with
  | none =>
    rw [e] at h
    cases h
  | some z =>
    rw [e] at h
    exact ⟨z, rfl, (Option.some.inj h).symm⟩
theorem take_more {α : Type} : ∀ {l : List α} {i : Nat} {x : α}, l[i]? = some x → l.take (i + 1) = l.take i ++ [x]
  | [], i, x, h => by simp at h
  | a :: l, 0, x, h => by
    have e : a = x := Option.some.inj h
    subst e
    rfl
  | a :: l, i + 1, x, h => by
    have ih := take_more (l := l) (i := i) (x := x) h
    show a :: l.take (i + 1) = a :: l.take i ++ [x]
    rw [ih]
    rfl
theorem small {n : Nat} (h : n ≤ 1000) : n ≤ sizeLine := Nat.le_of_lt (small1000 h)
theorem at_int {ns : List Int} {i : Int} (h0 : 0 ≤ i) (h : i.toNat < ns.length) : atI (ns.map V.int) i = some (.int (ns.getD i.toNat 0)) := by
  have e : i = ((i.toNat : Nat) : Int) := by omega
  have q : atI (ns.map V.int) ((i.toNat : Nat) : Int) = some (.int (ns.getD i.toNat 0)) := atI_nat (by
    rw [List.getElem?_map, List.getD_eq_getElem?_getD, List.getElem?_eq_getElem h]
    rfl)
  rw [← e] at q
  exact q
theorem not_true {b : Bool} (h : ¬ b = true) : b = false := Bool.eq_false_iff.mpr h
theorem of_not {b : Bool} (h : (!b) = true) : b = false := by
  cases b
  · rfl
  · cases h
theorem of_nnot {b : Bool} (h : ¬ (!b) = true) : b = true := by
  cases b
  · exact absurd rfl h
  · rfl
/-- the test error != 0 -/
theorem ne_test {i : Int} (h : (!decide (V.int i = V.int 0)) = true) : ¬ i = 0 := fun e => by
  rw [e, decide_eq_true rfl] at h
  cases h
theorem eq_test {i : Int} (h : ¬ (!decide (V.int i = V.int 0)) = true) : i = 0 := V.int.inj (of_decide_eq_true (of_nnot h))
/-! the text: its statements by their places -/
def topS (i : Nat) : Stmt := PySem.Challenge.pw_meanpairs_s04_plan.main.body.getD i (.Pass ⟨0, 0, 0, 0⟩)
abbrev sCount : Stmt := topS 5
abbrev sHas : Stmt := topS 7
abbrev sRound : Stmt := topS 8
abbrev sPlanPairs : Stmt := topS 9
abbrev sPlan : Stmt := topS 11
section
variable {P : Program} {w : World} {K : PySem.W.Frag} {mg : Str → Option Value} {base : Heap}
/-! ### is_count -/
def spCount : Sp := fun vs H Q _ => ∃ c : Int, vs = [.int c] ∧ Q (.bl (decide (1 ≤ c ∧ c ≤ 8))) H
theorem scCount : FnScope ["count"] ["count"] (defScope sCount) := ⟨rfl, rfl, rfl, by decide +kernel, rfl, by decide +kernel, by decide +kernel⟩
theorem ok_count {f : Addr} {fd : FuncData} (F : Fun K "is_count" "is_count" sCount f fd) {t1 t2 : Tok} (m1 : mg "LEAST_COUNT" = some (.int 1 t1)) (m2 : mg "MOST_COUNT" = some (.int 8 t2)) : FnOk P w K mg base CX0 1 f fd ["count"] spCount := by
  refine F.ok scCount (fun vs H Q E h => ?_) (fun cdv A outer s H vs Q E hr h => ?_)
  · obtain ⟨c, rfl, _⟩ := h
    rfl
  obtain ⟨c, rfl, q⟩ := h
  refine ⟨_, pss_one (ps_ret (pe_and (pe_cmpR op_le (pe_glob (v := .int 1) rfl m1 ⟨_, rfl⟩) (pv 0) (nomark _)) (pe_one (pe_cmpR op_le (pv 0) (pe_glob (v := .int 8) rfl m2 ⟨_, rfl⟩) (nomark _))))), ?_⟩
  refine ⟨_, rfl, _, _, rfl, rfl, _, rfl, ite2 (fun h => ?_) (fun h => ?_)⟩
  · have h1 : 1 ≤ c := of_decide_eq_true h
    refine ⟨_, rfl, _, _, rfl, rfl, ?_⟩
    have e : decide (1 ≤ c ∧ c ≤ 8) = decide (c ≤ 8) := decide_eq_decide.mpr ⟨fun x => x.2, fun x => ⟨h1, x⟩⟩
    rw [e] at q
    exact q
  · have h1 : ¬ 1 ≤ c := of_decide_eq_false (Bool.eq_false_iff.mpr h)
    have e : decide (1 ≤ c ∧ c ≤ 8) = false := decide_eq_false fun x => h1 x.1
    rw [e] at q
    exact q
/-! ### has_plan -/
def spHas : Sp := fun vs H Q _ => ∃ c : Int, vs = [.int c] ∧ Q (.bl (decide (c = 1 ∨ c = 2 ∨ c = 4 ∨ c = 8))) H
theorem scHas : FnScope ["count"] ["count"] (defScope sHas) := ⟨rfl, rfl, rfl, by decide +kernel, rfl, by decide +kernel, by decide +kernel⟩
theorem int_eq_test {i j : Int} (h : decide (V.int i = V.int j) = true) : i = j := V.int.inj (of_decide_eq_true h)
theorem int_ne_test {i j : Int} (h : ¬ decide (V.int i = V.int j) = true) : ¬ i = j := fun e => h (by rw [e]; exact decide_eq_true rfl)
theorem ok_has {f : Addr} {fd : FuncData} (F : Fun K "has_plan" "has_plan" sHas f fd) : FnOk P w K mg base CX0 1 f fd ["count"] spHas := by
  refine F.ok scHas (fun vs H Q E h => ?_) (fun cdv A outer s H vs Q E hr h => ?_)
  · obtain ⟨c, rfl, _⟩ := h
    rfl
  obtain ⟨c, rfl, q⟩ := h
  refine ⟨_, pss_one (ps_ret (pe_or (pe_cmpR op_eq (pv 0) pe_int (nomark _)) (pe_or (pe_cmpR op_eq (pv 0) pe_int (nomark _)) (pe_or (pe_cmpR op_eq (pv 0) pe_int (nomark _)) (pe_one (pe_cmpR op_eq (pv 0) pe_int (nomark _))))))), ?_⟩
  refine ⟨_, rfl, rfl, _, rfl, ite2 (fun h => ?_) (fun h => ?_)⟩
  · have h1 := int_eq_test h
    rw [decide_eq_true (show c = 1 ∨ c = 2 ∨ c = 4 ∨ c = 8 from .inl h1)] at q
    exact q
  have h1 := int_ne_test h
  refine ⟨_, rfl, rfl, _, rfl, ite2 (fun g => ?_) (fun g => ?_)⟩
  · have g1 := int_eq_test g
    rw [decide_eq_true (show c = 1 ∨ c = 2 ∨ c = 4 ∨ c = 8 from .inr (.inl g1))] at q
    exact q
  have g1 := int_ne_test g
  refine ⟨_, rfl, rfl, _, rfl, ite2 (fun d => ?_) (fun d => ?_)⟩
  · have d1 := int_eq_test d
    rw [decide_eq_true (show c = 1 ∨ c = 2 ∨ c = 4 ∨ c = 8 from .inr (.inr (.inl d1)))] at q
    exact q
  have d1 := int_ne_test d
  refine ⟨_, rfl, rfl, ?_⟩
  have e : decide (c = 1 ∨ c = 2 ∨ c = 4 ∨ c = 8) = decide (V.int c = V.int 8) := decide_eq_decide.mpr ⟨fun x => by
    rcases x with x | x | x | x
    · exact absurd x h1
    · exact absurd x g1
    · exact absurd x d1
    · rw [x], fun x => .inr (.inr (.inr (V.int.inj x)))⟩
  rw [e] at q
  exact q
/-! ### round_of -/
def spRound : Sp := fun vs H Q _ => ∃ c d : Int, vs = [.int c, .int d] ∧ 0 ≤ c ∧ c ≤ 100 ∧ 0 < d ∧ RetL H Q (Mp.roundOf d c.toNat)
theorem scRound : FnScope ["count", "distance", "found", "index"] ["count", "distance"] (defScope sRound) := ⟨rfl, rfl, rfl, by decide +kernel, rfl, by decide +kernel, by decide +kernel⟩
theorem round_more (d : Int) (i : Nat) : Mp.roundOf d (i + 1) = Mp.roundOf d i ++ (if (i : Int) % (2 * d) < d then [(i : Int), (i : Int) + d] else []) := by
  unfold Mp.roundOf
  rw [List.range_succ, List.flatMap_append, List.flatMap_cons, List.flatMap_nil, List.append_nil]
theorem round_len (d : Int) : ∀ i : Nat, (Mp.roundOf d i).length ≤ 2 * i
  | 0 => Nat.le_refl 0
  | i + 1 => by
    rw [round_more, List.length_append]
    have ih := round_len d i
    split
    · show _ + 2 ≤ _
      omega
    · show _ + 0 ≤ _
      omega
theorem ok_round {f : Addr} {fd : FuncData} (F : Fun K "round_of" "round_of" sRound f fd) (mr : mg "range" = none) : FnOk P w K mg base CX0 1 f fd ["count", "distance"] spRound := by
  refine F.ok scRound (fun vs H Q E h => ?_) (fun cdv A outer s H vs Q E hr h => ?_)
  · obtain ⟨c, d, rfl, _⟩ := h
    rfl
  obtain ⟨c, d, rfl, hc0, hc, hd, q⟩ := h
  refine ⟨_, pss_cons (ps_set (i := 2) scRound.nd rfl (.inl rfl) (pe_lst pa_nil))
    (pss_cons (ps_for PassesOwn.never rfl (pi_range1 rfl mr (pa_cons (pv 0) pa_nil)) (pg_name (i := 3) scRound.nd rfl (.inl rfl))
      (pss_one (ps_if (pt_cmpR op_lt (pe_op op_mod (pv 3) (pe_op op_mul pe_int (pv 1))) (pv 1) (nomark _))
        (pss_one (ps_set (i := 2) scRound.nd rfl (.inl rfl) (pe_op op_cat (pv 2) (pe_lst (pa_cons (pv 3) (pa_cons (pe_op op_add (pv 3) (pv 1)) pa_nil)))))) pss_nil)))
    (pss_one (ps_ret (pv 2)))), ?_⟩
  refine ⟨(by show 0 ≤ sizeLine; decide), fun o no => ?_⟩
  refine ⟨_, rfl, c, rfl, by omega, by omega, for_range (lo := 0) (n := c.toNat) (fun i σ H' => ∃ (p : Addr) (v : Option V), σ = [some (.int c), some (.int d), some (.ref p), v] ∧ Same H H' ∧ H p = none ∧ H' p = some (.lst ((Mp.roundOf d i).map V.int)))
    ⟨o, none, rfl, same_new no _, no, upd_same⟩ ?_ ?_⟩
  · rintro i σ H' hi ⟨p, v, rfl, sm, np, ep⟩
    have z : (0 : Int) + (i : Int) = (i : Int) := Int.zero_add _
    refine ⟨_, rfl, _, rfl, 2, d, rfl, rfl, .inl ⟨by decide, by decide⟩, _, _, rfl, rfl, (by show 0 < 2 * d; omega), _, rfl, _, _, rfl, rfl, _, rfl, ite2 (fun h => ?_) (fun h => ?_)⟩
    · have h1 := of_decide_eq_true h
      rw [z] at h1
      refine ⟨_, rfl, _, rfl, _, rfl, _, rfl, _, _, rfl, rfl, (by show 2 ≤ sizeLine; decide), fun l nl => ?_⟩
      have lp : p ≠ l := ne_of_none ep nl
      refine ⟨p, l, _, _, rfl, rfl, same_new nl _ _ _ ep, upd_same, ?_, fun t nt => ?_⟩
      · rw [List.length_map]
        have := round_len d i
        refine small ?_
        show _ + 2 ≤ _
        omega
      · have s2 := sm.trans (same_new nl (.lst [V.int (0 + (i : Int)), V.int (0 + (i : Int) + d)]))
        refine ⟨t, some (.int (0 + (i : Int))), rfl, s2.trans (same_new nt _), s2.free nt, ?_⟩
        rw [upd_same, round_more, if_pos h1, List.map_append, z]
        rfl
    · have h1 := of_decide_eq_false (Bool.eq_false_iff.mpr h)
      rw [z] at h1
      refine ⟨p, some (.int (0 + (i : Int))), rfl, sm, np, ?_⟩
      rw [ep, round_more, if_neg h1, List.append_nil]
  · rintro σ H' ⟨p, v, rfl, sm, np, ep⟩
    exact ⟨_, rfl, q _ p sm np ep⟩
/-! ### plan_pairs -/
def spPlanPairs : Sp := fun vs H Q _ => ∃ c : Int, vs = [.int c] ∧ 0 ≤ c ∧ c ≤ 100 ∧ RetL H Q (Mp.planPairs c)
theorem scPlanPairs : FnScope ["count", "found", "distance"] ["count"] (defScope sPlanPairs) := ⟨rfl, rfl, rfl, by decide +kernel, rfl, by decide +kernel, by decide +kernel⟩
def planUpTo (c : Int) (i : Nat) : List Int := (([1, 2, 4] : List Int).take i).flatMap fun d => if d < c then Mp.roundOf d c.toNat else []
theorem plan_more {c : Int} {i : Nat} {d : Int} (h : ([1, 2, 4] : List Int)[i]? = some d) : planUpTo c (i + 1) = planUpTo c i ++ (if d < c then Mp.roundOf d c.toNat else []) := by
  unfold planUpTo
  rw [take_more h, List.flatMap_append, List.flatMap_cons, List.flatMap_nil, List.append_nil]
theorem flat_len {f : Int → List Int} {b : Nat} (hf : ∀ d, (f d).length ≤ b) : ∀ l : List Int, (l.flatMap f).length ≤ b * l.length
  | [] => Nat.le_refl _
  | x :: r => by
    rw [List.flatMap_cons, List.length_append, List.length_cons, Nat.mul_add]
    have h1 := hf x
    have h2 := flat_len hf r
    omega
theorem round_if_len (c : Int) (d : Int) : (if d < c then Mp.roundOf d c.toNat else []).length ≤ 2 * c.toNat := by
  split
  · exact round_len d c.toNat
  · exact Nat.zero_le _
theorem plan_len (c : Int) (i : Nat) : (planUpTo c i).length ≤ 2 * c.toNat * 3 := by
  have h := flat_len (round_if_len c) (([1, 2, 4] : List Int).take i)
  refine Nat.le_trans h (Nat.mul_le_mul_left _ ?_)
  rw [List.length_take]
  exact Nat.min_le_right _ _
theorem ok_planpairs {f fR : Addr} {fd fdR : FuncData} (F : Fun K "plan_pairs" "plan_pairs" sPlanPairs f fd) (CR : Cal P w K mg base 1 "round_of" ["count", "distance"] spRound fR fdR) : FnOk P w K mg base CX0 2 f fd ["count"] spPlanPairs := by
  refine F.ok scPlanPairs (fun vs H Q E h => ?_) (fun cdv A outer s H vs Q E hr h => ?_)
  · obtain ⟨c, rfl, _⟩ := h
    rfl
  obtain ⟨c, rfl, hc0, hc, q⟩ := h
  refine ⟨_, pss_cons (ps_set (i := 1) scPlanPairs.nd rfl (.inl rfl) (pe_lst pa_nil))
    (pss_cons (ps_for PassesOwn.never rfl (pi_tup (pe_tup (pa_cons pe_int (pa_cons pe_int (pa_cons pe_int pa_nil))))) (pg_name (i := 2) scPlanPairs.nd rfl (.inl rfl))
      (pss_one (ps_if (pt_cmpR op_lt (pv 2) (pv 0) (nomark _))
        (pss_one (ps_set (i := 1) scPlanPairs.nd rfl (.inl rfl) (pe_op op_cat (pv 1) (pe_call CR.ok hr (by rfl) CR.at_ CR.kp CR.bi .nil pass0 (pa_cons (pv 0) (pa_cons (pv 2) pa_nil)))))) pss_nil)))
    (pss_one (ps_ret (pv 1)))), ?_⟩
  refine ⟨(by show 0 ≤ sizeLine; decide), fun o no => ⟨(by show 3 ≤ sizeLine; decide), fun T nT => ?_⟩⟩
  have s1 := (same_new no (.lst [])).trans (same_new nT (.tup [V.int 1, V.int 2, V.int 4]))
  refine ⟨T, rfl, ⟨_, SqT.of upd_same⟩, for_tup (K := K) (a := T) (xs := ([1, 2, 4] : List Int).map V.int) (fun i σ H' => ∃ (p : Addr) (v : Option V), σ = [some (.int c), some (.ref p), v] ∧ Same H H' ∧ H p = none ∧ H' T = some (.tup [V.int 1, V.int 2, V.int 4]) ∧ H' p = some (.lst ((planUpTo c i).map V.int)))
    ⟨o, none, rfl, s1, no, upd_same, same_new nT _ _ _ upd_same⟩ (fun i σ H' _ ⟨_, _, _, _, _, e, _⟩ => SqT.of e) ?_ ?_⟩
  · rintro i y σ H' hi ⟨p, v, rfl, sm, np, eT, ep⟩
    obtain ⟨d, hd, rfl⟩ := get_int hi
    have hd0 : 0 < d := by
      have := List.mem_of_getElem? hd
      simp only [List.mem_cons, List.not_mem_nil, or_false] at this
      omega
    refine ⟨_, rfl, _, rfl, _, _, rfl, rfl, _, rfl, ite2 (fun h => ?_) (fun h => ?_)⟩
    · have h1 := of_decide_eq_true h
      refine ⟨_, rfl, _, rfl, _, rfl, c, d, rfl, hc0, hc, hd0, fun H2 p2 s2 n2 e2 => ?_⟩
      refine ⟨p, p2, _, _, rfl, rfl, s2 _ _ ep, e2, ?_, fun t nt => ?_⟩
      · rw [List.length_map, List.length_map]
        have h2 := plan_len c i
        have h3 := round_len d c.toNat
        refine small ?_
        omega
      · refine ⟨t, some (.int d), rfl, (sm.trans s2).trans (same_new nt _), (sm.trans s2).free nt, same_new nt _ _ _ (s2 _ _ eT), ?_⟩
        rw [upd_same, plan_more hd, if_pos h1, List.map_append]
    · have h1 := of_decide_eq_false (Bool.eq_false_iff.mpr h)
      refine ⟨p, some (.int d), rfl, sm, np, eT, ?_⟩
      rw [ep, plan_more hd, if_neg h1, List.append_nil]
  · rintro σ H' ⟨p, v, rfl, sm, np, eT, ep⟩
    exact ⟨_, rfl, q _ p sm np ep⟩
/-! ### plan -/
def spPlan : Sp := fun vs H Q _ => ∃ c : Int, vs = [.int c] ∧ 0 ≤ c ∧ RetL H Q (Mp.ansPlan c)
theorem scPlan : FnScope ["count", "found"] ["count"] (defScope sPlan) := ⟨rfl, rfl, rfl, by decide +kernel, rfl, by decide +kernel, by decide +kernel⟩
theorem ok_plan {f fC fH fP : Addr} {fd fdC fdH fdP : FuncData} (F : Fun K "plan" "plan" sPlan f fd) (CC : Cal P w K mg base 1 "is_count" ["count"] spCount fC fdC) (CH : Cal P w K mg base 1 "has_plan" ["count"] spHas fH fdH)
    (CP : Cal P w K mg base 2 "plan_pairs" ["count"] spPlanPairs fP fdP) (mlen : mg "len" = none) {t t2 : Tok} (mO : mg "OUTSIDE" = some (.int (-22) t)) (mN : mg "NO_PLAN" = some (.int (-33) t2)) : FnOk P w K mg base CX0 3 f fd ["count"] spPlan := by
  refine F.ok scPlan (fun vs H Q E h => ?_) (fun cdv A outer s H vs Q E hr h => ?_)
  · obtain ⟨c, rfl, _⟩ := h
    rfl
  obtain ⟨c, rfl, hc0, q⟩ := h
  refine ⟨_, pss_cons (ps_if (pt_not (pt_val (pe_call CC.ok (hr.mono (by decide)) (by rfl) CC.at_ CC.kp CC.bi .nil pass0 (pa_cons (pv 0) pa_nil)))) (pss_one (ps_ret (pe_lst (pa_cons (pe_glob (v := .int (-22)) rfl mO ⟨_, rfl⟩) pa_nil)))) pss_nil)
    (pss_cons (ps_if (pt_not (pt_val (pe_call CH.ok (hr.mono (by decide)) (by rfl) CH.at_ CH.kp CH.bi .nil pass0 (pa_cons (pv 0) pa_nil)))) (pss_one (ps_ret (pe_lst (pa_cons (pe_glob (v := .int (-33)) rfl mN ⟨_, rfl⟩) pa_nil)))) pss_nil)
    (pss_cons (ps_set (i := 1) scPlan.nd rfl (.inl rfl) (pe_call CP.ok (hr.mono (by decide)) (by rfl) CP.at_ CP.kp CP.bi .nil pass0 (pa_cons (pv 0) pa_nil)))
    (pss_one (ps_ret (pe_op op_cat (pe_lst (pa_cons (pe_op op_fdiv (pe_callB call_len_seq (by rfl) mlen PySem.boot_len (pa_cons (pv 1) pa_nil)) pe_int) pa_nil)) (pv 1)))))), ?_⟩
  refine ⟨_, rfl, c, rfl, _, rfl, ite2 (fun h => ?_) (fun h => ?_)⟩
  · have h1 := of_decide_eq_false (of_not h)
    refine ⟨(by show 1 ≤ sizeLine; decide), fun p np => ?_⟩
    refine q.at_new (Same.refl _) np ?_
    unfold Mp.ansPlan
    rw [if_neg h1]
    rfl
  have h1 := of_decide_eq_true (of_nnot h)
  refine ⟨_, rfl, c, rfl, _, rfl, ite2 (fun g => ?_) (fun g => ?_)⟩
  · have g1 := of_decide_eq_false (of_not g)
    refine ⟨(by show 1 ≤ sizeLine; decide), fun p np => ?_⟩
    refine q.at_new (Same.refl _) np ?_
    unfold Mp.ansPlan
    rw [if_pos h1, if_neg g1]
    rfl
  have g1 := of_decide_eq_true (of_nnot g)
  refine ⟨_, rfl, c, rfl, hc0, by omega, fun H1 o s1 no e1 => ?_⟩
  have lo : (Mp.planPairs c).length ≤ 48 := by
    have h2 := plan_len c 3
    have h3 : planUpTo c 3 = Mp.planPairs c := rfl
    rw [h3] at h2
    omega
  refine ⟨_, rfl, o, _, rfl, .inl (SqL.of e1), _, 2, rfl, rfl, ⟨by decide, by decide⟩, (by show 1 ≤ sizeLine; decide), fun l nl => ?_⟩
  refine ⟨_, rfl, l, o, _, _, rfl, rfl, upd_same, same_new nl _ _ _ e1, ?_, fun t nt => ?_⟩
  · rw [List.length_map]
    refine small ?_
    show 1 + _ ≤ 1000
    omega
  · refine q.at_new (s1.trans (same_new nl _)) nt ?_
    unfold Mp.ansPlan
    rw [if_pos h1, if_pos g1, List.length_map]
    rfl
end
/-! ## 3. The end: what the top has written -/
theorem all_mk {P : Program} {w : World} {K : PySem.W.Frag} {h : Heap} {mg : Str → Option Value} {fa f1 f2 f3 f4 f5 : Addr} (X : K.In h) (G : h.Ns mainGlobals mg) (hfa : mg "plan" = some (.ref fa))
    {od1 an1 od2 an2 od3 an3 od4 an4 od5 an5 : Option Addr} {sl1 sl2 sl3 sl4 sl5 : Array (Option Value)} {oc1 kV1 dc1 pm1 cd1 ct1 oc2 kV2 dc2 pm2 cd2 ct2 oc3 kV3 dc3 pm3 cd3 ct3 oc4 kV4 dc4 pm4 cd4 ct4 oc5 kV5 dc5 pm5 cd5 ct5 : Value}
    {t_OUTSIDE t_NO_PLAN t_LEAST_COUNT t_MOST_COUNT : Tok}
    (a1 : PySem.W.nsIn K mainGlobals "is_count" = some (some (.ref f1)))
    (l1 : K.lookup f1 = some ⟨oc1, od1, .func (PySem.W.fnOf "is_count" "is_count" (defArgs sCount) (defBody sCount) (defScope sCount) .none kV1 dc1 pm1 an1 cd1 ct1), sl1⟩)
    (c1 : PySem.W.codeIn K cd1 "is_count" = true) (k1 : PySem.W.keepIn K (.ref f1) = true)
    (a2 : PySem.W.nsIn K mainGlobals "has_plan" = some (some (.ref f2)))
    (l2 : K.lookup f2 = some ⟨oc2, od2, .func (PySem.W.fnOf "has_plan" "has_plan" (defArgs sHas) (defBody sHas) (defScope sHas) .none kV2 dc2 pm2 an2 cd2 ct2), sl2⟩)
    (c2 : PySem.W.codeIn K cd2 "has_plan" = true) (k2 : PySem.W.keepIn K (.ref f2) = true)
    (a3 : PySem.W.nsIn K mainGlobals "round_of" = some (some (.ref f3)))
    (l3 : K.lookup f3 = some ⟨oc3, od3, .func (PySem.W.fnOf "round_of" "round_of" (defArgs sRound) (defBody sRound) (defScope sRound) .none kV3 dc3 pm3 an3 cd3 ct3), sl3⟩)
    (c3 : PySem.W.codeIn K cd3 "round_of" = true) (k3 : PySem.W.keepIn K (.ref f3) = true)
    (a4 : PySem.W.nsIn K mainGlobals "plan_pairs" = some (some (.ref f4)))
    (l4 : K.lookup f4 = some ⟨oc4, od4, .func (PySem.W.fnOf "plan_pairs" "plan_pairs" (defArgs sPlanPairs) (defBody sPlanPairs) (defScope sPlanPairs) .none kV4 dc4 pm4 an4 cd4 ct4), sl4⟩)
    (c4 : PySem.W.codeIn K cd4 "plan_pairs" = true) (k4 : PySem.W.keepIn K (.ref f4) = true)
    (a5 : PySem.W.nsIn K mainGlobals "plan" = some (some (.ref f5)))
    (l5 : K.lookup f5 = some ⟨oc5, od5, .func (PySem.W.fnOf "plan" "plan" (defArgs sPlan) (defBody sPlan) (defScope sPlan) .none kV5 dc5 pm5 an5 cd5 ct5), sl5⟩)
    (c5 : PySem.W.codeIn K cd5 "plan" = true) (k5 : PySem.W.keepIn K (.ref f5) = true)
    (n_OUTSIDE : PySem.W.nsIn K mainGlobals "OUTSIDE" = some (some (.int (-22) t_OUTSIDE)))
    (n_NO_PLAN : PySem.W.nsIn K mainGlobals "NO_PLAN" = some (some (.int (-33) t_NO_PLAN)))
    (n_LEAST_COUNT : PySem.W.nsIn K mainGlobals "LEAST_COUNT" = some (some (.int (1) t_LEAST_COUNT)))
    (n_MOST_COUNT : PySem.W.nsIn K mainGlobals "MOST_COUNT" = some (some (.int (8) t_MOST_COUNT)))
    (z_len : PySem.W.nsIn K mainGlobals "len" = some none)
    (z_range : PySem.W.nsIn K mainGlobals "range" = some none)
    : ∃ fd : FuncData, (∀ (s : Shared) (us : List Value), us.length = (["count"] : List Str).length → BindsTo s fd ⟨us, []⟩ ((["count"] : List Str).zip us)) ∧ ∀ base : Heap, K.In base → base.Ns mainGlobals mg → FnOk P w K mg base CX0 3 fa fd ["count"] spPlan := by
  have e := hfa.symm.trans (PySem.W.mg_of X G a5)
  cases e
  have F1 := fun_mk (st := sCount) l1 c1 k1
  have b1 := F1.binds (ps := ["count"]) fun _ _ _ _ _ _ us hl => match us, hl with | [_], _ => rfl
  have F2 := fun_mk (st := sHas) l2 c2 k2
  have b2 := F2.binds (ps := ["count"]) fun _ _ _ _ _ _ us hl => match us, hl with | [_], _ => rfl
  have F3 := fun_mk (st := sRound) l3 c3 k3
  have b3 := F3.binds (ps := ["count", "distance"]) fun _ _ _ _ _ _ us hl => match us, hl with | [_, _], _ => rfl
  have F4 := fun_mk (st := sPlanPairs) l4 c4 k4
  have b4 := F4.binds (ps := ["count"]) fun _ _ _ _ _ _ us hl => match us, hl with | [_], _ => rfl
  have F5 := fun_mk (st := sPlan) l5 c5 k5
  have y_len := PySem.W.mg_none_of X G z_len
  have y_range := PySem.W.mg_none_of X G z_range
  have y_OUTSIDE := PySem.W.mg_of X G n_OUTSIDE
  have y_NO_PLAN := PySem.W.mg_of X G n_NO_PLAN
  have y_LEAST_COUNT := PySem.W.mg_of X G n_LEAST_COUNT
  have y_MOST_COUNT := PySem.W.mg_of X G n_MOST_COUNT
  refine ⟨PySem.W.fnOf "plan" "plan" (defArgs sPlan) (defBody sPlan) (defScope sPlan) .none kV5 dc5 pm5 an5 cd5 ct5, fun s us hu => match us, hu with | [_], _ => .of_eq rfl, fun base _ _ => ?_⟩
  have C1 : Cal P w K mg base 1 "is_count" ["count"] spCount f1 _ := ⟨ok_count F1 y_LEAST_COUNT y_MOST_COUNT, PySem.W.mg_of X G a1, k1, b1⟩
  have C2 : Cal P w K mg base 1 "has_plan" ["count"] spHas f2 _ := ⟨ok_has F2 , PySem.W.mg_of X G a2, k2, b2⟩
  have C3 : Cal P w K mg base 1 "round_of" ["count", "distance"] spRound f3 _ := ⟨ok_round F3 y_range, PySem.W.mg_of X G a3, k3, b3⟩
  have C4 : Cal P w K mg base 2 "plan_pairs" ["count"] spPlanPairs f4 _ := ⟨ok_planpairs F4 C3, PySem.W.mg_of X G a4, k4, b4⟩
  exact ok_plan F5 C1 C2 C4 y_len y_OUTSIDE y_NO_PLAN
end Mw
/-! ## 4. The statement -/
open PySem PySem.W PyProof.Rows
set_option maxRecDepth 100000 in
set_option maxHeartbeats 8000000 in
theorem PySem.Challenge.cw_meanpairs_s04_plan_holds : PySem.Challenge.rw_meanpairs_s04_plan.Holds := by
  w_on; k_headS; (case hw => exact ⟨[.int 0], by decide +kernel, by decide +kernel⟩)
  k_fillS
  refine L2.walk_specK (r := PySem.Challenge.rw_meanpairs_s04_plan) (k := 3) (CX := L2.CX0) (ps := ["count"]) (sp := fun _ => Mw.spPlan) (by decide +kernel) rfl rfl ⟨rfl, by decide, by decide⟩ (fun w h Y => PySem.W.kIn_of Y) ?F ?S (fun _ _ _ _ z => z)
  case F =>
    intro w mg fa h Y KX G hmg
    refine' Mw.all_mk KX G hmg ?a1 ?l1 ?c1 ?k1 ?a2 ?l2 ?c2 ?k2 ?a3 ?l3 ?c3 ?k3 ?a4 ?l4 ?c4 ?k4 ?a5 ?l5 ?c5 ?k5 ?n_OUTSIDE ?n_NO_PLAN ?n_LEAST_COUNT ?n_MOST_COUNT ?z_len ?z_range
    (case a1 => k_is); (case l1 => k_is); (case c1 => k_is); (case k1 => k_is); (case a2 => k_is); (case l2 => k_is); (case c2 => k_is); (case k2 => k_is)
    (case a3 => k_is); (case l3 => k_is); (case c3 => k_is); (case k3 => k_is); (case a4 => k_is); (case l4 => k_is); (case c4 => k_is); (case k4 => k_is)
    (case a5 => k_is); (case l5 => k_is); (case c5 => k_is); (case k5 => k_is); (case n_OUTSIDE => k_is); (case n_NO_PLAN => k_is); (case n_LEAST_COUNT => k_is); (case n_MOST_COUNT => k_is)
    (case z_len => k_is); (case z_range => k_is)
  case S =>
    intro K H xs a hO hwi hask hx
    have q : (Codec.inInt 0 4294967295 a.1 && true) = true := hwi
    simp only [Bool.and_eq_true] at q
    have p0 : 0 ≤ a.1 := (Codec.inInt_iff.mp q.1).1
    cases hx with
    | cons h0 r0 =>
    cases r0
    cases h0
    refine ⟨a.1, rfl, p0, ?_⟩
    intro H' p _ _ hp
    show L2.Dw K H' (.ref p) (WData.list ((PyKs606.plan a.1).map WData.int))
    rw [Mp.plan_spec _ p0]
    exact .lst (L2.SqL.of hp) (L2.dw_ints _)
#print axioms PySem.Challenge.cw_meanpairs_s04_plan_holds
