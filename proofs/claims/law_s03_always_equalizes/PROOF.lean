import PyProof.Rows.All
import Wide.All
import OpenK.AllK
import Wide.FinOn
import Open.SpecLaws
import KE.OsGo
import HandS.Spec
import HandS.Words
import HandS.WordsList
import HandS.Comp
import HandS.Wide
import PySem.Challenge.RW_meanpairs_s03_always_equalizes
set_option Elab.async false
set_option linter.all false
set_option maxRecDepth 100000
set_option maxHeartbeats 2000000
/-! ## 1. The plain mathematics: functions over whole numbers that say what the specification says -/
namespace Mp
open Ks604 (Rational)
/-! ### rational numbers: those of the specification are core Lean's -/
def ofRat (r : Rat) : Rational := ⟨r.num, r.den⟩
theorem ofRat_inj {a b : Rat} (h : ofRat a = ofRat b) : a = b := by
  have h1 : a.num = b.num := congrArg Rational.num h
  have h2 : a.den = b.den := congrArg Rational.den h
  exact Rat.ext h1 h2
theorem make_rat (n : Int) (d : Nat) : Rational.make n d = ofRat (mkRat n d) := by
  unfold Rational.make ofRat
  rw [Rat.num_mkRat, Rat.den_mkRat]
  by_cases h : d = 0
  · rw [if_pos h, if_pos h, if_pos h]
  · rw [if_neg h, if_neg h, if_neg h, Nat.gcd_comm]
theorem add_rat (a b : Rat) : ofRat a + ofRat b = ofRat (a + b) := by
  show Rational.make (a.num * b.den + b.num * a.den) (a.den * b.den) = _
  rw [make_rat, Rat.add_def']
theorem sub_rat (a b : Rat) : ofRat a - ofRat b = ofRat (a - b) := by
  show Rational.make (a.num * b.den + (-b.num) * a.den) (a.den * b.den) = _
  rw [make_rat, Rat.sub_def', Int.neg_mul, Int.sub_eq_add_neg]
theorem mul_rat (a b : Rat) : ofRat a * ofRat b = ofRat (a * b) := by
  show Rational.make (a.num * b.num) (a.den * b.den) = _
  rw [make_rat, Rat.mul_def']
theorem lt_rat (a b : Rat) : Rational.lt (ofRat a) (ofRat b) = decide (a < b) := by
  show decide (a.num * b.den < b.num * a.den) = _
  rw [decide_eq_decide]
  exact (Rat.lt_iff a b).symm
/-- n over d -/
abbrev fr (n : Int) (d : Nat) : Rational := Rational.make n d
theorem mkRat_add_same (a b : Int) {d : Nat} (h : d ≠ 0) : mkRat a d + mkRat b d = mkRat (a + b) d := by
  rw [Rat.mkRat_add_mkRat _ _ h h, ← Int.add_mul, Rat.mkRat_mul_right h]
theorem mkRat_sub_same (a b : Int) {d : Nat} (h : d ≠ 0) : mkRat a d - mkRat b d = mkRat (a - b) d := by
  rw [Rat.sub_eq_add_neg, Rat.neg_mkRat, mkRat_add_same _ _ h, Int.sub_eq_add_neg]
theorem fr_add (a b : Int) {d : Nat} (h : d ≠ 0) : fr a d + fr b d = fr (a + b) d := by
  unfold fr
  rw [make_rat, make_rat, make_rat, add_rat, mkRat_add_same _ _ h]
theorem fr_sub (a b : Int) {d : Nat} (h : d ≠ 0) : fr a d - fr b d = fr (a - b) d := by
  unfold fr
  rw [make_rat, make_rat, make_rat, sub_rat, mkRat_sub_same _ _ h]
theorem fr_mul (a b : Int) (d e : Nat) : fr a d * fr b e = fr (a * b) (d * e) := by
  unfold fr
  rw [make_rat, make_rat, make_rat, mul_rat, Rat.mkRat_mul_mkRat]
theorem fr_half (a : Int) (d : Nat) : fr a d * Rational.make 1 2 = fr a (2 * d) := by
  rw [fr_mul, Int.mul_one, Nat.mul_comm]
theorem fr_two (a : Int) (d : Nat) : fr (2 * a) (2 * d) = fr a d := by
  unfold fr
  rw [make_rat, make_rat]
  have := Rat.mkRat_mul_left (n := a) (d := d) (a := 2) (by decide)
  exact congrArg ofRat this
theorem fr_inj {a b : Int} {d : Nat} (h : d ≠ 0) : fr a d = fr b d ↔ a = b := by
  constructor
  · intro e
    unfold fr at e
    rw [make_rat, make_rat] at e
    have e2 := (Rat.mkRat_eq_iff h h).mp (ofRat_inj e)
    exact Int.eq_of_mul_eq_mul_right (by omega) e2
  · intro e
    rw [e]
theorem fr_lt (a b : Int) {d : Nat} (h : d ≠ 0) : Rational.lt (fr a d) (fr b d) = decide (a < b) := by
  unfold fr
  rw [make_rat, make_rat, lt_rat, decide_eq_decide, ← Rat.not_le, Rat.le_iff_sub_nonneg, mkRat_sub_same _ _ h, ← Rat.divInt_ofNat, Rat.divInt_nonneg_iff_of_pos_right (by omega)]
  omega
theorem fr_zero (d : Nat) : fr 0 d = Rational.zero := by
  unfold fr
  rw [make_rat, Rat.zero_mkRat]
  rfl
theorem fr_one (a : Int) : fr a 1 = ⟨a, 1⟩ := by
  unfold fr Rational.make
  rw [if_neg (by decide), Nat.gcd_one_right]
  simp
theorem fr_lowest (a : Int) (d : Nat) (h : d ≠ 0) : fr a d = ⟨a / (Nat.gcd a.natAbs d : Nat), d / Nat.gcd a.natAbs d⟩ := by
  unfold fr Rational.make
  rw [if_neg h]
end Mp
namespace Mp
open Ks604 (Rational)
/-! ### values with one denominator -/
def vals (ns : List Int) (d : Nat) : Ks606.Values := ns.map fun n => fr n d
/-- means.averaged -/
def averaged (ns : List Int) (i j : Nat) : List Int :=
  ((ns.map fun n => 2 * n).set i (ns.getD i 0 + ns.getD j 0)).set j (ns.getD i 0 + ns.getD j 0)
theorem averaged_len (ns : List Int) (i j : Nat) : (averaged ns i j).length = ns.length := by
  unfold averaged
  rw [List.length_set, List.length_set, List.length_map]
theorem vals_len (ns : List Int) (d : Nat) : (vals ns d).length = ns.length := List.length_map _
theorem valueAt_vals (ns : List Int) (d : Nat) (i : Nat) : Ks606.valueAt (vals ns d) i = fr (ns.getD i 0) d := by
  unfold Ks606.valueAt vals
  rw [List.getD_eq_getElem?_getD, List.getD_eq_getElem?_getD, List.getElem?_map]
  cases ns[i]? with
  | none => exact (fr_zero d).symm
  | some x => rfl
theorem vals_two (ns : List Int) (d : Nat) : vals (ns.map fun n => 2 * n) (2 * d) = vals ns d := by
  unfold vals
  rw [List.map_map]
  refine List.map_congr_left fun n _ => ?_
  exact fr_two n d
theorem average_vals (ns : List Int) {d : Nat} (h : d ≠ 0) (i j : Nat) : Ks606.average (vals ns d) i j = vals (averaged ns i j) (2 * d) := by
  unfold Ks606.average averaged
  rw [valueAt_vals, valueAt_vals, fr_add _ _ h, fr_half]
  show ((vals ns d).set i _).set j _ = _
  rw [← vals_two]
  unfold vals
  rw [List.map_set, List.map_set]
theorem areEqual_vals (ns : List Int) {d : Nat} (h : d ≠ 0) : Ks606.areEqual (vals ns d) = ns.all fun n => n == ns.headD 0 := by
  unfold Ks606.areEqual
  have e : (vals ns d).headD Rational.zero = fr (ns.headD 0) d := by
    cases ns with
    | nil => exact (fr_zero d).symm
    | cons x r => rfl
  rw [e]
  unfold vals
  rw [List.all_map]
  congr 1
  funext n
  show (fr n d == fr (ns.headD 0) d) = (n == ns.headD 0)
  rw [Bool.eq_iff_iff, beq_iff_eq, beq_iff_eq]
  exact fr_inj h
/-! ### pairs -/
def pairs2 : List Int → List (Nat × Nat)
  | i :: j :: r => (i.toNat, j.toNat) :: pairs2 r
  | _ => []
theorem pairs2_len : ∀ ps : List Int, (pairs2 ps).length = ps.length / 2
  | [] => rfl
  | [_] => by
    show 0 = 1 / 2
    rfl
  | i :: j :: r => by
    show (pairs2 r).length + 1 = (r.length + 1 + 1) / 2
    rw [pairs2_len r]
    omega
theorem pairs2_get : ∀ (ps : List Int) (k : Nat), 2 * k + 1 < ps.length → (pairs2 ps)[k]? = some ((ps.getD (2 * k) 0).toNat, (ps.getD (2 * k + 1) 0).toNat)
  | [], _, h => by simp at h
  | [_], k, h => by
    have : 2 * k + 1 < 1 := h
    omega
  | i :: j :: r, 0, _ => rfl
  | i :: j :: r, k + 1, h => by
    have h2 : 2 * k + 1 < r.length := by
      have : 2 * (k + 1) + 1 < r.length + 1 + 1 := h
      omega
    have ih := pairs2_get r k h2
    show (pairs2 r)[k]? = _
    rw [ih]
    rfl
def isPair (c : Nat) (p : Nat × Nat) : Bool := decide (p.1 < c) && decide (p.2 < c) && decide (p.1 ≠ p.2)
def okPairs (c : Nat) (ps : List Int) : Bool := decide (ps.length % 2 = 0) && decide (ps.length ≤ 40) && (pairs2 ps).all (isPair c)
theorem parse_eq (c : Nat) : ∀ ps : List Int, Ks606.parsePairs c (ps.map Int.toNat) = if ps.length % 2 = 0 ∧ (pairs2 ps).all (isPair c) = true then some (pairs2 ps) else none
  | [] => rfl
  | [i] => by
    rw [if_neg]
    · rfl
    · rintro ⟨h, _⟩
      cases h
  | i :: j :: r => by
    have ih := parse_eq c r
    show (if c ≤ i.toNat ∨ c ≤ j.toNat ∨ i.toNat = j.toNat then none else (Ks606.parsePairs c (r.map Int.toNat)).map fun pairs => (i.toNat, j.toNat) :: pairs) = _
    rw [ih]
    have el : (i :: j :: r).length % 2 = r.length % 2 := by
      show (r.length + 1 + 1) % 2 = r.length % 2
      omega
    have ea : (pairs2 (i :: j :: r)).all (isPair c) = (isPair c (i.toNat, j.toNat) && (pairs2 r).all (isPair c)) := rfl
    rw [el, ea]
    by_cases g : c ≤ i.toNat ∨ c ≤ j.toNat ∨ i.toNat = j.toNat
    · rw [if_pos g, if_neg]
      rintro ⟨_, h⟩
      rw [Bool.and_eq_true] at h
      have h1 := h.1
      unfold isPair at h1
      simp only [Bool.and_eq_true, decide_eq_true_eq] at h1
      omega
    · rw [if_neg g]
      have h1 : isPair c (i.toNat, j.toNat) = true := by
        unfold isPair
        simp only [Bool.and_eq_true, decide_eq_true_eq]
        omega
      rw [h1, Bool.true_and]
      by_cases g2 : r.length % 2 = 0 ∧ (pairs2 r).all (isPair c) = true
      · rw [if_pos g2, if_pos g2]
        rfl
      · rw [if_neg g2, if_neg g2]
        rfl
theorem withPairs_eq (c : Nat) (ps : List Int) (f : List (Nat × Nat) → Ks606.Result) : Ks606.withPairs c (ps.map Int.toNat) f = if okPairs c ps = true then f (pairs2 ps) else Ks606.number (-22) := by
  unfold Ks606.withPairs
  rw [parse_eq]
  unfold okPairs
  by_cases g : ps.length % 2 = 0 ∧ (pairs2 ps).all (isPair c) = true
  · rw [if_pos g]
    show (if 20 < (pairs2 ps).length then Ks606.number (-22) else f (pairs2 ps)) = _
    rw [pairs2_len, g.2, Bool.and_true, decide_eq_true g.1, Bool.true_and]
    by_cases g2 : ps.length ≤ 40
    · rw [if_neg (by omega), if_pos (decide_eq_true g2)]
    · rw [if_pos (by omega), if_neg]
      rw [decide_eq_true_eq]
      exact g2
  · rw [if_neg g, if_neg]
    simp only [Bool.and_eq_true, decide_eq_true_eq]
    rintro ⟨⟨h1, _⟩, h2⟩
    exact g ⟨h1, h2⟩
/-! ### sequences -/
def afterPairs (ns : List Int) (l : List (Nat × Nat)) : List Int := l.foldl (fun f p => averaged f p.1 p.2) ns
theorem afterPairs_len : ∀ (l : List (Nat × Nat)) (ns : List Int), (afterPairs ns l).length = ns.length
  | [], _ => rfl
  | p :: r, ns => by
    show (afterPairs (averaged ns p.1 p.2) r).length = _
    rw [afterPairs_len r, averaged_len]
theorem averageAll_vals : ∀ (l : List (Nat × Nat)) (ns : List Int) (d : Nat), d ≠ 0 → Ks606.averageAll (vals ns d) l = vals (afterPairs ns l) (2 ^ l.length * d)
  | [], ns, d, _ => by
    show vals ns d = vals ns (1 * d)
    rw [Nat.one_mul]
  | p :: r, ns, d, h => by
    show Ks606.averageAll (Ks606.average (vals ns d) p.1 p.2) r = vals (afterPairs (averaged ns p.1 p.2) r) (2 ^ (r.length + 1) * d)
    rw [average_vals ns h, averageAll_vals r _ _ (by omega), Nat.pow_succ, Nat.mul_assoc]
/-! ### values -/
def okValues (vs : List Int) : Bool := decide (1 ≤ vs.length) && decide (vs.length ≤ 8) && vs.all fun v => decide (0 ≤ v) && decide (v ≤ 99)
theorem withValues_eq (vs : List Int) (hv : ∀ v ∈ vs, 0 ≤ v) (f : Ks606.Values → Ks606.Result) : Ks606.withValues (vs.map Int.toNat) f = if okValues vs = true then f (vals vs 1) else Ks606.number (-22) := by
  unfold Ks606.withValues okValues
  have e1 : ((vs.map Int.toNat).map Rational.ofNat) = vals vs 1 := by
    unfold vals
    rw [List.map_map]
    refine List.map_congr_left fun v h => ?_
    rw [fr_one]
    show (⟨((v.toNat : Nat) : Int), 1⟩ : Rational) = _
    rw [Int.toNat_of_nonneg (hv v h)]
  have e2 : ((vs.map Int.toNat).any fun x => decide (99 < x)) = !(vs.all fun v => decide (0 ≤ v) && decide (v ≤ 99)) := by
    rw [List.any_map, List.not_all_eq_any_not]
    refine Bool.eq_iff_iff.mpr ?_
    rw [List.any_eq_true, List.any_eq_true]
    constructor
    · rintro ⟨x, hx, q⟩
      refine ⟨x, hx, ?_⟩
      have q2 : 99 < x.toNat := of_decide_eq_true q
      simp only [Bool.not_eq_true', Bool.and_eq_false_iff, decide_eq_false_iff_not]
      omega
    · rintro ⟨x, hx, q⟩
      refine ⟨x, hx, ?_⟩
      have h0 := hv x hx
      simp only [Bool.not_eq_true', Bool.and_eq_false_iff, decide_eq_false_iff_not] at q
      show decide (99 < x.toNat) = true
      rw [decide_eq_true_eq]
      omega
  rw [e1, e2, List.length_map]
  unfold Ks606.maxValues
  cases (vs.all fun v => decide (0 ≤ v) && decide (v ≤ 99)) with
  | true =>
    by_cases g : 1 ≤ vs.length ∧ vs.length ≤ 8
    · rw [if_neg, if_pos]
      · simp only [Bool.and_eq_true, decide_eq_true_eq, and_true]
        exact g
      · rintro (h | h | h)
        · omega
        · omega
        · cases h
    · rw [if_pos, if_neg]
      · simp only [Bool.and_eq_true, decide_eq_true_eq, and_true]
        exact g
      · omega
  | false =>
    rw [if_pos, if_neg]
    · simp
    · exact .inr (.inr rfl)
theorem withCount_eq (c : Int) (h : 0 ≤ c) (f : Unit → Ks606.Result) : Ks606.withCount c.toNat f = if 1 ≤ c ∧ c ≤ 8 then f () else Ks606.number (-22) := by
  unfold Ks606.withCount Ks606.maxValues
  by_cases g : 1 ≤ c ∧ c ≤ 8
  · rw [if_neg (by omega), if_pos g]
  · rw [if_pos (by omega), if_neg g]
/-! ### lists of rational numbers in lowest terms -/
def gcdI (a b : Int) : Int := ((Nat.gcd a.natAbs b.natAbs : Nat) : Int)
def lowest (a b : Int) : List Int := [a / gcdI a b, b / gcdI a b]
def listed (ns : List Int) (d : Int) : List Int := ns.flatMap fun n => lowest n d
theorem lowest_fr (a : Int) (d : Nat) (h : d ≠ 0) : lowest a (d : Int) = [(fr a d).num, ((fr a d).den : Int)] := by
  rw [fr_lowest a d h]
  unfold lowest gcdI
  rw [Int.natAbs_natCast]
  show _ = [a / ((Nat.gcd a.natAbs d : Nat) : Int), ((d / Nat.gcd a.natAbs d : Nat) : Int)]
  rw [Int.natCast_ediv]
theorem listed_vals (ns : List Int) (d : Nat) (h : d ≠ 0) : Ks604.pairs (vals ns d) = listed ns (d : Int) := by
  unfold Ks604.pairs listed vals
  rw [List.flatMap_map]
  congr 1
  funext n
  exact (lowest_fr n d h).symm
def allEqual (ns : List Int) : Int := if (ns.all fun n => n == ns.headD 0) = true then 1 else 0
theorem allEqual_vals (ns : List Int) (d : Nat) (h : d ≠ 0) : (if Ks606.areEqual (vals ns d) = true then (1 : Int) else 0) = allEqual ns := by
  rw [areEqual_vals ns h]
  rfl
end Mp
namespace Mp
open Ks604 (Rational)
/-! ### what each function of the interface answers, over whole numbers; and that the specification says the same -/
def den (ps : List Int) : Nat := 2 ^ (ps.length / 2)
theorem den_ne (ps : List Int) : den ps ≠ 0 := Nat.ne_of_gt (Nat.pow_pos (by decide))
theorem averageAll_one (vs ps : List Int) : Ks606.averageAll (vals vs 1) (pairs2 ps) = vals (afterPairs vs (pairs2 ps)) (den ps) := by
  rw [averageAll_vals _ _ _ (by decide), Nat.mul_one, pairs2_len]
  rfl
def ansApply (vs ps : List Int) : List Int :=
  if okValues vs = true then (if okPairs vs.length ps = true then allEqual (afterPairs vs (pairs2 ps)) :: listed (afterPairs vs (pairs2 ps)) (den ps) else [-22]) else [-22]
theorem apply_spec (vs ps : List Int) (hv : ∀ v ∈ vs, 0 ≤ v) : PyKs606.apply_averages vs ps = ansApply vs ps := by
  show Ks606Neutral.integers (Ks606.answer (.applyAverages (vs.map Int.toNat) (ps.map Int.toNat))) = _
  unfold Ks606.answer
  dsimp only
  rw [withValues_eq vs hv]
  unfold ansApply
  split
  · rw [withPairs_eq, vals_len]
    split
    · rw [averageAll_one]
      show (if Ks606.areEqual _ = true then (1 : Int) else 0) :: Ks604.pairs _ = _
      rw [allEqual_vals _ _ (den_ne ps), listed_vals _ _ (den_ne ps)]
    · rfl
  · rfl
/-! influence -/
def unit (c i : Nat) : List Int := (List.replicate c (0 : Int)).set i 1
theorem unit_len (c i : Nat) : (unit c i).length = c := by
  unfold unit
  rw [List.length_set, List.length_replicate]
theorem unit_vals (c i : Nat) : Ks606.unitValues c i = vals (unit c i) 1 := by
  unfold Ks606.unitValues vals unit
  refine List.ext_getElem? fun k => ?_
  rw [List.getElem?_map, List.getElem?_map, List.getElem?_set]
  by_cases hk : k < c
  · rw [List.getElem?_range hk]
    by_cases e : i = k
    · subst e
      rw [if_pos rfl, if_pos (by rw [List.length_replicate]; exact hk)]
      show some (if i = i then Rational.one else Rational.zero) = some (fr 1 1)
      rw [if_pos rfl, fr_one]
      rfl
    · rw [if_neg e, List.getElem?_replicate, if_pos hk]
      show some (if k = i then Rational.one else Rational.zero) = some (fr 0 1)
      rw [if_neg (fun z => e z.symm), fr_one]
      rfl
  · rw [List.getElem?_eq_none (by rw [List.length_range]; omega)]
    by_cases e : i = k
    · subst e
      rw [if_pos rfl, if_neg (by rw [List.length_replicate]; exact hk)]
      rfl
    · rw [if_neg e, List.getElem?_replicate, if_neg hk]
      rfl
theorem influence_vals (c i : Nat) (ps : List Int) : Ks606.influence c i (pairs2 ps) = vals (afterPairs (unit c i) (pairs2 ps)) (den ps) := by
  unfold Ks606.influence
  rw [unit_vals, averageAll_one]
def ansInfluence (c i : Int) (ps : List Int) : List Int :=
  if 1 ≤ c ∧ c ≤ 8 then
    (if i < c then (if okPairs c.toNat ps = true then c :: listed (afterPairs (unit c.toNat i.toNat) (pairs2 ps)) (den ps) else [-22]) else [-2])
  else [-22]
theorem influence_spec (c i : Int) (ps : List Int) (hc : 0 ≤ c) (hi : 0 ≤ i) : PyKs606.influence c i ps = ansInfluence c i ps := by
  show Ks606Neutral.integers (Ks606.answer (.influence c.toNat i.toNat (ps.map Int.toNat))) = _
  unfold Ks606.answer
  dsimp only
  rw [withCount_eq c hc]
  unfold ansInfluence
  split
  · by_cases g : i < c
    · rw [if_pos g, if_neg (by omega), withPairs_eq]
      split
      · rw [influence_vals]
        show ((c.toNat : Nat) : Int) :: Ks604.pairs _ = _
        rw [listed_vals _ _ (den_ne ps), Int.toNat_of_nonneg hc]
      · rfl
    · rw [if_neg g, if_pos (by omega)]
      rfl
  · rfl
/-! always_equalizes -/
def alwaysEqual (c : Nat) (ps : List Int) : Int := if ((List.range c).all fun i => allEqual (afterPairs (unit c i) (pairs2 ps)) != 0) = true then 1 else 0
def ansAlways (c : Int) (ps : List Int) : List Int :=
  if 1 ≤ c ∧ c ≤ 8 then (if okPairs c.toNat ps = true then [alwaysEqual c.toNat ps] else [-22]) else [-22]
theorem always_spec (c : Int) (ps : List Int) (hc : 0 ≤ c) : PyKs606.always_equalizes c ps = ansAlways c ps := by
  show Ks606Neutral.integers (Ks606.answer (.alwaysEqualizes c.toNat (ps.map Int.toNat))) = _
  unfold Ks606.answer
  dsimp only
  rw [withCount_eq c hc]
  unfold ansAlways
  split
  · rw [withPairs_eq]
    split
    · show [(if Ks606.alwaysEqualizes c.toNat (pairs2 ps) = true then (1 : Int) else 0)] = [alwaysEqual c.toNat ps]
      have e : Ks606.alwaysEqualizes c.toNat (pairs2 ps) = (List.range c.toNat).all fun i => allEqual (afterPairs (unit c.toNat i) (pairs2 ps)) != 0 := by
        unfold Ks606.alwaysEqualizes
        congr 1
        funext i
        rw [influence_vals, ← allEqual_vals _ _ (den_ne ps)]
        cases Ks606.areEqual _ <;> rfl
      rw [e]
      rfl
    · rfl
  · rfl
/-! plan -/
def roundOf (d : Int) (n : Nat) : List Int := (List.range n).flatMap fun (i : Nat) => if ((i : Nat) : Int) % (2 * d) < d then [((i : Nat) : Int), (i : Nat) + d] else []
def planPairs (c : Int) : List Int := [1, 2, 4].flatMap fun d => if d < c then roundOf d c.toNat else []
def ansPlan (c : Int) : List Int :=
  if 1 ≤ c ∧ c ≤ 8 then (if c = 1 ∨ c = 2 ∨ c = 4 ∨ c = 8 then (((planPairs c).length : Int) / 2) :: planPairs c else [-33]) else [-22]
theorem plan_spec (c : Int) (hc : 0 ≤ c) : PyKs606.plan c = ansPlan c := by
  by_cases g : 1 ≤ c ∧ c ≤ 8
  · obtain ⟨n, rfl⟩ : ∃ n : Nat, c = n := ⟨c.toNat, by omega⟩
    have h : n = 1 ∨ n = 2 ∨ n = 3 ∨ n = 4 ∨ n = 5 ∨ n = 6 ∨ n = 7 ∨ n = 8 := by omega
    rcases h with rfl | rfl | rfl | rfl | rfl | rfl | rfl | rfl <;> decide +kernel
  · show Ks606Neutral.integers (Ks606.withCount c.toNat _) = _
    rw [withCount_eq c hc, if_neg g]
    unfold ansPlan
    rw [if_neg g]
    rfl
/-! spread -/
def maxL (ns : List Int) : Int := ns.foldl (fun b x => if b < x then x else b) (ns.headD 0)
def minL (ns : List Int) : Int := ns.foldl (fun b x => if x < b then x else b) (ns.headD 0)
def sumSq (ns : List Int) : Int := ns.foldl (fun t n => t + n * n) 0
theorem headD_vals (ns : List Int) (d : Nat) : (vals ns d).headD Rational.zero = fr (ns.headD 0) d := by
  cases ns with
  | nil => exact (fr_zero d).symm
  | cons x r => rfl
theorem largest_vals (ns : List Int) {d : Nat} (h : d ≠ 0) : Ks606.largest (vals ns d) = fr (maxL ns) d := by
  unfold Ks606.largest maxL
  rw [headD_vals]
  generalize ns.headD 0 = b
  unfold vals
  rw [List.foldl_map]
  induction ns generalizing b with
  | nil => rfl
  | cons x r ih =>
    rw [List.foldl_cons, List.foldl_cons, fr_lt _ _ h]
    by_cases g : b < x
    · rw [if_pos (decide_eq_true g), if_pos g]
      exact ih x
    · rw [if_neg (by rw [decide_eq_true_eq]; exact g), if_neg g]
      exact ih b
theorem smallest_vals (ns : List Int) {d : Nat} (h : d ≠ 0) : Ks606.smallest (vals ns d) = fr (minL ns) d := by
  unfold Ks606.smallest minL
  rw [headD_vals]
  generalize ns.headD 0 = b
  unfold vals
  rw [List.foldl_map]
  induction ns generalizing b with
  | nil => rfl
  | cons x r ih =>
    rw [List.foldl_cons, List.foldl_cons, fr_lt _ _ h]
    by_cases g : x < b
    · rw [if_pos (decide_eq_true g), if_pos g]
      exact ih x
    · rw [if_neg (by rw [decide_eq_true_eq]; exact g), if_neg g]
      exact ih b
theorem sumsq_vals (ns : List Int) {d : Nat} (h : d ≠ 0) : Ks606.sumOfSquares (vals ns d) = fr (sumSq ns) (d * d) := by
  unfold Ks606.sumOfSquares sumSq
  rw [← fr_zero (d * d)]
  generalize (0 : Int) = b
  unfold vals
  rw [List.foldl_map]
  induction ns generalizing b with
  | nil => rfl
  | cons x r ih =>
    rw [List.foldl_cons, List.foldl_cons, fr_mul, fr_add _ _ (Nat.mul_ne_zero h h)]
    exact ih (b + x * x)
def ansSpread (vs ps : List Int) : List Int :=
  if okValues vs = true then (if okPairs vs.length ps = true then
    0 :: (lowest (maxL (afterPairs vs (pairs2 ps)) - minL (afterPairs vs (pairs2 ps))) (den ps) ++ lowest (sumSq (afterPairs vs (pairs2 ps))) ((den ps * den ps : Nat) : Int))
    else [-22]) else [-22]
theorem spread_spec (vs ps : List Int) (hv : ∀ v ∈ vs, 0 ≤ v) : PyKs606.spread vs ps = ansSpread vs ps := by
  show Ks606Neutral.integers (Ks606.answer (.spread (vs.map Int.toNat) (ps.map Int.toNat))) = _
  unfold Ks606.answer
  dsimp only
  rw [withValues_eq vs hv]
  unfold ansSpread
  split
  · rw [withPairs_eq, vals_len]
    split
    · rw [averageAll_one]
      have d0 := den_ne ps
      rw [largest_vals _ d0, smallest_vals _ d0, fr_sub _ _ d0, sumsq_vals _ d0, lowest_fr _ _ d0, lowest_fr _ _ (Nat.mul_ne_zero d0 d0)]
      rfl
    · rfl
  · rfl
/-- the greatest is told by what it is -/
theorem maxL_is {ns : List Int} {m : Int} (hm : m ∈ ns) (hl : ∀ n ∈ ns, n ≤ m) : m = maxL ns := by
  unfold maxL
  have key : ∀ (l : List Int) (b : Int), (b ≤ m) → (∀ n ∈ l, n ≤ m) → (b = m ∨ m ∈ l) → m = l.foldl (fun b x => if b < x then x else b) b := by
    intro l
    induction l with
    | nil =>
      intro b _ _ h
      rcases h with h | h
      · exact h.symm
      · cases h
    | cons x r ih =>
      intro b hb hl h
      rw [List.foldl_cons]
      have hx : x ≤ m := hl x List.mem_cons_self
      refine ih _ ?_ (fun n q => hl n (List.mem_cons_of_mem _ q)) ?_
      · split <;> omega
      · rcases h with h | h
        · left
          split <;> omega
        · rcases List.mem_cons.mp h with h | h
          · left
            split <;> omega
          · exact .inr h
  cases ns with
  | nil => cases hm
  | cons x r => exact key _ _ (hl x List.mem_cons_self) hl (.inr hm)
theorem minL_is {ns : List Int} {m : Int} (hm : m ∈ ns) (hl : ∀ n ∈ ns, m ≤ n) : m = minL ns := by
  unfold minL
  have key : ∀ (l : List Int) (b : Int), (m ≤ b) → (∀ n ∈ l, m ≤ n) → (b = m ∨ m ∈ l) → m = l.foldl (fun b x => if x < b then x else b) b := by
    intro l
    induction l with
    | nil =>
      intro b _ _ h
      rcases h with h | h
      · exact h.symm
      · cases h
    | cons x r ih =>
      intro b hb hl h
      rw [List.foldl_cons]
      have hx : m ≤ x := hl x List.mem_cons_self
      refine ih _ ?_ (fun n q => hl n (List.mem_cons_of_mem _ q)) ?_
      · split <;> omega
      · rcases h with h | h
        · left
          split <;> omega
        · rcases List.mem_cons.mp h with h | h
          · left
            split <;> omega
          · exact .inr h
  cases ns with
  | nil => cases hm
  | cons x r => exact key _ _ (hl x List.mem_cons_self) hl (.inr hm)
end Mp
namespace Mp
open Ks604 (Rational)
/-! greedy averages -/
def diff (ns : List Int) (p : Nat × Nat) : Int := if ns.getD p.1 0 - ns.getD p.2 0 < 0 then -(ns.getD p.1 0 - ns.getD p.2 0) else ns.getD p.1 0 - ns.getD p.2 0
def better (ns : List Int) (b p : Nat × Nat) : Nat × Nat := if diff ns b < diff ns p then p else b
/-- the pairs that begin at i -/
def row (n i : Nat) : List (Nat × Nat) := (List.range (n - (i + 1))).map fun j => (i, i + 1 + j)
def rows (n : Nat) : List (Nat × Nat) := (List.range n).flatMap (row n)
def bestPair (ns : List Int) : Nat × Nat := (rows ns.length).foldl (better ns) (0, 1)
def step (ns : List Int) : List Int := if ns.length = 1 then [2 * ns.getD 0 0] else averaged ns (bestPair ns).1 (bestPair ns).2
def steps : Nat → List Int → List Int
  | 0, ns => ns
  | k + 1, ns => steps k (step ns)
theorem steps_succ : ∀ (k : Nat) (ns : List Int), steps (k + 1) ns = step (steps k ns)
  | 0, _ => rfl
  | k + 1, ns => by
    show steps (k + 1) (step ns) = step (steps k (step ns))
    exact steps_succ k (step ns)
theorem step_len (ns : List Int) : (step ns).length = ns.length := by
  unfold step
  split
  · rename_i h
    exact h.symm
  · exact averaged_len _ _ _
theorem steps_len : ∀ (k : Nat) (ns : List Int), (steps k ns).length = ns.length
  | 0, _ => rfl
  | k + 1, ns => by
    show (steps k (step ns)).length = _
    rw [steps_len k, step_len]
theorem rows_spec : ∀ n : Nat, n ≤ 8 → Ks606.allPairs n = rows n := by
  intro n h
  have h2 : n = 0 ∨ n = 1 ∨ n = 2 ∨ n = 3 ∨ n = 4 ∨ n = 5 ∨ n = 6 ∨ n = 7 ∨ n = 8 := by omega
  rcases h2 with rfl | rfl | rfl | rfl | rfl | rfl | rfl | rfl | rfl <;> decide +kernel
theorem diff_vals (ns : List Int) {d : Nat} (h : d ≠ 0) (p : Nat × Nat) : Ks606.difference (vals ns d) p = fr (diff ns p) d := by
  unfold Ks606.difference diff
  dsimp only
  rw [valueAt_vals, valueAt_vals, fr_sub _ _ h, ← fr_zero d, fr_lt _ _ h, fr_sub _ _ h, Int.zero_sub]
  by_cases g : ns.getD p.1 0 - ns.getD p.2 0 < 0
  · rw [if_pos (decide_eq_true g), if_pos g]
  · rw [if_neg (by rw [decide_eq_true_eq]; exact g), if_neg g]
theorem rows_first (n : Nat) (h2 : 2 ≤ n) (h8 : n ≤ 8) : ∃ r, rows n = (0, 1) :: r := by
  have h : n = 2 ∨ n = 3 ∨ n = 4 ∨ n = 5 ∨ n = 6 ∨ n = 7 ∨ n = 8 := by omega
  rcases h with rfl | rfl | rfl | rfl | rfl | rfl | rfl <;> exact ⟨_, rfl⟩
theorem best_vals (ns : List Int) {d : Nat} (h : d ≠ 0) (h2 : 2 ≤ ns.length) (h8 : ns.length ≤ 8) : Ks606.bestPair (vals ns d) = some (bestPair ns) := by
  unfold Ks606.bestPair bestPair
  rw [vals_len, rows_spec _ h8]
  obtain ⟨r, e⟩ := rows_first ns.length h2 h8
  rw [e]
  have e2 : better ns (0, 1) (0, 1) = (0, 1) := by
    unfold better
    rw [if_neg (Int.lt_irrefl _)]
  rw [List.foldl_cons, e2]
  dsimp only
  have e3 : (fun (best pair : Nat × Nat) => if Ks604.Rational.lt (Ks606.difference (vals ns d) best) (Ks606.difference (vals ns d) pair) = true then pair else best) = better ns := by
    funext b p
    unfold better
    rw [diff_vals ns h, diff_vals ns h, fr_lt _ _ h]
    by_cases g : diff ns b < diff ns p
    · rw [if_pos (decide_eq_true g), if_pos g]
    · rw [if_neg (by rw [decide_eq_true_eq]; exact g), if_neg g]
  rw [e3]
theorem best_single (ns : List Int) (d : Nat) (h1 : ns.length = 1) : Ks606.bestPair (vals ns d) = none := by
  unfold Ks606.bestPair
  rw [vals_len, h1]
  rfl
theorem step_single (ns : List Int) (d : Nat) (h1 : ns.length = 1) : vals (step ns) (2 * d) = vals ns d := by
  match ns, h1 with
  | [x], _ =>
    show [fr (2 * x) (2 * d)] = [fr x d]
    rw [fr_two]
theorem greedy_single : ∀ (k : Nat) (vs : Ks606.Values), Ks606.bestPair vs = none → Ks606.greedyAveraging k vs = vs
  | 0, _, _ => rfl
  | k + 1, vs, h => by
    unfold Ks606.greedyAveraging
    rw [h]
theorem greedy_vals : ∀ (k : Nat) (ns : List Int) (d : Nat), d ≠ 0 → 1 ≤ ns.length → ns.length ≤ 8 → Ks606.greedyAveraging k (vals ns d) = vals (steps k ns) (2 ^ k * d)
  | 0, ns, d, _, _, _ => by
    show vals ns d = vals ns (1 * d)
    rw [Nat.one_mul]
  | k + 1, ns, d, h, h1, h8 => by
    show _ = vals (steps k (step ns)) (2 ^ (k + 1) * d)
    have ih := greedy_vals k (step ns) (2 * d) (by omega) (by rw [step_len]; exact h1) (by rw [step_len]; exact h8)
    rw [Nat.pow_succ, Nat.mul_assoc, ← ih]
    by_cases g : ns.length = 1
    · rw [step_single ns d g, greedy_single _ _ (best_single ns d g), greedy_single _ _ (best_single ns d g)]
    · have hb := best_vals ns h (by omega) h8
      conv => lhs; unfold Ks606.greedyAveraging
      rw [hb]
      dsimp only
      rw [average_vals ns h]
      unfold step
      rw [if_neg g]
def ansGreedy (k : Int) (vs : List Int) : List Int :=
  if okValues vs = true then (if k ≤ 12 then allEqual (steps k.toNat vs) :: listed (steps k.toNat vs) ((2 ^ k.toNat : Nat) : Int) else [-22]) else [-22]
theorem greedy_spec (k : Int) (vs : List Int) (hk : 0 ≤ k) (hv : ∀ v ∈ vs, 0 ≤ v) : PyKs606.greedy_averaging k vs = ansGreedy k vs := by
  show Ks606Neutral.integers (Ks606.answer (.greedyAveraging k.toNat (vs.map Int.toNat))) = _
  unfold Ks606.answer
  dsimp only
  rw [withValues_eq vs hv]
  unfold ansGreedy
  split
  · rename_i ok
    have ok2 := ok
    unfold okValues at ok2
    simp only [Bool.and_eq_true, decide_eq_true_eq] at ok2
    by_cases g : k ≤ 12
    · rw [if_pos g, if_neg (by omega), greedy_vals _ _ _ (by decide) ok2.1.1 ok2.1.2, Nat.mul_one]
      have p0 : (2 ^ k.toNat : Nat) ≠ 0 := Nat.ne_of_gt (Nat.pow_pos (by decide))
      show (if Ks606.areEqual _ = true then (1 : Int) else 0) :: Ks604.pairs _ = _
      rw [allEqual_vals _ _ p0, listed_vals _ _ p0]
    · rw [if_neg g, if_pos (by omega)]
      rfl
  · rfl
end Mp
namespace Mp
/-! the numerators stay in bounds -/
theorem averaged_in {ns : List Int} {b : Int} (h : ∀ n ∈ ns, 0 ≤ n ∧ n ≤ b) (hb : 0 ≤ b) (i j : Nat) : ∀ n ∈ averaged ns i j, 0 ≤ n ∧ n ≤ 2 * b := by
  have hg : ∀ k : Nat, 0 ≤ ns.getD k 0 ∧ ns.getD k 0 ≤ b := fun k => by
    rw [List.getD_eq_getElem?_getD]
    cases e : ns[k]? with
    | none => exact ⟨Int.le_refl 0, hb⟩
    | some z => exact h z (List.mem_of_getElem? e)
  have h1 := hg i
  have h2 := hg j
  intro n hn
  unfold averaged at hn
  rcases List.mem_or_eq_of_mem_set hn with hn | rfl
  · rcases List.mem_or_eq_of_mem_set hn with hn | rfl
    · obtain ⟨m, hm, rfl⟩ := List.mem_map.mp hn
      have := h m hm
      omega
    · omega
  · omega
theorem afterPairs_in : ∀ (l : List (Nat × Nat)) {ns : List Int} {b : Int}, (∀ n ∈ ns, 0 ≤ n ∧ n ≤ b) → 0 ≤ b → ∀ n ∈ afterPairs ns l, 0 ≤ n ∧ n ≤ ((2 ^ l.length : Nat) : Int) * b
  | [], ns, b, h, hb => by
    intro n hn
    have := h n hn
    show 0 ≤ n ∧ n ≤ ((1 : Nat) : Int) * b
    omega
  | p :: r, ns, b, h, hb => by
    intro n hn
    have ih := afterPairs_in r (averaged_in h hb p.1 p.2) (by omega) n hn
    show 0 ≤ n ∧ n ≤ ((2 ^ (r.length + 1) : Nat) : Int) * b
    rw [Nat.pow_succ, Int.natCast_mul, Int.mul_assoc]
    exact ih
theorem step_in {ns : List Int} {b : Int} (h : ∀ n ∈ ns, 0 ≤ n ∧ n ≤ b) (hb : 0 ≤ b) : ∀ n ∈ step ns, 0 ≤ n ∧ n ≤ 2 * b := by
  unfold step
  split
  · intro n hn
    rename_i h1
    match ns, h1 with
    | [x], _ =>
      have e : n = 2 * x := by simpa using hn
      have := h x List.mem_cons_self
      omega
  · exact averaged_in h hb _ _
theorem steps_nonneg : ∀ (k : Nat) {ns : List Int} {b : Int}, (∀ n ∈ ns, 0 ≤ n ∧ n ≤ b) → 0 ≤ b → ∀ n ∈ steps k ns, 0 ≤ n
  | 0, _, _, h, _ => fun n hn => (h n hn).1
  | k + 1, _, _, h, hb => steps_nonneg k (step_in h hb) (by omega)
theorem okValues_in {vs : List Int} (h : okValues vs = true) : 1 ≤ vs.length ∧ vs.length ≤ 8 ∧ ∀ v ∈ vs, 0 ≤ v ∧ v ≤ 99 := by
  unfold okValues at h
  rw [Bool.and_eq_true, Bool.and_eq_true, decide_eq_true_eq, decide_eq_true_eq, List.all_eq_true] at h
  refine ⟨h.1.1, h.1.2, fun v hv => ?_⟩
  have := h.2 v hv
  rw [Bool.and_eq_true, decide_eq_true_eq, decide_eq_true_eq] at this
  exact this
theorem okPairs_in {c : Nat} {ps : List Int} (h : okPairs c ps = true) : ps.length ≤ 40 ∧ ∀ x ∈ pairs2 ps, x.1 < c ∧ x.2 < c := by
  unfold okPairs at h
  rw [Bool.and_eq_true, Bool.and_eq_true, decide_eq_true_eq, decide_eq_true_eq, List.all_eq_true] at h
  refine ⟨h.1.2, fun x hx => ?_⟩
  have := h.2 x hx
  unfold isPair at this
  rw [Bool.and_eq_true, Bool.and_eq_true, decide_eq_true_eq, decide_eq_true_eq] at this
  exact this.1
theorem den_lt {ps : List Int} (h : ps.length ≤ 40) : den ps ≤ 2 ^ 20 := Nat.pow_le_pow_right (by decide) (by omega)
theorem den_pos (ps : List Int) : 0 < den ps := Nat.pow_pos (by decide)
end Mp
namespace Mp
/-! the spread and the sum of the squares are not negative -/
theorem foldMax_ge : ∀ (l : List Int) (b : Int), b ≤ l.foldl (fun b x => if b < x then x else b) b
  | [], b => Int.le_refl b
  | x :: r, b => by
    rw [List.foldl_cons]
    have ih := foldMax_ge r (if b < x then x else b)
    refine Int.le_trans ?_ ih
    split <;> omega
theorem foldMin_le : ∀ (l : List Int) (b : Int), l.foldl (fun b x => if x < b then x else b) b ≤ b
  | [], b => Int.le_refl b
  | x :: r, b => by
    rw [List.foldl_cons]
    have ih := foldMin_le r (if x < b then x else b)
    refine Int.le_trans ih ?_
    split <;> omega
theorem spread_nonneg (ns : List Int) : 0 ≤ maxL ns - minL ns := by
  have h1 := foldMax_ge ns (ns.headD 0)
  have h2 := foldMin_le ns (ns.headD 0)
  unfold maxL minL
  omega
theorem sumSq_more (l : List Int) (z : Int) : sumSq (l ++ [z]) = sumSq l + z * z := by
  unfold sumSq
  rw [List.foldl_append]
  rfl
theorem sumSq_nonneg (ns : List Int) : 0 ≤ sumSq ns := by
  have key : ∀ (l : List Int) (b : Int), 0 ≤ b → 0 ≤ l.foldl (fun t n => t + n * n) b := by
    intro l
    induction l with
    | nil => exact fun b h => h
    | cons x r ih =>
      intro b hb
      rw [List.foldl_cons]
      have hx : 0 ≤ x * x := by
        rcases Int.le_total 0 x with h | h
        · exact Int.mul_nonneg h h
        · have := Int.mul_nonneg (show 0 ≤ -x by omega) (show 0 ≤ -x by omega)
          rw [Int.neg_mul_neg] at this
          exact this
      exact ih _ (by omega)
  exact key ns 0 (by decide)
end Mp
/-! ## 2. The program, def by def -/
namespace Mw
open PySem PySem.Spec PyProof.Rows L2
/-! ### words for all defs -/
/-- a def that may be called: what a caller asks -/
structure Cal (P : Program) (w : World) (K : PySem.W.Frag) (mg : Str → Option Value) (base : Heap) (k : Nat) (x : Str) (ps : List Str) (sp : Sp) (f : Addr) (fd : FuncData) : Prop where
  ok : FnOk P w K mg base CX0 k f fd ps sp
  at_ : mg x = some (.ref f)
  kp : PySem.W.keepIn K (.ref f) = true
  bi : Binds K fd ps []
/-- a new list of whole numbers is handed back, all else stands -/
def RetL (H : Hp) (Q : VK) (ns : List Int) : Prop := ∀ (H' : Hp) (p : Addr), Same H H' → H p = none → H' p = some (.lst (ns.map V.int)) → Q (.ref p) H'
theorem RetL.mono {H H1 : Hp} {Q : VK} {ns : List Int} (h : RetL H Q ns) (s : Same H H1) : RetL H1 Q ns := fun H' p s' n e => h H' p (s.trans s') (s.free n) e
theorem same_new {H : Hp} {p : Addr} (h : H p = none) (o : HO) : Same H (upd H p o) := fun b u q => by
  rw [upd_ne (ne_of_none q h)]
  exact q
theorem same_upd {H H1 : Hp} {p : Addr} {o : HO} (h : H p = none) (s : Same H H1) : Same H (upd H1 p o) := fun b u q => by
  rw [upd_ne (ne_of_none q h)]
  exact s _ _ q
theorem RetL.at_new {H H1 : Hp} {Q : VK} {ns : List Int} (h : RetL H Q ns) (s : Same H H1) {p : Addr} (n : H1 p = none) {xs : List V} (e : xs = ns.map V.int) : Q (.ref p) (upd H1 p (.lst xs)) := by
  subst e
  exact h _ p (s.trans (same_new n _)) (s.free n) upd_same
theorem get_int {ns : List Int} {i : Nat} {v : V} (h : (ns.map V.int)[i]? = some v) : ∃ z, ns[i]? = some z ∧ v = .int z := by
  rw [List.getElem?_map] at h
  cases e : ns[i]? with
  | none =>
    rw [e] at h
    cases h
  | some z =>
    rw [e] at h
    exact ⟨z, rfl, (Option.some.inj h).symm⟩
theorem take_more {α : Type} : ∀ {l : List α} {i : Nat} {x : α}, l[i]? = some x → l.take (i + 1) = l.take i ++ [x]
  | [], i, x, h => by simp at h
  | a :: l, 0, x, h => by
    have e : a = x := Option.some.inj h
    subst e
    rfl
  | a :: l, i + 1, x, h => by
    have ih := take_more (l := l) (i := i) (x := x) h
    show a :: l.take (i + 1) = a :: l.take i ++ [x]
    rw [ih]
    rfl
theorem small {n : Nat} (h : n ≤ 1000) : n ≤ sizeLine := Nat.le_of_lt (small1000 h)
theorem at_int {ns : List Int} {i : Int} (h0 : 0 ≤ i) (h : i.toNat < ns.length) : atI (ns.map V.int) i = some (.int (ns.getD i.toNat 0)) := by
  have e : i = ((i.toNat : Nat) : Int) := by omega
  have q : atI (ns.map V.int) ((i.toNat : Nat) : Int) = some (.int (ns.getD i.toNat 0)) := atI_nat (by
    rw [List.getElem?_map, List.getD_eq_getElem?_getD, List.getElem?_eq_getElem h]
    rfl)
  rw [← e] at q
  exact q
theorem not_true {b : Bool} (h : ¬ b = true) : b = false := Bool.eq_false_iff.mpr h
theorem of_not {b : Bool} (h : (!b) = true) : b = false := by
  cases b
  · rfl
  · cases h
theorem of_nnot {b : Bool} (h : ¬ (!b) = true) : b = true := by
  cases b
  · exact absurd rfl h
  · rfl
/-- the test error != 0 -/
theorem ne_test {i : Int} (h : (!decide (V.int i = V.int 0)) = true) : ¬ i = 0 := fun e => by
  rw [e, decide_eq_true rfl] at h
  cases h
theorem eq_test {i : Int} (h : ¬ (!decide (V.int i = V.int 0)) = true) : i = 0 := V.int.inj (of_decide_eq_true (of_nnot h))
/-! the text: its statements by their places -/
def topS (i : Nat) : Stmt := PySem.Challenge.pw_meanpairs_s03_always_equalizes.main.body.getD i (.Pass ⟨0, 0, 0, 0⟩)
abbrev sAveraged : Stmt := topS 1
abbrev sAfter : Stmt := topS 2
abbrev sAllEq : Stmt := topS 3
abbrev sCount : Stmt := topS 11
abbrev sIndex : Stmt := topS 12
abbrev sPair : Stmt := topS 13
abbrev sPairs : Stmt := topS 14
abbrev sUnit : Stmt := topS 4
abbrev sErrC : Stmt := topS 15
abbrev sAlways : Stmt := topS 5
abbrev sAlwaysEq : Stmt := topS 17
section
variable {P : Program} {w : World} {K : PySem.W.Frag} {mg : Str → Option Value} {base : Heap}
/-! ### averaged -/
def spAveraged (K : PySem.W.Frag) : Sp := fun vs H Q _ => ∃ (a : Addr) (ns : List Int) (i j : Int), vs = [.ref a, .int i, .int j] ∧ SqL K H a (ns.map V.int) ∧ ns.length ≤ 100 ∧
  0 ≤ i ∧ i.toNat < ns.length ∧ 0 ≤ j ∧ j.toNat < ns.length ∧ RetL H Q (Mp.averaged ns i.toNat j.toNat)
theorem scAveraged : FnScope ["numerators", "one", "other", "total", "found", "numerator"] ["numerators", "one", "other"] (defScope sAveraged) := ⟨rfl, rfl, rfl, by decide +kernel, rfl, by decide +kernel, by decide +kernel⟩
theorem ixN_nat {n : Nat} {i : Int} (h0 : 0 ≤ i) (h : i.toNat < n) : ixN n i = some i.toNat := by
  unfold ixN
  rw [if_pos h0, if_pos (by omega)]
theorem ok_averaged {f : Addr} {fd : FuncData} (F : Fun K "averaged" "averaged" sAveraged f fd) : FnOk P w K mg base CX0 1 f fd ["numerators", "one", "other"] (spAveraged K) := by
  refine F.ok scAveraged (fun vs H Q E h => ?_) (fun cdv A outer s H vs Q E hr h => ?_)
  · obtain ⟨a, ns, i, j, rfl, _⟩ := h
    rfl
  obtain ⟨a, ns, i, j, rfl, hS, hlen, hi0, hi, hj0, hj, q⟩ := h
  refine ⟨_, pss_cons (ps_set (i := 3) scAveraged.nd rfl (.inl rfl) (pe_op op_add (pe_ix ix_list (pv 0) (pv 1) (fun _ _ => rfl)) (pe_ix ix_list (pv 0) (pv 2) (fun _ _ => rfl))))
    (pss_cons (ps_setLc (i := 4) (own := [("numerator", 5)]) (g := gName 5) (tt := tYes) rfl scAveraged.nd rfl rfl (sw_true rfl rfl rfl (by decide +kernel)) (pi_list (pv 0)) (blkOk_by (own := [("numerator", 5)]) (N := ["numerators", "one", "other", "total", "found", "numerator"]) (sc := defScope sAveraged) (by decide +kernel))
      (fun _ _ _ _ _ => pg_name (i := 5) scAveraged.nd rfl (.inl rfl)) (fun _ _ _ _ _ => pts_nil) (fun _ _ _ _ _ => pe_op op_mul pe_int (pv 5)))
    (pss_cons (ps_asg (pv 3) (pg_sub (pv 4) (pv 1) set_list))
    (pss_cons (ps_asg (pv 3) (pg_sub (pv 4) (pv 2) set_list))
    (pss_one (ps_ret (pv 4)))))), ?_⟩
  refine ⟨_, rfl, _, rfl, a, _, _, _, rfl, rfl, hS, at_int hi0 hi, _, rfl, _, rfl, a, _, _, _, rfl, rfl, hS, at_int hj0 hj, _, _, rfl, rfl, ?_⟩
  refine ⟨_, rfl, a, rfl, ⟨_, hS⟩, fun D nD => ?_⟩
  refine lc_list (K := K) (a := a) (xs := ns.map V.int) (fun k H' => Same H H' ∧ H' D = some (.lst (((ns.take k).map fun n => 2 * n).map V.int))) ⟨same_new nD _, upd_same⟩ (fun k H' _ p => p.1.seq hS) ?_ ?_
  · rintro k x H' hk ⟨sm, eD⟩
    obtain ⟨z, hz, rfl⟩ := get_int hk
    refine ⟨rfl, _, rfl, 2, z, rfl, rfl, .inl ⟨by decide, by decide⟩, _, eD, ?_, same_upd nD sm, ?_⟩
    · rw [List.length_map, List.length_map, List.length_take]
      exact small1000 (by omega)
    · rw [upd_same, take_more hz, List.map_append, List.map_append]
      rfl
  · rintro H' ⟨sm, eD⟩
    rw [List.length_map, List.take_length] at eD
    have l1 : (((ns.map fun n => 2 * n).map V.int)).length = ns.length := by rw [List.length_map, List.length_map]
    refine ⟨_, rfl, _, rfl, _, rfl, D, _, i, i.toNat, rfl, rfl, eD, ixN_nat hi0 (by rw [l1]; exact hi), ?_⟩
    refine ⟨_, rfl, _, rfl, _, rfl, D, _, j, j.toNat, rfl, rfl, upd_same, ixN_nat hj0 (by rw [List.length_set, l1]; exact hj), ?_⟩
    refine ⟨_, rfl, q _ D (same_upd nD (same_upd nD sm)) nD ?_⟩
    rw [upd_same]
    unfold Mp.averaged
    rw [List.map_set, List.map_set]
/-! ### after_pairs -/
def spAfter (K : PySem.W.Frag) : Sp := fun vs H Q _ => ∃ (a b : Addr) (ns ps : List Int), vs = [.ref a, .ref b] ∧ SqL K H a (ns.map V.int) ∧ SqL K H b (ps.map V.int) ∧ ns.length ≤ 100 ∧ ps.length ≤ 100 ∧
  (∀ p ∈ ps, 0 ≤ p) ∧ (∀ x ∈ Mp.pairs2 ps, x.1 < ns.length ∧ x.2 < ns.length) ∧ RetL H Q (Mp.afterPairs ns (Mp.pairs2 ps))
theorem scAfter : FnScope ["values", "pairs", "found", "place"] ["values", "pairs"] (defScope sAfter) := ⟨rfl, rfl, rfl, by decide +kernel, rfl, by decide +kernel, by decide +kernel⟩
theorem after_more {ns : List Int} {l : List (Nat × Nat)} {i : Nat} {x : Nat × Nat} (h : l[i]? = some x) : Mp.afterPairs ns (l.take (i + 1)) = Mp.averaged (Mp.afterPairs ns (l.take i)) x.1 x.2 := by
  unfold Mp.afterPairs
  rw [take_more h, List.foldl_append]
  rfl
theorem getD_nonneg {ps : List Int} (h : ∀ p ∈ ps, 0 ≤ p) (i : Nat) : 0 ≤ ps.getD i 0 := by
  rw [List.getD_eq_getElem?_getD]
  cases e : ps[i]? with
  | none => exact Int.le_refl 0
  | some z => exact h z (List.mem_of_getElem? e)
theorem ok_after {f fA : Addr} {fd fdA : FuncData} (F : Fun K "after_pairs" "after_pairs" sAfter f fd) (CA : Cal P w K mg base 1 "averaged" ["numerators", "one", "other"] (spAveraged K) fA fdA)
    (ml : mg "list" = none) (mr : mg "range" = none) (mlen : mg "len" = none) : FnOk P w K mg base CX0 2 f fd ["values", "pairs"] (spAfter K) := by
  refine F.ok scAfter (fun vs H Q E h => ?_) (fun cdv A outer s H vs Q E hr h => ?_)
  · obtain ⟨a, b, ns, ps, rfl, _⟩ := h
    rfl
  obtain ⟨a, b, ns, ps, rfl, hA, hB, hn, hp, h0, hx, q⟩ := h
  refine ⟨_, pss_cons (ps_set (i := 2) scAfter.nd rfl (.inl rfl) (pe_callTy call_list_of (by rfl) ml (by decide +kernel) (pa_cons (pv 0) pa_nil)))
    (pss_cons (ps_for PassesOwn.never rfl (pi_range1 rfl mr (pa_cons (pe_op op_fdiv (pe_callB call_len_seq (by rfl) mlen PySem.boot_len (pa_cons (pv 1) pa_nil)) pe_int) pa_nil)) (pg_name (i := 3) scAfter.nd rfl (.inl rfl))
      (pss_one (ps_set (i := 2) scAfter.nd rfl (.inl rfl) (pe_call CA.ok hr (by rfl) CA.at_ CA.kp CA.bi .nil pass0
        (pa_cons (pv 2) (pa_cons (pe_ix ix_list (pv 1) (pe_op op_mul pe_int (pv 3)) (fun _ _ => rfl)) (pa_cons (pe_ix ix_list (pv 1) (pe_op op_add (pe_op op_mul pe_int (pv 3)) pe_int) (fun _ _ => rfl)) pa_nil)))))))
    (pss_one (ps_ret (pv 2)))), ?_⟩
  refine ⟨_, rfl, a, _, rfl, .inl hA, fun o no => ?_⟩
  have s1 : Same H (upd H o (.lst (ns.map V.int))) := same_new no _
  have lp : (ps.map V.int).length = ps.length := List.length_map _
  refine ⟨_, rfl, b, _, rfl, .inl (s1.seq hB), _, 2, rfl, rfl, ⟨by decide, by decide⟩, _, rfl, by omega, by omega,
    for_range (lo := 0) (n := (((ps.map V.int).length : Int) / 2).toNat) (fun i σ H' => ∃ (p : Addr) (v : Option V), σ = [some (.ref a), some (.ref b), some (.ref p), v] ∧ Same H H' ∧ H p = none ∧ H' p = some (.lst ((Mp.afterPairs ns ((Mp.pairs2 ps).take i)).map V.int)))
      ⟨o, none, rfl, s1, no, upd_same⟩ ?_ ?_⟩
  · rintro i σ H' hi ⟨p, v, rfl, sm, np, ep⟩
    have hi2 : 2 * i + 1 < ps.length := by omega
    have gx := Mp.pairs2_get ps i hi2
    have mx := hx _ (List.mem_of_getElem? gx)
    have e1 : (2 * (0 + (i : Int))).toNat = 2 * i := by omega
    have e2 : (2 * (0 + (i : Int)) + 1).toNat = 2 * i + 1 := by omega
    have a1 : atI (ps.map V.int) (2 * (0 + (i : Int))) = some (.int (ps.getD (2 * i) 0)) := by
      rw [at_int (by omega) (by omega), e1]
    have a2 : atI (ps.map V.int) (2 * (0 + (i : Int)) + 1) = some (.int (ps.getD (2 * i + 1) 0)) := by
      rw [at_int (by omega) (by omega), e2]
    refine ⟨_, rfl, _, rfl, _, rfl, _, _, rfl, rfl, .inl ⟨by decide, by decide⟩, b, _, _, _, rfl, rfl, sm.seq hB, a1, _, rfl, _, rfl, _, _, rfl, rfl, .inl ⟨by decide, by decide⟩, _, _, rfl, rfl, b, _, _, _, rfl, rfl, sm.seq hB, a2, ?_⟩
    refine ⟨p, _, _, _, rfl, SqL.of ep, ?_, getD_nonneg h0 _, ?_, getD_nonneg h0 _, ?_, fun H2 p2 s6 n2 e2 => ?_⟩
    · rw [Mp.afterPairs_len]
      exact hn
    · rw [Mp.afterPairs_len]
      exact mx.1
    · rw [Mp.afterPairs_len]
      exact mx.2
    · refine ⟨p2, some (.int (0 + (i : Int))), rfl, sm.trans s6, sm.free n2, ?_⟩
      rw [e2, after_more gx]
  · rintro σ H' ⟨p, v, rfl, sm, np, ep⟩
    rw [List.take_of_length_le (by rw [Mp.pairs2_len]; omega)] at ep
    exact ⟨_, rfl, q _ p sm np ep⟩
/-! ### all_equal -/
def spAllEq (K : PySem.W.Frag) : Sp := fun vs H Q _ => ∃ (a : Addr) (ns : List Int), vs = [.ref a] ∧ SqL K H a (ns.map V.int) ∧ Q (.int (Mp.allEqual ns)) H
theorem scAllEq : FnScope ["numerators", "numerator"] ["numerators"] (defScope sAllEq) := ⟨rfl, rfl, rfl, by decide +kernel, rfl, by decide +kernel, by decide +kernel⟩
theorem head_get {ns : List Int} (h : 0 < ns.length) : ns.getD 0 0 = ns.headD 0 := by
  cases ns with
  | nil => cases h
  | cons x r => rfl
theorem ok_alleq {f : Addr} {fd : FuncData} (F : Fun K "all_equal" "all_equal" sAllEq f fd) : FnOk P w K mg base CX0 1 f fd ["numerators"] (spAllEq K) := by
  refine F.ok scAllEq (fun vs H Q E h => ?_) (fun cdv A outer s H vs Q E hr h => ?_)
  · obtain ⟨a, ns, rfl, _⟩ := h
    rfl
  obtain ⟨a, ns, rfl, hS, q⟩ := h
  refine ⟨_, pss_cons (ps_for PassesOwn.never rfl (pi_list (pv 0)) (pg_name (i := 1) scAllEq.nd rfl (.inl rfl))
      (pss_one (ps_if (pt_cmpR op_ne (pv 1) (pe_ix ix_list (pv 0) pe_int (fun _ _ => rfl)) (nomark _)) (pss_one (ps_ret pe_int)) pss_nil)))
    (pss_one (ps_ret pe_int)), ?_⟩
  refine ⟨_, rfl, a, rfl, ⟨_, hS⟩, for_list (K := K) (a := a) (xs := ns.map V.int) (fun i σ H' => ∃ v : Option V, σ = [some (.ref a), v] ∧ H' = H ∧ ∀ n ∈ ns.take i, n = ns.headD 0)
    ⟨none, rfl, rfl, fun n hn => by cases hn⟩ (fun i σ H' _ ⟨_, _, e, _⟩ => by rw [e]; exact hS) ?_ ?_⟩
  · rintro i y σ H' hi ⟨v, rfl, rfl, hall⟩
    obtain ⟨z, hz, rfl⟩ := get_int hi
    have hlen : 0 < ns.length := Nat.lt_of_le_of_lt (Nat.zero_le i) (List.getElem?_eq_some_iff.mp hz).1
    have a0 : atI (ns.map V.int) 0 = some (.int (ns.headD 0)) := by
      rw [← head_get hlen]
      exact at_int (by decide) (by show 0 < ns.length; exact hlen)
    refine ⟨_, rfl, _, rfl, a, _, _, _, rfl, rfl, hS, a0, rfl, _, rfl, ite2 (fun c => ?_) (fun c => ?_)⟩
    · have ne : ¬ z = ns.headD 0 := fun e => by
        rw [e, decide_eq_true rfl] at c
        cases c
      have e0 : Mp.allEqual ns = 0 := by
        unfold Mp.allEqual
        rw [if_neg]
        intro h
        have := List.all_eq_true.mp h z (List.mem_of_getElem? hz)
        exact ne (beq_iff_eq.mp this)
      rw [e0] at q
      exact q
    · have e : z = ns.headD 0 := by
        by_cases e : z = ns.headD 0
        · exact e
        · exfalso
          refine c ?_
          rw [decide_eq_false (fun x => e (V.int.inj x))]
          rfl
      refine ⟨_, rfl, rfl, fun n hn => ?_⟩
      rw [take_more hz] at hn
      rcases List.mem_append.mp hn with h | h
      · exact hall n h
      · rw [List.mem_singleton.mp h]
        exact e
  · rintro σ H' ⟨v, rfl, rfl, hall⟩
    rw [List.length_map, List.take_length] at hall
    have e1 : Mp.allEqual ns = 1 := by
      unfold Mp.allEqual
      rw [if_pos]
      exact List.all_eq_true.mpr fun n hn => beq_iff_eq.mpr (hall n hn)
    rw [e1] at q
    exact q
/-! ### is_count -/
def spCount : Sp := fun vs H Q _ => ∃ c : Int, vs = [.int c] ∧ Q (.bl (decide (1 ≤ c ∧ c ≤ 8))) H
theorem scCount : FnScope ["count"] ["count"] (defScope sCount) := ⟨rfl, rfl, rfl, by decide +kernel, rfl, by decide +kernel, by decide +kernel⟩
theorem ok_count {f : Addr} {fd : FuncData} (F : Fun K "is_count" "is_count" sCount f fd) {t1 t2 : Tok} (m1 : mg "LEAST_COUNT" = some (.int 1 t1)) (m2 : mg "MOST_COUNT" = some (.int 8 t2)) : FnOk P w K mg base CX0 1 f fd ["count"] spCount := by
  refine F.ok scCount (fun vs H Q E h => ?_) (fun cdv A outer s H vs Q E hr h => ?_)
  · obtain ⟨c, rfl, _⟩ := h
    rfl
  obtain ⟨c, rfl, q⟩ := h
  refine ⟨_, pss_one (ps_ret (pe_and (pe_cmpR op_le (pe_glob (v := .int 1) rfl m1 ⟨_, rfl⟩) (pv 0) (nomark _)) (pe_one (pe_cmpR op_le (pv 0) (pe_glob (v := .int 8) rfl m2 ⟨_, rfl⟩) (nomark _))))), ?_⟩
  refine ⟨_, rfl, _, _, rfl, rfl, _, rfl, ite2 (fun h => ?_) (fun h => ?_)⟩
  · have h1 : 1 ≤ c := of_decide_eq_true h
    refine ⟨_, rfl, _, _, rfl, rfl, ?_⟩
    have e : decide (1 ≤ c ∧ c ≤ 8) = decide (c ≤ 8) := decide_eq_decide.mpr ⟨fun x => x.2, fun x => ⟨h1, x⟩⟩
    rw [e] at q
    exact q
  · have h1 : ¬ 1 ≤ c := of_decide_eq_false (Bool.eq_false_iff.mpr h)
    have e : decide (1 ≤ c ∧ c ≤ 8) = false := decide_eq_false fun x => h1 x.1
    rw [e] at q
    exact q
/-! ### is_index -/
def spIndex : Sp := fun vs H Q _ => ∃ i c : Int, vs = [.int i, .int c] ∧ Q (.bl (decide (0 ≤ i ∧ i < c))) H
theorem scIndex : FnScope ["index", "count"] ["index", "count"] (defScope sIndex) := ⟨rfl, rfl, rfl, by decide +kernel, rfl, by decide +kernel, by decide +kernel⟩
theorem ok_index {f : Addr} {fd : FuncData} (F : Fun K "is_index" "is_index" sIndex f fd) : FnOk P w K mg base CX0 1 f fd ["index", "count"] spIndex := by
  refine F.ok scIndex (fun vs H Q E h => ?_) (fun cdv A outer s H vs Q E hr h => ?_)
  · obtain ⟨i, c, rfl, _⟩ := h
    rfl
  obtain ⟨i, c, rfl, q⟩ := h
  refine ⟨_, pss_one (ps_ret (pe_and (pe_cmpR op_le pe_int (pv 0) (nomark _)) (pe_one (pe_cmpR op_lt (pv 0) (pv 1) (nomark _))))), ?_⟩
  refine ⟨_, rfl, _, _, rfl, rfl, _, rfl, ite2 (fun h => ?_) (fun h => ?_)⟩
  · have h1 : 0 ≤ i := of_decide_eq_true h
    refine ⟨_, rfl, _, rfl, _, _, rfl, rfl, ?_⟩
    have e : decide (0 ≤ i ∧ i < c) = decide (i < c) := decide_eq_decide.mpr ⟨fun x => x.2, fun x => ⟨h1, x⟩⟩
    rw [e] at q
    exact q
  · have h1 : ¬ 0 ≤ i := of_decide_eq_false (Bool.eq_false_iff.mpr h)
    have e : decide (0 ≤ i ∧ i < c) = false := decide_eq_false fun x => h1 x.1
    rw [e] at q
    exact q
/-! ### is_pair -/
def spPair : Sp := fun vs H Q _ => ∃ i j c : Int, vs = [.int i, .int j, .int c] ∧ Q (.bl (decide ((0 ≤ i ∧ i < c) ∧ (0 ≤ j ∧ j < c) ∧ i ≠ j))) H
theorem scPair : FnScope ["one", "other", "count"] ["one", "other", "count"] (defScope sPair) := ⟨rfl, rfl, rfl, by decide +kernel, rfl, by decide +kernel, by decide +kernel⟩
theorem ok_pair {f fI : Addr} {fd fdI : FuncData} (F : Fun K "is_pair" "is_pair" sPair f fd) (CI : Cal P w K mg base 1 "is_index" ["index", "count"] spIndex fI fdI) : FnOk P w K mg base CX0 2 f fd ["one", "other", "count"] spPair := by
  refine F.ok scPair (fun vs H Q E h => ?_) (fun cdv A outer s H vs Q E hr h => ?_)
  · obtain ⟨i, j, c, rfl, _⟩ := h
    rfl
  obtain ⟨i, j, c, rfl, q⟩ := h
  refine ⟨_, pss_one (ps_ret (pe_and (pe_call CI.ok hr (by rfl) CI.at_ CI.kp CI.bi .nil pass0 (pa_cons (pv 0) (pa_cons (pv 2) pa_nil)))
    (pe_and (pe_call CI.ok hr (by rfl) CI.at_ CI.kp CI.bi .nil pass0 (pa_cons (pv 1) (pa_cons (pv 2) pa_nil))) (pe_one (pe_cmpR op_ne (pv 0) (pv 1) (nomark _)))))), ?_⟩
  refine ⟨_, rfl, _, rfl, i, c, rfl, _, rfl, ite2 (fun h => ?_) (fun h => ?_)⟩
  · have h1 : 0 ≤ i ∧ i < c := of_decide_eq_true h
    refine ⟨_, rfl, _, rfl, j, c, rfl, _, rfl, ite2 (fun g => ?_) (fun g => ?_)⟩
    · have h2 : 0 ≤ j ∧ j < c := of_decide_eq_true g
      refine ⟨_, rfl, _, rfl, rfl, ?_⟩
      have e : decide ((0 ≤ i ∧ i < c) ∧ (0 ≤ j ∧ j < c) ∧ i ≠ j) = !decide (V.int i = V.int j) := by
        by_cases x : i = j
        · rw [decide_eq_true (show V.int i = V.int j by rw [x])]
          exact decide_eq_false fun y => y.2.2 x
        · rw [decide_eq_false (show ¬ V.int i = V.int j from fun y => x (V.int.inj y))]
          exact decide_eq_true ⟨h1, h2, x⟩
      rw [e] at q
      exact q
    · have h2 : ¬ (0 ≤ j ∧ j < c) := of_decide_eq_false (Bool.eq_false_iff.mpr g)
      have e : decide ((0 ≤ i ∧ i < c) ∧ (0 ≤ j ∧ j < c) ∧ i ≠ j) = false := decide_eq_false fun x => h2 x.2.1
      rw [e] at q
      exact q
  · have h1 : ¬ (0 ≤ i ∧ i < c) := of_decide_eq_false (Bool.eq_false_iff.mpr h)
    have e : decide ((0 ≤ i ∧ i < c) ∧ (0 ≤ j ∧ j < c) ∧ i ≠ j) = false := decide_eq_false fun x => h1 x.1
    rw [e] at q
    exact q
/-! ### are_pairs -/
def spPairs (K : PySem.W.Frag) : Sp := fun vs H Q _ => ∃ (b : Addr) (ps : List Int) (c : Int), vs = [.ref b, .int c] ∧ SqL K H b (ps.map V.int) ∧ ps.length ≤ 1000 ∧ (∀ p ∈ ps, 0 ≤ p) ∧ 0 ≤ c ∧ Q (.bl (Mp.okPairs c.toNat ps)) H
theorem scPairs : FnScope ["pairs", "count", "place"] ["pairs", "count"] (defScope sPairs) := ⟨rfl, rfl, rfl, by decide +kernel, rfl, by decide +kernel, by decide +kernel⟩
theorem ok_pairs {f fI : Addr} {fd fdI : FuncData} (F : Fun K "are_pairs" "are_pairs" sPairs f fd) (CP : Cal P w K mg base 2 "is_pair" ["one", "other", "count"] spPair fI fdI) (mlen : mg "len" = none) (mr : mg "range" = none) {t : Tok} (m : mg "MOST_PAIRS" = some (.int 20 t)) :
    FnOk P w K mg base CX0 3 f fd ["pairs", "count"] (spPairs K) := by
  refine F.ok scPairs (fun vs H Q E h => ?_) (fun cdv A outer s H vs Q E hr h => ?_)
  · obtain ⟨b, ps, c, rfl, _⟩ := h
    rfl
  obtain ⟨b, ps, c, rfl, hS, hlen, hpos, hc0, q⟩ := h
  refine ⟨_, pss_cons (ps_if (PW.pt (pw_or (pt_cmpR op_ne (pe_op op_mod (pe_callB call_len_seq (by rfl) mlen PySem.boot_len (pa_cons (pv 0) pa_nil)) pe_int) pe_int (nomark _))
      (pw_or1 (pt_cmpR op_gt (pe_callB call_len_seq (by rfl) mlen PySem.boot_len (pa_cons (pv 0) pa_nil)) (pe_op op_mul pe_int (pe_glob (v := .int 20) rfl m ⟨_, rfl⟩)) (nomark _))))) (pss_one (ps_ret pe_bl)) pss_nil)
    (pss_cons (ps_for PassesOwn.never rfl (pi_range1 rfl mr (pa_cons (pe_op op_fdiv (pe_callB call_len_seq (by rfl) mlen PySem.boot_len (pa_cons (pv 0) pa_nil)) pe_int) pa_nil)) (pg_name (i := 2) scPairs.nd rfl (.inl rfl))
      (pss_one (ps_if (pt_not (pt_val (pe_call CP.ok hr (by rfl) CP.at_ CP.kp CP.bi .nil pass0
        (pa_cons (pe_ix ix_list (pv 0) (pe_op op_mul pe_int (pv 2)) (fun _ _ => rfl)) (pa_cons (pe_ix ix_list (pv 0) (pe_op op_add (pe_op op_mul pe_int (pv 2)) pe_int) (fun _ _ => rfl)) (pa_cons (pv 1) pa_nil)))))) (pss_one (ps_ret pe_bl)) pss_nil)))
    (pss_one (ps_ret pe_bl))), ?_⟩
  have ll : (ps.map V.int).length = ps.length := List.length_map _
  refine ⟨_, rfl, b, _, rfl, .inl hS, _, 2, rfl, rfl, (by show (0 : Int) < 2; decide), rfl, _, rfl, ite2 (fun h => ?_) (fun h => ?_)⟩
  · have h1 : ¬ (ps.length % 2 = 0) := fun x => by
      rw [ll, decide_eq_true (show V.int ((ps.length : Int) % 2) = V.int 0 by rw [show (ps.length : Int) % 2 = 0 by omega])] at h
      cases h
    have e : Mp.okPairs c.toNat ps = false := by
      unfold Mp.okPairs
      rw [decide_eq_false h1]
      rfl
    rw [e] at q
    refine iteT ?_
    exact q
  have h1 : ps.length % 2 = 0 := by
    by_cases x : (ps.length : Int) % 2 = 0
    · omega
    · exfalso
      refine h ?_
      rw [ll, decide_eq_false (show ¬ V.int ((ps.length : Int) % 2) = V.int 0 from fun y => x (V.int.inj y))]
      rfl
  refine ⟨_, rfl, b, _, rfl, .inl hS, 2, 20, rfl, rfl, .inl ⟨by decide, by decide⟩, _, _, rfl, rfl, _, rfl, ite2 (fun g => ?_) (fun g => ?_)⟩
  · have h2 : ¬ ps.length ≤ 40 := by
      have g2 := of_decide_eq_true g
      rw [ll] at g2
      omega
    have e : Mp.okPairs c.toNat ps = false := by
      unfold Mp.okPairs
      rw [decide_eq_false h2, Bool.and_false]
      rfl
    rw [e] at q
    exact q
  have h2 : ps.length ≤ 40 := by
    have g2 := of_decide_eq_false (Bool.eq_false_iff.mpr g)
    rw [ll] at g2
    omega
  refine ⟨_, rfl, b, _, rfl, .inl hS, _, 2, rfl, rfl, ⟨by decide, by decide⟩, _, rfl, by omega, by omega,
    for_range (lo := 0) (n := (((ps.map V.int).length : Int) / 2).toNat) (fun i σ H' => ∃ v : Option V, σ = [some (.ref b), some (.int c), v] ∧ H' = H ∧ ∀ x ∈ (Mp.pairs2 ps).take i, Mp.isPair c.toNat x = true)
      ⟨none, rfl, rfl, fun x hx => by cases hx⟩ ?_ ?_⟩
  · rintro i σ H' hi ⟨v, rfl, rfl, hall⟩
    have hi2 : 2 * i + 1 < ps.length := by omega
    have gx := Mp.pairs2_get ps i hi2
    have e1 : (2 * (0 + (i : Int))).toNat = 2 * i := by omega
    have e2 : (2 * (0 + (i : Int)) + 1).toNat = 2 * i + 1 := by omega
    have a1 : atI (ps.map V.int) (2 * (0 + (i : Int))) = some (.int (ps.getD (2 * i) 0)) := by
      rw [at_int (by omega) (by omega), e1]
    have a2 : atI (ps.map V.int) (2 * (0 + (i : Int)) + 1) = some (.int (ps.getD (2 * i + 1) 0)) := by
      rw [at_int (by omega) (by omega), e2]
    have p1 := getD_nonneg hpos (2 * i)
    have p2 := getD_nonneg hpos (2 * i + 1)
    have ei : Mp.isPair c.toNat ((ps.getD (2 * i) 0).toNat, (ps.getD (2 * i + 1) 0).toNat) = decide ((0 ≤ ps.getD (2 * i) 0 ∧ ps.getD (2 * i) 0 < c) ∧ (0 ≤ ps.getD (2 * i + 1) 0 ∧ ps.getD (2 * i + 1) 0 < c) ∧ ps.getD (2 * i) 0 ≠ ps.getD (2 * i + 1) 0) := by
      unfold Mp.isPair
      rw [Bool.eq_iff_iff, Bool.and_eq_true, Bool.and_eq_true, decide_eq_true_eq, decide_eq_true_eq, decide_eq_true_eq, decide_eq_true_eq]
      show (_ < _ ∧ _ < _) ∧ _ ≠ _ ↔ _
      omega
    refine ⟨_, rfl, _, rfl, _, _, rfl, rfl, .inl ⟨by decide, by decide⟩, b, _, _, _, rfl, rfl, hS, a1, _, rfl, _, rfl, _, _, rfl, rfl, .inl ⟨by decide, by decide⟩, _, _, rfl, rfl, b, _, _, _, rfl, rfl, hS, a2, _, rfl, _, _, c, rfl, _, rfl, ite2 (fun d => ?_) (fun d => ?_)⟩
    · have d' : Mp.isPair c.toNat ((ps.getD (2 * i) 0).toNat, (ps.getD (2 * i + 1) 0).toNat) = false := by
        rw [ei]
        cases x : decide ((0 ≤ ps.getD (2 * i) 0 ∧ ps.getD (2 * i) 0 < c) ∧ (0 ≤ ps.getD (2 * i + 1) 0 ∧ ps.getD (2 * i + 1) 0 < c) ∧ ps.getD (2 * i) 0 ≠ ps.getD (2 * i + 1) 0) with
        | true =>
          rw [x] at d
          cases d
        | false => rfl
      have e : Mp.okPairs c.toNat ps = false := by
        unfold Mp.okPairs
        rw [Bool.and_eq_false_iff]
        right
        rw [List.all_eq_false]
        exact ⟨_, List.mem_of_getElem? gx, by rw [d']; exact Bool.false_ne_true⟩
      rw [e] at q
      exact q
    · have d' : Mp.isPair c.toNat ((ps.getD (2 * i) 0).toNat, (ps.getD (2 * i + 1) 0).toNat) = true := by
        rw [ei]
        cases x : decide ((0 ≤ ps.getD (2 * i) 0 ∧ ps.getD (2 * i) 0 < c) ∧ (0 ≤ ps.getD (2 * i + 1) 0 ∧ ps.getD (2 * i + 1) 0 < c) ∧ ps.getD (2 * i) 0 ≠ ps.getD (2 * i + 1) 0) with
        | true => rfl
        | false =>
          exfalso
          refine d ?_
          rw [x]
          rfl
      refine ⟨_, rfl, rfl, fun x hx => ?_⟩
      rw [take_more gx] at hx
      rcases List.mem_append.mp hx with y | y
      · exact hall x y
      · rw [List.mem_singleton.mp y]
        exact d'
  · rintro σ H' ⟨v, rfl, rfl, hall⟩
    rw [List.take_of_length_le (by rw [Mp.pairs2_len]; omega)] at hall
    have e : Mp.okPairs c.toNat ps = true := by
      unfold Mp.okPairs
      rw [decide_eq_true h1, decide_eq_true h2, Bool.and_self, Bool.true_and]
      exact List.all_eq_true.mpr hall
    rw [e] at q
    exact q
/-! ### unit -/
def spUnit : Sp := fun vs H Q _ => ∃ c i : Int, vs = [.int c, .int i] ∧ 0 ≤ c ∧ c ≤ 100 ∧ 0 ≤ i ∧ i < c ∧ RetL H Q (Mp.unit c.toNat i.toNat)
theorem scUnit : FnScope ["count", "index", "found"] ["count", "index"] (defScope sUnit) := ⟨rfl, rfl, rfl, by decide +kernel, rfl, by decide +kernel, by decide +kernel⟩
theorem ok_unit {f : Addr} {fd : FuncData} (F : Fun K "unit" "unit" sUnit f fd) : FnOk P w K mg base CX0 1 f fd ["count", "index"] spUnit := by
  refine F.ok scUnit (fun vs H Q E h => ?_) (fun cdv A outer s H vs Q E hr h => ?_)
  · obtain ⟨c, i, rfl, _⟩ := h
    rfl
  obtain ⟨c, i, rfl, hc0, hc, hi0, hi, q⟩ := h
  refine ⟨_, pss_cons (ps_set (i := 2) scUnit.nd rfl (.inl rfl) (pe_op op_rep (pe_lst (pa_cons pe_int pa_nil)) (pv 0)))
    (pss_cons (ps_asg pe_int (pg_sub (pv 2) (pv 1) set_list))
    (pss_one (ps_ret (pv 2)))), ?_⟩
  refine ⟨(by show 1 ≤ sizeLine; decide), fun o no => ⟨_, rfl, o, c, _, rfl, rfl, upd_same, by omega, by omega, ?_, fun p np => ?_⟩⟩
  · refine small ?_
    show 1 * c.toNat ≤ 1000
    omega
  have s1 := same_new no (.lst [V.int 0])
  have er : (List.replicate c.toNat [V.int 0]).flatten = (List.replicate c.toNat (0 : Int)).map V.int := by
    rw [List.map_replicate]
    induction c.toNat with
    | zero => rfl
    | succ n ih =>
      rw [List.replicate_succ, List.replicate_succ, List.flatten_cons, ih]
      rfl
  rw [er]
  have l1 : ((List.replicate c.toNat (0 : Int)).map V.int).length = c.toNat := by rw [List.length_map, List.length_replicate]
  refine ⟨_, rfl, _, rfl, p, _, i, i.toNat, rfl, rfl, upd_same, ixN_nat hi0 (by rw [l1]; omega), ?_⟩
  refine ⟨_, rfl, q _ p (same_upd (s1.free np) (same_upd (s1.free np) s1)) (s1.free np) ?_⟩
  rw [upd_same]
  unfold Mp.unit
  rw [List.map_set]
/-! ### error_of_count -/
def errC (c : Int) (ps : List Int) : Int := if 1 ≤ c ∧ c ≤ 8 then (if Mp.okPairs c.toNat ps = true then 0 else -22) else -22
def spErrC (K : PySem.W.Frag) : Sp := fun vs H Q _ => ∃ (c : Int) (b : Addr) (ps : List Int), vs = [.int c, .ref b] ∧ SqL K H b (ps.map V.int) ∧ ps.length ≤ 1000 ∧ (∀ p ∈ ps, 0 ≤ p) ∧ 0 ≤ c ∧ Q (.int (errC c ps)) H
theorem scErrC : FnScope ["count", "pairs"] ["count", "pairs"] (defScope sErrC) := ⟨rfl, rfl, rfl, by decide +kernel, rfl, by decide +kernel, by decide +kernel⟩
theorem ok_errc {f fC fP : Addr} {fd fdC fdP : FuncData} (F : Fun K "error_of_count" "error_of_count" sErrC f fd) (CC : Cal P w K mg base 1 "is_count" ["count"] spCount fC fdC) (CP : Cal P w K mg base 3 "are_pairs" ["pairs", "count"] (spPairs K) fP fdP)
    {t : Tok} (mO : mg "OUTSIDE" = some (.int (-22) t)) : FnOk P w K mg base CX0 4 f fd ["count", "pairs"] (spErrC K) := by
  refine F.ok scErrC (fun vs H Q E h => ?_) (fun cdv A outer s H vs Q E hr h => ?_)
  · obtain ⟨c, b, ps, rfl, _⟩ := h
    rfl
  obtain ⟨c, b, ps, rfl, hB, hlen, hpos, hc0, q⟩ := h
  refine ⟨_, pss_cons (ps_if (pt_not (pt_val (pe_call CC.ok (hr.mono (by decide)) (by rfl) CC.at_ CC.kp CC.bi .nil pass0 (pa_cons (pv 0) pa_nil)))) (pss_one (ps_ret (pe_glob (v := .int (-22)) rfl mO ⟨_, rfl⟩))) pss_nil)
    (pss_cons (ps_if (pt_not (pt_val (pe_call CP.ok (hr.mono (by decide)) (by rfl) CP.at_ CP.kp CP.bi .nil pass0 (pa_cons (pv 1) (pa_cons (pv 0) pa_nil))))) (pss_one (ps_ret (pe_glob (v := .int (-22)) rfl mO ⟨_, rfl⟩))) pss_nil)
    (pss_one (ps_ret pe_int))), ?_⟩
  refine ⟨_, rfl, c, rfl, _, rfl, ite2 (fun h => ?_) (fun h => ?_)⟩
  · have h1 := of_decide_eq_false (of_not h)
    have e : errC c ps = -22 := by
      unfold errC
      rw [if_neg h1]
    rw [e] at q
    exact q
  · have h1 := of_decide_eq_true (of_nnot h)
    refine ⟨_, rfl, _, rfl, b, ps, c, rfl, hB, hlen, hpos, hc0, _, rfl, ite2 (fun g => ?_) (fun g => ?_)⟩
    · have e : errC c ps = -22 := by
        unfold errC
        rw [if_pos h1, of_not g, if_neg Bool.false_ne_true]
      rw [e] at q
      exact q
    · have e : errC c ps = 0 := by
        unfold errC
        rw [if_pos h1, of_nnot g, if_pos rfl]
      rw [e] at q
      exact q
/-! ### always_equal -/
def spAlways (K : PySem.W.Frag) : Sp := fun vs H Q _ => ∃ (c : Int) (b : Addr) (ps : List Int), vs = [.int c, .ref b] ∧ SqL K H b (ps.map V.int) ∧ ps.length ≤ 100 ∧ (∀ p ∈ ps, 0 ≤ p) ∧ 0 ≤ c ∧ c ≤ 100 ∧
  (∀ x ∈ Mp.pairs2 ps, x.1 < c.toNat ∧ x.2 < c.toNat) ∧ ∀ H', Same H H' → Q (.int (Mp.alwaysEqual c.toNat ps)) H'
theorem scAlways : FnScope ["count", "pairs", "index"] ["count", "pairs"] (defScope sAlways) := ⟨rfl, rfl, rfl, by decide +kernel, rfl, by decide +kernel, by decide +kernel⟩
theorem alleq_01 (ns : List Int) : Mp.allEqual ns = 0 ∨ Mp.allEqual ns = 1 := by
  unfold Mp.allEqual
  split
  · exact .inr rfl
  · exact .inl rfl
theorem ok_always {f fA fU fQ : Addr} {fd fdA fdU fdQ : FuncData} (F : Fun K "always_equal" "always_equal" sAlways f fd) (CA : Cal P w K mg base 2 "after_pairs" ["values", "pairs"] (spAfter K) fA fdA) (CU : Cal P w K mg base 1 "unit" ["count", "index"] spUnit fU fdU)
    (CQ : Cal P w K mg base 1 "all_equal" ["numerators"] (spAllEq K) fQ fdQ) (mr : mg "range" = none) : FnOk P w K mg base CX0 3 f fd ["count", "pairs"] (spAlways K) := by
  refine F.ok scAlways (fun vs H Q E h => ?_) (fun cdv A outer s H vs Q E hr h => ?_)
  · obtain ⟨c, b, ps, rfl, _⟩ := h
    rfl
  obtain ⟨c, b, ps, rfl, hB, hlen, hpos, hc0, hc, hx, q⟩ := h
  refine ⟨_, pss_cons (ps_for PassesOwn.never rfl (pi_range1 rfl mr (pa_cons (pv 0) pa_nil)) (pg_name (i := 2) scAlways.nd rfl (.inl rfl))
      (pss_one (ps_if (pt_cmpR op_eq (pe_call CQ.ok (hr.mono (by decide)) (by rfl) CQ.at_ CQ.kp CQ.bi .nil pass0
        (pa_cons (pe_call CA.ok (hr.mono (by decide)) (by rfl) CA.at_ CA.kp CA.bi .nil pass0 (pa_cons (pe_call CU.ok (hr.mono (by decide)) (by rfl) CU.at_ CU.kp CU.bi .nil pass0 (pa_cons (pv 0) (pa_cons (pv 2) pa_nil))) (pa_cons (pv 1) pa_nil))) pa_nil)) pe_int (nomark _))
        (pss_one (ps_ret pe_int)) pss_nil)))
    (pss_one (ps_ret pe_int)), ?_⟩
  refine ⟨_, rfl, c, rfl, by omega, by omega, for_range (lo := 0) (n := c.toNat) (fun i σ H' => ∃ v : Option V, σ = [some (.int c), some (.ref b), v] ∧ Same H H' ∧ ∀ k, k < i → Mp.allEqual (Mp.afterPairs (Mp.unit c.toNat k) (Mp.pairs2 ps)) ≠ 0)
    ⟨none, rfl, Same.refl _, fun k hk => absurd hk (Nat.not_lt_zero k)⟩ ?_ ?_⟩
  · rintro i σ H' hi ⟨v, rfl, sm, hall⟩
    have ei : (0 + (i : Int)).toNat = i := by omega
    refine ⟨_, rfl, _, rfl, c, 0 + (i : Int), rfl, hc0, hc, by omega, by omega, fun H1 p1 s1 n1 e1 => ?_⟩
    rw [ei] at e1
    refine ⟨_, rfl, p1, b, _, ps, rfl, SqL.of e1, (sm.trans s1).seq hB, ?_, hlen, hpos, ?_, fun H2 p2 s2 n2 e2 => ?_⟩
    · rw [Mp.unit_len]
      omega
    · rw [Mp.unit_len]
      exact hx
    · refine ⟨p2, _, rfl, SqL.of e2, rfl, _, rfl, ite2 (fun d => ?_) (fun d => ?_)⟩
      · have d1 : Mp.allEqual (Mp.afterPairs (Mp.unit c.toNat i) (Mp.pairs2 ps)) = 0 := V.int.inj (of_decide_eq_true d)
        have e : Mp.alwaysEqual c.toNat ps = 0 := by
          unfold Mp.alwaysEqual
          rw [if_neg]
          intro z
          have := List.all_eq_true.mp z i (List.mem_range.mpr hi)
          rw [d1] at this
          cases this
        rw [e] at q
        exact q _ (sm.trans (s1.trans s2))
      · have d1 : Mp.allEqual (Mp.afterPairs (Mp.unit c.toNat i) (Mp.pairs2 ps)) ≠ 0 := fun z => d (by rw [z]; exact decide_eq_true rfl)
        refine ⟨_, rfl, sm.trans (s1.trans s2), fun k hk => ?_⟩
        by_cases hki : k = i
        · rw [hki]
          exact d1
        · exact hall k (by omega)
  · rintro σ H' ⟨v, rfl, sm, hall⟩
    have e : Mp.alwaysEqual c.toNat ps = 1 := by
      unfold Mp.alwaysEqual
      rw [if_pos]
      refine List.all_eq_true.mpr fun k hk => ?_
      rw [bne_iff_ne]
      exact hall k (List.mem_range.mp hk)
    rw [e] at q
    exact q _ sm
/-! ### always_equalizes -/
def spAlwaysEq (K : PySem.W.Frag) : Sp := fun vs H Q _ => ∃ (c : Int) (b : Addr) (ps : List Int), vs = [.int c, .ref b] ∧ SqL K H b (ps.map V.int) ∧ ps.length ≤ 1000 ∧ (∀ p ∈ ps, 0 ≤ p) ∧ 0 ≤ c ∧ RetL H Q (Mp.ansAlways c ps)
theorem scAlwaysEq : FnScope ["count", "pairs", "error"] ["count", "pairs"] (defScope sAlwaysEq) := ⟨rfl, rfl, rfl, by decide +kernel, rfl, by decide +kernel, by decide +kernel⟩
theorem errC_zero {c : Int} {ps : List Int} (h : errC c ps = 0) : (1 ≤ c ∧ c ≤ 8) ∧ Mp.okPairs c.toNat ps = true := by
  unfold errC at h
  split at h
  · rename_i h1
    split at h
    · rename_i h2
      exact ⟨h1, h2⟩
    · cases h
  · cases h
theorem errC_ne {c : Int} {ps : List Int} (h : ¬ errC c ps = 0) : errC c ps = -22 ∧ ¬ ((1 ≤ c ∧ c ≤ 8) ∧ Mp.okPairs c.toNat ps = true) := by
  unfold errC at h ⊢
  split
  · rename_i h1
    rw [if_pos h1] at h
    split
    · rename_i h2
      rw [if_pos h2] at h
      exact absurd rfl h
    · rename_i h2
      exact ⟨rfl, fun x => h2 x.2⟩
  · rename_i h1
    exact ⟨rfl, fun x => h1 x.1⟩
theorem ok_alwayseq {f fE fA : Addr} {fd fdE fdA : FuncData} (F : Fun K "always_equalizes" "always_equalizes" sAlwaysEq f fd) (CE : Cal P w K mg base 4 "error_of_count" ["count", "pairs"] (spErrC K) fE fdE)
    (CA : Cal P w K mg base 3 "always_equal" ["count", "pairs"] (spAlways K) fA fdA) : FnOk P w K mg base CX0 5 f fd ["count", "pairs"] (spAlwaysEq K) := by
  refine F.ok scAlwaysEq (fun vs H Q E h => ?_) (fun cdv A outer s H vs Q E hr h => ?_)
  · obtain ⟨c, b, ps, rfl, _⟩ := h
    rfl
  obtain ⟨c, b, ps, rfl, hB, hlen, hpos, hc0, q⟩ := h
  refine ⟨_, pss_cons (ps_set (i := 2) scAlwaysEq.nd rfl (.inl rfl) (pe_call CE.ok (hr.mono (by decide)) (by rfl) CE.at_ CE.kp CE.bi .nil pass0 (pa_cons (pv 0) (pa_cons (pv 1) pa_nil))))
    (pss_cons (ps_if (pt_cmpR op_ne (pv 2) pe_int (nomark _)) (pss_one (ps_ret (pe_lst (pa_cons (pv 2) pa_nil)))) pss_nil)
    (pss_one (ps_ret (pe_lst (pa_cons (pe_call CA.ok (hr.mono (by decide)) (by rfl) CA.at_ CA.kp CA.bi .nil pass0 (pa_cons (pv 0) (pa_cons (pv 1) pa_nil))) pa_nil))))), ?_⟩
  refine ⟨_, rfl, _, rfl, c, b, ps, rfl, hB, hlen, hpos, hc0, _, rfl, rfl, _, rfl, ite2 (fun h => ?_) (fun h => ?_)⟩
  · obtain ⟨e1, e2⟩ := errC_ne (ne_test h)
    have e3 : Mp.ansAlways c ps = [-22] := by
      unfold Mp.ansAlways
      split
      · rename_i g1
        rw [if_neg (fun g2 => e2 ⟨g1, g2⟩)]
      · rfl
    refine ⟨_, rfl, (by show 1 ≤ sizeLine; decide), fun p np => ?_⟩
    exact q.at_new (Same.refl _) np (by rw [e3, e1]; rfl)
  obtain ⟨e1, e2⟩ := errC_zero (eq_test h)
  have e3 : Mp.ansAlways c ps = [Mp.alwaysEqual c.toNat ps] := by
    unfold Mp.ansAlways
    rw [if_pos e1, if_pos e2]
  obtain ⟨p40, pin⟩ := Mp.okPairs_in e2
  refine ⟨_, rfl, _, rfl, c, b, ps, rfl, hB, by omega, hpos, hc0, by omega, pin, fun H1 s1 => ⟨(by show 1 ≤ sizeLine; decide), fun p np => ?_⟩⟩
  exact q.at_new s1 np (by rw [e3]; rfl)
end
/-! ## 3. The end: what the top has written -/
theorem all_mk {P : Program} {w : World} {K : PySem.W.Frag} {h : Heap} {mg : Str → Option Value} {fa f1 f2 f3 f4 f5 f6 f7 f8 f9 f10 f11 : Addr} (X : K.In h) (G : h.Ns mainGlobals mg) (hfa : mg "always_equalizes" = some (.ref fa))
    {od1 an1 od2 an2 od3 an3 od4 an4 od5 an5 od6 an6 od7 an7 od8 an8 od9 an9 od10 an10 od11 an11 : Option Addr} {sl1 sl2 sl3 sl4 sl5 sl6 sl7 sl8 sl9 sl10 sl11 : Array (Option Value)} {oc1 kV1 dc1 pm1 cd1 ct1 oc2 kV2 dc2 pm2 cd2 ct2 oc3 kV3 dc3 pm3 cd3 ct3 oc4 kV4 dc4 pm4 cd4 ct4 oc5 kV5 dc5 pm5 cd5 ct5 oc6 kV6 dc6 pm6 cd6 ct6 oc7 kV7 dc7 pm7 cd7 ct7 oc8 kV8 dc8 pm8 cd8 ct8 oc9 kV9 dc9 pm9 cd9 ct9 oc10 kV10 dc10 pm10 cd10 ct10 oc11 kV11 dc11 pm11 cd11 ct11 : Value}
    {t_OUTSIDE t_LEAST_COUNT t_MOST_COUNT t_MOST_PAIRS : Tok}
    (a1 : PySem.W.nsIn K mainGlobals "averaged" = some (some (.ref f1)))
    (l1 : K.lookup f1 = some ⟨oc1, od1, .func (PySem.W.fnOf "averaged" "averaged" (defArgs sAveraged) (defBody sAveraged) (defScope sAveraged) .none kV1 dc1 pm1 an1 cd1 ct1), sl1⟩)
    (c1 : PySem.W.codeIn K cd1 "averaged" = true) (k1 : PySem.W.keepIn K (.ref f1) = true)
    (a2 : PySem.W.nsIn K mainGlobals "after_pairs" = some (some (.ref f2)))
    (l2 : K.lookup f2 = some ⟨oc2, od2, .func (PySem.W.fnOf "after_pairs" "after_pairs" (defArgs sAfter) (defBody sAfter) (defScope sAfter) .none kV2 dc2 pm2 an2 cd2 ct2), sl2⟩)
    (c2 : PySem.W.codeIn K cd2 "after_pairs" = true) (k2 : PySem.W.keepIn K (.ref f2) = true)
    (a3 : PySem.W.nsIn K mainGlobals "all_equal" = some (some (.ref f3)))
    (l3 : K.lookup f3 = some ⟨oc3, od3, .func (PySem.W.fnOf "all_equal" "all_equal" (defArgs sAllEq) (defBody sAllEq) (defScope sAllEq) .none kV3 dc3 pm3 an3 cd3 ct3), sl3⟩)
    (c3 : PySem.W.codeIn K cd3 "all_equal" = true) (k3 : PySem.W.keepIn K (.ref f3) = true)
    (a4 : PySem.W.nsIn K mainGlobals "is_count" = some (some (.ref f4)))
    (l4 : K.lookup f4 = some ⟨oc4, od4, .func (PySem.W.fnOf "is_count" "is_count" (defArgs sCount) (defBody sCount) (defScope sCount) .none kV4 dc4 pm4 an4 cd4 ct4), sl4⟩)
    (c4 : PySem.W.codeIn K cd4 "is_count" = true) (k4 : PySem.W.keepIn K (.ref f4) = true)
    (a5 : PySem.W.nsIn K mainGlobals "is_index" = some (some (.ref f5)))
    (l5 : K.lookup f5 = some ⟨oc5, od5, .func (PySem.W.fnOf "is_index" "is_index" (defArgs sIndex) (defBody sIndex) (defScope sIndex) .none kV5 dc5 pm5 an5 cd5 ct5), sl5⟩)
    (c5 : PySem.W.codeIn K cd5 "is_index" = true) (k5 : PySem.W.keepIn K (.ref f5) = true)
    (a6 : PySem.W.nsIn K mainGlobals "is_pair" = some (some (.ref f6)))
    (l6 : K.lookup f6 = some ⟨oc6, od6, .func (PySem.W.fnOf "is_pair" "is_pair" (defArgs sPair) (defBody sPair) (defScope sPair) .none kV6 dc6 pm6 an6 cd6 ct6), sl6⟩)
    (c6 : PySem.W.codeIn K cd6 "is_pair" = true) (k6 : PySem.W.keepIn K (.ref f6) = true)
    (a7 : PySem.W.nsIn K mainGlobals "are_pairs" = some (some (.ref f7)))
    (l7 : K.lookup f7 = some ⟨oc7, od7, .func (PySem.W.fnOf "are_pairs" "are_pairs" (defArgs sPairs) (defBody sPairs) (defScope sPairs) .none kV7 dc7 pm7 an7 cd7 ct7), sl7⟩)
    (c7 : PySem.W.codeIn K cd7 "are_pairs" = true) (k7 : PySem.W.keepIn K (.ref f7) = true)
    (a8 : PySem.W.nsIn K mainGlobals "unit" = some (some (.ref f8)))
    (l8 : K.lookup f8 = some ⟨oc8, od8, .func (PySem.W.fnOf "unit" "unit" (defArgs sUnit) (defBody sUnit) (defScope sUnit) .none kV8 dc8 pm8 an8 cd8 ct8), sl8⟩)
    (c8 : PySem.W.codeIn K cd8 "unit" = true) (k8 : PySem.W.keepIn K (.ref f8) = true)
    (a9 : PySem.W.nsIn K mainGlobals "error_of_count" = some (some (.ref f9)))
    (l9 : K.lookup f9 = some ⟨oc9, od9, .func (PySem.W.fnOf "error_of_count" "error_of_count" (defArgs sErrC) (defBody sErrC) (defScope sErrC) .none kV9 dc9 pm9 an9 cd9 ct9), sl9⟩)
    (c9 : PySem.W.codeIn K cd9 "error_of_count" = true) (k9 : PySem.W.keepIn K (.ref f9) = true)
    (a10 : PySem.W.nsIn K mainGlobals "always_equal" = some (some (.ref f10)))
    (l10 : K.lookup f10 = some ⟨oc10, od10, .func (PySem.W.fnOf "always_equal" "always_equal" (defArgs sAlways) (defBody sAlways) (defScope sAlways) .none kV10 dc10 pm10 an10 cd10 ct10), sl10⟩)
    (c10 : PySem.W.codeIn K cd10 "always_equal" = true) (k10 : PySem.W.keepIn K (.ref f10) = true)
    (a11 : PySem.W.nsIn K mainGlobals "always_equalizes" = some (some (.ref f11)))
    (l11 : K.lookup f11 = some ⟨oc11, od11, .func (PySem.W.fnOf "always_equalizes" "always_equalizes" (defArgs sAlwaysEq) (defBody sAlwaysEq) (defScope sAlwaysEq) .none kV11 dc11 pm11 an11 cd11 ct11), sl11⟩)
    (c11 : PySem.W.codeIn K cd11 "always_equalizes" = true) (k11 : PySem.W.keepIn K (.ref f11) = true)
    (n_OUTSIDE : PySem.W.nsIn K mainGlobals "OUTSIDE" = some (some (.int (-22) t_OUTSIDE)))
    (n_LEAST_COUNT : PySem.W.nsIn K mainGlobals "LEAST_COUNT" = some (some (.int (1) t_LEAST_COUNT)))
    (n_MOST_COUNT : PySem.W.nsIn K mainGlobals "MOST_COUNT" = some (some (.int (8) t_MOST_COUNT)))
    (n_MOST_PAIRS : PySem.W.nsIn K mainGlobals "MOST_PAIRS" = some (some (.int (20) t_MOST_PAIRS)))
    (z_len : PySem.W.nsIn K mainGlobals "len" = some none)
    (z_list : PySem.W.nsIn K mainGlobals "list" = some none)
    (z_range : PySem.W.nsIn K mainGlobals "range" = some none)
    : ∃ fd : FuncData, (∀ (s : Shared) (us : List Value), us.length = (["count", "pairs"] : List Str).length → BindsTo s fd ⟨us, []⟩ ((["count", "pairs"] : List Str).zip us)) ∧ ∀ base : Heap, K.In base → base.Ns mainGlobals mg → FnOk P w K mg base CX0 5 fa fd ["count", "pairs"] (spAlwaysEq K) := by
  have e := hfa.symm.trans (PySem.W.mg_of X G a11)
  cases e
  have F1 := fun_mk (st := sAveraged) l1 c1 k1
  have b1 := F1.binds (ps := ["numerators", "one", "other"]) fun _ _ _ _ _ _ us hl => match us, hl with | [_, _, _], _ => rfl
  have F2 := fun_mk (st := sAfter) l2 c2 k2
  have b2 := F2.binds (ps := ["values", "pairs"]) fun _ _ _ _ _ _ us hl => match us, hl with | [_, _], _ => rfl
  have F3 := fun_mk (st := sAllEq) l3 c3 k3
  have b3 := F3.binds (ps := ["numerators"]) fun _ _ _ _ _ _ us hl => match us, hl with | [_], _ => rfl
  have F4 := fun_mk (st := sCount) l4 c4 k4
  have b4 := F4.binds (ps := ["count"]) fun _ _ _ _ _ _ us hl => match us, hl with | [_], _ => rfl
  have F5 := fun_mk (st := sIndex) l5 c5 k5
  have b5 := F5.binds (ps := ["index", "count"]) fun _ _ _ _ _ _ us hl => match us, hl with | [_, _], _ => rfl
  have F6 := fun_mk (st := sPair) l6 c6 k6
  have b6 := F6.binds (ps := ["one", "other", "count"]) fun _ _ _ _ _ _ us hl => match us, hl with | [_, _, _], _ => rfl
  have F7 := fun_mk (st := sPairs) l7 c7 k7
  have b7 := F7.binds (ps := ["pairs", "count"]) fun _ _ _ _ _ _ us hl => match us, hl with | [_, _], _ => rfl
  have F8 := fun_mk (st := sUnit) l8 c8 k8
  have b8 := F8.binds (ps := ["count", "index"]) fun _ _ _ _ _ _ us hl => match us, hl with | [_, _], _ => rfl
  have F9 := fun_mk (st := sErrC) l9 c9 k9
  have b9 := F9.binds (ps := ["count", "pairs"]) fun _ _ _ _ _ _ us hl => match us, hl with | [_, _], _ => rfl
  have F10 := fun_mk (st := sAlways) l10 c10 k10
  have b10 := F10.binds (ps := ["count", "pairs"]) fun _ _ _ _ _ _ us hl => match us, hl with | [_, _], _ => rfl
  have F11 := fun_mk (st := sAlwaysEq) l11 c11 k11
  have y_len := PySem.W.mg_none_of X G z_len
  have y_list := PySem.W.mg_none_of X G z_list
  have y_range := PySem.W.mg_none_of X G z_range
  have y_OUTSIDE := PySem.W.mg_of X G n_OUTSIDE
  have y_LEAST_COUNT := PySem.W.mg_of X G n_LEAST_COUNT
  have y_MOST_COUNT := PySem.W.mg_of X G n_MOST_COUNT
  have y_MOST_PAIRS := PySem.W.mg_of X G n_MOST_PAIRS
  refine ⟨PySem.W.fnOf "always_equalizes" "always_equalizes" (defArgs sAlwaysEq) (defBody sAlwaysEq) (defScope sAlwaysEq) .none kV11 dc11 pm11 an11 cd11 ct11, fun s us hu => match us, hu with | [_, _], _ => .of_eq rfl, fun base _ _ => ?_⟩
  have C1 : Cal P w K mg base 1 "averaged" ["numerators", "one", "other"] (spAveraged K) f1 _ := ⟨ok_averaged F1 , PySem.W.mg_of X G a1, k1, b1⟩
  have C2 : Cal P w K mg base 2 "after_pairs" ["values", "pairs"] (spAfter K) f2 _ := ⟨ok_after F2 C1 y_list y_range y_len, PySem.W.mg_of X G a2, k2, b2⟩
  have C3 : Cal P w K mg base 1 "all_equal" ["numerators"] (spAllEq K) f3 _ := ⟨ok_alleq F3 , PySem.W.mg_of X G a3, k3, b3⟩
  have C4 : Cal P w K mg base 1 "is_count" ["count"] spCount f4 _ := ⟨ok_count F4 y_LEAST_COUNT y_MOST_COUNT, PySem.W.mg_of X G a4, k4, b4⟩
  have C5 : Cal P w K mg base 1 "is_index" ["index", "count"] spIndex f5 _ := ⟨ok_index F5 , PySem.W.mg_of X G a5, k5, b5⟩
  have C6 : Cal P w K mg base 2 "is_pair" ["one", "other", "count"] spPair f6 _ := ⟨ok_pair F6 C5, PySem.W.mg_of X G a6, k6, b6⟩
  have C7 : Cal P w K mg base 3 "are_pairs" ["pairs", "count"] (spPairs K) f7 _ := ⟨ok_pairs F7 C6 y_len y_range y_MOST_PAIRS, PySem.W.mg_of X G a7, k7, b7⟩
  have C8 : Cal P w K mg base 1 "unit" ["count", "index"] spUnit f8 _ := ⟨ok_unit F8 , PySem.W.mg_of X G a8, k8, b8⟩
  have C9 : Cal P w K mg base 4 "error_of_count" ["count", "pairs"] (spErrC K) f9 _ := ⟨ok_errc F9 C4 C7 y_OUTSIDE, PySem.W.mg_of X G a9, k9, b9⟩
  have C10 : Cal P w K mg base 3 "always_equal" ["count", "pairs"] (spAlways K) f10 _ := ⟨ok_always F10 C2 C8 C3 y_range, PySem.W.mg_of X G a10, k10, b10⟩
  exact ok_alwayseq F11 C9 C10
end Mw
/-! ## 4. The statement -/
open PySem PySem.W PyProof.Rows
set_option maxRecDepth 100000 in
set_option maxHeartbeats 8000000 in
theorem PySem.Challenge.cw_meanpairs_s03_always_equalizes_holds : PySem.Challenge.rw_meanpairs_s03_always_equalizes.Holds := by
  w_on; k_headS; (case hw => exact ⟨[.int 0, .list []], by decide +kernel, by decide +kernel⟩)
  k_fillS
  refine L2.walk_specK (r := PySem.Challenge.rw_meanpairs_s03_always_equalizes) (k := 5) (CX := L2.CX0) (ps := ["count", "pairs"]) (sp := Mw.spAlwaysEq) (by decide +kernel) rfl rfl ⟨rfl, by decide, by decide⟩ (fun w h Y => PySem.W.kIn_of Y) ?F ?S (fun _ _ _ _ z => z)
  case F =>
    intro w mg fa h Y KX G hmg
    refine' Mw.all_mk KX G hmg ?a1 ?l1 ?c1 ?k1 ?a2 ?l2 ?c2 ?k2 ?a3 ?l3 ?c3 ?k3 ?a4 ?l4 ?c4 ?k4 ?a5 ?l5 ?c5 ?k5 ?a6 ?l6 ?c6 ?k6 ?a7 ?l7 ?c7 ?k7 ?a8 ?l8 ?c8 ?k8 ?a9 ?l9 ?c9 ?k9 ?a10 ?l10 ?c10 ?k10 ?a11 ?l11 ?c11 ?k11 ?n_OUTSIDE ?n_LEAST_COUNT ?n_MOST_COUNT ?n_MOST_PAIRS ?z_len ?z_list ?z_range
    (case a1 => k_is); (case l1 => k_is); (case c1 => k_is); (case k1 => k_is); (case a2 => k_is); (case l2 => k_is); (case c2 => k_is); (case k2 => k_is)
    (case a3 => k_is); (case l3 => k_is); (case c3 => k_is); (case k3 => k_is); (case a4 => k_is); (case l4 => k_is); (case c4 => k_is); (case k4 => k_is)
    (case a5 => k_is); (case l5 => k_is); (case c5 => k_is); (case k5 => k_is); (case a6 => k_is); (case l6 => k_is); (case c6 => k_is); (case k6 => k_is)
    (case a7 => k_is); (case l7 => k_is); (case c7 => k_is); (case k7 => k_is); (case a8 => k_is); (case l8 => k_is); (case c8 => k_is); (case k8 => k_is)
    (case a9 => k_is); (case l9 => k_is); (case c9 => k_is); (case k9 => k_is); (case a10 => k_is); (case l10 => k_is); (case c10 => k_is); (case k10 => k_is)
    (case a11 => k_is); (case l11 => k_is); (case c11 => k_is); (case k11 => k_is); (case n_OUTSIDE => k_is); (case n_LEAST_COUNT => k_is); (case n_MOST_COUNT => k_is); (case n_MOST_PAIRS => k_is)
    (case z_len => k_is); (case z_list => k_is); (case z_range => k_is)
  case S =>
    intro K H xs a hO hwi hask hx
    have q : (Codec.inInt 0 4294967295 a.1 && ((Codec.inLen 0 44 a.2.1 && a.2.1.all (Codec.inInt 0 4294967295)) && true)) = true := hwi
    simp only [Bool.and_eq_true] at q
    have p0 : 0 ≤ a.1 := (Codec.inInt_iff.mp q.1).1
    have n1 := (Codec.inNat_iff.mp q.2.1.1).2
    have p1 : ∀ v ∈ a.2.1, 0 ≤ v := fun v hv => (Codec.inInt_iff.mp (List.all_eq_true.mp q.2.1.2 v hv)).1
    cases hx with
    | cons h0 r0 =>
    cases r0 with
    | cons h1 r1 =>
    cases r1
    cases h0
    cases h1
    rename_i hs1 ha1
    have e1 := L2.ints_dw a.2.1 _ ha1
    subst e1
    refine ⟨a.1, _, a.2.1, rfl, hs1, by omega, p1, p0, ?_⟩
    intro H' p _ _ hp
    show L2.Dw K H' (.ref p) (WData.list ((PyKs606.always_equalizes a.1 a.2.1).map WData.int))
    rw [Mp.always_spec _ _ p0]
    exact .lst (L2.SqL.of hp) (L2.dw_ints _)
#print axioms PySem.Challenge.cw_meanpairs_s03_always_equalizes_holds
