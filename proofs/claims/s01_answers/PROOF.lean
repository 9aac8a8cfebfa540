import PyProof.Rows.All
import Wide.All
import OpenK.AllK
import Wide.FinOn
import Open.SpecLaws
import KE.KStateDown
import KE.OsGo
import HandS.ForSpec
import HandS.Comp
import HandS.Defaults
import HandS.Head0
import HandS.Head1
import HandS.Head2
import HandS.Head3
import HandS.Head4
import HandS.HeadEnd
import HandS.HeadHook1
import HandS.HeadHook2
import HandS.Evl
import HandS.Wide
import KE.OsShapes
import PyFlatLaws
import PyKp417
import PySem.Challenge.RW_policywatch_s01_answers
set_option Elab.async false
set_option linter.all false
namespace Pw
abbrev St := Kp416.Setting
abbrev Mo := Kp417.Monitor
abbrev tws (s : St) : List Nat := s.model.testWeights
abbrev pws (s : St) : List Nat := s.model.productionWeights
/-- what holds of a setting at any time -/
structure GoodS (s : St) : Prop where
  n1 : 1 ≤ (tws s).length
  n5 : (tws s).length ≤ 5
  len : (pws s).length = (tws s).length
  t1 : 1 ≤ (tws s).sum
  p1 : 1 ≤ (pws s).sum
  t9 : (tws s).sum ≤ 495
  p9 : (pws s).sum ≤ 495
  d1 : 1 ≤ s.model.priorDen
  pd : s.model.priorNum ≤ s.model.priorDen
  dB : s.model.priorDen < 2 ^ 40
  g9 : s.gain ≤ 999
  l9 : s.loss ≤ 999
  h9 : s.harmPrice ≤ 999
  c9 : s.testPrice ≤ 999
theorem q0 {b : Int} (h : 0 < b) : (b : Rat) ≠ 0 := by
  intro e
  have := Rat.intCast_eq_zero_iff.mp e
  omega
theorem qn0 {b : Nat} (h : 1 ≤ b) : (b : Rat) ≠ 0 := by
  intro e
  have := Rat.natCast_eq_zero_iff.mp e
  omega
theorem qn1 {b : Nat} (h : 1 ≤ b) : (0 : Rat) < (b : Rat) := Rat.natCast_pos.mpr (by omega)
theorem qi1 {b : Int} (h : 0 < b) : (0 : Rat) < (b : Rat) := Rat.intCast_pos.mpr h
/-! ### lowest terms -/
theorem low_num (t : Int) (b : Nat) (hb : 0 < b) : ((t : Rat) / ((b : Int) : Rat)).num = t / (Nat.gcd t.natAbs b : Int) := by
  rw [← Rat.divInt_eq_div, Rat.divInt_ofNat, Rat.num_mkRat, if_neg (by omega), Nat.gcd_comm]
theorem low_den (t : Int) (b : Nat) (hb : 0 < b) : (((t : Rat) / ((b : Int) : Rat)).den : Int) = (b : Int) / (Nat.gcd t.natAbs b : Int) := by
  rw [← Rat.divInt_eq_div, Rat.divInt_ofNat, Rat.den_mkRat, if_neg (by omega), Nat.gcd_comm]
  exact Int.natCast_ediv .. |>.symm ▸ rfl
theorem q_eq (q : Rat) : q = (q.num : Rat) / ((q.den : Int) : Rat) := by
  rw [← Rat.divInt_eq_div, Rat.num_divInt_den]
theorem q_den (q : Rat) : (0 : Int) < (q.den : Int) := by
  have := q.den_pos
  omega
theorem low_den_le (t : Int) (b : Nat) (hb : 0 < b) : ((t : Rat) / ((b : Int) : Rat)).den ≤ b := by
  have h := low_den t b hb
  have h2 : (b : Int) / (Nat.gcd t.natAbs b : Int) ≤ b := Int.ediv_le_self _ (by omega)
  omega
theorem low_num_le (t : Int) (b : Nat) (hb : 0 < b) : ((t : Rat) / ((b : Int) : Rat)).num.natAbs ≤ t.natAbs := by
  rw [low_num t b hb]
  have := Int.natAbs_ediv_le_natAbs t (Nat.gcd t.natAbs b : Int)
  exact this
/-- a fraction is less than another one -/
theorem fr_lt {a b c d : Int} (hb : 0 < b) (hd : 0 < d) : ((a : Rat) / (b : Rat) < (c : Rat) / (d : Rat)) ↔ a * d < c * b := by
  rw [Rat.div_lt_iff (qi1 hb)]
  have e : (c : Rat) / (d : Rat) * (b : Rat) = ((c * b : Int) : Rat) / (d : Rat) := by
    rw [Rat.intCast_mul]
    grind
  rw [e, Rat.lt_div_iff (qi1 hd), ← Rat.intCast_mul, Rat.intCast_lt_intCast]
theorem q_lt (p q : Rat) : p.num * (q.den : Int) < q.num * (p.den : Int) ↔ p < q := (Rat.lt_iff p q).symm
theorem q_pos {t b : Int} (hb : 0 < b) : (0 : Rat) < (t : Rat) / (b : Rat) ↔ 0 < t := by
  rw [Rat.lt_div_iff (qi1 hb), Rat.zero_mul]
  exact Rat.intCast_pos
/-! ### sums -/
theorem sum_cast : ∀ l : List Nat, (l.map fun n : Nat => ((n : Nat) : Int)).sum = ((l.sum : Nat) : Int)
  | [] => rfl
  | a :: r => by
    rw [List.map_cons, List.sum_cons, List.sum_cons, sum_cast r]
    omega
theorem sum_div {α : Type} (f : α → Int) (b : Rat) : ∀ l : List α, (l.map fun x => ((f x : Int) : Rat) / b).sum = (((l.map f).sum : Int) : Rat) / b
  | [] => by
    simp only [List.map_nil, List.sum_nil, Rat.intCast_zero]
    grind
  | a :: r => by
    rw [List.map_cons, List.sum_cons, sum_div f b r, List.map_cons, List.sum_cons, Rat.intCast_add]
    grind
theorem sum_mul {α : Type} (c : Int) (f : α → Int) : ∀ l : List α, (l.map fun x => c * f x).sum = c * (l.map f).sum
  | [] => by simp
  | a :: r => by
    rw [List.map_cons, List.sum_cons, sum_mul c f r, List.map_cons, List.sum_cons, Int.mul_add]
theorem sum_map_cast {α : Type} (f : α → Nat) : ∀ l : List α, (l.map fun x => ((f x : Nat) : Int)).sum = (((l.map f).sum : Nat) : Int)
  | [] => rfl
  | a :: r => by
    rw [List.map_cons, List.sum_cons, sum_map_cast f r, List.map_cons, List.sum_cons]
    omega
theorem map_eq {α β : Type} {f g : α → β} {l : List α} (h : ∀ x ∈ l, f x = g x) : l.map f = l.map g := List.map_congr_left h
theorem getD_le_sum : ∀ (l : List Nat) (i : Nat), l.getD i 0 ≤ l.sum
  | [], i => by simp
  | a :: r, 0 => by simp
  | a :: r, i + 1 => by
    have := getD_le_sum r i
    simp only [List.getD_cons_succ, List.sum_cons]
    omega
/-! ### the rational agent -/
def vTop (s : St) (i : Nat) : Int := (s.gain : Int) * ((s.model.priorDen : Int) - (s.model.priorNum : Int)) * (((pws s).getD i 0 : Nat) : Int) * (((tws s).sum : Nat) : Int) -
  (s.loss : Int) * (s.model.priorNum : Int) * (((tws s).getD i 0 : Nat) : Int) * (((pws s).sum : Nat) : Int)
def vBot (s : St) : Nat := s.model.priorDen * (tws s).sum * (pws s).sum
theorem vBot_pos {s : St} (G : GoodS s) : 0 < vBot s := Nat.mul_pos (Nat.mul_pos G.d1 G.t1) G.p1
theorem value_eq {s : St} (G : GoodS s) (i : Nat) : Kp416.cheatingValue s i = ((vTop s i : Int) : Rat) / (((vBot s : Nat) : Int) : Rat) := by
  have h1 := qn0 G.d1
  have h2 := qn0 G.t1
  have h3 := qn0 G.p1
  unfold Kp416.cheatingValue Kp415.jointProduction Kp415.jointTest Kp415.priorProduction Kp415.priorTest Kp415.productionShare Kp415.testShare Kp415.share vTop vBot
  simp only [Rat.intCast_sub, Rat.intCast_mul, Rat.intCast_natCast, Rat.natCast_mul]
  simp only [tws, pws] at *
  grind
theorem pays_eq {s : St} (G : GoodS s) (i : Nat) : decide (0 < vTop s i) = Kp416.pays s i := by
  unfold Kp416.pays
  rw [value_eq G]
  have h : (0 : Rat) < ((vTop s i : Int) : Rat) / (((vBot s : Nat) : Int) : Rat) ↔ 0 < vTop s i := q_pos (by have := vBot_pos G; omega)
  by_cases c : 0 < vTop s i
  · rw [decide_eq_true c, decide_eq_true (h.mpr c)]
  · rw [decide_eq_false c, decide_eq_false (fun z => c (h.mp z))]
theorem profit_eq {s : St} (G : GoodS s) : Kp416.expectedProfit s = ((((Kp416.cheatingSignals s).map (vTop s)).sum : Int) : Rat) / (((vBot s : Nat) : Int) : Rat) := by
  unfold Kp416.expectedProfit Kp416.sumOver
  rw [map_eq (g := fun x => ((vTop s x : Int) : Rat) / (((vBot s : Nat) : Int) : Rat)) fun x _ => value_eq G x]
  exact sum_div _ _ _
/-- the weights of some signals -/
def wAt (ws : List Nat) (l : List Nat) : Nat := (l.map fun i => ws.getD i 0).sum
theorem detect_eq {s : St} (G : GoodS s) : Kp416.detectionProbability s = (((s.model.priorNum : Int) * ((wAt (tws s) (Kp416.cheatingSignals s) : Nat) : Int) : Int) : Rat) / (((s.model.priorDen * (tws s).sum : Nat) : Int) : Rat) := by
  have h1 := qn0 G.d1
  have h2 := qn0 G.t1
  unfold Kp416.detectionProbability Kp416.sumOver wAt
  rw [map_eq (g := fun i => (((s.model.priorNum : Int) * (((tws s).getD i 0 : Nat) : Int) : Int) : Rat) / (((s.model.priorDen * (tws s).sum : Nat) : Int) : Rat)) (fun i _ => ?_)]
  · rw [sum_div, sum_mul, sum_map_cast]
  · unfold Kp415.jointTest Kp415.priorTest Kp415.testShare Kp415.share
    simp only [Rat.intCast_mul, Rat.intCast_natCast, Rat.natCast_mul]
    simp only [tws] at *
    grind
theorem harm_eq {s : St} (G : GoodS s) : Kp416.harmProbability s = ((((s.model.priorDen : Int) - (s.model.priorNum : Int)) * ((wAt (pws s) (Kp416.cheatingSignals s) : Nat) : Int) : Int) : Rat) / (((s.model.priorDen * (pws s).sum : Nat) : Int) : Rat) := by
  have h1 := qn0 G.d1
  have h2 := qn0 G.p1
  unfold Kp416.harmProbability Kp416.sumOver wAt
  rw [map_eq (g := fun i => ((((s.model.priorDen : Int) - (s.model.priorNum : Int)) * (((pws s).getD i 0 : Nat) : Int) : Int) : Rat) / (((s.model.priorDen * (pws s).sum : Nat) : Int) : Rat)) (fun i _ => ?_)]
  · rw [sum_div, sum_mul, sum_map_cast]
  · unfold Kp415.jointProduction Kp415.priorProduction Kp415.priorTest Kp415.productionShare Kp415.share
    simp only [Rat.intCast_mul, Rat.intCast_sub, Rat.intCast_natCast, Rat.natCast_mul]
    simp only [pws] at *
    grind
/-- the numerator, the denominator of the total cost -/
def cTop (s : St) (q : Rat) : Int := (s.testPrice : Int) * (s.model.priorNum : Int) * (q.den : Int) + (s.harmPrice : Int) * q.num * (s.model.priorDen : Int)
theorem cost_eq {s : St} (G : GoodS s) : Kp416.totalCost s = ((cTop s (Kp416.harmProbability s) : Int) : Rat) / (((s.model.priorDen * (Kp416.harmProbability s).den : Nat) : Int) : Rat) := by
  have h1 := qn0 G.d1
  unfold Kp416.totalCost
  generalize Kp416.harmProbability s = q
  have e := q_eq q
  have h2 : (((q.den : Nat) : Int) : Rat) ≠ 0 := q0 (q_den q)
  unfold cTop Kp415.priorTest
  simp only [Rat.intCast_mul, Rat.intCast_add, Rat.intCast_natCast, Rat.natCast_mul] at *
  conv => lhs; rw [e]
  grind
/-! ### deterrent priors -/
def dEarn (s : St) (i : Nat) : Nat := s.gain * (pws s).getD i 0 * (tws s).sum
def dLost (s : St) (i : Nat) : Nat := s.loss * (tws s).getD i 0 * (pws s).sum
theorem deter_eq {s : St} (G : GoodS s) (i : Nat) : Kp416.deterrentPriorAt s i = if dEarn s i = 0 then some 0 else if dLost s i = 0 then none else
    some ((((dEarn s i : Nat) : Int) : Rat) / (((dEarn s i + dLost s i : Nat) : Int) : Rat)) := by
  have h2 := qn0 G.t1
  have h3 := qn0 G.p1
  have eg : (s.gain : Rat) * Kp415.productionShare s.model i = ((dEarn s i : Nat) : Rat) / ((((tws s).sum * (pws s).sum : Nat)) : Rat) := by
    unfold Kp415.productionShare Kp415.share dEarn
    simp only [Rat.natCast_mul]
    simp only [tws, pws] at *
    grind
  have el : (s.loss : Rat) * Kp415.testShare s.model i = ((dLost s i : Nat) : Rat) / ((((tws s).sum * (pws s).sum : Nat)) : Rat) := by
    unfold Kp415.testShare Kp415.share dLost
    simp only [Rat.natCast_mul]
    simp only [tws, pws] at *
    grind
  have hm : ((((tws s).sum * (pws s).sum : Nat)) : Rat) ≠ 0 := qn0 (Nat.mul_pos G.t1 G.p1)
  unfold Kp416.deterrentPriorAt
  simp only [eg, el]
  generalize ((((tws s).sum * (pws s).sum : Nat)) : Rat) = m at hm
  have z : ∀ n : Nat, ((n : Rat) / m = 0 ↔ n = 0) := fun n => by
    constructor
    · intro h
      have : (n : Rat) = 0 := by grind
      exact Rat.natCast_eq_zero_iff.mp this
    · intro h
      rw [h]
      have : ((0 : Nat) : Rat) = 0 := rfl
      rw [this]
      grind
  by_cases c1 : dEarn s i = 0
  · rw [if_pos ((z _).mpr c1), if_pos c1]
  · rw [if_neg (fun h => c1 ((z _).mp h)), if_neg c1]
    by_cases c2 : dLost s i = 0
    · rw [if_pos ((z _).mpr c2), if_pos c2]
    · rw [if_neg (fun h => c2 ((z _).mp h)), if_neg c2]
      congr 1
      have h4 : ((dEarn s i : Nat) : Rat) + ((dLost s i : Nat) : Rat) ≠ 0 := by
        rw [← Rat.natCast_add]
        exact qn0 (by omega)
      simp only [Rat.intCast_natCast, Rat.natCast_add]
      grind
end Pw
namespace Pw
/-! ## bounds -/
def SmQ (q : Rat) : Prop := q.num.natAbs < 2 ^ 200 ∧ q.den < 2 ^ 200
theorem SmQ.den {q : Rat} (h : SmQ q) : ((q.den : Nat) : Int).natAbs < 2 ^ 200 := by
  rw [Int.natAbs_natCast]
  exact h.2
theorem smQ_low {t : Int} {b : Nat} (hb : 0 < b) (h1 : t.natAbs < 2 ^ 200) (h2 : b < 2 ^ 200) : SmQ ((t : Rat) / (((b : Nat) : Int) : Rat)) :=
  ⟨Nat.lt_of_le_of_lt (low_num_le t b hb) h1, Nat.lt_of_le_of_lt (low_den_le t b hb) h2⟩
theorem smQ_0 : SmQ 0 := ⟨by show (0 : Int).natAbs < _; decide, by show 1 < _; decide⟩
theorem smQ_1 : SmQ 1 := ⟨by show (1 : Int).natAbs < _; decide, by show 1 < _; decide⟩
theorem nb_mul {i j : Int} {a b : Nat} (ha : i.natAbs < 2 ^ a) (hb : j.natAbs < 2 ^ b) : (i * j).natAbs < 2 ^ (a + b) := by
  rw [Int.natAbs_mul, Nat.pow_add]
  exact Nat.mul_lt_mul'' ha hb
theorem nb_add {i j : Int} {a : Nat} (ha : i.natAbs < 2 ^ a) (hb : j.natAbs < 2 ^ a) : (i + j).natAbs < 2 ^ (a + 1) := by
  have h := Int.natAbs_add_le i j
  rw [Nat.pow_succ]
  omega
theorem nb_mono {i : Int} {a b : Nat} (ha : i.natAbs < 2 ^ a) (h : a ≤ b) : i.natAbs < 2 ^ b := Nat.lt_of_lt_of_le ha (Nat.pow_le_pow_right (by decide) h)
theorem nb_nat {n a : Nat} (h : n < 2 ^ a) : ((n : Nat) : Int).natAbs < 2 ^ a := by
  rw [Int.natAbs_natCast]
  exact h
theorem wAt_le {ws : List Nat} {b : Nat} (h : ∀ i, ws.getD i 0 ≤ b) : ∀ l : List Nat, wAt ws l ≤ l.length * b
  | [] => by simp [wAt]
  | x :: r => by
    have ih := wAt_le h r
    have hx := h x
    unfold wAt at ih ⊢
    rw [List.map_cons, List.sum_cons, List.length_cons, Nat.add_mul]
    omega
theorem chs_len {s : St} (G : GoodS s) : (Kp416.cheatingSignals s).length ≤ 5 := by
  have h := List.length_filter_le (Kp416.pays s) (List.range (Kp415.signalCount s.model))
  rw [List.length_range] at h
  exact Nat.le_trans h G.n5
theorem wAt_p {s : St} (G : GoodS s) : wAt (pws s) (Kp416.cheatingSignals s) ≤ 2475 := by
  have h := wAt_le (ws := pws s) (b := 495) (fun i => Nat.le_trans (getD_le_sum _ _) G.p9) (Kp416.cheatingSignals s)
  have h2 := chs_len G
  have h3 : (Kp416.cheatingSignals s).length * 495 ≤ 5 * 495 := Nat.mul_le_mul_right _ h2
  omega
theorem wAt_t {s : St} (G : GoodS s) : wAt (tws s) (Kp416.cheatingSignals s) ≤ 2475 := by
  have h := wAt_le (ws := tws s) (b := 495) (fun i => Nat.le_trans (getD_le_sum _ _) G.t9) (Kp416.cheatingSignals s)
  have h2 := chs_len G
  have h3 : (Kp416.cheatingSignals s).length * 495 ≤ 5 * 495 := Nat.mul_le_mul_right _ h2
  omega
theorem pdp_pos {s : St} (G : GoodS s) : 0 < s.model.priorDen * (pws s).sum := Nat.mul_pos G.d1 G.p1
theorem pdt_pos {s : St} (G : GoodS s) : 0 < s.model.priorDen * (tws s).sum := Nat.mul_pos G.d1 G.t1
theorem pdp_lt' {s : St} (G : GoodS s) : s.model.priorDen * (pws s).sum < 2 ^ 50 := by
  have h1 : s.model.priorDen * (pws s).sum ≤ 2 ^ 40 * 495 := Nat.mul_le_mul (Nat.le_of_lt G.dB) G.p9
  omega
theorem harm_den {s : St} (G : GoodS s) : (Kp416.harmProbability s).den < 2 ^ 50 := by
  rw [harm_eq G]
  exact Nat.lt_of_le_of_lt (low_den_le _ _ (pdp_pos G)) (pdp_lt' G)
theorem harm_num {s : St} (G : GoodS s) : (Kp416.harmProbability s).num.natAbs < 2 ^ 60 := by
  rw [harm_eq G]
  refine Nat.lt_of_le_of_lt (low_num_le _ _ (pdp_pos G)) ?_
  have h1 := wAt_p G
  have h2 := G.dB
  have h3 := G.pd
  refine nb_mono (nb_mul (a := 41) (b := 12) ?_ (nb_nat (by omega))) (by decide)
  omega
theorem cost_bot {s : St} (G : GoodS s) : 0 < s.model.priorDen * (Kp416.harmProbability s).den := Nat.mul_pos G.d1 (Kp416.harmProbability s).den_pos
theorem cost_bot_lt {s : St} (G : GoodS s) : s.model.priorDen * (Kp416.harmProbability s).den < 2 ^ 100 := by
  have h1 : s.model.priorDen * (Kp416.harmProbability s).den ≤ 2 ^ 40 * 2 ^ 50 := Nat.mul_le_mul (Nat.le_of_lt G.dB) (Nat.le_of_lt (harm_den G))
  omega
theorem cTop_lt {s : St} (G : GoodS s) : (cTop s (Kp416.harmProbability s)).natAbs < 2 ^ 200 := by
  have h1 := harm_den G
  have h2 := harm_num G
  have h3 := G.dB
  have h4 := G.pd
  have h5 := G.c9
  have h6 := G.h9
  unfold cTop
  refine nb_mono (nb_add (a := 110) (nb_mono (nb_mul (a := 50) (b := 50) (nb_mono (nb_mul (a := 10) (b := 40) (nb_nat (by omega)) (nb_nat (by omega))) (by decide)) (nb_nat h1)) (by decide)) (nb_mul (a := 70) (b := 40) (nb_mono (nb_mul (a := 10) (b := 60) (nb_nat (by omega)) h2) (by decide)) (nb_nat h3))) (by decide)
theorem smQ_cost {s : St} (G : GoodS s) : SmQ (Kp416.totalCost s) := by
  rw [cost_eq G]
  exact smQ_low (cost_bot G) (cTop_lt G) (Nat.lt_trans (cost_bot_lt G) (by decide))
theorem dEarn_lt {s : St} (G : GoodS s) (i : Nat) : dEarn s i < 2 ^ 30 := by
  unfold dEarn
  have h1 : s.gain * (pws s).getD i 0 ≤ 999 * 495 := Nat.mul_le_mul G.g9 (Nat.le_trans (getD_le_sum _ _) G.p9)
  have h2 : s.gain * (pws s).getD i 0 * (tws s).sum ≤ 999 * 495 * 495 := Nat.mul_le_mul h1 G.t9
  omega
theorem dLost_lt {s : St} (G : GoodS s) (i : Nat) : dLost s i < 2 ^ 30 := by
  unfold dLost
  have h1 : s.loss * (tws s).getD i 0 ≤ 999 * 495 := Nat.mul_le_mul G.l9 (Nat.le_trans (getD_le_sum _ _) G.t9)
  have h2 : s.loss * (tws s).getD i 0 * (pws s).sum ≤ 999 * 495 * 495 := Nat.mul_le_mul h1 G.p9
  omega
/-- a prior: from 0 to 1, not too long -/
structure Pri (q : Rat) : Prop where
  n0 : 0 ≤ q.num
  le : q.num ≤ (q.den : Int)
  dB : q.den < 2 ^ 40
theorem pri_0 : Pri 0 := ⟨by show (0 : Int) ≤ 0; decide, by show (0 : Int) ≤ 1; decide, by show 1 < _; decide⟩
theorem pri_1 : Pri 1 := ⟨by show (0 : Int) ≤ 1; decide, by show (1 : Int) ≤ 1; decide, by show 1 < _; decide⟩
theorem Pri.sm {q : Rat} (h : Pri q) : SmQ q := by
  have h1 := h.n0
  have h2 := h.le
  have h3 := h.dB
  constructor <;> omega
theorem pri_at {s : St} (G : GoodS s) {i : Nat} {q : Rat} (h : Kp416.deterrentPriorAt s i = some q) : Pri q := by
  rw [deter_eq G] at h
  have e1 := dEarn_lt G i
  have e2 := dLost_lt G i
  by_cases c1 : dEarn s i = 0
  · rw [if_pos c1] at h
    cases h
    exact pri_0
  · rw [if_neg c1] at h
    by_cases c2 : dLost s i = 0
    · rw [if_pos c2] at h
      cases h
    · rw [if_neg c2] at h
      have h' := Option.some.inj h
      have hb : 0 < dEarn s i + dLost s i := by omega
      have d1 := low_den_le (((dEarn s i : Nat) : Int)) _ hb
      have n1 := low_num (((dEarn s i : Nat) : Int)) _ hb
      have n2 := low_den (((dEarn s i : Nat) : Int)) _ hb
      rw [h'] at d1 n1 n2
      refine ⟨?_, ?_, by omega⟩
      · rw [n1]
        exact Int.ediv_nonneg (by omega) (by omega)
      · rw [n1, n2]
        exact Int.ediv_le_ediv (by have := Nat.gcd_pos_of_pos_right (((dEarn s i : Nat) : Int)).natAbs hb; omega) (by omega)
theorem pri_mem {s : St} (G : GoodS s) {q : Rat} (h : q ∈ Kp416.candidatePriors s) : Pri q := by
  unfold Kp416.candidatePriors at h
  rcases List.mem_cons.mp h with e | h
  · rw [e]
    exact pri_0
  · rcases List.mem_cons.mp h with e | h
    · rw [e]
      exact pri_1
    · obtain ⟨i, _, hi⟩ := List.mem_filterMap.mp h
      exact pri_at G hi
theorem good_prior {s : St} (G : GoodS s) {q : Rat} (h : Pri q) : GoodS (Kp416.withPrior s q) :=
  ⟨G.n1, G.n5, G.len, G.t1, G.p1, G.t9, G.p9, q.den_pos, by
    have h1 := h.n0
    have h2 := h.le
    show q.num.toNat ≤ q.den
    omega, h.dB, G.g9, G.l9, G.h9, G.c9⟩
theorem earn_i (s : St) (i : Nat) : ((s.gain : Nat) : Int) * (((pws s).getD i 0 : Nat) : Int) * (((tws s).sum : Nat) : Int) = ((dEarn s i : Nat) : Int) := by
  unfold dEarn
  rw [Int.natCast_mul, Int.natCast_mul]
theorem lost_i (s : St) (i : Nat) : ((s.loss : Nat) : Int) * (((tws s).getD i 0 : Nat) : Int) * (((pws s).sum : Nat) : Int) = ((dLost s i : Nat) : Int) := by
  unfold dLost
  rw [Int.natCast_mul, Int.natCast_mul]
/-! ## the deterrent prior of the first signals -/
def dStep (s : St) (best : Option Rat) (signal : Nat) : Option Rat := match best, Kp416.deterrentPriorAt s signal with
  | some x, some y => some (Kp415.larger x y)
  | _, _ => none
def dI (s : St) (i : Nat) : Option Rat := (List.range i).foldl (dStep s) (some 0)
theorem dI_all (s : St) : dI s (tws s).length = Kp416.deterrentPrior s := rfl
theorem dI_succ (s : St) (i : Nat) : dI s (i + 1) = dStep s (dI s i) i := by
  unfold dI
  rw [List.range_succ, List.foldl_append]
  rfl
theorem dI_none {s : St} {i : Nat} (h : dI s i = none) : ∀ k, dI s (i + k) = none
  | 0 => h
  | k + 1 => by
    have e : i + (k + 1) = (i + k) + 1 := by omega
    rw [e, dI_succ, dI_none h k]
    rfl
/-! ## the cheapest prior among the first ones -/
def cStep (s : St) (best x : Rat) : Rat := if Kp416.totalCost (Kp416.withPrior s x) < Kp416.totalCost (Kp416.withPrior s best) ∨ (Kp416.totalCost (Kp416.withPrior s x) = Kp416.totalCost (Kp416.withPrior s best) ∧ x < best) then x else best
def cI (s : St) (i : Nat) : Rat := ((Kp416.candidatePriors s).take i).foldl (cStep s) 0
theorem cI_all (s : St) : cI s (Kp416.candidatePriors s).length = Kp416.cheapestPrior s := by
  unfold cI
  rw [List.take_length]
  rfl
theorem cI_succ {s : St} {i : Nat} {q : Rat} (h : (Kp416.candidatePriors s)[i]? = some q) : cI s (i + 1) = cStep s (cI s i) q := by
  unfold cI
  rw [List.take_add_one, h, List.foldl_append]
  rfl
theorem cStep_pri {s : St} {a b : Rat} (ha : Pri a) (hb : Pri b) : Pri (cStep s a b) := by
  unfold cStep
  split
  · exact hb
  · exact ha
theorem eq_nd (p q : Rat) : (p.num = q.num ∧ (p.den : Int) = (q.den : Int)) ↔ p = q := by
  constructor
  · rintro ⟨h1, h2⟩
    exact Rat.ext h1 (by omega)
  · rintro rfl
    exact ⟨rfl, rfl⟩
end Pw
namespace Pw
/-! ## policies and beliefs -/
abbrev pC (m : Mo) (i : Nat) : Nat := (Kp417.policyAt m i).cheatSet
abbrev pW (m : Mo) (i : Nat) : Nat := (Kp417.policyAt m i).weight
/-- a log entry that a set allows -/
def okE (c : Nat) (e : Kp417.Entry) : Bool := match e.kind with
  | .production => true
  | .testCheated => Kp415.contains c e.signal
  | .testBehaved => !Kp415.contains c e.signal
def consC (lg : List Kp417.Entry) (c : Nat) : Bool := lg.all (okE c)
theorem consC_eq (lg : List Kp417.Entry) (p : Kp417.Policy) : Kp417.consistent lg p = consC lg p.cheatSet := rfl
def candBy (m : Mo) (lg : List Kp417.Entry) : List Nat := (List.range m.policies.length).filter fun i => consC lg (pC m i)
theorem cand_eq (m : Mo) : Kp417.candidates m = candBy m m.log := rfl
theorem cand_lt {m : Mo} {lg : List Kp417.Entry} {i : Nat} (h : i ∈ candBy m lg) : i < m.policies.length := List.mem_range.mp (List.mem_filter.mp h).1
/-- the weights of the signals of a set -/
def setW (ws : List Nat) (c : Nat) : Nat := wAt ws ((List.range ws.length).filter fun s => Kp415.contains c s)
def setWi (ws : List Nat) (c i : Nat) : Nat := wAt ws ((List.range i).filter fun s => Kp415.contains c s)
theorem setWi_yes {ws : List Nat} {c i : Nat} (h : Kp415.contains c i = true) : setWi ws c (i + 1) = setWi ws c i + ws.getD i 0 := by
  unfold setWi wAt
  rw [List.range_succ, List.filter_append, List.map_append, List.sum_append, List.filter_cons, if_pos h]
  rfl
theorem setWi_no {ws : List Nat} {c i : Nat} (h : Kp415.contains c i = false) : setWi ws c (i + 1) = setWi ws c i := by
  unfold setWi wAt
  rw [List.range_succ, List.filter_append, List.map_append, List.sum_append, List.filter_cons, if_neg (by rw [h]; decide)]
  rfl
theorem take_sum (ws : List Nat) (i : Nat) : (ws.take (i + 1)).sum = (ws.take i).sum + ws.getD i 0 := by
  rw [List.take_add_one, List.sum_append, List.getD_eq_getElem?_getD]
  cases ws[i]? <;> simp
theorem setWi_le (ws : List Nat) (c : Nat) : ∀ i, setWi ws c i ≤ (ws.take i).sum
  | 0 => Nat.zero_le _
  | i + 1 => by
    have ih := setWi_le ws c i
    rw [take_sum]
    cases h : Kp415.contains c i with
    | true =>
      rw [setWi_yes h]
      omega
    | false =>
      rw [setWi_no h]
      omega
theorem setW_le (ws : List Nat) (c : Nat) : setW ws c ≤ ws.sum := by
  have h := setWi_le ws c ws.length
  rw [List.take_length] at h
  exact h
theorem share_set {ws : List Nat} (c : Nat) : Kp415.setShare ws c = (((setW ws c : Nat) : Int) : Rat) / (((ws.sum : Nat) : Int) : Rat) := by
  unfold Kp415.setShare setW wAt
  rw [map_eq (g := fun i => ((((ws.getD i 0 : Nat) : Int) : Int) : Rat) / (((ws.sum : Nat) : Int) : Rat)) (fun i _ => by
    unfold Kp415.share
    rw [Rat.intCast_natCast, Rat.intCast_natCast])]
  rw [sum_div (fun i => ((ws.getD i 0 : Nat) : Int)), sum_map_cast]
def hTop (m : Mo) (i : Nat) : Nat := setW (pws m.setting) (pC m i)
def dTop (m : Mo) (i : Nat) : Nat := setW (tws m.setting) (pC m i)
theorem harmOf_eq (m : Mo) (i : Nat) : Kp417.harmOf m i = (((hTop m i : Nat) : Int) : Rat) / ((((pws m.setting).sum : Nat) : Int) : Rat) := share_set _
theorem detOf_eq (m : Mo) (i : Nat) : Kp417.detectionOf m i = (((dTop m i : Nat) : Int) : Rat) / ((((tws m.setting).sum : Nat) : Int) : Rat) := share_set _
/-- whether a fraction is less than, more than a share -/
theorem less_raw (q : Rat) {n d : Nat} (hd : 1 ≤ d) : q.num * ((d : Nat) : Int) < ((n : Nat) : Int) * (q.den : Int) ↔ q < Kp415.toRat n d := by
  have h := fr_lt (a := q.num) (b := (q.den : Int)) (c := (n : Int)) (d := (d : Int)) (q_den q) (by omega)
  rw [← q_eq, Rat.intCast_natCast, Rat.intCast_natCast] at h
  exact h.symm
theorem raw_less (q : Rat) {n d : Nat} (hd : 1 ≤ d) : ((n : Nat) : Int) * (q.den : Int) < q.num * ((d : Nat) : Int) ↔ Kp415.toRat n d < q := by
  have h := fr_lt (a := (n : Int)) (b := (d : Int)) (c := q.num) (d := (q.den : Int)) (by omega) (q_den q)
  rw [← q_eq, Rat.intCast_natCast, Rat.intCast_natCast] at h
  exact h.symm
/-! ### beliefs -/
theorem sum_pos {α : Type} {f : α → Nat} : ∀ {l : List α} {x : α}, x ∈ l → 1 ≤ f x → 1 ≤ (l.map f).sum
  | a :: r, x, h, hf => by
    rw [List.map_cons, List.sum_cons]
    rcases List.mem_cons.mp h with e | h
    · rw [e] at hf
      omega
    · have := sum_pos h hf
      omega
theorem sum_bd {α : Type} {f : α → Nat} {b : Nat} : ∀ {l : List α}, (∀ x ∈ l, f x ≤ b) → (l.map f).sum ≤ l.length * b
  | [], _ => by simp
  | a :: r, h => by
    have ih := sum_bd (f := f) (l := r) fun x hx => h x (List.mem_cons_of_mem _ hx)
    have ha := h a (List.mem_cons_self ..)
    rw [List.map_cons, List.sum_cons, List.length_cons, Nat.add_mul]
    omega
theorem belief_no {m : Mo} {i : Nat} (h : i ∉ Kp417.candidates m) : Kp417.belief m i = 0 := by
  unfold Kp417.belief
  rw [if_neg]
  intro z
  exact h (List.contains_iff_mem.mp z)
theorem belief_yes {m : Mo} {i : Nat} (h : i ∈ Kp417.candidates m) : Kp417.belief m i = (((pW m i : Nat) : Int) : Rat) / (((Kp417.candidateWeight m : Nat) : Int) : Rat) := by
  unfold Kp417.belief
  rw [if_pos (List.contains_iff_mem.mpr h), Rat.intCast_natCast, Rat.intCast_natCast]
def nTop (m : Mo) : Nat := ((Kp417.candidates m).map fun i => pW m i * hTop m i).sum
theorem nextHarm_eq {m : Mo} (h1 : 1 ≤ Kp417.candidateWeight m) (h2 : 1 ≤ (pws m.setting).sum) : Kp417.nextHarm m = (((nTop m : Nat) : Int) : Rat) / (((Kp417.candidateWeight m * (pws m.setting).sum : Nat) : Int) : Rat) := by
  unfold Kp417.nextHarm nTop
  rw [map_eq (g := fun i => ((((pW m i * hTop m i : Nat) : Int) : Int) : Rat) / (((Kp417.candidateWeight m * (pws m.setting).sum : Nat) : Int) : Rat)) (fun i hi => ?_)]
  · rw [sum_div (fun i => ((pW m i * hTop m i : Nat) : Int)), sum_map_cast]
  · have z1 := qn0 h1
    have z2 := qn0 h2
    rw [belief_yes hi, harmOf_eq]
    simp only [Rat.intCast_natCast, Rat.natCast_mul]
    grind
theorem nextHarm_none {m : Mo} (h : Kp417.candidates m = []) : Kp417.nextHarm m = 0 := by
  unfold Kp417.nextHarm
  rw [h]
  rfl
/-! ### the worst candidate -/
def wStep (m : Mo) (best i : Nat) : Nat := if hTop m best < hTop m i then i else best
theorem harm_lt {m : Mo} (h : 1 ≤ (pws m.setting).sum) (i j : Nat) : Kp417.harmOf m j < Kp417.harmOf m i ↔ hTop m j < hTop m i := by
  rw [harmOf_eq, harmOf_eq, fr_lt (by omega) (by omega)]
  constructor
  · intro z
    have := Int.lt_of_mul_lt_mul_right z (by omega)
    omega
  · intro z
    exact Int.mul_lt_mul_of_pos_right (by omega) (by omega)
theorem worst_fold {m : Mo} (h : 1 ≤ (pws m.setting).sum) : ∀ (l : List Nat) (b : Nat), l.foldl (fun (best : Option Nat) (i : Nat) => match best with
  | none => some i
  | some j => if Kp417.harmOf m j < Kp417.harmOf m i then some i else some j) (some b) = some (l.foldl (wStep m) b)
  | [], b => rfl
  | i :: r, b => by
    rw [List.foldl_cons, List.foldl_cons]
    show r.foldl _ (if Kp417.harmOf m b < Kp417.harmOf m i then some i else some b) = _
    by_cases c : hTop m b < hTop m i
    · rw [if_pos ((harm_lt h i b).mpr c), worst_fold h r i]
      unfold wStep
      rw [if_pos c]
    · rw [if_neg (fun z => c ((harm_lt h i b).mp z)), worst_fold h r b]
      unfold wStep
      rw [if_neg c]
theorem worst_eq {m : Mo} (h : 1 ≤ (pws m.setting).sum) {c : Nat} {r : List Nat} (e : Kp417.candidates m = c :: r) : Kp417.worstCandidate m = some ((Kp417.candidates m).foldl (wStep m) c) := by
  unfold Kp417.worstCandidate
  rw [e, List.foldl_cons, List.foldl_cons]
  refine (worst_fold h r c).trans ?_
  have z : wStep m c c = c := by
    unfold wStep
    rw [if_neg (Nat.lt_irrefl _)]
  rw [z]
theorem worst_nil {m : Mo} (e : Kp417.candidates m = []) : Kp417.worstCandidate m = none := by
  unfold Kp417.worstCandidate
  rw [e]
  rfl
theorem fold_mem {m : Mo} {S : List Nat} : ∀ (l : List Nat) (b : Nat), b ∈ S → (∀ x ∈ l, x ∈ S) → l.foldl (wStep m) b ∈ S
  | [], b, h, _ => h
  | i :: r, b, h, hl => by
    rw [List.foldl_cons]
    refine fold_mem r _ ?_ fun x hx => hl x (List.mem_cons_of_mem _ hx)
    unfold wStep
    split
    · exact hl i (List.mem_cons_self ..)
    · exact h
/-! ### the honest policy -/
theorem filter_one {q : Nat → Bool} {i : Nat} : ∀ {l : List Nat}, l.Nodup → i ∈ l → q i = true → (∀ j ∈ l, q j = true → j = i) → l.filter q = [i]
  | a :: r, nd, h, hq, hu => by
    obtain ⟨n1, n2⟩ := List.nodup_cons.mp nd
    by_cases e : a = i
    · subst e
      rw [List.filter_cons, if_pos hq]
      congr 1
      refine List.filter_eq_nil_iff.mpr fun j hj hqj => ?_
      exact n1 (hu j (List.mem_cons_of_mem _ hj) hqj ▸ hj)
    · have hr : i ∈ r := (List.mem_cons.mp h).resolve_left fun z => e z.symm
      rw [List.filter_cons, if_neg fun z => e (hu a (List.mem_cons_self ..) z)]
      exact filter_one n2 hr hq fun j hj => hu j (List.mem_cons_of_mem _ hj)
def hon (m : Mo) : Rat := (((Kp417.candidates m).filter fun i => (Kp417.policyAt m i).cheatSet == 0).map (Kp417.belief m)).sum
theorem hon_none {m : Mo} (h : ∀ i, i < m.policies.length → pC m i ≠ 0) : hon m = 0 := by
  unfold hon
  rw [List.filter_eq_nil_iff.mpr]
  · rfl
  · intro i hi hq
    exact h i (cand_lt hi) (beq_iff_eq.mp hq)
theorem pC_get {m : Mo} {i : Nat} (h : i < m.policies.length) : (m.policies.map (·.cheatSet))[i]? = some (pC m i) := by
  show _ = some (Kp417.policyAt m i).cheatSet
  unfold Kp417.policyAt
  rw [List.getElem?_map, List.getElem?_eq_getElem h, List.getD_eq_getElem?_getD, List.getElem?_eq_getElem h]
  rfl
theorem pC_inj {m : Mo} (nd : (m.policies.map (·.cheatSet)).Nodup) {i j : Nat} (hi : i < m.policies.length) (hj : j < m.policies.length) (e : pC m i = pC m j) : i = j := by
  have h1 := pC_get hi
  have h2 := pC_get hj
  rw [e] at h1
  obtain ⟨l1, e1⟩ := List.getElem?_eq_some_iff.mp h1
  obtain ⟨l2, e2⟩ := List.getElem?_eq_some_iff.mp h2
  exact (List.getElem_inj nd).mp (e1.trans e2.symm)
theorem hon_some {m : Mo} (nd : (m.policies.map (·.cheatSet)).Nodup) {i : Nat} (h : i < m.policies.length) (h0 : pC m i = 0) : hon m = Kp417.belief m i := by
  have hu : ∀ j ∈ Kp417.candidates m, ((Kp417.policyAt m j).cheatSet == 0) = true → j = i := fun j hj hq => pC_inj nd (cand_lt hj) h ((beq_iff_eq.mp hq).trans h0.symm)
  by_cases c : i ∈ Kp417.candidates m
  · unfold hon
    have nd2 : (Kp417.candidates m).Nodup := List.Pairwise.filter _ List.nodup_range
    have hq : ((Kp417.policyAt m i).cheatSet == 0) = true := beq_iff_eq.mpr h0
    rw [filter_one (q := fun i => (Kp417.policyAt m i).cheatSet == 0) nd2 c hq hu]
    simp only [List.map_cons, List.map_nil, List.sum_cons, List.sum_nil]
    exact Rat.add_zero _
  · rw [belief_no c]
    unfold hon
    rw [List.filter_eq_nil_iff.mpr]
    · rfl
    · intro j hj hq
      exact c (hu j hj hq ▸ hj)
/-! ### detection -/
theorem div_pow (a b : Rat) (hb : 0 < b) : ∀ n : Nat, (a / b) ^ n = a ^ n / b ^ n
  | 0 => by
    rw [Rat.pow_zero, Rat.pow_zero, Rat.pow_zero]
    grind
  | n + 1 => by
    have hn : b ^ n ≠ 0 := Rat.ne_of_gt (Rat.pow_pos hb)
    have hb' : b ≠ 0 := Rat.ne_of_gt hb
    rw [Rat.pow_succ, div_pow a b hb n, Rat.pow_succ, Rat.pow_succ]
    grind
theorem detIn_eq {m : Mo} (h : 1 ≤ (tws m.setting).sum) (i t : Nat) : Kp417.detectionIn m i t =
    ((((((tws m.setting).sum ^ t : Nat) : Int) - ((((tws m.setting).sum - dTop m i) ^ t : Nat) : Int)) : Int) : Rat) / ((((tws m.setting).sum ^ t : Nat) : Int) : Rat) := by
  have hle : dTop m i ≤ (tws m.setting).sum := setW_le _ _
  unfold Kp417.detectionIn
  rw [detOf_eq]
  generalize (tws m.setting).sum = w at h hle
  have hw : (0 : Rat) < (w : Rat) := qn1 h
  have hw' : (w : Rat) ≠ 0 := qn0 h
  have e1 : 1 - (((dTop m i : Nat) : Int) : Rat) / ((((w : Nat) : Int)) : Rat) = ((w - dTop m i : Nat) : Rat) / (w : Rat) := by
    have e2 : (w : Rat) = ((w - dTop m i : Nat) : Rat) + ((dTop m i : Nat) : Rat) := by
      rw [← Rat.natCast_add]
      congr 1
      omega
    simp only [Rat.intCast_natCast]
    generalize ((w - dTop m i : Nat) : Rat) = z at e2 ⊢
    grind
  rw [e1, div_pow _ _ hw]
  simp only [Rat.intCast_sub, Rat.intCast_natCast, Rat.natCast_pow]
  have hn : (w : Rat) ^ t ≠ 0 := Rat.ne_of_gt (Rat.pow_pos hw)
  generalize (w : Rat) ^ t = z at hn ⊢
  grind
end Pw
namespace Pw
/-- what the specification answers to a call on a running monitor -/
def aL (m : Mo) (c : Kp417.Call) : List Int := (Kp417.run m c).2.num :: (Kp417.run m c).2.nums
def fr (q : Rat) : List Int := [q.num, (q.den : Int)]
def nI (l : List Nat) : List Int := l.map fun n : Nat => ((n : Nat) : Int)
def lsR (l : List Nat) : List Int := ((l.length : Nat) : Int) :: nI l
theorem isPol (m : Mo) (i : Nat) : Kp417.isPolicy m i = decide (i < m.policies.length) := rfl
theorem isSig (m : Mo) (s : Nat) : Kp415.isSignal m.setting.model s = decide (s < (tws m.setting).length) := rfl
section
variable {m : Mo} {i j s n d t : Nat}
theorem a_getPolicy_no (h : ¬ i < m.policies.length) : aL m (.getPolicy i) = [-2] := by
  simp only [aL, Kp417.run, Kp417.query, isPol, decide_eq_false h, Kp417.single, Bool.false_eq_true, if_false]
theorem a_getPolicy (h : i < m.policies.length) : aL m (.getPolicy i) = [(pC m i : Int), (pW m i : Int)] := by
  simp only [aL, Kp417.run, Kp417.query, isPol, decide_eq_true h, if_true]
theorem a_getLog : aL m .getLog = (m.log.length : Int) :: m.log.flatMap fun e => [(e.kind.code : Int), (e.signal : Int)] := rfl
theorem a_candidates : aL m .candidates = lsR (Kp417.candidates m) := rfl
theorem a_belief_no (h : ¬ i < m.policies.length) : aL m (.belief i) = [-2] := by
  simp only [aL, Kp417.run, Kp417.query, isPol, decide_eq_false h, Kp417.single, Bool.false_eq_true, if_false]
theorem a_belief (h : i < m.policies.length) : aL m (.belief i) = 0 :: fr (Kp417.belief m i) := by
  simp only [aL, Kp417.run, Kp417.query, isPol, decide_eq_true h, if_true]
  rfl
theorem a_honest_no (h : (Kp417.candidates m).isEmpty = true) : aL m .honestBelief = [-33] := by
  simp only [aL, Kp417.run, Kp417.query, h, if_true, Kp417.single]
theorem a_honest (h : (Kp417.candidates m).isEmpty = false) : aL m .honestBelief = 0 :: fr (hon m) := by
  simp only [aL, Kp417.run, Kp417.query, h, Bool.false_eq_true, if_false]
  rfl
theorem a_suspects_no (h : ¬ s < (tws m.setting).length) : aL m (.suspects s) = [-2] := by
  simp only [aL, Kp417.run, Kp417.query, isSig, decide_eq_false h, Kp417.single, Bool.false_eq_true, if_false]
theorem a_suspects (h : s < (tws m.setting).length) : aL m (.suspects s) = lsR ((Kp417.candidates m).filter fun j => Kp415.contains (Kp417.policyAt m j).cheatSet s) := by
  simp only [aL, Kp417.run, Kp417.query, isSig, decide_eq_true h, if_true]
  rfl
theorem a_next_no (h : (Kp417.candidates m).isEmpty = true) : aL m .nextHarmProbability = [-33] := by
  simp only [aL, Kp417.run, Kp417.query, h, if_true, Kp417.single]
theorem a_next (h : (Kp417.candidates m).isEmpty = false) : aL m .nextHarmProbability = 0 :: fr (Kp417.nextHarm m) := by
  simp only [aL, Kp417.run, Kp417.query, h, Bool.false_eq_true, if_false]
  rfl
theorem a_worst_no (h : (Kp417.candidates m).isEmpty = true) : aL m .worstCandidate = [-33] := by
  simp only [aL, Kp417.run, Kp417.query, worst_nil (List.isEmpty_iff.mp h), Kp417.single]
theorem a_worst {w : Nat} (h : Kp417.worstCandidate m = some w) : aL m .worstCandidate = (w : Int) :: fr (Kp417.harmOf m w) := by
  simp only [aL, Kp417.run, Kp417.query, h]
  rfl
theorem a_detectable_no (h : ¬ i < m.policies.length) : aL m (.isDetectable i) = [-2] := by
  simp only [aL, Kp417.run, Kp417.query, isPol, decide_eq_false h, Kp417.single, Bool.false_eq_true, if_false]
theorem a_detectable (h : i < m.policies.length) (ht : 1 ≤ (tws m.setting).sum) : aL m (.isDetectable i) = [if 0 < dTop m i then 1 else 0] := by
  have e : (0 : Rat) < Kp417.detectionOf m i ↔ 0 < dTop m i := by
    rw [detOf_eq, q_pos (by omega)]
    omega
  by_cases c : 0 < dTop m i
  · simp only [aL, Kp417.run, Kp417.query, isPol, decide_eq_true h, if_true, Kp417.boolResult, decide_eq_true (e.mpr c), Kp417.single, if_pos c]
  · simp only [aL, Kp417.run, Kp417.query, isPol, decide_eq_true h, if_true, Kp417.boolResult, decide_eq_false (fun z => c (e.mp z)), Kp417.single, if_neg c, Bool.false_eq_true, if_false]
theorem a_detect_no (h : ¬ i < m.policies.length) : aL m (.policyDetectionProbability i t) = [-2] := by
  simp only [aL, Kp417.run, Kp417.query, isPol, decide_eq_false h, Kp417.single, if_true]
theorem a_detect_big (h : i < m.policies.length) (ht : 12 < t) : aL m (.policyDetectionProbability i t) = [-22] := by
  simp only [aL, Kp417.run, Kp417.query, isPol, decide_eq_true h, Kp417.single, if_pos ht, Bool.true_eq_false, if_false]
theorem a_detect (h : i < m.policies.length) (ht : ¬ 12 < t) : aL m (.policyDetectionProbability i t) = 0 :: fr (Kp417.detectionIn m i t) := by
  simp only [aL, Kp417.run, Kp417.query, isPol, decide_eq_true h, if_neg ht, Bool.true_eq_false, if_false]
  rfl
/-- whether so many tests are enough -/
def enough (m : Mo) (t : Nat) (q : Rat) : Bool := (Kp417.candidates m).all fun i => (Kp417.policyAt m i).cheatSet == 0 || decide (q ≤ Kp417.detectionIn m i t)
theorem a_needed_no (h : Kp415.validFraction n d = false) : aL m (.testsNeeded n d) = [-22] := by
  simp only [aL, Kp417.run, Kp417.query, h, if_true, Kp417.single]
theorem a_needed_none (h : Kp415.validFraction n d = true) (hn : ∀ t, t < 13 → enough m t (Kp415.toRat n d) = false) : aL m (.testsNeeded n d) = [-33] := by
  have e : (List.range 13).find? (fun tests => (Kp417.candidates m).all fun i => (Kp417.policyAt m i).cheatSet == 0 || decide (Kp415.toRat n d ≤ Kp417.detectionIn m i tests)) = none := by
    rw [List.find?_range_eq_none]
    intro t ht
    have := hn t ht
    unfold enough at this
    rw [this]
    rfl
  simp only [aL, Kp417.run, Kp417.query, h, Bool.true_eq_false, if_false, e, Kp417.single]
theorem a_needed (h : Kp415.validFraction n d = true) (ht : t < 13) (hn : ∀ j, j < t → enough m j (Kp415.toRat n d) = false) (hy : enough m t (Kp415.toRat n d) = true) : aL m (.testsNeeded n d) = [(t : Int)] := by
  have e : (List.range 13).find? (fun tests => (Kp417.candidates m).all fun i => (Kp417.policyAt m i).cheatSet == 0 || decide (Kp415.toRat n d ≤ Kp417.detectionIn m i tests)) = some t := by
    rw [List.find?_range_eq_some]
    refine ⟨hy, List.mem_range.mpr ht, fun j hj => ?_⟩
    have := hn j hj
    unfold enough at this
    rw [this]
    rfl
  simp only [aL, Kp417.run, Kp417.query, h, Bool.true_eq_false, if_false, e, Kp417.single]
theorem a_dist_no (h : ¬ (i < m.policies.length ∧ j < m.policies.length)) : aL m (.areDistinguishable i j) = [-2] := by
  have e : (Kp417.isPolicy m i && Kp417.isPolicy m j) = false := by
    rw [Bool.eq_false_iff]
    intro z
    rw [Bool.and_eq_true, isPol, isPol, decide_eq_true_eq, decide_eq_true_eq] at z
    exact h z
  simp only [aL, Kp417.run, Kp417.query, e, Bool.false_eq_true, if_false, Kp417.single]
theorem a_dist (h : i < m.policies.length) (h2 : j < m.policies.length) : aL m (.areDistinguishable i j) = [if Kp417.distinguishable m i j = true then 1 else 0] := by
  simp only [aL, Kp417.run, Kp417.query, isPol, decide_eq_true h, decide_eq_true h2, Bool.and_self, if_true, Kp417.boolResult, Kp417.single]
theorem a_status : aL m .permitStatus = (if Kp417.allowed m = true then 1 else 0) :: Kp417.permitPair m.permit := rfl
theorem a_after_no (h : ¬ s < (tws m.setting).length) : aL m (.candidatesAfterTest s t) = [-2] := by
  simp only [aL, Kp417.run, Kp417.query, isSig, decide_eq_false h, Kp417.single, if_true]
theorem a_after_bad (h : s < (tws m.setting).length) (h2 : 1 < t ∨ (tws m.setting).getD s 0 = 0) : aL m (.candidatesAfterTest s t) = [-22] := by
  have e : 1 < t ∨ Kp417.appearsInTests m s = false := by
    rcases h2 with z | z
    · exact .inl z
    · refine .inr (decide_eq_false ?_)
      have z' : m.setting.model.testWeights.getD s 0 = 0 := z
      omega
  simp only [aL, Kp417.run, Kp417.query, isSig, decide_eq_true h, Kp417.single, Bool.true_eq_false, if_false, if_pos e]
theorem a_after (h : s < (tws m.setting).length) (h2 : ¬ (1 < t ∨ (tws m.setting).getD s 0 = 0)) : aL m (.candidatesAfterTest s t) = lsR (candBy m (m.log ++ [Kp417.testEntry s t])) := by
  have e : ¬ (1 < t ∨ Kp417.appearsInTests m s = false) := by
    rintro (z | z)
    · exact h2 (.inl z)
    · refine h2 (.inr ?_)
      have z' := of_decide_eq_false z
      show m.setting.model.testWeights.getD s 0 = 0
      omega
  simp only [aL, Kp417.run, Kp417.query, isSig, decide_eq_true h, Kp417.single, Bool.true_eq_false, if_false, if_neg e]
  rfl
/-- how many log entries are of a kind -/
def lcount (m : Mo) (k : Nat) : Nat := (m.log.filter fun e => e.kind.code == k).length
theorem count_sum : ∀ l : List Kp417.Entry, (l.filter fun e => e.kind != .production).length = (l.filter fun e => e.kind.code == 0).length + (l.filter fun e => e.kind.code == 1).length
  | [] => rfl
  | e :: r => by
    have ih := count_sum r
    obtain ⟨k, s⟩ := e
    cases k with
    | testBehaved =>
      rw [List.filter_cons_of_pos rfl, List.filter_cons_of_pos rfl, List.filter_cons_of_neg Bool.false_ne_true]
      simp only [List.length_cons]
      omega
    | testCheated =>
      rw [List.filter_cons_of_pos rfl, List.filter_cons_of_neg Bool.false_ne_true, List.filter_cons_of_pos rfl]
      simp only [List.length_cons]
      omega
    | production =>
      rw [List.filter_cons_of_neg (by simp), List.filter_cons_of_neg Bool.false_ne_true, List.filter_cons_of_neg Bool.false_ne_true]
      exact ih
theorem code_eq (k : Kp417.EntryKind) : (k == .testCheated) = (k.code == 1) ∧ (k == .production) = (k.code == 2) := by
  cases k <;> exact ⟨rfl, rfl⟩
theorem a_counts : aL m .counts = [(m.policies.length : Int), ((lcount m 0 : Nat) : Int) + ((lcount m 1 : Nat) : Int), ((lcount m 1 : Nat) : Int), ((lcount m 2 : Nat) : Int)] := by
  have e1 := count_sum m.log
  have e2 : (m.log.filter fun e => e.kind == .testCheated) = m.log.filter fun e => e.kind.code == 1 := by
    congr 1
    funext e
    exact (code_eq e.kind).1
  have e3 : (m.log.filter fun e => e.kind == .production) = m.log.filter fun e => e.kind.code == 2 := by
    congr 1
    funext e
    exact (code_eq e.kind).2
  simp only [aL, Kp417.run, Kp417.query, lcount, e1, e2, e3, Int.natCast_add]
/-! the setting's operations -/
theorem a_value_no (h : ¬ s < (tws m.setting).length) : aL m (.cheatingValue s) = [-2] := by
  simp [aL, Kp417.run, Kp417.runSetting, Kp416.step, isSig, decide_eq_false h, Kp416.single, Kp417.query]
theorem a_value (h : s < (tws m.setting).length) : aL m (.cheatingValue s) = 0 :: fr (Kp416.cheatingValue m.setting s) := by
  simp [aL, Kp417.run, Kp417.runSetting, Kp416.step, isSig, decide_eq_true h, Kp416.fractionResult, Kp416.fraction, fr]
theorem neg_len (l : List Nat) : ¬ ((l.length : Nat) : Int) < 0 := by omega
theorem a_signals : aL m .cheatingSignals = lsR (Kp416.cheatingSignals m.setting) := by
  simp [aL, Kp417.run, Kp417.runSetting, Kp416.step, Kp416.listResult, neg_len, lsR, nI]
theorem a_profit : aL m .expectedProfit = 0 :: fr (Kp416.expectedProfit m.setting) := by
  simp [aL, Kp417.run, Kp417.runSetting, Kp416.step, Kp416.fractionResult, Kp416.fraction, fr]
theorem a_detprob : aL m .detectionProbability = 0 :: fr (Kp416.detectionProbability m.setting) := by
  simp [aL, Kp417.run, Kp417.runSetting, Kp416.step, Kp416.fractionResult, Kp416.fraction, fr]
theorem a_harmprob : aL m .harmProbability = 0 :: fr (Kp416.harmProbability m.setting) := by
  simp [aL, Kp417.run, Kp417.runSetting, Kp416.step, Kp416.fractionResult, Kp416.fraction, fr]
theorem a_cost : aL m .totalCost = 0 :: fr (Kp416.totalCost m.setting) := by
  simp [aL, Kp417.run, Kp417.runSetting, Kp416.step, Kp416.fractionResult, Kp416.fraction, fr]
def optA : Option Rat → List Int
  | none => [-33]
  | some q => 0 :: fr q
theorem a_detat_no (h : ¬ s < (tws m.setting).length) : aL m (.deterrentPriorAt s) = [-2] := by
  simp [aL, Kp417.run, Kp417.runSetting, Kp416.step, isSig, decide_eq_false h, Kp416.single, Kp417.query]
theorem a_detat (h : s < (tws m.setting).length) : aL m (.deterrentPriorAt s) = optA (Kp416.deterrentPriorAt m.setting s) := by
  cases e : Kp416.deterrentPriorAt m.setting s <;>
    simp [aL, Kp417.run, Kp417.runSetting, Kp416.step, isSig, decide_eq_true h, Kp416.optionalFraction, e, Kp416.single, Kp416.fractionResult, Kp416.fraction, fr, optA, Kp417.query]
theorem a_det : aL m .deterrentPrior = optA (Kp416.deterrentPrior m.setting) := by
  cases e : Kp416.deterrentPrior m.setting <;>
    simp [aL, Kp417.run, Kp417.runSetting, Kp416.step, Kp416.optionalFraction, e, Kp416.single, Kp416.fractionResult, Kp416.fraction, fr, optA, Kp417.query]
theorem a_cheapest : aL m .cheapestPrior = 0 :: (fr (Kp416.cheapestPrior m.setting) ++ fr (Kp416.totalCost (Kp416.withPrior m.setting (Kp416.cheapestPrior m.setting)))) := by
  simp [aL, Kp417.run, Kp417.runSetting, Kp416.step, Kp416.fraction, fr]
theorem a_forPrior_no (h : Kp415.validFraction n d = false) : aL m (.cheatingSignalsForPrior n d) = [-22] := by
  simp [aL, Kp417.run, Kp417.runSetting, Kp416.step, h, Kp416.single, Kp417.query]
theorem a_forPrior (h : Kp415.validFraction n d = true) : aL m (.cheatingSignalsForPrior n d) = lsR (Kp416.cheatingSignals { m.setting with model := { m.setting.model with priorNum := n, priorDen := d } }) := by
  simp [aL, Kp417.run, Kp417.runSetting, Kp416.step, h, Kp416.listResult, neg_len, lsR, nI]
theorem a_forStakes_no (h : 999 < n ∨ 999 < d) : aL m (.cheatingSignalsForStakes n d) = [-22] := by
  have e : (Kp416.validAmount n && Kp416.validAmount d) = false := by
    unfold Kp416.validAmount
    rw [Bool.eq_false_iff]
    intro z
    rw [Bool.and_eq_true, decide_eq_true_eq, decide_eq_true_eq] at z
    omega
  simp [aL, Kp417.run, Kp417.runSetting, Kp416.step, e, Kp416.single, Kp417.query]
theorem amounts (h : ¬ (999 < n ∨ 999 < d)) : Kp416.validAmount n = true ∧ Kp416.validAmount d = true := by
  unfold Kp416.validAmount
  rw [decide_eq_true_eq, decide_eq_true_eq]
  omega
theorem a_forStakes (h : ¬ (999 < n ∨ 999 < d)) : aL m (.cheatingSignalsForStakes n d) = lsR (Kp416.cheatingSignals { m.setting with gain := n, loss := d }) := by
  obtain ⟨e1, e2⟩ := amounts h
  simp [aL, Kp417.run, Kp417.runSetting, Kp416.step, e1, e2, Kp416.listResult, neg_len, lsR, nI]
theorem a_settings : aL m .getSettings = (((tws m.setting).length : Nat) : Int) :: [(m.setting.model.priorNum : Int), (m.setting.model.priorDen : Int), (m.setting.gain : Int), (m.setting.loss : Int), (m.setting.harmPrice : Int), (m.setting.testPrice : Int)] ++ nI (tws m.setting ++ pws m.setting) := by
  have e : ¬ ((m.setting.model.testWeights.length : Nat) : Int) < 0 := by omega
  simp [aL, Kp417.run, Kp417.runSetting, Kp416.step, e, nI, Kp415.signalCount]
end
end Pw
namespace Pw
/-! ## what a call leaves -/
def oA (o : Kp417.Outcome) : List Int := o.2.num :: o.2.nums
def oM (m : Mo) (o : Kp417.Outcome) : Mo := o.1.getD m
def nx (m : Mo) (c : Kp417.Call) : Mo := oM m (Kp417.run m c)
theorem aL_o (m : Mo) (c : Kp417.Call) : aL m c = oA (Kp417.run m c) := rfl
theorem oA_q (a : Kp417.Ans) : oA (Kp417.query a) = a.num :: a.nums := rfl
theorem oM_q (m : Mo) (a : Kp417.Ans) : oM m (Kp417.query a) = m := rfl
/-- queries leave the monitor -/
def isQ : Kp417.Call → Bool
  | .getPolicy _ | .getLog | .candidates | .belief _ | .honestBelief | .suspects _ | .nextHarmProbability | .worstCandidate | .isDetectable _ | .policyDetectionProbability _ _ | .testsNeeded _ _ | .areDistinguishable _ _
  | .permitStatus | .candidatesAfterTest _ _ | .counts | .cheatingValue _ | .cheatingSignals | .expectedProfit | .detectionProbability | .harmProbability | .totalCost | .deterrentPriorAt _ | .deterrentPrior | .cheapestPrior
  | .cheatingSignalsForPrior _ _ | .cheatingSignalsForStakes _ _ | .getSettings => true
  | _ => false
theorem rs_q (m : Mo) (c : Kp416.Call) (h : (Kp416.step (some m.setting) c).1 = some m.setting) : oM m (Kp417.runSetting m c) = m := by
  unfold Kp417.runSetting
  dsimp only
  rw [h]
  have key : ∀ (b : Bool) (a : Kp417.Ans), oM m (if b = true then Kp417.query (Kp417.single (-16)) else (Option.map (fun s => { m with setting := s }) (some m.setting), a)) = m := fun b a => by
    cases b <;> rfl
  split
  · rfl
  · exact key _ _
theorem nx_q (m : Mo) {c : Kp417.Call} (h : isQ c = true) : nx m c = m := by
  cases c <;> first
    | rfl
    | (cases h; done)
    | exact rs_q m _ rfl
section
variable {m : Mo} {i j s n d t : Nat}
theorem add_log {p : Kp417.Policy} (h : m.log.isEmpty = false) : Kp417.addPolicy m p = Kp417.query (Kp417.single (-16)) := by
  have h' : m.log ≠ [] := fun z => by
    rw [z] at h
    cases h
  unfold Kp417.addPolicy
  rw [if_pos h']
theorem log_nil (h : m.log.isEmpty = true) : ¬ m.log ≠ [] := fun z => z (List.isEmpty_iff.mp h)
theorem add_dup {p : Kp417.Policy} (h : m.log.isEmpty = true) (hd : m.policies.any (fun q => q.cheatSet == p.cheatSet) = true) : Kp417.addPolicy m p = Kp417.query (Kp417.single (-17)) := by
  unfold Kp417.addPolicy
  rw [if_neg (log_nil h), if_pos hd]
theorem add_full {p : Kp417.Policy} (h : m.log.isEmpty = true) (hd : m.policies.any (fun q => q.cheatSet == p.cheatSet) = false) (hf : 6 ≤ m.policies.length) : Kp417.addPolicy m p = Kp417.query (Kp417.single (-28)) := by
  unfold Kp417.addPolicy
  rw [if_neg (log_nil h), if_neg (by rw [hd]; exact Bool.false_ne_true), if_pos (show Kp417.maxPolicies ≤ _ from hf)]
theorem add_ok {p : Kp417.Policy} (h : m.log.isEmpty = true) (hd : m.policies.any (fun q => q.cheatSet == p.cheatSet) = false) (hf : ¬ 6 ≤ m.policies.length) : Kp417.addPolicy m p = (some { m with policies := m.policies ++ [p] }, Kp417.single (m.policies.length : Nat)) := by
  unfold Kp417.addPolicy
  rw [if_neg (log_nil h), if_neg (by rw [hd]; exact Bool.false_ne_true), if_neg (show ¬ Kp417.maxPolicies ≤ _ from hf)]
theorem r_addPolicy_bad {c w : Nat} (h : 2 ^ (tws m.setting).length ≤ c ∨ Kp417.validWeight w = false) : Kp417.run m (.addPolicy c w) = Kp417.query (Kp417.single (-22)) := by
  simp only [Kp417.run]
  exact if_pos h
theorem r_addPolicy {c w : Nat} (h : ¬ (2 ^ (tws m.setting).length ≤ c ∨ Kp417.validWeight w = false)) : Kp417.run m (.addPolicy c w) = Kp417.addPolicy m ⟨c, w⟩ := by
  simp only [Kp417.run]
  exact if_neg h
theorem r_addRational_bad {w : Nat} (h : Kp417.validWeight w = false) : Kp417.run m (.addRationalPolicy w) = Kp417.query (Kp417.single (-22)) := by
  simp only [Kp417.run]
  exact if_pos h
theorem r_addRational {w : Nat} (h : Kp417.validWeight w = true) : Kp417.run m (.addRationalPolicy w) = Kp417.addPolicy m ⟨Kp417.maskOf (Kp416.cheatingSignals m.setting), w⟩ := by
  simp only [Kp417.run]
  exact if_neg (by rw [h]; exact fun z => nomatch z)
theorem r_remove_no (h : ¬ i < m.policies.length) : Kp417.run m (.removePolicy i) = Kp417.query (Kp417.single (-2)) := by
  simp only [Kp417.run, isPol, decide_eq_false h, if_true]
theorem r_remove_log (h : i < m.policies.length) (hl : m.log.isEmpty = false) : Kp417.run m (.removePolicy i) = Kp417.query (Kp417.single (-16)) := by
  have h' : m.log ≠ [] := fun z => by
    rw [z] at hl
    cases hl
  simp only [Kp417.run, isPol, decide_eq_true h, Bool.true_eq_false, if_false]
  exact if_pos h'
theorem r_remove (h : i < m.policies.length) (hl : m.log.isEmpty = true) : Kp417.run m (.removePolicy i) = (some { m with policies := m.policies.eraseIdx i }, Kp417.single (m.policies.length - 1 : Nat)) := by
  simp only [Kp417.run, isPol, decide_eq_true h, Bool.true_eq_false, if_false]
  exact if_neg (log_nil hl)
theorem inT_iff : Kp417.appearsInTests m s = false ↔ (tws m.setting).getD s 0 = 0 := by
  unfold Kp417.appearsInTests
  rw [decide_eq_false_iff_not]
  show ¬ 0 < (tws m.setting).getD s 0 ↔ _
  omega
theorem inP_iff : Kp417.appearsInProduction m s = false ↔ (pws m.setting).getD s 0 = 0 := by
  unfold Kp417.appearsInProduction
  rw [decide_eq_false_iff_not]
  show ¬ 0 < (pws m.setting).getD s 0 ↔ _
  omega
theorem r_test_no (h : ¬ s < (tws m.setting).length) : Kp417.run m (.recordTest s t) = Kp417.query (Kp417.single (-2)) := by
  simp only [Kp417.run, isSig, decide_eq_false h, if_true]
theorem r_test_bad (h : s < (tws m.setting).length) (h2 : 1 < t ∨ (tws m.setting).getD s 0 = 0) : Kp417.run m (.recordTest s t) = Kp417.query (Kp417.single (-22)) := by
  simp only [Kp417.run, isSig, decide_eq_true h, Bool.true_eq_false, if_false]
  exact if_pos (h2.imp id inT_iff.mpr)
theorem r_test_full (h : s < (tws m.setting).length) (h2 : ¬ (1 < t ∨ (tws m.setting).getD s 0 = 0)) (h3 : 16 ≤ m.log.length) : Kp417.run m (.recordTest s t) = Kp417.query (Kp417.single (-28)) := by
  simp only [Kp417.run, isSig, decide_eq_true h, Bool.true_eq_false, if_false]
  rw [if_neg fun z => h2 (z.imp id inT_iff.mp)]
  exact if_pos h3
def withT (m : Mo) (s t : Nat) : Mo := Kp417.withEntry m (Kp417.testEntry s t)
theorem r_test_none (h : s < (tws m.setting).length) (h2 : ¬ (1 < t ∨ (tws m.setting).getD s 0 = 0)) (h3 : ¬ 16 ≤ m.log.length) (h4 : (candBy m (m.log ++ [Kp417.testEntry s t])).isEmpty = true) : Kp417.run m (.recordTest s t) = Kp417.query (Kp417.single (-33)) := by
  simp only [Kp417.run, isSig, decide_eq_true h, Bool.true_eq_false, if_false]
  rw [if_neg fun z => h2 (z.imp id inT_iff.mp), if_neg (show ¬ Kp417.maxLogLength ≤ _ from h3)]
  exact if_pos h4
theorem r_test (h : s < (tws m.setting).length) (h2 : ¬ (1 < t ∨ (tws m.setting).getD s 0 = 0)) (h3 : ¬ 16 ≤ m.log.length) (h4 : (candBy m (m.log ++ [Kp417.testEntry s t])).isEmpty = false) :
    Kp417.run m (.recordTest s t) = (some (withT m s t), Kp417.single ((candBy m (m.log ++ [Kp417.testEntry s t])).length : Nat)) := by
  simp only [Kp417.run, isSig, decide_eq_true h, Bool.true_eq_false, if_false]
  rw [if_neg fun z => h2 (z.imp id inT_iff.mp), if_neg (show ¬ Kp417.maxLogLength ≤ _ from h3)]
  exact if_neg (by rw [show (Kp417.candidates (Kp417.withEntry m (Kp417.testEntry s t))).isEmpty = false from h4]; exact Bool.false_ne_true)
theorem r_prod_no (h : ¬ s < (tws m.setting).length) : Kp417.run m (.recordProduction s) = Kp417.query (Kp417.single (-2)) := by
  simp only [Kp417.run, isSig, decide_eq_false h, if_true]
theorem r_prod_bad (h : s < (tws m.setting).length) (h2 : (pws m.setting).getD s 0 = 0) : Kp417.run m (.recordProduction s) = Kp417.query (Kp417.single (-22)) := by
  simp only [Kp417.run, isSig, decide_eq_true h, Bool.true_eq_false, if_false]
  exact if_pos (inP_iff.mpr h2)
theorem r_prod_full (h : s < (tws m.setting).length) (h2 : ¬ (pws m.setting).getD s 0 = 0) (h3 : 16 ≤ m.log.length) : Kp417.run m (.recordProduction s) = Kp417.query (Kp417.single (-28)) := by
  simp only [Kp417.run, isSig, decide_eq_true h, Bool.true_eq_false, if_false]
  rw [if_neg fun z => h2 (inP_iff.mp z)]
  exact if_pos h3
theorem r_prod_none (h : s < (tws m.setting).length) (h2 : ¬ (pws m.setting).getD s 0 = 0) (h3 : ¬ 16 ≤ m.log.length) (h4 : (Kp417.candidates m).isEmpty = true) : Kp417.run m (.recordProduction s) = Kp417.query (Kp417.single (-33)) := by
  simp only [Kp417.run, isSig, decide_eq_true h, Bool.true_eq_false, if_false]
  rw [if_neg fun z => h2 (inP_iff.mp z), if_neg (show ¬ Kp417.maxLogLength ≤ _ from h3)]
  exact if_pos h4
theorem r_prod_ban (h : s < (tws m.setting).length) (h2 : ¬ (pws m.setting).getD s 0 = 0) (h3 : ¬ 16 ≤ m.log.length) (h4 : (Kp417.candidates m).isEmpty = false) (h5 : Kp417.allowed m = false) : Kp417.run m (.recordProduction s) = Kp417.query (Kp417.single (-30)) := by
  simp only [Kp417.run, isSig, decide_eq_true h, Bool.true_eq_false, if_false]
  rw [if_neg fun z => h2 (inP_iff.mp z), if_neg (show ¬ Kp417.maxLogLength ≤ _ from h3), if_neg (by rw [h4]; exact Bool.false_ne_true)]
  exact if_pos h5
def withP (m : Mo) (s : Nat) : Mo := Kp417.withEntry m ⟨.production, s⟩
def susp (m : Mo) (s : Nat) : List Nat := (Kp417.candidates m).filter fun i => Kp415.contains (Kp417.policyAt m i).cheatSet s
theorem r_prod (h : s < (tws m.setting).length) (h2 : ¬ (pws m.setting).getD s 0 = 0) (h3 : ¬ 16 ≤ m.log.length) (h4 : (Kp417.candidates m).isEmpty = false) (h5 : Kp417.allowed m = true) :
    Kp417.run m (.recordProduction s) = (some (withP m s), Kp417.single ((susp m s).length : Nat)) := by
  simp only [Kp417.run, isSig, decide_eq_true h, Bool.true_eq_false, if_false]
  rw [if_neg fun z => h2 (inP_iff.mp z), if_neg (show ¬ Kp417.maxLogLength ≤ _ from h3), if_neg (by rw [h4]; exact Bool.false_ne_true), if_neg (by rw [h5]; exact fun z => nomatch z)]
  rfl
/-- a production session changes no candidate -/
theorem cons_prod (lg : List Kp417.Entry) (c s : Nat) : consC (lg ++ [⟨.production, s⟩]) c = consC lg c := by
  unfold consC
  rw [List.all_append]
  simp [okE]
theorem cand_prod (m : Mo) (s : Nat) : Kp417.candidates (withP m s) = Kp417.candidates m := by
  show (List.range m.policies.length).filter (fun i => consC (m.log ++ [⟨.production, s⟩]) (pC m i)) = (List.range m.policies.length).filter fun i => consC m.log (pC m i)
  congr 1
  funext i
  exact cons_prod _ _ _
theorem susp_prod (m : Mo) (s t : Nat) : susp (withP m s) t = susp m t := by
  unfold susp
  rw [cand_prod]
  rfl
theorem r_undo_no (h : m.log = []) : Kp417.run m .undoRecord = Kp417.query (Kp417.single (-6)) := by
  simp only [Kp417.run, h, List.getLast?_nil]
theorem r_undo {e : Kp417.Entry} (h : m.log.getLast? = some e) : Kp417.run m .undoRecord = (some { m with log := m.log.dropLast }, ⟨(e.kind.code : Int), [(e.signal : Int)]⟩) := by
  simp only [Kp417.run, h]
theorem r_permit_bad (h : Kp415.validFraction n d = false) : Kp417.run m (.permit n d) = Kp417.query (Kp417.single (-22)) := by
  simp only [Kp417.run, h, if_true]
theorem r_permit_none (h : Kp415.validFraction n d = true) (h2 : (Kp417.candidates m).isEmpty = true) : Kp417.run m (.permit n d) = Kp417.query (Kp417.single (-33)) := by
  simp only [Kp417.run, h, h2, Bool.true_eq_false, if_false, if_true]
theorem r_permit_ban (h : Kp415.validFraction n d = true) (h2 : (Kp417.candidates m).isEmpty = false) (h3 : Kp415.toRat n d < Kp417.nextHarm m) : Kp417.run m (.permit n d) = Kp417.query (Kp417.single (-30)) := by
  simp only [Kp417.run, h, h2, Bool.true_eq_false, Bool.false_eq_true, if_false]
  exact if_pos h3
theorem r_permit (h : Kp415.validFraction n d = true) (h2 : (Kp417.candidates m).isEmpty = false) (h3 : ¬ Kp415.toRat n d < Kp417.nextHarm m) : Kp417.run m (.permit n d) = (some { m with permit := some ⟨n, d⟩ }, ⟨0, Kp417.permitPair m.permit⟩) := by
  simp only [Kp417.run, h, h2, Bool.true_eq_false, Bool.false_eq_true, if_false]
  exact if_neg h3
theorem r_revoke_no (h : m.permit = none) : Kp417.run m .revokePermit = Kp417.query (Kp417.single (-6)) := by
  simp only [Kp417.run, h]
theorem r_revoke {p : Kp417.Permit} (h : m.permit = some p) : Kp417.run m .revokePermit = (some { m with permit := none }, ⟨0, Kp417.permitPair m.permit⟩) := by
  simp only [Kp417.run, h]
theorem r_prior_bad (h : Kp415.validFraction n d = false) : Kp417.run m (.setPrior n d) = Kp417.query ⟨-22, []⟩ := by
  simp [Kp417.run, Kp417.runSetting, Kp416.step, h, Kp416.single]
theorem r_prior (h : Kp415.validFraction n d = true) : Kp417.run m (.setPrior n d) = (some { m with setting := { m.setting with model := { m.setting.model with priorNum := n, priorDen := d } } }, ⟨0, [(m.setting.model.priorNum : Int), (m.setting.model.priorDen : Int)]⟩) := by
  simp [Kp417.run, Kp417.runSetting, Kp416.step, h]
theorem r_stakes_bad (h : 999 < n ∨ 999 < d) : Kp417.run m (.setStakes n d) = Kp417.query ⟨-22, []⟩ := by
  have e : (Kp416.validAmount n && Kp416.validAmount d) = false := by
    unfold Kp416.validAmount
    rw [Bool.eq_false_iff]
    intro z
    rw [Bool.and_eq_true, decide_eq_true_eq, decide_eq_true_eq] at z
    omega
  simp [Kp417.run, Kp417.runSetting, Kp416.step, e, Kp416.single]
theorem r_stakes (h : ¬ (999 < n ∨ 999 < d)) : Kp417.run m (.setStakes n d) = (some { m with setting := { m.setting with gain := n, loss := d } }, ⟨0, [(m.setting.gain : Int), (m.setting.loss : Int)]⟩) := by
  obtain ⟨e1, e2⟩ := amounts h
  simp [Kp417.run, Kp417.runSetting, Kp416.step, e1, e2]
theorem r_prices_bad (h : 999 < n ∨ 999 < d) : Kp417.run m (.setPrices n d) = Kp417.query ⟨-22, []⟩ := by
  have e : (Kp416.validAmount n && Kp416.validAmount d) = false := by
    unfold Kp416.validAmount
    rw [Bool.eq_false_iff]
    intro z
    rw [Bool.and_eq_true, decide_eq_true_eq, decide_eq_true_eq] at z
    omega
  simp [Kp417.run, Kp417.runSetting, Kp416.step, e, Kp416.single]
theorem r_prices (h : ¬ (999 < n ∨ 999 < d)) : Kp417.run m (.setPrices n d) = (some { m with setting := { m.setting with harmPrice := n, testPrice := d } }, ⟨0, [(m.setting.harmPrice : Int), (m.setting.testPrice : Int)]⟩) := by
  obtain ⟨e1, e2⟩ := amounts h
  simp [Kp417.run, Kp417.runSetting, Kp416.step, e1, e2]
end
end Pw
namespace Pw
/-- a call without lists: its number, its numbers, what it is -/
inductive Dec : Nat → List Nat → Kp417.Call → Prop
  | c1 (a b : Nat) : Dec 1 [a, b] (.addPolicy a b)
  | c2 (a : Nat) : Dec 2 [a] (.addRationalPolicy a)
  | c3 (a : Nat) : Dec 3 [a] (.removePolicy a)
  | c4 (a : Nat) : Dec 4 [a] (.getPolicy a)
  | c5 (a b : Nat) : Dec 5 [a, b] (.recordTest a b)
  | c6 (a : Nat) : Dec 6 [a] (.recordProduction a)
  | c7 : Dec 7 [] (.undoRecord)
  | c8 : Dec 8 [] (.getLog)
  | c9 : Dec 9 [] (.candidates)
  | c10 (a : Nat) : Dec 10 [a] (.belief a)
  | c11 : Dec 11 [] (.honestBelief)
  | c12 (a : Nat) : Dec 12 [a] (.suspects a)
  | c13 : Dec 13 [] (.nextHarmProbability)
  | c14 : Dec 14 [] (.worstCandidate)
  | c15 (a : Nat) : Dec 15 [a] (.isDetectable a)
  | c16 (a b : Nat) : Dec 16 [a, b] (.policyDetectionProbability a b)
  | c17 (a b : Nat) : Dec 17 [a, b] (.testsNeeded a b)
  | c18 (a b : Nat) : Dec 18 [a, b] (.areDistinguishable a b)
  | c19 (a b : Nat) : Dec 19 [a, b] (.permit a b)
  | c20 : Dec 20 [] (.revokePermit)
  | c21 : Dec 21 [] (.permitStatus)
  | c22 (a b : Nat) : Dec 22 [a, b] (.candidatesAfterTest a b)
  | c23 : Dec 23 [] (.counts)
  | c24 (a : Nat) : Dec 24 [a] (.createSetting a)
  | c27 (a b : Nat) : Dec 27 [a, b] (.setPrior a b)
  | c28 (a b : Nat) : Dec 28 [a, b] (.setStakes a b)
  | c29 (a b : Nat) : Dec 29 [a, b] (.setPrices a b)
  | c30 (a : Nat) : Dec 30 [a] (.cheatingValue a)
  | c31 : Dec 31 [] (.cheatingSignals)
  | c32 : Dec 32 [] (.expectedProfit)
  | c33 : Dec 33 [] (.detectionProbability)
  | c34 : Dec 34 [] (.harmProbability)
  | c35 : Dec 35 [] (.totalCost)
  | c36 (a : Nat) : Dec 36 [a] (.deterrentPriorAt a)
  | c37 : Dec 37 [] (.deterrentPrior)
  | c40 : Dec 40 [] (.cheapestPrior)
  | c41 (a b : Nat) : Dec 41 [a, b] (.cheatingSignalsForPrior a b)
  | c42 (a b : Nat) : Dec 42 [a, b] (.cheatingSignalsForStakes a b)
  | c43 : Dec 43 [] (.getSettings)
/-- the calls that the law asks -/
def DecR (n : Nat) (args : List Nat) (c : Kp417.Call) : Prop := (n = 0 ∧ args = [] ∧ c = .reset) ∨ Dec n args c
def anD (s : Kp417.State) (c : Kp417.Call) : Kp417.State × List Int := ((Kp417.step s c).1, (Kp417.step s c).2.num :: (Kp417.step s c).2.nums)
/-- the rows laid flat -/
abbrev Row := Nat × List Nat × Kp417.Call
def putN : List Row → List Nat
  | [] => []
  | r :: rest => r.1 :: (r.2.1 ++ putN rest)
/-- the answers laid flat, from a state -/
def toldR : Kp417.State → List Row → List Int
  | _, [] => []
  | s, r :: rest => ((anD s r.2.2).2.length : Int) :: ((anD s r.2.2).2 ++ toldR (anD s r.2.2).1 rest)
/-! ## what the law asks -/
theorem nat_of {a : Int} (h : Kp417Neutral.natural a = true) : ∃ n : Nat, a = (n : Int) := by
  unfold Kp417Neutral.natural at h
  rw [Bool.and_eq_true, decide_eq_true_eq] at h
  exact ⟨a.toNat, by omega⟩
def rowI (r : Row) : List (List Int) := [(r.1 : Int) :: r.2.1.map fun n : Nat => (n : Int)]
abbrev RowOf (c : List (List Int)) : Prop := ∃ r : Row, DecR r.1 r.2.1 r.2.2 ∧ c = rowI r ∧ PyKp417.whole c = c ∧ Kp417Neutral.callOf c = some r.2.2
theorem len0 {l : List Int} (h : 0 = l.length) : l = [] := List.length_eq_zero_iff.mp h.symm
theorem len1 {l : List Int} (h : 1 = l.length) : ∃ x, l = [x] := match l, h with
  | [x], _ => ⟨x, rfl⟩
theorem len2 {l : List Int} (h : 2 = l.length) : ∃ x y, l = [x, y] := match l, h with
  | [x, y], _ => ⟨x, y, rfl⟩
theorem rows0 {l : List (List Int)} (h : 0 = l.length) : l = [] := List.length_eq_zero_iff.mp h.symm
theorem pr_inj {a b c d : Nat} (h : some (a, b) = some (c, d)) : a = c ∧ b = d := Prod.mk.inj (Option.some.inj h)
theorem d0 {n : Nat} {c : Kp417.Call} {a : List Int} {xs : List (List Int)} (h : Dec n [] c) (e : Kp417Neutral.callOf [[(n : Int)]] = some c) (w : PyKp417.whole [[(n : Int)]] = [[(n : Int)]]) (hl : some (0, 0) = some (a.length, xs.length)) : RowOf (((n : Int) :: a) :: xs) := by
  obtain ⟨h1, h2⟩ := pr_inj hl
  rw [len0 h1, rows0 h2]
  exact ⟨(n, [], c), .inr h, rfl, w, e⟩
theorem d1 {n : Nat} {c : Nat → Kp417.Call} {a : List Int} {xs : List (List Int)} (h : ∀ x, Dec n [x] (c x)) (e : ∀ x : Int, Kp417Neutral.callOf [[(n : Int), x]] = some (c x.toNat)) (w : ∀ x, PyKp417.whole [[(n : Int), x]] = [[(n : Int), x]])
    (q : ∀ x, Kp417Neutral.asked1 [[(n : Int), x]] = Kp417Neutral.natural x) (hl : some (1, 0) = some (a.length, xs.length)) (ha : Kp417Neutral.asked1 (PyKp417.whole (((n : Int) :: a) :: xs)) = true) : RowOf (((n : Int) :: a) :: xs) := by
  obtain ⟨h1, h2⟩ := pr_inj hl
  obtain ⟨x, rfl⟩ := len1 h1
  rw [rows0 h2] at ha ⊢
  rw [w, q] at ha
  obtain ⟨x, rfl⟩ := nat_of ha
  exact ⟨(n, [x], c x), .inr (h x), rfl, w _, e _⟩
theorem d2 {n : Nat} {c : Nat → Nat → Kp417.Call} {a : List Int} {xs : List (List Int)} (h : ∀ x y, Dec n [x, y] (c x y)) (e : ∀ x y : Int, Kp417Neutral.callOf [[(n : Int), x, y]] = some (c x.toNat y.toNat)) (w : ∀ x y, PyKp417.whole [[(n : Int), x, y]] = [[(n : Int), x, y]])
    (q : ∀ x y, Kp417Neutral.asked1 [[(n : Int), x, y]] = (Kp417Neutral.natural x && Kp417Neutral.natural y)) (hl : some (2, 0) = some (a.length, xs.length)) (ha : Kp417Neutral.asked1 (PyKp417.whole (((n : Int) :: a) :: xs)) = true) : RowOf (((n : Int) :: a) :: xs) := by
  obtain ⟨h1, h2⟩ := pr_inj hl
  obtain ⟨x, y, rfl⟩ := len2 h1
  rw [rows0 h2] at ha ⊢
  rw [w, q, Bool.and_eq_true] at ha
  obtain ⟨x, rfl⟩ := nat_of ha.1
  obtain ⟨y, rfl⟩ := nat_of ha.2
  exact ⟨(n, [x, y], c x y), .inr (h x y), rfl, w _ _, e _ _⟩
theorem dL {n : Nat} {a : List Int} {xs : List (List Int)} (w : ∀ r, PyKp417.whole [[(n : Int)], r] = [[(n : Int)], r]) (q : ∀ r, Kp417Neutral.asked1 [[(n : Int)], r] = false) (hl : some (0, 1) = some (a.length, xs.length)) (ha : Kp417Neutral.asked1 (PyKp417.whole (((n : Int) :: a) :: xs)) = true) : RowOf (((n : Int) :: a) :: xs) := by
  obtain ⟨h1, h2⟩ := pr_inj hl
  rw [len0 h1] at ha
  match xs, h2 with
  | [r], _ =>
    rw [w, q] at ha
    cases ha
theorem dec_row {c : List (List Int)} (hs : PyFlat.okCall PyKp417.shape c) (h : Kp417Neutral.asked1 (PyKp417.whole c) = true) : RowOf c := by
  obtain ⟨p, a, xs, rfl, hs⟩ := hs
  unfold PyKp417.shape at hs
  by_cases e : p = 0
  · subst e
    rw [if_pos rfl] at hs
    obtain ⟨h1, h2⟩ := pr_inj hs
    rw [len0 h1, rows0 h2]
    exact ⟨(0, [], .reset), .inl ⟨rfl, rfl, rfl⟩, rfl, rfl, rfl⟩
  rw [if_neg e] at hs
  clear e
  by_cases e : p = 1
  · subst e
    rw [if_pos rfl] at hs
    exact d2 (n := 1) Dec.c1 (fun _ _ => rfl) (fun _ _ => rfl) (fun _ _ => rfl) hs h
  rw [if_neg e] at hs
  clear e
  by_cases e : p = 2
  · subst e
    rw [if_pos rfl] at hs
    exact d1 (n := 2) Dec.c2 (fun _ => rfl) (fun _ => rfl) (fun _ => rfl) hs h
  rw [if_neg e] at hs
  clear e
  by_cases e : p = 3
  · subst e
    rw [if_pos rfl] at hs
    exact d1 (n := 3) Dec.c3 (fun _ => rfl) (fun _ => rfl) (fun _ => rfl) hs h
  rw [if_neg e] at hs
  clear e
  by_cases e : p = 4
  · subst e
    rw [if_pos rfl] at hs
    exact d1 (n := 4) Dec.c4 (fun _ => rfl) (fun _ => rfl) (fun _ => rfl) hs h
  rw [if_neg e] at hs
  clear e
  by_cases e : p = 5
  · subst e
    rw [if_pos rfl] at hs
    exact d2 (n := 5) Dec.c5 (fun _ _ => rfl) (fun _ _ => rfl) (fun _ _ => rfl) hs h
  rw [if_neg e] at hs
  clear e
  by_cases e : p = 6
  · subst e
    rw [if_pos rfl] at hs
    exact d1 (n := 6) Dec.c6 (fun _ => rfl) (fun _ => rfl) (fun _ => rfl) hs h
  rw [if_neg e] at hs
  clear e
  by_cases e : p = 7
  · subst e
    rw [if_pos rfl] at hs
    exact d0 (n := 7) Dec.c7 rfl rfl hs
  rw [if_neg e] at hs
  clear e
  by_cases e : p = 8
  · subst e
    rw [if_pos rfl] at hs
    exact d0 (n := 8) Dec.c8 rfl rfl hs
  rw [if_neg e] at hs
  clear e
  by_cases e : p = 9
  · subst e
    rw [if_pos rfl] at hs
    exact d0 (n := 9) Dec.c9 rfl rfl hs
  rw [if_neg e] at hs
  clear e
  by_cases e : p = 10
  · subst e
    rw [if_pos rfl] at hs
    exact d1 (n := 10) Dec.c10 (fun _ => rfl) (fun _ => rfl) (fun _ => rfl) hs h
  rw [if_neg e] at hs
  clear e
  by_cases e : p = 11
  · subst e
    rw [if_pos rfl] at hs
    exact d0 (n := 11) Dec.c11 rfl rfl hs
  rw [if_neg e] at hs
  clear e
  by_cases e : p = 12
  · subst e
    rw [if_pos rfl] at hs
    exact d1 (n := 12) Dec.c12 (fun _ => rfl) (fun _ => rfl) (fun _ => rfl) hs h
  rw [if_neg e] at hs
  clear e
  by_cases e : p = 13
  · subst e
    rw [if_pos rfl] at hs
    exact d0 (n := 13) Dec.c13 rfl rfl hs
  rw [if_neg e] at hs
  clear e
  by_cases e : p = 14
  · subst e
    rw [if_pos rfl] at hs
    exact d0 (n := 14) Dec.c14 rfl rfl hs
  rw [if_neg e] at hs
  clear e
  by_cases e : p = 15
  · subst e
    rw [if_pos rfl] at hs
    exact d1 (n := 15) Dec.c15 (fun _ => rfl) (fun _ => rfl) (fun _ => rfl) hs h
  rw [if_neg e] at hs
  clear e
  by_cases e : p = 16
  · subst e
    rw [if_pos rfl] at hs
    exact d2 (n := 16) Dec.c16 (fun _ _ => rfl) (fun _ _ => rfl) (fun _ _ => rfl) hs h
  rw [if_neg e] at hs
  clear e
  by_cases e : p = 17
  · subst e
    rw [if_pos rfl] at hs
    exact d2 (n := 17) Dec.c17 (fun _ _ => rfl) (fun _ _ => rfl) (fun _ _ => rfl) hs h
  rw [if_neg e] at hs
  clear e
  by_cases e : p = 18
  · subst e
    rw [if_pos rfl] at hs
    exact d2 (n := 18) Dec.c18 (fun _ _ => rfl) (fun _ _ => rfl) (fun _ _ => rfl) hs h
  rw [if_neg e] at hs
  clear e
  by_cases e : p = 19
  · subst e
    rw [if_pos rfl] at hs
    exact d2 (n := 19) Dec.c19 (fun _ _ => rfl) (fun _ _ => rfl) (fun _ _ => rfl) hs h
  rw [if_neg e] at hs
  clear e
  by_cases e : p = 20
  · subst e
    rw [if_pos rfl] at hs
    exact d0 (n := 20) Dec.c20 rfl rfl hs
  rw [if_neg e] at hs
  clear e
  by_cases e : p = 21
  · subst e
    rw [if_pos rfl] at hs
    exact d0 (n := 21) Dec.c21 rfl rfl hs
  rw [if_neg e] at hs
  clear e
  by_cases e : p = 22
  · subst e
    rw [if_pos rfl] at hs
    exact d2 (n := 22) Dec.c22 (fun _ _ => rfl) (fun _ _ => rfl) (fun _ _ => rfl) hs h
  rw [if_neg e] at hs
  clear e
  by_cases e : p = 23
  · subst e
    rw [if_pos rfl] at hs
    exact d0 (n := 23) Dec.c23 rfl rfl hs
  rw [if_neg e] at hs
  clear e
  by_cases e : p = 24
  · subst e
    rw [if_pos rfl] at hs
    exact d1 (n := 24) Dec.c24 (fun _ => rfl) (fun _ => rfl) (fun _ => rfl) hs h
  rw [if_neg e] at hs
  clear e
  by_cases e : p = 25
  · subst e
    rw [if_pos rfl] at hs
    exact dL (n := 25) (fun _ => rfl) (fun _ => rfl) hs h
  rw [if_neg e] at hs
  clear e
  by_cases e : p = 26
  · subst e
    rw [if_pos rfl] at hs
    exact dL (n := 26) (fun _ => rfl) (fun _ => rfl) hs h
  rw [if_neg e] at hs
  clear e
  by_cases e : p = 27
  · subst e
    rw [if_pos rfl] at hs
    exact d2 (n := 27) Dec.c27 (fun _ _ => rfl) (fun _ _ => rfl) (fun _ _ => rfl) hs h
  rw [if_neg e] at hs
  clear e
  by_cases e : p = 28
  · subst e
    rw [if_pos rfl] at hs
    exact d2 (n := 28) Dec.c28 (fun _ _ => rfl) (fun _ _ => rfl) (fun _ _ => rfl) hs h
  rw [if_neg e] at hs
  clear e
  by_cases e : p = 29
  · subst e
    rw [if_pos rfl] at hs
    exact d2 (n := 29) Dec.c29 (fun _ _ => rfl) (fun _ _ => rfl) (fun _ _ => rfl) hs h
  rw [if_neg e] at hs
  clear e
  by_cases e : p = 30
  · subst e
    rw [if_pos rfl] at hs
    exact d1 (n := 30) Dec.c30 (fun _ => rfl) (fun _ => rfl) (fun _ => rfl) hs h
  rw [if_neg e] at hs
  clear e
  by_cases e : p = 31
  · subst e
    rw [if_pos rfl] at hs
    exact d0 (n := 31) Dec.c31 rfl rfl hs
  rw [if_neg e] at hs
  clear e
  by_cases e : p = 32
  · subst e
    rw [if_pos rfl] at hs
    exact d0 (n := 32) Dec.c32 rfl rfl hs
  rw [if_neg e] at hs
  clear e
  by_cases e : p = 33
  · subst e
    rw [if_pos rfl] at hs
    exact d0 (n := 33) Dec.c33 rfl rfl hs
  rw [if_neg e] at hs
  clear e
  by_cases e : p = 34
  · subst e
    rw [if_pos rfl] at hs
    exact d0 (n := 34) Dec.c34 rfl rfl hs
  rw [if_neg e] at hs
  clear e
  by_cases e : p = 35
  · subst e
    rw [if_pos rfl] at hs
    exact d0 (n := 35) Dec.c35 rfl rfl hs
  rw [if_neg e] at hs
  clear e
  by_cases e : p = 36
  · subst e
    rw [if_pos rfl] at hs
    exact d1 (n := 36) Dec.c36 (fun _ => rfl) (fun _ => rfl) (fun _ => rfl) hs h
  rw [if_neg e] at hs
  clear e
  by_cases e : p = 37
  · subst e
    rw [if_pos rfl] at hs
    exact d0 (n := 37) Dec.c37 rfl rfl hs
  rw [if_neg e] at hs
  clear e
  by_cases e : p = 38
  · subst e
    rw [if_pos rfl] at hs
    exact dL (n := 38) (fun _ => rfl) (fun _ => rfl) hs h
  rw [if_neg e] at hs
  clear e
  by_cases e : p = 39
  · subst e
    rw [if_pos rfl] at hs
    exact dL (n := 39) (fun _ => rfl) (fun _ => rfl) hs h
  rw [if_neg e] at hs
  clear e
  by_cases e : p = 40
  · subst e
    rw [if_pos rfl] at hs
    exact d0 (n := 40) Dec.c40 rfl rfl hs
  rw [if_neg e] at hs
  clear e
  by_cases e : p = 41
  · subst e
    rw [if_pos rfl] at hs
    exact d2 (n := 41) Dec.c41 (fun _ _ => rfl) (fun _ _ => rfl) (fun _ _ => rfl) hs h
  rw [if_neg e] at hs
  clear e
  by_cases e : p = 42
  · subst e
    rw [if_pos rfl] at hs
    exact d2 (n := 42) Dec.c42 (fun _ _ => rfl) (fun _ _ => rfl) (fun _ _ => rfl) hs h
  rw [if_neg e] at hs
  clear e
  by_cases e : p = 43
  · subst e
    rw [if_pos rfl] at hs
    exact d0 (n := 43) Dec.c43 rfl rfl hs
  rw [if_neg e] at hs
  clear e
  cases hs
theorem dec_rows : ∀ cs : List (List (List Int)), (∀ c ∈ cs, Kp417Neutral.asked1 (PyKp417.whole c) = true ∧ PyFlat.okCall PyKp417.shape c) →
    ∃ rows : List Row, (∀ r ∈ rows, DecR r.1 r.2.1 r.2.2) ∧ PyFlat.put cs = (putN rows).map (fun n : Nat => (n : Int)) ∧ cs.map PyKp417.whole = cs ∧ ∀ s, PyFlat.told (PyFlat.played Kp417Neutral.step s cs) = toldR s rows
  | [], _ => ⟨[], (fun r hr => by cases hr), rfl, rfl, fun s => rfl⟩
  | c :: cs, h => by
    obtain ⟨h1, h2⟩ := h c List.mem_cons_self
    obtain ⟨r, d, e, ew, k⟩ := dec_row h2 h1
    obtain ⟨rows, h3, h4, hm, h5⟩ := dec_rows cs fun x hx => h x (List.mem_cons_of_mem _ hx)
    refine ⟨r :: rows, fun x hx => ?_, ?_, by rw [List.map_cons, ew, hm], fun s => ?_⟩
    · rcases List.mem_cons.mp hx with rfl | hx
      · exact d
      · exact h3 x hx
    · show PyFlat.put1 c ++ PyFlat.put cs = _
      rw [h4, e]
      show (((r.1 : Int) :: r.2.1.map fun n : Nat => (n : Int)) ++ []) ++ _ = _
      rw [List.append_nil]
      rw [show putN (r :: rows) = r.1 :: (r.2.1 ++ putN rows) from rfl, List.map_cons, List.map_append]
      rfl
    · have st : Kp417Neutral.step s c = anD s r.2.2 := by
        unfold Kp417Neutral.step
        rw [k]
        rfl
      show PyFlat.told ((Kp417Neutral.step s c).2 :: PyFlat.played Kp417Neutral.step (Kp417Neutral.step s c).1 cs) = _
      rw [st]
      show ((((anD s r.2.2).2.length : Int) :: (anD s r.2.2).2) ++ PyFlat.told (PyFlat.played Kp417Neutral.step (anD s r.2.2).1 cs)) = _
      rw [h5]
      rfl
theorem law_rows {l : List Int} (h : PyKp417.answers_asked l = true) : ∃ rows : List Row, (∀ r ∈ rows, DecR r.1 r.2.1 r.2.2) ∧ l = (putN rows).map (fun n : Nat => (n : Int)) ∧ PyKp417.answers l = toldR none rows ∧ (toldR none rows).length ≤ 10000000 := by
  unfold PyKp417.answers_asked at h
  cases hc : PyFlat.calls PyKp417.shape l.length l with
  | none =>
    rw [hc] at h
    cases h
  | some raw =>
    rw [hc] at h
    have h' : (!raw.isEmpty && PyFlat.atMost 80 raw && PyInside.calls PyKp417.bound raw && Kp417Neutral.asked (raw.map PyKp417.whole) && PyFlat.short 10000000 (PyKp417.answers l)) = true := h
    rw [Bool.and_eq_true, Bool.and_eq_true] at h'
    obtain ⟨⟨_, hask⟩, hsh⟩ := h'
    unfold Kp417Neutral.asked at hask
    rw [Bool.and_eq_true, Bool.and_eq_true] at hask
    have hall := List.all_eq_true.mp hask.2.2
    obtain ⟨hl, hok⟩ := PyFlat.put_calls _ _ _ hc
    obtain ⟨rows, h1, h2, em, h3⟩ := dec_rows raw fun c hx => ⟨hall _ (List.mem_map_of_mem hx), hok c hx⟩
    have ha : PyKp417.answers l = toldR none rows := by
      unfold PyKp417.answers PyKp417.calls
      rw [hc]
      show PyFlat.told (PyFlat.played Kp417Neutral.step Kp417Neutral.start (raw.map PyKp417.whole)) = _
      rw [em]
      exact h3 none
    refine ⟨rows, h1, hl.trans h2, ha, ?_⟩
    rw [← ha]
    exact of_decide_eq_true hsh
end Pw
set_option maxRecDepth 100000
set_option maxHeartbeats 2000000
namespace Pw
open PySem PySem.Spec PyProof.Rows L2
def top (i : Nat) : Stmt := PySem.Challenge.pw_policywatch_s01_answers.main.body.getD i (.Pass ⟨0, 0, 0, 0⟩)
abbrev P0 : Program := PySem.Challenge.rw_policywatch_s01_answers.prog
def loose : List PySem.Str := (["NO_SETTING", "HAS_SETTING", "NOT_THERE", "BAD_ARGUMENT", "HAS_LOG", "HAS_SET", "IS_FULL", "NOTHING_SUCH", "NOT_ALLOWED", "NOTHING_LEFT", "divisor", "lowest", "power", "is_less", "is_share", "Setting", "copied", "with_prior", "with_stakes", "are_weights", "is_mapping", "merged_weights", "merged", "has_signal", "weight_of", "value_bottom", "value_top", "cheating_value", "cheating_signals", "rational_set"] : List PySem.Str) ++ (["expected_profit", "weights_at", "detection_probability", "harm_probability", "total_cost", "deterrent_at", "deterrent_prior", "tried_priors", "cost_with", "is_cheaper", "cheapest_prior", "Monitor", "Desk", "is_consistent", "candidates_by", "candidates", "suspects", "whole_weight", "belief", "honest_belief", "harm_top", "harm_of", "next_harm", "worst_candidate", "is_allowed", "detection_top", "detection_by", "are_enough", "are_distinguishable", "log_count"] : List PySem.Str) ++ (["MOST_SIGNALS", "MOST_POLICIES", "MOST_WEIGHT", "MOST_ENTRIES", "MOST_PRICE", "listed", "create_setting", "add_checked", "is_weight", "add_policy", "add_rational_policy", "remove_policy", "record_test", "record_production", "undo_record", "old_permit", "give_permit", "revoke_permit", "set_test_weights", "set_production_weights", "set_prior", "set_stakes", "set_prices", "merge_signals", "MOST_TESTS", "told", "has_policy", "get_policy", "get_log", "belief_in"] : List PySem.Str) ++ (["honest", "suspects_at", "next_harm_probability", "worst", "is_detectable", "policy_detection_probability", "tests_needed", "distinguishable", "permit_status", "candidates_after_test", "counts", "value_at", "deterrent_prior_at", "whole_deterrent_prior", "preview_merge", "cheapest", "signals_for_prior", "signals_for_stakes", "agent_answer", "get_settings", "WITH_LIST", "SIZES", "many_behind", "change_policies", "ask_beliefs", "ask_tests", "change_setting", "ask_setting", "monitor_answer", "answer"] : List PySem.Str)
def fa : List He.Fa := ([.glo "divisor", .glo "lowest", .glo "power", .glo "is_less", .glo "is_share", .glo "copied", .glo "with_prior", .glo "with_stakes", .glo "has_signal", .glo "weight_of", .glo "value_bottom", .glo "value_top", .glo "cheating_value", .glo "cheating_signals", .glo "rational_set", .glo "expected_profit", .glo "weights_at", .glo "detection_probability", .glo "harm_probability", .glo "total_cost", .glo "deterrent_at", .glo "deterrent_prior", .glo "tried_priors", .glo "cost_with", .glo "is_cheaper", .glo "cheapest_prior", .glo "is_consistent", .glo "candidates_by", .glo "candidates", .glo "suspects"] : List He.Fa) ++ ([.glo "whole_weight", .glo "belief", .glo "honest_belief", .glo "harm_top", .glo "harm_of", .glo "next_harm", .glo "worst_candidate", .glo "is_allowed", .glo "detection_top", .glo "detection_by", .glo "are_enough", .glo "are_distinguishable", .glo "log_count", .glo "listed", .glo "create_setting", .glo "add_checked", .glo "is_weight", .glo "add_policy", .glo "add_rational_policy", .glo "remove_policy", .glo "record_test", .glo "record_production", .glo "undo_record", .glo "old_permit", .glo "give_permit", .glo "revoke_permit", .glo "set_prior", .glo "set_stakes", .glo "set_prices", .glo "told"] : List He.Fa) ++ ([.glo "has_policy", .glo "get_policy", .glo "get_log", .glo "belief_in", .glo "honest", .glo "suspects_at", .glo "next_harm_probability", .glo "worst", .glo "is_detectable", .glo "policy_detection_probability", .glo "tests_needed", .glo "distinguishable", .glo "permit_status", .glo "candidates_after_test", .glo "counts", .glo "value_at", .glo "deterrent_prior_at", .glo "whole_deterrent_prior", .glo "cheapest", .glo "signals_for_prior", .glo "signals_for_stakes", .glo "agent_answer", .glo "get_settings", .glo "many_behind", .glo "change_policies", .glo "ask_beliefs", .glo "ask_tests", .glo "change_setting", .glo "ask_setting", .glo "monitor_answer"] : List He.Fa) ++ ([.glo "answer", .glo "answers", .glo "Setting", .glo "Monitor", .glo "Desk", .free "len", .free "sum", .free "range", .free "abs", .free "list", .int "NO_SETTING" (-11), .int "HAS_SETTING" (-13), .int "NOT_THERE" (-2), .int "BAD_ARGUMENT" (-22), .int "HAS_LOG" (-16), .int "HAS_SET" (-17), .int "IS_FULL" (-28), .int "NOTHING_SUCH" (-33), .int "NOT_ALLOWED" (-30), .int "NOTHING_LEFT" (-6), .int "MOST_SIGNALS" (5), .int "MOST_POLICIES" (6), .int "MOST_WEIGHT" (99), .int "MOST_ENTRIES" (16), .int "MOST_PRICE" (999), .int "MOST_TESTS" (12), .cls "Setting", .mkr "Setting", .noat "Setting" "signal_count", .noat "Setting" "test_weights"] : List He.Fa) ++ ([.noat "Setting" "production_weights", .noat "Setting" "prior_num", .noat "Setting" "prior_den", .noat "Setting" "gain", .noat "Setting" "loss", .noat "Setting" "harm_price", .noat "Setting" "test_price", .cls "Monitor", .mkr "Monitor", .noat "Monitor" "setting", .noat "Monitor" "policies", .noat "Monitor" "log", .noat "Monitor" "permit", .cls "Desk", .mkr "Desk", .noat "Desk" "monitor", .glo "WITH_LIST", .glo "SIZES"] : List He.Fa)
def fn : List He.DefD := ([⟨("divisor", none), "divisor", "divisor", defArgs (top 11), defBody (top 11), defScope (top 11), [], []⟩, ⟨("lowest", none), "lowest", "lowest", defArgs (top 12), defBody (top 12), defScope (top 12), [], []⟩, ⟨("power", none), "power", "power", defArgs (top 13), defBody (top 13), defScope (top 13), [], []⟩, ⟨("is_less", none), "is_less", "is_less", defArgs (top 14), defBody (top 14), defScope (top 14), [], []⟩, ⟨("is_share", none), "is_share", "is_share", defArgs (top 15), defBody (top 15), defScope (top 15), [], []⟩, ⟨("copied", none), "copied", "copied", defArgs (top 18), defBody (top 18), defScope (top 18), [], []⟩, ⟨("with_prior", none), "with_prior", "with_prior", defArgs (top 19), defBody (top 19), defScope (top 19), [], []⟩, ⟨("with_stakes", none), "with_stakes", "with_stakes", defArgs (top 20), defBody (top 20), defScope (top 20), [], []⟩, ⟨("has_signal", none), "has_signal", "has_signal", defArgs (top 25), defBody (top 25), defScope (top 25), [], []⟩, ⟨("weight_of", none), "weight_of", "weight_of", defArgs (top 26), defBody (top 26), defScope (top 26), [], []⟩, ⟨("value_bottom", none), "value_bottom", "value_bottom", defArgs (top 28), defBody (top 28), defScope (top 28), [], []⟩, ⟨("value_top", none), "value_top", "value_top", defArgs (top 29), defBody (top 29), defScope (top 29), [], []⟩, ⟨("cheating_value", none), "cheating_value", "cheating_value", defArgs (top 30), defBody (top 30), defScope (top 30), [], []⟩, ⟨("cheating_signals", none), "cheating_signals", "cheating_signals", defArgs (top 31), defBody (top 31), defScope (top 31), [], []⟩, ⟨("rational_set", none), "rational_set", "rational_set", defArgs (top 32), defBody (top 32), defScope (top 32), [], []⟩, ⟨("expected_profit", none), "expected_profit", "expected_profit", defArgs (top 33), defBody (top 33), defScope (top 33), [], []⟩, ⟨("weights_at", none), "weights_at", "weights_at", defArgs (top 34), defBody (top 34), defScope (top 34), [], []⟩, ⟨("detection_probability", none), "detection_probability", "detection_probability", defArgs (top 35), defBody (top 35), defScope (top 35), [], []⟩, ⟨("harm_probability", none), "harm_probability", "harm_probability", defArgs (top 36), defBody (top 36), defScope (top 36), [], []⟩, ⟨("total_cost", none), "total_cost", "total_cost", defArgs (top 37), defBody (top 37), defScope (top 37), [], []⟩, ⟨("deterrent_at", none), "deterrent_at", "deterrent_at", defArgs (top 38), defBody (top 38), defScope (top 38), [], []⟩, ⟨("deterrent_prior", none), "deterrent_prior", "deterrent_prior", defArgs (top 39), defBody (top 39), defScope (top 39), [], []⟩, ⟨("tried_priors", none), "tried_priors", "tried_priors", defArgs (top 40), defBody (top 40), defScope (top 40), [], []⟩, ⟨("cost_with", none), "cost_with", "cost_with", defArgs (top 41), defBody (top 41), defScope (top 41), [], []⟩, ⟨("is_cheaper", none), "is_cheaper", "is_cheaper", defArgs (top 42), defBody (top 42), defScope (top 42), [], []⟩, ⟨("cheapest_prior", none), "cheapest_prior", "cheapest_prior", defArgs (top 43), defBody (top 43), defScope (top 43), [], []⟩, ⟨("is_consistent", none), "is_consistent", "is_consistent", defArgs (top 47), defBody (top 47), defScope (top 47), [], []⟩, ⟨("candidates_by", none), "candidates_by", "candidates_by", defArgs (top 48), defBody (top 48), defScope (top 48), [], []⟩, ⟨("candidates", none), "candidates", "candidates", defArgs (top 49), defBody (top 49), defScope (top 49), [], []⟩, ⟨("suspects", none), "suspects", "suspects", defArgs (top 50), defBody (top 50), defScope (top 50), [], []⟩] : List He.DefD) ++ ([⟨("whole_weight", none), "whole_weight", "whole_weight", defArgs (top 51), defBody (top 51), defScope (top 51), [], []⟩, ⟨("belief", none), "belief", "belief", defArgs (top 52), defBody (top 52), defScope (top 52), [], []⟩, ⟨("honest_belief", none), "honest_belief", "honest_belief", defArgs (top 53), defBody (top 53), defScope (top 53), [], []⟩, ⟨("harm_top", none), "harm_top", "harm_top", defArgs (top 54), defBody (top 54), defScope (top 54), [], []⟩, ⟨("harm_of", none), "harm_of", "harm_of", defArgs (top 55), defBody (top 55), defScope (top 55), [], []⟩, ⟨("next_harm", none), "next_harm", "next_harm", defArgs (top 56), defBody (top 56), defScope (top 56), [], []⟩, ⟨("worst_candidate", none), "worst_candidate", "worst_candidate", defArgs (top 57), defBody (top 57), defScope (top 57), [], []⟩, ⟨("is_allowed", none), "is_allowed", "is_allowed", defArgs (top 58), defBody (top 58), defScope (top 58), [], []⟩, ⟨("detection_top", none), "detection_top", "detection_top", defArgs (top 59), defBody (top 59), defScope (top 59), [], []⟩, ⟨("detection_by", none), "detection_by", "detection_by", defArgs (top 60), defBody (top 60), defScope (top 60), [], []⟩, ⟨("are_enough", none), "are_enough", "are_enough", defArgs (top 61), defBody (top 61), defScope (top 61), [], []⟩, ⟨("are_distinguishable", none), "are_distinguishable", "are_distinguishable", defArgs (top 62), defBody (top 62), defScope (top 62), [], []⟩, ⟨("log_count", none), "log_count", "log_count", defArgs (top 63), defBody (top 63), defScope (top 63), [], []⟩, ⟨("listed", none), "listed", "listed", defArgs (top 70), defBody (top 70), defScope (top 70), [], []⟩, ⟨("create_setting", none), "create_setting", "create_setting", defArgs (top 71), defBody (top 71), defScope (top 71), [], []⟩, ⟨("add_checked", none), "add_checked", "add_checked", defArgs (top 72), defBody (top 72), defScope (top 72), [], []⟩, ⟨("is_weight", none), "is_weight", "is_weight", defArgs (top 73), defBody (top 73), defScope (top 73), [], []⟩, ⟨("add_policy", none), "add_policy", "add_policy", defArgs (top 74), defBody (top 74), defScope (top 74), [], []⟩, ⟨("add_rational_policy", none), "add_rational_policy", "add_rational_policy", defArgs (top 75), defBody (top 75), defScope (top 75), [], []⟩, ⟨("remove_policy", none), "remove_policy", "remove_policy", defArgs (top 76), defBody (top 76), defScope (top 76), [], []⟩, ⟨("record_test", none), "record_test", "record_test", defArgs (top 77), defBody (top 77), defScope (top 77), [], []⟩, ⟨("record_production", none), "record_production", "record_production", defArgs (top 78), defBody (top 78), defScope (top 78), [], []⟩, ⟨("undo_record", none), "undo_record", "undo_record", defArgs (top 79), defBody (top 79), defScope (top 79), [], []⟩, ⟨("old_permit", none), "old_permit", "old_permit", defArgs (top 80), defBody (top 80), defScope (top 80), [], []⟩, ⟨("give_permit", none), "give_permit", "give_permit", defArgs (top 81), defBody (top 81), defScope (top 81), [], []⟩, ⟨("revoke_permit", none), "revoke_permit", "revoke_permit", defArgs (top 82), defBody (top 82), defScope (top 82), [], []⟩, ⟨("set_prior", none), "set_prior", "set_prior", defArgs (top 85), defBody (top 85), defScope (top 85), [], []⟩, ⟨("set_stakes", none), "set_stakes", "set_stakes", defArgs (top 86), defBody (top 86), defScope (top 86), [], []⟩, ⟨("set_prices", none), "set_prices", "set_prices", defArgs (top 87), defBody (top 87), defScope (top 87), [], []⟩, ⟨("told", none), "told", "told", defArgs (top 91), defBody (top 91), defScope (top 91), [], []⟩] : List He.DefD) ++ ([⟨("has_policy", none), "has_policy", "has_policy", defArgs (top 92), defBody (top 92), defScope (top 92), [], []⟩, ⟨("get_policy", none), "get_policy", "get_policy", defArgs (top 93), defBody (top 93), defScope (top 93), [], []⟩, ⟨("get_log", none), "get_log", "get_log", defArgs (top 94), defBody (top 94), defScope (top 94), [], []⟩, ⟨("belief_in", none), "belief_in", "belief_in", defArgs (top 95), defBody (top 95), defScope (top 95), [], []⟩, ⟨("honest", none), "honest", "honest", defArgs (top 96), defBody (top 96), defScope (top 96), [], []⟩, ⟨("suspects_at", none), "suspects_at", "suspects_at", defArgs (top 97), defBody (top 97), defScope (top 97), [], []⟩, ⟨("next_harm_probability", none), "next_harm_probability", "next_harm_probability", defArgs (top 98), defBody (top 98), defScope (top 98), [], []⟩, ⟨("worst", none), "worst", "worst", defArgs (top 99), defBody (top 99), defScope (top 99), [], []⟩, ⟨("is_detectable", none), "is_detectable", "is_detectable", defArgs (top 100), defBody (top 100), defScope (top 100), [], []⟩, ⟨("policy_detection_probability", none), "policy_detection_probability", "policy_detection_probability", defArgs (top 101), defBody (top 101), defScope (top 101), [], []⟩, ⟨("tests_needed", none), "tests_needed", "tests_needed", defArgs (top 102), defBody (top 102), defScope (top 102), [], []⟩, ⟨("distinguishable", none), "distinguishable", "distinguishable", defArgs (top 103), defBody (top 103), defScope (top 103), [], []⟩, ⟨("permit_status", none), "permit_status", "permit_status", defArgs (top 104), defBody (top 104), defScope (top 104), [], []⟩, ⟨("candidates_after_test", none), "candidates_after_test", "candidates_after_test", defArgs (top 105), defBody (top 105), defScope (top 105), [], []⟩, ⟨("counts", none), "counts", "counts", defArgs (top 106), defBody (top 106), defScope (top 106), [], []⟩, ⟨("value_at", none), "value_at", "value_at", defArgs (top 107), defBody (top 107), defScope (top 107), [], []⟩, ⟨("deterrent_prior_at", none), "deterrent_prior_at", "deterrent_prior_at", defArgs (top 108), defBody (top 108), defScope (top 108), [], []⟩, ⟨("whole_deterrent_prior", none), "whole_deterrent_prior", "whole_deterrent_prior", defArgs (top 109), defBody (top 109), defScope (top 109), [], []⟩, ⟨("cheapest", none), "cheapest", "cheapest", defArgs (top 111), defBody (top 111), defScope (top 111), [], []⟩, ⟨("signals_for_prior", none), "signals_for_prior", "signals_for_prior", defArgs (top 112), defBody (top 112), defScope (top 112), [], []⟩, ⟨("signals_for_stakes", none), "signals_for_stakes", "signals_for_stakes", defArgs (top 113), defBody (top 113), defScope (top 113), [], []⟩, ⟨("agent_answer", none), "agent_answer", "agent_answer", defArgs (top 114), defBody (top 114), defScope (top 114), [], []⟩, ⟨("get_settings", none), "get_settings", "get_settings", defArgs (top 115), defBody (top 115), defScope (top 115), [], []⟩, ⟨("many_behind", none), "many_behind", "many_behind", defArgs (top 119), defBody (top 119), defScope (top 119), [], []⟩, ⟨("change_policies", none), "change_policies", "change_policies", defArgs (top 120), defBody (top 120), defScope (top 120), [], []⟩, ⟨("ask_beliefs", none), "ask_beliefs", "ask_beliefs", defArgs (top 121), defBody (top 121), defScope (top 121), [], []⟩, ⟨("ask_tests", none), "ask_tests", "ask_tests", defArgs (top 122), defBody (top 122), defScope (top 122), [], []⟩, ⟨("change_setting", none), "change_setting", "change_setting", defArgs (top 123), defBody (top 123), defScope (top 123), [], []⟩, ⟨("ask_setting", none), "ask_setting", "ask_setting", defArgs (top 124), defBody (top 124), defScope (top 124), [], []⟩, ⟨("monitor_answer", none), "monitor_answer", "monitor_answer", defArgs (top 125), defBody (top 125), defScope (top 125), [], []⟩] : List He.DefD) ++ ([⟨("answer", none), "answer", "answer", defArgs (top 126), defBody (top 126), defScope (top 126), [], []⟩, ⟨("answers", none), "answers", "answers", defArgs (top 127), defBody (top 127), defScope (top 127), [], []⟩, ⟨("Setting", some "__init__"), "__init__", "Setting.__init__", defArgs (inClass (top 17) 0), defBody (inClass (top 17) 0), defScope (inClass (top 17) 0), [], []⟩, ⟨("Monitor", some "__init__"), "__init__", "Monitor.__init__", defArgs (inClass (top 45) 0), defBody (inClass (top 45) 0), defScope (inClass (top 45) 0), [], []⟩, ⟨("Desk", some "__init__"), "__init__", "Desk.__init__", defArgs (inClass (top 46) 0), defBody (inClass (top 46) 0), defScope (inClass (top 46) 0), [], []⟩] : List He.DefD)
def asL : List Addr := ([0, 1, 2, 3, 6, 52, 66, 262, 283, 65, 248, 261, 269, 282, 711, 712, 21, 20, 28, 27, 35, 34, 42, 41, 49, 48, 63, 62, 77, 76] : List Addr) ++ ([84, 83, 91, 90, 98, 97, 105, 104, 112, 111, 119, 118, 126, 125, 133, 132, 140, 139, 147, 146, 154, 153, 161, 160, 168, 167, 175, 174, 182, 181] : List Addr) ++ ([189, 188, 196, 195, 203, 202, 210, 209, 217, 216, 224, 223, 231, 230, 238, 237, 245, 244, 259, 258, 280, 279, 294, 293, 301, 300, 308, 307, 313, 312] : List Addr) ++ ([320, 319, 327, 326, 334, 333, 341, 340, 348, 347, 355, 354, 362, 361, 369, 368, 376, 375, 383, 382, 390, 389, 397, 396, 402, 401, 409, 408, 416, 415] : List Addr) ++ ([423, 422, 430, 429, 437, 436, 444, 443, 451, 450, 458, 457, 465, 464, 472, 471, 479, 478, 486, 485, 493, 492, 500, 499, 507, 506, 514, 513, 521, 520] : List Addr) ++ ([528, 527, 535, 534, 542, 541, 549, 548, 556, 555, 563, 562, 570, 569, 577, 576, 584, 583, 591, 590, 598, 597, 605, 604, 612, 611, 619, 618, 626, 625] : List Addr) ++ ([633, 632, 640, 639, 647, 646, 654, 653, 661, 660, 668, 667, 675, 674, 682, 681, 689, 688, 696, 695, 703, 702, 710, 709, 719, 718, 726, 725, 733, 732] : List Addr) ++ ([740, 739, 747, 746, 754, 753, 761, 760, 768, 767, 775, 774] : List Addr)
def withList : List Int := [25, 26, 38, 39]
def sizes : List Int := [0, 2, 1, 1, 1, 2, 1, 0, 0, 0, 1, 0, 1, 0, 0, 1, 2, 2, 2, 2, 0, 0, 2, 0, 1, 0, 0, 2, 2, 2, 1, 0, 0, 0, 0, 0, 1, 0, 0, 0, 0, 2, 2, 0]
abbrev AlP : Type := He.AlD × Bool
def obsP (K : PySem.W.Frag) : AlP := (He.obsD fa fn K, He.tupB K "WITH_LIST" (withList.map He.Dv.int) && He.tupB K "SIZES" (sizes.map He.Dv.int))
def valP : AlP := (He.valD fn, true)
def hk : PySem.W.Hook where
  α := AlP
  obs := fun s => obsP (He.frG s.heap.get? asL)
  val := fun _ => valP
  says := fun _ h => ∃ K : PySem.W.Frag, K.In h ∧ obsP K = valP
  of := fun _ _ e => ⟨_, He.frG_in, e⟩
  keeps := fun _ _ _ ⟨K, hK, c⟩ k => ⟨K, PySem.W.Frag.In.keeps hK k, c⟩
def ob (s : PySem.W.SharedT) : AlP := obsP (He.frG (HandSHeadRun.getT s) asL)
theorem ob_eq (s : PySem.W.SharedT) : ob s = hk.obs s.abs := by
  have e : HandSHeadRun.getT s = s.abs.heap.get? := funext (HandSHeadRun.getT_eq s)
  unfold ob
  rw [e]
  rfl
end Pw
namespace Pw
open PySem PySem.Spec PyProof.Rows L2 Evl
/-! ## the frame -/
section
variable {P : Program} {w : World} {K : PySem.W.Frag} {mg : Str → Option Value} {base : Heap} {h : Heap}
/-- what the top has left -/
structure Tx (K : PySem.W.Frag) (mg : Str → Option Value) (h : Heap) : Prop where
  X : K.In h
  G : h.Ns mainGlobals mg
  c : obsP K = valP
theorem Tx.d (T : Tx K mg h) : He.SaysD fa fn K := congrArg (fun z : AlP => z.1) T.c
theorem Tx.glo (T : Tx K mg h) (i : Nat) {x : Str} (e : fa[i]? = some (.glo x) := by rfl) : mg x = some (.ref (He.ga K x)) := He.glo_ok T.X T.G (T.d.fact i e)
theorem Tx.free (T : Tx K mg h) (i : Nat) {x : Str} (e : fa[i]? = some (.free x) := by rfl) : mg x = none := He.free_ok T.X T.G (T.d.fact i e)
theorem Tx.int (T : Tx K mg h) (i : Nat) {x : Str} {n : Int} (e : fa[i]? = some (.int x n) := by rfl) : ∃ t, mg x = some (.int n t) := He.int_ok T.X T.G (T.d.fact i e)
theorem Tx.cls (T : Tx K mg h) (i : Nat) {x : Str} (e : fa[i]? = some (.cls x) := by rfl) : Cls K (He.ga K x) := He.cls_ok (T.d.fact i e)
theorem Tx.noat (T : Tx K mg h) (i : Nat) {x f : Str} (e : fa[i]? = some (.noat x f) := by rfl) : NoAttr K (He.ga K x) f := He.noat_ok (T.d.fact i e)
theorem Tx.mkr (T : Tx K mg h) (i : Nat) {x : Str} (e : fa[i]? = some (.mkr x) := by rfl) : Mk K (He.ga K x) (He.ma K (He.ga K x) "__init__") := He.mkr_ok (T.d.fact i e)
theorem Tx.tw (T : Tx K mg h) (H : Hp) : SqT K H (He.ga K "WITH_LIST") (withList.map V.int) := by
  have c : (He.tupB K "WITH_LIST" (withList.map He.Dv.int) && He.tupB K "SIZES" (sizes.map He.Dv.int)) = true := congrArg (fun z : AlP => z.2) T.c
  exact He.tupB_ok (He.ba c).1 H
theorem Tx.ts (T : Tx K mg h) (H : Hp) : SqT K H (He.ga K "SIZES") (sizes.map V.int) := by
  have c : (He.tupB K "WITH_LIST" (withList.map He.Dv.int) && He.tupB K "SIZES" (sizes.map He.Dv.int)) = true := congrArg (fun z : AlP => z.2) T.c
  exact He.tupB_ok (He.ba c).2 H
/-- the def x keeps the promise sp -/
structure OkF (P : Program) (w : World) (K : PySem.W.Frag) (mg : Str → Option Value) (base : Heap) (k : Nat) (x : Str) (ps : List Str) (sp : Sp) : Prop where
  m : mg x = some (.ref (He.ga K x))
  kp : PySem.W.keepIn K (.ref (He.ga K x)) = true
  ex : ∃ fd, Binds K fd ps [] ∧ FnOk P w K mg base CX0 k (He.ga K x) fd ps sp
theorem mkOk (T : Tx K mg h) {st : Stmt} {x : Str} {N ps : List Str} {k : Nat} {sp : Sp} (i j : Nat) (S : FnScope N ps (defScope st)) (len : ∀ vs H Q E, sp vs H Q E → vs.length = ps.length)
    (hbody : ∀ (f : Addr) (cdv : Value) (A : Around) (outer : List Env) (s : Shared) (H : Hp) (vs : List V) (Q : VK) (E : XK), Room k (A.deeper (envOfC x (defScope st) s.heap.objs.size f cdv)) → sp vs H Q E →
      ∃ t, PSs (cxOf CX0 P w K mg base N x (defScope st) f cdv A outer s H E).nox (defBody st) t ∧ t { nx := fun _ H' => Q .non H', rt := Q } (start N vs) H)
    (hb : ∀ (kV doc pm : Value) (an : Option Addr) (cdv ct : Value) (us : List Value), us.length = ps.length → bindArgs (PySem.W.fnOf x x (defArgs st) (defBody st) (defScope st) .none kV doc pm an cdv ct) ⟨us, []⟩ = pure (ps.zip us))
    (hi : fa[i]? = some (.glo x) := by rfl) (hj : fn[j]? = some ⟨(x, none), x, x, defArgs st, defBody st, defScope st, [], []⟩ := by rfl) : OkF P w K mg base (k + 1) x ps sp := by
  obtain ⟨fd, F⟩ := T.d.def_ j hj
  have F' : FunD K x x (defArgs st) (defBody st) (defScope st) [] [] (He.ga K x) fd := F
  exact ⟨T.glo i hi, F'.kp, fd, F'.bindsN hb, F'.ok S len fun cdv A outer s H vs Q E hr hsp => by
    obtain ⟨t, h1, h2⟩ := hbody _ cdv A outer s H vs Q E hr hsp
    exact ⟨t, h1.nox, h2⟩⟩
/-- __init__ of the class c -/
structure OkI (P : Program) (w : World) (K : PySem.W.Frag) (mg : Str → Option Value) (base : Heap) (k : Nat) (c : Str) (ps : List Str) (sp : Sp) : Prop where
  m : mg c = some (.ref (He.ga K c))
  mkr : Mk K (He.ga K c) (He.ma K (He.ga K c) "__init__")
  ex : ∃ fd, Binds K fd ps [] ∧ FnOk P w K mg base CX0 k (He.ma K (He.ga K c) "__init__") fd ps sp
theorem mkOkI (T : Tx K mg h) {st : Stmt} {c q : Str} {N ps : List Str} {k : Nat} {sp : Sp} (i i2 j : Nat) (S : FnScope N ps (defScope st)) (len : ∀ vs H Q E, sp vs H Q E → vs.length = ps.length)
    (hbody : ∀ (f : Addr) (cdv : Value) (A : Around) (outer : List Env) (s : Shared) (H : Hp) (vs : List V) (Q : VK) (E : XK), Room k (A.deeper (envOfC q (defScope st) s.heap.objs.size f cdv)) → sp vs H Q E →
      ∃ t, PSs (cxOf CX0 P w K mg base N q (defScope st) f cdv A outer s H E).nox (defBody st) t ∧ t { nx := fun _ H' => Q .non H', rt := Q } (start N vs) H)
    (hb : ∀ (kV doc pm : Value) (an : Option Addr) (cdv ct : Value) (us : List Value), us.length = ps.length → bindArgs (PySem.W.fnOf "__init__" q (defArgs st) (defBody st) (defScope st) .none kV doc pm an cdv ct) ⟨us, []⟩ = pure (ps.zip us))
    (hi : fa[i]? = some (.glo c) := by rfl) (hi2 : fa[i2]? = some (.mkr c) := by rfl) (hj : fn[j]? = some ⟨(c, some "__init__"), "__init__", q, defArgs st, defBody st, defScope st, [], []⟩ := by rfl) : OkI P w K mg base (k + 1) c ps sp := by
  obtain ⟨fd, F⟩ := T.d.def_ j hj
  have F' : FunD K "__init__" q (defArgs st) (defBody st) (defScope st) [] [] (He.ma K (He.ga K c) "__init__") fd := F
  exact ⟨T.glo i hi, T.mkr i2 hi2, fd, F'.bindsN hb, F'.ok S len fun cdv A outer s H vs Q E hr hsp => by
    obtain ⟨t, h1, h2⟩ := hbody _ cdv A outer s H vs Q E hr hsp
    exact ⟨t, h1.nox, h2⟩⟩
end
section
variable {X : Cx} {k : Nat} {ps : List Str} {sp : Sp} {x : Str} {p pos : Pos} {e : Expr} {es : List Expr} {t : TA}
theorem pe_callO (F : OkF X.prog X.w X.K X.mg X.base k x ps sp) (hr : Room k X.A) (hg : Gl X x) (ha : PA X (e :: es) t) (hdb : (x == ("__debug__" : Str)) = false := by decide)
    (he : starEach (e :: es) X.env = (false, eval e X.env) :: starEach es X.env := by rfl) (hpl : (backTo pos (starEach es X.env)).any (·.1) = false := by rfl) : PE X (.Call (.Name x p) (e :: es) [] pos) (tCall sp [] E0 t) := by
  obtain ⟨fd, hb, hF⟩ := F.ex
  exact pe_call hF hr hg F.m F.kp hb .nil pass0 ha hdb he hpl
theorem pe_makeO (F : OkI X.prog X.w X.K X.mg X.base k x ps sp) (hr : Room (k + 1) X.A) (hg : Gl X x) (ha : PA X (e :: es) t) (hdb : (x == ("__debug__" : Str)) = false := by decide)
    (he : starEach (e :: es) X.env = (false, eval e X.env) :: starEach es X.env := by rfl) (hpl : (backTo pos (starEach es X.env)).any (·.1) = false := by rfl) : PE X (.Call (.Name x p) (e :: es) [] pos) (tMake (He.ga X.K x) sp [] E0 t) := by
  obtain ⟨fd, hb, hF⟩ := F.ex
  exact pe_make F.mkr hF hr hg F.m hb .nil pass0 ha hdb he hpl
theorem pe_makeO0 (F : OkI X.prog X.w X.K X.mg X.base k x ps sp) (hr : Room (k + 1) X.A) (hg : Gl X x) (hdb : (x == ("__debug__" : Str)) = false := by decide) : PE X (.Call (.Name x p) [] [] pos) (tMake (He.ga X.K x) sp [] E0 tNil) := by
  obtain ⟨fd, hb, hF⟩ := F.ex
  exact pe_make0 F.mkr hF hr hg F.m hb .nil pass0 hdb
theorem pe_gint {n : Int} (c : ∃ t, X.mg x = some (.int n t)) (hg : Gl X x) (hd : (x == ("__debug__" : Str)) = false := by decide) : PE X (.Name x pos) (tC (.int n)) := by
  obtain ⟨t, ht⟩ := c
  exact pe_glob hg ht ⟨t, rfl⟩ hd
end
/-! ## what evaluates to what -/
def EvR (te : TE) (σ : L2.St) (H : Hp) (R : V → Hp → Prop) : Prop := ∀ H1, Ex H H1 → ∀ Q : VK, (∀ v H2, Ex H1 H2 → R v H2 → Q v H2) → te σ H1 Q
def EvAR (ta : TA) (σ : L2.St) (H : Hp) (R : List V → Hp → Prop) : Prop := ∀ H1, Ex H H1 → ∀ Q : List V → Hp → Prop, (∀ vs H2, Ex H1 H2 → R vs H2 → Q vs H2) → ta σ H1 Q
/-- a statement from any heap that extends H -/
def Sg (t : TS) (D : Ends) (σ : L2.St) (H : Hp) : Prop := ∀ H1, Ex H H1 → t D σ H1
/-- a promise without a change of what was there -/
def SpF {ι : Type} (A : ι → List V → Hp → Prop) (R : ι → V → Hp → Prop) : Sp := fun vs H Q _ => ∃ i, A i vs H ∧ ∀ v H2, Ex H H2 → R i v H2 → Q v H2
section
variable {K : PySem.W.Frag} {σ : L2.St} {H H' : Hp} {ta tb te tx : TE} {t u : TT} {x y z v : V} {D : Ends} {tu tw tz : TS} {R R' : V → Hp → Prop} {RA : List V → Hp → Prop} {i j : Nat}
theorem EvR.mono (e : Ex H H') (h : EvR te σ H R) : EvR te σ H' R := fun H1 a Q q => h H1 (e.trans a) Q q
theorem Sg.mono (e : Ex H H') (h : Sg tz D σ H) : Sg tz D σ H' := fun H1 a => h H1 (e.trans a)
theorem Sg.go (h : Sg tz D σ H) (e : Ex H H') : tz D σ H' := h H' e
theorem er_v (h : Ev te σ H v) : EvR te σ H (fun x _ => x = v) := fun H1 e Q q => h H1 e Q fun H2 e2 => q v H2 e2 rfl
theorem er_w (h : EvR te σ H R) (k : ∀ v H1, Ex H H1 → R v H1 → R' v H1) : EvR te σ H R' := fun H1 e Q q => h H1 e Q fun v H2 e2 r => q v H2 e2 (k v H2 (e.trans e2) r)
theorem ear_v {ta : TA} {vs : List V} (h : EvA ta σ H vs) : EvAR ta σ H (fun x _ => x = vs) := fun H1 e Q q => h H1 e Q fun H2 e2 => q vs H2 e2 rfl
theorem ear_nil : EvAR tNil σ H (fun vs _ => vs = []) := ear_v ea_nil
theorem ear_cons {tr : TA} (h : Ev ta σ H v) (hr : EvAR tr σ H RA) : EvAR (tCons ta tr) σ H (fun vs H2 => ∃ r, vs = v :: r ∧ RA r H2) := fun H1 e Q q =>
  h H1 e _ fun H2 e2 => hr H2 (e.trans e2) _ fun r H3 e3 hR => q _ H3 (e2.trans e3) ⟨r, rfl, hR⟩
/-- the first argument's value is known by R, what follows is one value -/
theorem ear_consR {tr : TA} {vs : List V} (h : EvR ta σ H R) (hm : ∀ v H1 H2, Ex H1 H2 → R v H1 → R v H2) (hr : EvA tr σ H vs) : EvAR (tCons ta tr) σ H (fun xs H2 => ∃ v, xs = v :: vs ∧ R v H2) := fun H1 e Q q =>
  h H1 e _ fun v H2 e2 hR => hr H2 (e.trans e2) _ fun H3 e3 => q _ H3 (e2.trans e3) ⟨v, rfl, hm _ _ _ e3 hR⟩
theorem ear_one (h : EvR ta σ H R) : EvAR (tCons ta tNil) σ H (fun xs H2 => ∃ v, xs = [v] ∧ R v H2) := fun H1 e Q q =>
  h H1 e _ fun v H2 e2 hR => q [v] H2 e2 ⟨v, rfl, hR⟩
/-- a call -/
theorem er_call {ι : Type} {A : ι → List V → Hp → Prop} {R : ι → V → Hp → Prop} (i : ι) {ta : TA} (h : EvAR ta σ H RA) (ha : ∀ vs H1, Ex H H1 → RA vs H1 → A i vs H1) : EvR (tCall (SpF A R) [] E0 ta) σ H (R i) := fun H1 e Q q =>
  h H1 e _ fun vs H2 e2 r => ⟨i, by rw [List.append_nil]; exact ha vs H2 (e.trans e2) r, fun v H3 e3 r3 => q v H3 (e2.trans e3) r3⟩
theorem er_callV {ι : Type} {A : ι → List V → Hp → Prop} {R : ι → V → Hp → Prop} (i : ι) {ta : TA} {vs : List V} (h : EvA ta σ H vs) (ha : ∀ H1, Ex H H1 → A i vs H1) : EvR (tCall (SpF A R) [] E0 ta) σ H (R i) :=
  er_call i (ear_v h) fun vs' H1 e q => by rw [q]; exact ha H1 e
theorem ev_callV {ι : Type} {A : ι → List V → Hp → Prop} {f : ι → V} (i : ι) {ta : TA} {vs : List V} (h : EvA ta σ H vs) (ha : ∀ H1, Ex H H1 → A i vs H1) : Ev (tCall (SpF A fun i v _ => v = f i) [] E0 ta) σ H (f i) := fun H1 e Q q =>
  er_callV i h ha H1 e Q fun v H2 e2 r => by rw [r]; exact q H2 e2
theorem ev_callR {ι : Type} {A : ι → List V → Hp → Prop} {f : ι → V} (i : ι) {ta : TA} (h : EvAR ta σ H RA) (ha : ∀ vs H1, Ex H H1 → RA vs H1 → A i vs H1) : Ev (tCall (SpF A fun i v _ => v = f i) [] E0 ta) σ H (f i) := fun H1 e Q q =>
  er_call i h ha H1 e Q fun v H2 e2 r => by rw [r]; exact q H2 e2
/-! statements -/
theorem g_ret (h : EvR te σ H R) (k : ∀ v H2, Ex H H2 → R v H2 → D.rt v H2) : Sg (tRet te) D σ H := fun H1 e => h H1 e _ fun v H2 e2 r => k v H2 (e.trans e2) r
theorem g_retv (h : Ev te σ H v) (k : ∀ H2, Ex H H2 → D.rt v H2) : Sg (tRet te) D σ H := fun H1 e => h H1 e _ fun H2 e2 => k H2 (e.trans e2)
theorem g_set (h : Ev te σ H v) (k : Sg tz D (σ.set i (some v)) H) : Sg (tSeq (tAsg te (gName i)) tz) D σ H := fun H1 e => h H1 e _ fun H2 e2 => k H2 (e.trans e2)
theorem g_setR (h : EvR te σ H R) (k : ∀ v H1, Ex H H1 → R v H1 → Sg tz D (σ.set i (some v)) H1) : Sg (tSeq (tAsg te (gName i)) tz) D σ H := fun H1 e =>
  h H1 e _ fun v H2 e2 r => k v H2 (e.trans e2) r H2 (Ex.refl H2)
theorem g_set1 (h : Ev te σ H v) (k : ∀ H2, Ex H H2 → D.nx (σ.set i (some v)) H2) : Sg (tAsg te (gName i)) D σ H := fun H1 e => h H1 e _ fun H2 e2 => k H2 (e.trans e2)
theorem g_setR1 (h : EvR te σ H R) (k : ∀ v H1, Ex H H1 → R v H1 → D.nx (σ.set i (some v)) H1) : Sg (tAsg te (gName i)) D σ H := fun H1 e =>
  h H1 e _ fun v H2 e2 r => k v H2 (e.trans e2) r
theorem g_next (k : ∀ H2, Ex H H2 → D.nx σ H2) : Sg tNext D σ H := k
theorem g_if {b : Bool} (h : EvT t σ H b) (h1 : b = true → Sg tu { D with nx := tz D } σ H) (h2 : b = false → Sg tw { D with nx := tz D } σ H) : Sg (tSeq (tIfS t tu tw) tz) D σ H := fun H1 e => by
  refine h H1 e _ fun H2 e2 => ?_
  cases b with
  | true => exact h1 rfl H2 (e.trans e2)
  | false => exact h2 rfl H2 (e.trans e2)
theorem g_if1 {b : Bool} (h : EvT t σ H b) (h1 : b = true → Sg tu D σ H) (h2 : b = false → Sg tw D σ H) : Sg (tIfS t tu tw) D σ H := fun H1 e => by
  refine h H1 e _ fun H2 e2 => ?_
  cases b with
  | true => exact h1 rfl H2 (e.trans e2)
  | false => exact h2 rfl H2 (e.trans e2)
/-- if ..: .., the rest -/
theorem g_when {b : Bool} (h : EvT t σ H b) (h1 : b = true → Sg tu { D with nx := tz D } σ H) (h2 : b = false → Sg tz D σ H) : Sg (tSeq (tIfS t tu tNext) tz) D σ H := g_if h h1 h2
/-- for i in range(n): a word over what holds between the turns -/
theorem g_forR {ta : TA} {n : Nat} (h : EvA ta σ H [.int (n : Int)]) (hn : n ≤ 100000) (Pv : Nat → L2.St → Hp → Prop) (h0 : ∀ H1, Ex H H1 → Pv 0 σ H1)
    (hs : ∀ (i : Nat) σ' H', i < n → Pv i σ' H' → tu { D with nx := Pv (i + 1), ct := Pv (i + 1), bk := tz D } (σ'.set j (some (.int (i : Int)))) H') (hd : ∀ σ' H', Pv n σ' H' → tz D σ' H') : Sg (tSeq (tFor (iRng1 ta) (gName j) tu) tz) D σ H := fun H1 e =>
  q_forR1 (h.mono e) (by omega) Pv (fun H2 e2 => h0 H2 (e.trans e2)) (fun i σ' H' hi p => hs i σ' H' (by omega) p) (fun σ' H' p => hd σ' H' (by rw [Int.toNat_natCast] at p; exact p))
theorem g_forL {a : Addr} {xs : List V} {tl : TE} (h : Ev tl σ H (.ref a)) (hx : SqL K H a xs) (Pv : Nat → L2.St → Hp → Prop) (h0 : ∀ H1, Ex H H1 → Pv 0 σ H1) (hl : ∀ i σ' H', i ≤ xs.length → Pv i σ' H' → SqL K H' a xs)
    (hs : ∀ i x σ' H', xs[i]? = some x → Pv i σ' H' → tu { D with nx := Pv (i + 1), ct := Pv (i + 1), bk := tz D } (σ'.set j (some x)) H') (hd : ∀ σ' H', Pv xs.length σ' H' → tz D σ' H') : Sg (tSeq (tFor (iList K tl) (gName j) tu) tz) D σ H := fun H1 e =>
  q_forL (h.mono e) (ex_l e hx) Pv (fun H2 e2 => h0 H2 (e.trans e2)) hl (fun i x σ' H' hi p => hs i x σ' H' hi p) hd
/-! small readings -/
theorem et_lt {a b : Int} (ha : Ev ta σ H (.int a)) (hb : Ev tb σ H (.int b)) {p : Int → Int → Bool} : EvT (tB (tCmp p ta tb)) σ H (p a b) := et_B fun H1 e Q q =>
  ha H1 e _ fun H2 e2 => hb H2 (e.trans e2) _ fun H3 e3 => ⟨a, b, rfl, rfl, q H3 (e2.trans e3)⟩
theorem ev_cmp {a b : Int} (ha : Ev ta σ H (.int a)) (hb : Ev tb σ H (.int b)) {p : Int → Int → Bool} : Ev (tCmp p ta tb) σ H (.bl (p a b)) := fun H1 e Q q =>
  ha H1 e _ fun H2 e2 => hb H2 (e.trans e2) _ fun H3 e3 => ⟨a, b, rfl, rfl, q H3 (e2.trans e3)⟩
theorem ev_isN (ha : Ev ta σ H v) : Ev (tIsN ta) σ H (.bl (decide (v = .non))) := fun H1 e Q q => ha H1 e _ fun H2 e2 => q H2 e2
theorem ev_notN (ha : Ev ta σ H v) : Ev (tNotN ta) σ H (.bl (!decide (v = .non))) := fun H1 e Q q => ha H1 e _ fun H2 e2 => q H2 e2
theorem ev_i {a b : Int} (h : Ev te σ H (.int a)) (e : a = b) : Ev te σ H (.int b) := e ▸ h
theorem ev_b {a b : Bool} (h : Ev te σ H (.bl a)) (e : a = b) : Ev te σ H (.bl b) := e ▸ h
end
/-! ## how data lie in the heap -/
def nats (l : List Nat) : List V := l.map fun n : Nat => V.int ((n : Nat) : Int)
/-- a fraction of two numbers; of lowest terms -/
def FrI (v : V) (H : Hp) (a b : Int) : Prop := ∃ p, v = .ref p ∧ H p = some (.tup [.int a, .int b])
def FrQ (v : V) (H : Hp) (q : Rat) : Prop := FrI v H q.num (q.den : Int)
theorem FrI.mono {v : V} {H H' : Hp} {a b : Int} (e : Ex H H') : FrI v H a b → FrI v H' a b := fun ⟨p, h1, h2⟩ => ⟨p, h1, e _ _ h2⟩
def sF (s : St) (tl pl : Addr) : List (Str × V) := [("signal_count", .int ((tws s).length : Int)), ("test_weights", .ref tl), ("production_weights", .ref pl), ("prior_num", .int (s.model.priorNum : Int)), ("prior_den", .int (s.model.priorDen : Int)),
  ("gain", .int (s.gain : Int)), ("loss", .int (s.loss : Int)), ("harm_price", .int (s.harmPrice : Int)), ("test_price", .int (s.testPrice : Int))]
def SetAt (K : PySem.W.Frag) (H : Hp) (a : Addr) (s : St) : Prop := ∃ dx tl pl, H a = some (.ins (He.ga K "Setting") dx (sF s tl pl)) ∧ H tl = some (.lst (nats (tws s))) ∧ H pl = some (.lst (nats (pws s)))
theorem SetAt.mono {K : PySem.W.Frag} {H H' : Hp} {a : Addr} {s : St} (e : Ex H H') : SetAt K H a s → SetAt K H' a s := fun ⟨dx, tl, pl, h1, h2, h3⟩ => ⟨dx, tl, pl, e _ _ h1, e _ _ h2, e _ _ h3⟩
theorem lk_here {k : Str} {v : V} {r : List (Str × V)} : List.lookup k ((k, v) :: r) = some v := by
  have e : (k == k) = true := beq_self_eq_true k
  simp only [List.lookup, e]
theorem lk_past {k g : Str} {v : V} {r : List (Str × V)} (h : (k == g) = false) : List.lookup k ((g, v) :: r) = List.lookup k r := by
  simp only [List.lookup, h]
theorem put_here {f : Str} {v x : V} {r : List (Str × V)} : putF f v ((f, x) :: r) = (f, v) :: r := if_pos rfl
theorem put_past {f g : Str} {v x : V} {r : List (Str × V)} (h : ¬ g = f) : putF f v ((g, x) :: r) = (g, x) :: putF f v r := if_neg h
theorem sF_signal_count (s : St) (tl pl : Addr) : (sF s tl pl).lookup ("signal_count" : Str) = some (.int ((tws s).length : Int)) := lk_here
theorem sF_test_weights (s : St) (tl pl : Addr) : (sF s tl pl).lookup ("test_weights" : Str) = some (.ref tl) := (lk_past (by decide +kernel)).trans (lk_here)
theorem sF_production_weights (s : St) (tl pl : Addr) : (sF s tl pl).lookup ("production_weights" : Str) = some (.ref pl) := (lk_past (by decide +kernel)).trans ((lk_past (by decide +kernel)).trans (lk_here))
theorem sF_prior_num (s : St) (tl pl : Addr) : (sF s tl pl).lookup ("prior_num" : Str) = some (.int (s.model.priorNum : Int)) := (lk_past (by decide +kernel)).trans ((lk_past (by decide +kernel)).trans ((lk_past (by decide +kernel)).trans (lk_here)))
theorem sF_prior_den (s : St) (tl pl : Addr) : (sF s tl pl).lookup ("prior_den" : Str) = some (.int (s.model.priorDen : Int)) := (lk_past (by decide +kernel)).trans ((lk_past (by decide +kernel)).trans ((lk_past (by decide +kernel)).trans ((lk_past (by decide +kernel)).trans (lk_here))))
theorem sF_gain (s : St) (tl pl : Addr) : (sF s tl pl).lookup ("gain" : Str) = some (.int (s.gain : Int)) := (lk_past (by decide +kernel)).trans ((lk_past (by decide +kernel)).trans ((lk_past (by decide +kernel)).trans ((lk_past (by decide +kernel)).trans ((lk_past (by decide +kernel)).trans (lk_here)))))
theorem sF_loss (s : St) (tl pl : Addr) : (sF s tl pl).lookup ("loss" : Str) = some (.int (s.loss : Int)) := (lk_past (by decide +kernel)).trans ((lk_past (by decide +kernel)).trans ((lk_past (by decide +kernel)).trans ((lk_past (by decide +kernel)).trans ((lk_past (by decide +kernel)).trans ((lk_past (by decide +kernel)).trans (lk_here))))))
theorem sF_harm_price (s : St) (tl pl : Addr) : (sF s tl pl).lookup ("harm_price" : Str) = some (.int (s.harmPrice : Int)) := (lk_past (by decide +kernel)).trans ((lk_past (by decide +kernel)).trans ((lk_past (by decide +kernel)).trans ((lk_past (by decide +kernel)).trans ((lk_past (by decide +kernel)).trans ((lk_past (by decide +kernel)).trans ((lk_past (by decide +kernel)).trans (lk_here)))))))
theorem sF_test_price (s : St) (tl pl : Addr) : (sF s tl pl).lookup ("test_price" : Str) = some (.int (s.testPrice : Int)) := (lk_past (by decide +kernel)).trans ((lk_past (by decide +kernel)).trans ((lk_past (by decide +kernel)).trans ((lk_past (by decide +kernel)).trans ((lk_past (by decide +kernel)).trans ((lk_past (by decide +kernel)).trans ((lk_past (by decide +kernel)).trans ((lk_past (by decide +kernel)).trans (lk_here))))))))
section
variable {K : PySem.W.Frag} {mg : Str → Option Value} {h : Heap} {σ : L2.St} {H : Hp} {ta : TE} {a dx : Addr} {fs : List (Str × V)} {v : V} {s : St}
theorem ev_fld {C : Addr} {f : Str} (hc : Cls K C) (hn : NoAttr K C f) (ha : Ev ta σ H (.ref a)) (ho : H a = some (.ins C dx fs)) (hl : fs.lookup f = some v) : Ev (tFld K ta f) σ H v := fun H1 e Q q =>
  ha H1 e _ fun H2 e2 => ⟨a, C, dx, fs, v, rfl, (e.trans e2) _ _ ho, hc, hn, hl, q H2 e2⟩
theorem evS_signal_count (T : Tx K mg h) (hs : SetAt K H a s) (ha : Ev ta σ H (.ref a)) : Ev (tFld K ta "signal_count") σ H (.int ((tws s).length : Int)) := by
  obtain ⟨dx, tl, pl, h1, h2, h3⟩ := hs
  exact ev_fld (T.cls 116) (T.noat 118) ha h1 (sF_signal_count s tl pl)
theorem evS_test_weights (T : Tx K mg h) (hs : SetAt K H a s) (ha : Ev ta σ H (.ref a)) : ∃ l, Ev (tFld K ta "test_weights") σ H (.ref l) ∧ H l = some (.lst (nats (tws s))) := by
  obtain ⟨dx, tl, pl, h1, h2, h3⟩ := hs
  exact ⟨tl, ev_fld (T.cls 116) (T.noat 119) ha h1 (sF_test_weights s tl pl), h2⟩
theorem evS_production_weights (T : Tx K mg h) (hs : SetAt K H a s) (ha : Ev ta σ H (.ref a)) : ∃ l, Ev (tFld K ta "production_weights") σ H (.ref l) ∧ H l = some (.lst (nats (pws s))) := by
  obtain ⟨dx, tl, pl, h1, h2, h3⟩ := hs
  exact ⟨pl, ev_fld (T.cls 116) (T.noat 120) ha h1 (sF_production_weights s tl pl), h3⟩
theorem evS_prior_num (T : Tx K mg h) (hs : SetAt K H a s) (ha : Ev ta σ H (.ref a)) : Ev (tFld K ta "prior_num") σ H (.int (s.model.priorNum : Int)) := by
  obtain ⟨dx, tl, pl, h1, h2, h3⟩ := hs
  exact ev_fld (T.cls 116) (T.noat 121) ha h1 (sF_prior_num s tl pl)
theorem evS_prior_den (T : Tx K mg h) (hs : SetAt K H a s) (ha : Ev ta σ H (.ref a)) : Ev (tFld K ta "prior_den") σ H (.int (s.model.priorDen : Int)) := by
  obtain ⟨dx, tl, pl, h1, h2, h3⟩ := hs
  exact ev_fld (T.cls 116) (T.noat 122) ha h1 (sF_prior_den s tl pl)
theorem evS_gain (T : Tx K mg h) (hs : SetAt K H a s) (ha : Ev ta σ H (.ref a)) : Ev (tFld K ta "gain") σ H (.int (s.gain : Int)) := by
  obtain ⟨dx, tl, pl, h1, h2, h3⟩ := hs
  exact ev_fld (T.cls 116) (T.noat 123) ha h1 (sF_gain s tl pl)
theorem evS_loss (T : Tx K mg h) (hs : SetAt K H a s) (ha : Ev ta σ H (.ref a)) : Ev (tFld K ta "loss") σ H (.int (s.loss : Int)) := by
  obtain ⟨dx, tl, pl, h1, h2, h3⟩ := hs
  exact ev_fld (T.cls 116) (T.noat 124) ha h1 (sF_loss s tl pl)
theorem evS_harm_price (T : Tx K mg h) (hs : SetAt K H a s) (ha : Ev ta σ H (.ref a)) : Ev (tFld K ta "harm_price") σ H (.int (s.harmPrice : Int)) := by
  obtain ⟨dx, tl, pl, h1, h2, h3⟩ := hs
  exact ev_fld (T.cls 116) (T.noat 125) ha h1 (sF_harm_price s tl pl)
theorem evS_test_price (T : Tx K mg h) (hs : SetAt K H a s) (ha : Ev ta σ H (.ref a)) : Ev (tFld K ta "test_price") σ H (.int (s.testPrice : Int)) := by
  obtain ⟨dx, tl, pl, h1, h2, h3⟩ := hs
  exact ev_fld (T.cls 116) (T.noat 126) ha h1 (sF_test_price s tl pl)
theorem ev_sumN {ns : List Nat} {l : Addr} (ha : Ev ta σ H (.ref l)) (hl : H l = some (.lst (nats ns))) : Ev (tCB (rSum K) (tCons ta tNil)) σ H (.int ((ns.sum : Nat) : Int)) := fun H1 e Q q =>
  ha H1 e _ fun H2 e2 => ⟨l, ns.map fun n : Nat => (n : Int), rfl, SqL.of (((e.trans e2) _ _ hl).trans (congrArg (fun q => some (HO.lst q)) (by rw [List.map_map]; rfl))), by rw [sum_cast]; exact q H2 e2⟩
theorem nats_get {ns : List Nat} {i : Nat} (hi : i < ns.length) : atI (nats ns) (i : Int) = some (.int ((ns.getD i 0 : Nat) : Int)) := by
  refine atI_nat ?_
  unfold nats
  rw [List.getElem?_map, List.getElem?_eq_getElem hi, List.getD_eq_getElem?_getD, List.getElem?_eq_getElem hi]
  rfl
theorem ev_ixN {ns : List Nat} {l : Addr} {i : Nat} {tb : TE} (ha : Ev ta σ H (.ref l)) (hl : H l = some (.lst (nats ns))) (hb : Ev tb σ H (.int (i : Int))) (hi : i < ns.length) : Ev (tOp (rIxL K) ta tb) σ H (.int ((ns.getD i 0 : Nat) : Int)) :=
  ev_op ha hb (rv_ixL (SqL.of hl) (nats_get hi))
theorem ev_sumT (T : Tx K mg h) (hs : SetAt K H a s) (ha : Ev ta σ H (.ref a)) : Ev (tCB (rSum K) (tCons (tFld K ta "test_weights") tNil)) σ H (.int (((tws s).sum : Nat) : Int)) := by
  obtain ⟨l, h1, h2⟩ := evS_test_weights T hs ha
  exact ev_sumN h1 h2
theorem ev_sumP (T : Tx K mg h) (hs : SetAt K H a s) (ha : Ev ta σ H (.ref a)) : Ev (tCB (rSum K) (tCons (tFld K ta "production_weights") tNil)) σ H (.int (((pws s).sum : Nat) : Int)) := by
  obtain ⟨l, h1, h2⟩ := evS_production_weights T hs ha
  exact ev_sumN h1 h2
theorem ev_ixT (T : Tx K mg h) (hs : SetAt K H a s) (ha : Ev ta σ H (.ref a)) {tb : TE} {i : Nat} (hb : Ev tb σ H (.int (i : Int))) (hi : i < (tws s).length) : Ev (tOp (rIxL K) (tFld K ta "test_weights") tb) σ H (.int (((tws s).getD i 0 : Nat) : Int)) := by
  obtain ⟨l, h1, h2⟩ := evS_test_weights T hs ha
  exact ev_ixN h1 h2 hb hi
theorem ev_ixP (T : Tx K mg h) (hs : SetAt K H a s) (ha : Ev ta σ H (.ref a)) {tb : TE} {i : Nat} (hb : Ev tb σ H (.int (i : Int))) (hi : i < (pws s).length) : Ev (tOp (rIxL K) (tFld K ta "production_weights") tb) σ H (.int (((pws s).getD i 0 : Nat) : Int)) := by
  obtain ⟨l, h1, h2⟩ := evS_production_weights T hs ha
  exact ev_ixN h1 h2 hb hi
theorem ev_add {ta tb : TE} {i j : Int} (ha : Ev ta σ H (.int i)) (hb : Ev tb σ H (.int j)) : Ev (tOp (rI0 fun i j => .int (i + j)) ta tb) σ H (.int (i + j)) := ev_op ha hb rv_I0
theorem ev_sub {ta tb : TE} {i j : Int} (ha : Ev ta σ H (.int i)) (hb : Ev tb σ H (.int j)) : Ev (tOp (rI0 fun i j => .int (i - j)) ta tb) σ H (.int (i - j)) := ev_op ha hb rv_I0
theorem ev_mulL {ta tb : TE} {i j : Int} (ha : Ev ta σ H (.int i)) (hb : Ev tb σ H (.int j)) (h1 : -(2 ^ 64) < i) (h2 : i < 2 ^ 64) : Ev (tOp (rI CMul fun i j => .int (i * j)) ta tb) σ H (.int (i * j)) := ev_op ha hb (rv_I (.inl ⟨h1, h2⟩))
theorem ev_mulR {ta tb : TE} {i j : Int} (ha : Ev ta σ H (.int i)) (hb : Ev tb σ H (.int j)) (h1 : -(2 ^ 64) < j) (h2 : j < 2 ^ 64) : Ev (tOp (rI CMul fun i j => .int (i * j)) ta tb) σ H (.int (i * j)) := ev_op ha hb (rv_I (.inr ⟨h1, h2⟩))
theorem ev_mulW {ta tb : TE} {i j : Int} {a b : Nat} (ha : Ev ta σ H (.int i)) (hb : Ev tb σ H (.int j)) (h1 : i.natAbs < 2 ^ a) (h2 : j.natAbs < 2 ^ b) (h3 : 0 < a) (h4 : 0 < b) (h5 : a + b ≤ 1000000) : Ev (tOp (rI CMulW fun i j => .int (i * j)) ta tb) σ H (.int (i * j)) := ev_op ha hb (rv_I (wide_mul h1 h2 h3 h4 h5))
/-- an item of a fraction -/
theorem ev_num {i j : Int} {p : V} {tb : TE} (ha : Ev ta σ H p) (hp : FrI p H i j) (hb : Ev tb σ H (.int 0)) : Ev (tOp (rIxT K) ta tb) σ H (.int i) := by
  obtain ⟨q, rfl, hq⟩ := hp
  exact ev_op ha hb (rv_ixT (SqT.of hq) rfl)
theorem ev_den {i j : Int} {p : V} {tb : TE} (ha : Ev ta σ H p) (hp : FrI p H i j) (hb : Ev tb σ H (.int 1)) : Ev (tOp (rIxT K) ta tb) σ H (.int j) := by
  obtain ⟨q, rfl, hq⟩ := hp
  exact ev_op ha hb (rv_ixT (SqT.of hq) rfl)
/-- (a, b) -/
theorem er_pair {ta tb : TE} {i j : Int} (ha : Ev ta σ H (.int i)) (hb : Ev tb σ H (.int j)) : EvR (tTup (tCons ta (tCons tb tNil))) σ H (fun v H1 => FrI v H1 i j) := fun H1 e Q q =>
  (eu_tup (ea_cons ha (ea_cons hb ea_nil)) (Nat.le_of_ble_eq_true rfl)) H1 e _ fun p H2 _ e2 h2 => q _ H2 e2 ⟨p, rfl, h2⟩
end
def rAbs : List V → Hp → VK → Prop := fun xs H Q => ∃ i, xs = [.int i] ∧ Q (.int (if i < 0 then -i else i)) H
theorem bt_len : bootBuiltins ("len" : Str) = some (.builtin "len") := by decide +kernel
theorem bt_sum : bootBuiltins ("sum" : Str) = some (.builtin "sum") := by decide +kernel
theorem bt_abs : bootBuiltins ("abs" : Str) = some (.builtin "abs") := by decide +kernel
theorem bt_list : bootBuiltins ("list" : Str) = some (.type "list") := by decide +kernel
end Pw
namespace Pw
open PySem PySem.Spec PyProof.Rows L2 Evl
/-! ## the monitor in the heap -/
/-- where a monitor's parts lie -/
structure Lay where
  dx : Addr
  sa : Addr
  pl : Addr
  ll : Addr
  pv : V
def mF (sv : V) (pl ll : Addr) (pv : V) : List (Str × V) := [("setting", sv), ("policies", .ref pl), ("log", .ref ll), ("permit", pv)]
/-- a list of pairs -/
def PairsAt (H : Hp) (l : Addr) (ps : List (Int × Int)) : Prop := ∃ xs : List V, H l = some (.lst xs) ∧ xs.length = ps.length ∧ ∀ (i : Nat) (x : V), xs[i]? = some x → ∃ p, ps[i]? = some p ∧ FrI x H p.1 p.2
theorem PairsAt.mono {H H' : Hp} {l : Addr} {ps : List (Int × Int)} (e : Ex H H') : PairsAt H l ps → PairsAt H' l ps := fun ⟨xs, h1, h2, h3⟩ =>
  ⟨xs, e _ _ h1, h2, fun i x hx => let ⟨p, h4, h5⟩ := h3 i x hx; ⟨p, h4, h5.mono e⟩⟩
def polI (l : List Kp417.Policy) : List (Int × Int) := l.map fun p => ((p.cheatSet : Int), (p.weight : Int))
def logI (l : List Kp417.Entry) : List (Int × Int) := l.map fun e => ((e.kind.code : Int), (e.signal : Int))
def PerAt (H : Hp) (v : V) : Option Kp417.Permit → Prop
  | none => v = .non
  | some p => FrI v H (p.num : Int) (p.den : Int)
theorem PerAt.mono {H H' : Hp} {v : V} : ∀ {o : Option Kp417.Permit}, Ex H H' → PerAt H v o → PerAt H' v o
  | none, _, h => h
  | some _, e, h => FrI.mono e h
structure MonL (K : PySem.W.Frag) (H : Hp) (a : Addr) (m : Mo) (L : Lay) : Prop where
  ob : H a = some (.ins (He.ga K "Monitor") L.dx (mF (.ref L.sa) L.pl L.ll L.pv))
  set : SetAt K H L.sa m.setting
  pol : PairsAt H L.pl (polI m.policies)
  log : PairsAt H L.ll (logI m.log)
  per : PerAt H L.pv m.permit
theorem MonL.mono {K : PySem.W.Frag} {H H' : Hp} {a : Addr} {m : Mo} {L : Lay} (h : MonL K H a m L) (e : Ex H H') : MonL K H' a m L :=
  ⟨e _ _ h.ob, h.set.mono e, h.pol.mono e, h.log.mono e, h.per.mono e⟩
/-- what holds of a monitor at any time -/
structure GoodM (m : Mo) : Prop where
  s : GoodS m.setting
  p6 : m.policies.length ≤ 6
  pc : ∀ p ∈ m.policies, p.cheatSet < 2 ^ (tws m.setting).length
  pw1 : ∀ p ∈ m.policies, 1 ≤ p.weight
  pw9 : ∀ p ∈ m.policies, p.weight ≤ 99
  nd : (m.policies.map (·.cheatSet)).Nodup
  l16 : m.log.length ≤ 16
  ls : ∀ e ∈ m.log, e.signal < (tws m.setting).length
  pe : ∀ p, m.permit = some p → p.num ≤ p.den ∧ 1 ≤ p.den ∧ p.den ≤ 99
/-- an answer: a list of whole numbers -/
def LsI (v : V) (H : Hp) (l : List Int) : Prop := ∃ p, v = .ref p ∧ H p = some (.lst (l.map V.int))
theorem LsI.mono {v : V} {H H' : Hp} {l : List Int} (e : Ex H H') : LsI v H l → LsI v H' l := fun ⟨p, h1, h2⟩ => ⟨p, h1, e _ _ h2⟩
section
variable {K : PySem.W.Frag} {mg : Str → Option Value} {h : Heap} {σ : L2.St} {H : Hp} {ta tb : TE} {a : Addr} {m : Mo} {L : Lay} {i : Nat}
theorem mF_setting {sv : V} {pl ll : Addr} {pv : V} : (mF sv pl ll pv).lookup ("setting" : Str) = some sv := lk_here
theorem mF_policies {sv : V} {pl ll : Addr} {pv : V} : (mF sv pl ll pv).lookup ("policies" : Str) = some (.ref pl) := (lk_past (by decide +kernel)).trans lk_here
theorem mF_log {sv : V} {pl ll : Addr} {pv : V} : (mF sv pl ll pv).lookup ("log" : Str) = some (.ref ll) := (lk_past (by decide +kernel)).trans ((lk_past (by decide +kernel)).trans lk_here)
theorem mF_permit {sv : V} {pl ll : Addr} {pv : V} : (mF sv pl ll pv).lookup ("permit" : Str) = some pv := (lk_past (by decide +kernel)).trans ((lk_past (by decide +kernel)).trans ((lk_past (by decide +kernel)).trans lk_here))
theorem evM_setting (T : Tx K mg h) (hs : MonL K H a m L) (ha : Ev ta σ H (.ref a)) : Ev (tFld K ta "setting") σ H (.ref L.sa) := ev_fld (T.cls 127) (T.noat 129) ha hs.ob mF_setting
theorem evM_policies (T : Tx K mg h) (hs : MonL K H a m L) (ha : Ev ta σ H (.ref a)) : Ev (tFld K ta "policies") σ H (.ref L.pl) := ev_fld (T.cls 127) (T.noat 130) ha hs.ob mF_policies
theorem evM_log (T : Tx K mg h) (hs : MonL K H a m L) (ha : Ev ta σ H (.ref a)) : Ev (tFld K ta "log") σ H (.ref L.ll) := ev_fld (T.cls 127) (T.noat 131) ha hs.ob mF_log
theorem evM_permit (T : Tx K mg h) (hs : MonL K H a m L) (ha : Ev ta σ H (.ref a)) : Ev (tFld K ta "permit") σ H L.pv := ev_fld (T.cls 127) (T.noat 132) ha hs.ob mF_permit
theorem ev_lenL {l : Addr} {xs : List V} (ha : Ev ta σ H (.ref l)) (hl : H l = some (.lst xs)) {n : Nat} (hn : xs.length = n) : Ev (tCB (rLenS K) (tCons ta tNil)) σ H (.int (n : Int)) := by
  rw [← hn]
  exact ev_len ha (SqL.of hl)
theorem evM_len_policies (T : Tx K mg h) (hs : MonL K H a m L) (ha : Ev ta σ H (.ref a)) : Ev (tCB (rLenS K) (tCons (tFld K ta "policies") tNil)) σ H (.int ((m.policies.length : Nat) : Int)) := by
  obtain ⟨xs, h1, h2, _⟩ := hs.pol
  exact ev_lenL (evM_policies T hs ha) h1 (h2.trans (List.length_map ..))
theorem evM_len_log (T : Tx K mg h) (hs : MonL K H a m L) (ha : Ev ta σ H (.ref a)) : Ev (tCB (rLenS K) (tCons (tFld K ta "log") tNil)) σ H (.int ((m.log.length : Nat) : Int)) := by
  obtain ⟨xs, h1, h2, _⟩ := hs.log
  exact ev_lenL (evM_log T hs ha) h1 (h2.trans (List.length_map ..))
/-- an item of a list of pairs -/
theorem pairs_at {l : Addr} {ps : List (Int × Int)} (hp : PairsAt H l ps) {p : Int × Int} (hi : ps[i]? = some p) : ∃ xs x, H l = some (.lst xs) ∧ xs.length = ps.length ∧ xs[i]? = some x ∧ FrI x H p.1 p.2 := by
  obtain ⟨xs, h1, h2, h3⟩ := hp
  have hlt : i < xs.length := by
    rw [h2]
    exact (List.getElem?_eq_some_iff.mp hi).1
  obtain ⟨q, h4, h5⟩ := h3 i xs[i] (List.getElem?_eq_getElem hlt)
  rw [hi] at h4
  cases h4
  exact ⟨xs, xs[i], h1, h2, List.getElem?_eq_getElem hlt, h5⟩
theorem er_pairAt {l : Addr} {ps : List (Int × Int)} (hp : PairsAt H l ps) (ha : Ev ta σ H (.ref l)) (hb : Ev tb σ H (.int (i : Int))) {p : Int × Int} (hi : ps[i]? = some p) : ∃ x, Ev (tOp (rIxL K) ta tb) σ H x ∧ FrI x H p.1 p.2 := by
  obtain ⟨xs, x, h1, h2, h3, h4⟩ := pairs_at hp hi
  exact ⟨x, ev_op ha hb (rv_ixL (SqL.of h1) (atI_nat h3)), h4⟩
theorem polI_get (hi : i < m.policies.length) : (polI m.policies)[i]? = some (((Kp417.policyAt m i).cheatSet : Int), ((Kp417.policyAt m i).weight : Int)) := by
  unfold polI Kp417.policyAt
  rw [List.getElem?_map, List.getElem?_eq_getElem hi, List.getD_eq_getElem?_getD, List.getElem?_eq_getElem hi]
  rfl
theorem evM_pol (T : Tx K mg h) (hs : MonL K H a m L) (ha : Ev ta σ H (.ref a)) (hb : Ev tb σ H (.int (i : Int))) (hi : i < m.policies.length) :
    ∃ x, Ev (tOp (rIxL K) (tFld K ta "policies") tb) σ H x ∧ FrI x H ((Kp417.policyAt m i).cheatSet : Int) ((Kp417.policyAt m i).weight : Int) := er_pairAt hs.pol (evM_policies T hs ha) hb (polI_get hi)
theorem evM_polSet (T : Tx K mg h) (hs : MonL K H a m L) (ha : Ev ta σ H (.ref a)) (hb : Ev tb σ H (.int (i : Int))) (hi : i < m.policies.length) :
    Ev (tOp (rIxT K) (tOp (rIxL K) (tFld K ta "policies") tb) (tC (.int 0))) σ H (.int ((Kp417.policyAt m i).cheatSet : Int)) := by
  obtain ⟨x, h1, h2⟩ := evM_pol T hs ha hb hi
  exact ev_num h1 h2 ev_c
theorem evM_polW (T : Tx K mg h) (hs : MonL K H a m L) (ha : Ev ta σ H (.ref a)) (hb : Ev tb σ H (.int (i : Int))) (hi : i < m.policies.length) :
    Ev (tOp (rIxT K) (tOp (rIxL K) (tFld K ta "policies") tb) (tC (.int 1))) σ H (.int ((Kp417.policyAt m i).weight : Int)) := by
  obtain ⟨x, h1, h2⟩ := evM_pol T hs ha hb hi
  exact ev_den h1 h2 ev_c
theorem ev_mul {i j : Int} (ha : Ev ta σ H (.int i)) (hb : Ev tb σ H (.int j)) (hc : CMul i j) : Ev (tOp (rI CMul fun i j => .int (i * j)) ta tb) σ H (.int (i * j)) := ev_op ha hb (rv_I hc)
theorem ev_mod {i j : Int} (ha : Ev ta σ H (.int i)) (hb : Ev tb σ H (.int j)) (hc : 0 < j) : Ev (tOp (rI (fun _ j => 0 < j) fun i j => .int (i % j)) ta tb) σ H (.int (i % j)) := ev_op ha hb (rv_I hc)
theorem ev_fdivW {i j : Int} (ha : Ev ta σ H (.int i)) (hb : Ev tb σ H (.int j)) (hc : CDivW i j) : Ev (tOp (rI CDivW fun i j => .int (i / j)) ta tb) σ H (.int (i / j)) := ev_op ha hb (rv_I hc)
theorem ev_abs {i : Int} (ha : Ev ta σ H (.int i)) : Ev (tCB (rAbs) (tCons ta tNil)) σ H (.int (if i < 0 then -i else i)) := fun H1 e Q q => ha H1 e _ fun H2 e2 => ⟨i, rfl, q H2 e2⟩
end
section
variable {σ : L2.St} {H : Hp} {D : Ends} {t : TT} {tu tz : TS}
theorem g_while (W : Nat → L2.St → Hp → Prop) (m0 : Nat) (h0 : ∀ H1, Ex H H1 → W m0 σ H1)
    (hs : ∀ m σ' H', W m σ' H' → ∃ b, EvT t σ' H' b ∧ (b = true → ∃ N : L2.St → Hp → Prop, (∀ σ2 H2, N σ2 H2 → ∃ m', m' < m ∧ W m' σ2 H2) ∧ Sg tu { D with nx := N, ct := N, bk := tz D } σ' H') ∧ (b = false → Sg tz D σ' H')) : Sg (tSeq (tWhile t tu) tz) D σ H := fun H1 e => by
  refine q_while W m0 (h0 H1 e) fun m σ' H' hw => ?_
  obtain ⟨b, h1, h2, h3⟩ := hs m σ' H' hw
  refine ⟨b, h1, fun hb H2 e2 => ?_, fun hb H2 e2 => h3 hb H2 e2⟩
  obtain ⟨N, h4, h5⟩ := h2 hb
  exact ⟨N, h4, h5 H2 e2⟩
end
end Pw
open PySem PySem.Spec PyProof.Rows L2 Evl Pw
local macro_rules | `(tactic| wtm_at "sd") => `(tactic| first | assumption | omega)
local macro_rules | `(tactic| wtm_at "hs") => `(tactic| first | assumption | exact MonL.set (by assumption))
local macro_rules | `(tactic| wtm_at "cm") => `(tactic| first | exact .inl ⟨by omega, by omega⟩ | exact .inr ⟨by omega, by omega⟩)
local macro_rules | `(tactic| wtm_at "ev") => `(tactic| first
  | exact ev_var rfl
  | exact ev_c
  | exact ea_nil
  | ((with_reducible refine' ea_cons ?ha ?hb); (case ha => wtm_at "ev"); (case hb => wtm_at "ev"))
  | ((with_reducible refine' ev_add ?ha ?hb); (case ha => wtm_at "ev"); (case hb => wtm_at "ev"))
  | ((with_reducible refine' ev_sub ?ha ?hb); (case ha => wtm_at "ev"); (case hb => wtm_at "ev"))
  | ((with_reducible refine' ev_mul ?ha ?hb ?hc); (case ha => wtm_at "ev"); (case hb => wtm_at "ev"); (case hc => wtm_at "cm"))
  | ((with_reducible refine' ev_sumT (by assumption) ?hs ?ha); (case ha => wtm_at "ev"); (case hs => wtm_at "hs"))
  | ((with_reducible refine' ev_sumP (by assumption) ?hs ?ha); (case ha => wtm_at "ev"); (case hs => wtm_at "hs"))
  | ((with_reducible refine' ev_ixT (by assumption) ?hs ?ha ?hb ?hi); (case ha => wtm_at "ev"); (case hb => wtm_at "ev"); (case hs => wtm_at "hs"); (case hi => wtm_at "sd"))
  | ((with_reducible refine' ev_ixP (by assumption) ?hs ?ha ?hb ?hi); (case ha => wtm_at "ev"); (case hb => wtm_at "ev"); (case hs => wtm_at "hs"); (case hi => wtm_at "sd"))
  | ((with_reducible refine' evS_signal_count (by assumption) ?hs ?ha); (case ha => wtm_at "ev"); (case hs => wtm_at "hs"))
  | ((with_reducible refine' evS_prior_num (by assumption) ?hs ?ha); (case ha => wtm_at "ev"); (case hs => wtm_at "hs"))
  | ((with_reducible refine' evS_prior_den (by assumption) ?hs ?ha); (case ha => wtm_at "ev"); (case hs => wtm_at "hs"))
  | ((with_reducible refine' evS_gain (by assumption) ?hs ?ha); (case ha => wtm_at "ev"); (case hs => wtm_at "hs"))
  | ((with_reducible refine' evS_loss (by assumption) ?hs ?ha); (case ha => wtm_at "ev"); (case hs => wtm_at "hs"))
  | ((with_reducible refine' evS_harm_price (by assumption) ?hs ?ha); (case ha => wtm_at "ev"); (case hs => wtm_at "hs"))
  | ((with_reducible refine' evS_test_price (by assumption) ?hs ?ha); (case ha => wtm_at "ev"); (case hs => wtm_at "hs"))
  | ((with_reducible refine' evM_setting (by assumption) ?hs ?ha); (case ha => wtm_at "ev"); (case hs => assumption))
  | ((with_reducible refine' evM_policies (by assumption) ?hs ?ha); (case ha => wtm_at "ev"); (case hs => assumption))
  | ((with_reducible refine' evM_log (by assumption) ?hs ?ha); (case ha => wtm_at "ev"); (case hs => assumption))
  | ((with_reducible refine' evM_permit (by assumption) ?hs ?ha); (case ha => wtm_at "ev"); (case hs => assumption))
  | ((with_reducible refine' ev_num ?ha ?hp ?hb); (case ha => wtm_at "ev"); (case hb => exact ev_c); (case hp => assumption))
  | ((with_reducible refine' ev_den ?ha ?hp ?hb); (case ha => wtm_at "ev"); (case hb => exact ev_c); (case hp => assumption))
  | ((with_reducible refine' ev_cmp ?ha ?hb); (case ha => wtm_at "ev"); (case hb => wtm_at "ev"))
  | ((with_reducible refine' ev_isN ?ha); (case ha => wtm_at "ev"))
  | ((with_reducible refine' ev_notN ?ha); (case ha => wtm_at "ev"))
  | ((with_reducible refine' et_test ?ha); (case ha => wtm_at "ev"))
  | ((with_reducible refine' et_B ?ha); (case ha => wtm_at "ev"))
  | ((with_reducible refine' et_not ?ha); (case ha => wtm_at "ev"))
  | ((with_reducible refine' ev_notV ?ha); (case ha => wtm_at "ev"))
  | ((with_reducible refine' et_and ?ha ?hb); (case ha => wtm_at "ev"); (case hb => intro _; wtm_at "ev"))
  | ((with_reducible refine' et_or ?ha ?hb); (case ha => wtm_at "ev"); (case hb => intro _; wtm_at "ev"))
  | ((with_reducible refine' ev_andV ?ha ?hb); (case ha => wtm_at "ev"); (case hb => intro _; wtm_at "ev"))
  | ((with_reducible refine' ev_orV ?ha ?hb); (case ha => wtm_at "ev"); (case hb => intro _; wtm_at "ev"))
  | ((with_reducible refine' evM_len_policies (by assumption) ?hs ?ha); (case ha => wtm_at "ev"); (case hs => assumption))
  | ((with_reducible refine' evM_len_log (by assumption) ?hs ?ha); (case ha => wtm_at "ev"); (case hs => assumption))
  | ((with_reducible refine' evM_polSet (by assumption) ?hs ?ha ?hb ?hi); (case ha => wtm_at "ev"); (case hb => wtm_at "ev"); (case hs => assumption); (case hi => wtm_at "sd"))
  | ((with_reducible refine' evM_polW (by assumption) ?hs ?ha ?hb ?hi); (case ha => wtm_at "ev"); (case hb => wtm_at "ev"); (case hs => assumption); (case hi => wtm_at "sd"))
  | wtm_at "ca")
local macro_rules | `(tactic| wtm_at "ca") => `(tactic| fail "ev: no rule")
namespace Pw
open PySem PySem.Spec PyProof.Rows L2 Evl
abbrev s_divisor : Stmt := top 11
theorem sc_divisor : FnScope ["one", "other", "first", "second", "rest"] ["one", "other"] (defScope s_divisor) := ⟨rfl, rfl, rfl, by decide +kernel, rfl, by decide +kernel, by decide +kernel⟩
def t_divisor (K : PySem.W.Frag) : TS :=
    (tSeq (tAsg (tVar 0) (gName 2))
    (tSeq (tAsg (tVar 1) (gName 3))
    (tSeq (tWhile (tB (tGt (tVar 3) (tC (.int 0)))) (tSeq (tAsg (tOp (rI (fun _ j => 0 < j) fun i j => .int (i % j)) (tVar 2) (tVar 3)) (gName 4))
    (tSeq (tAsg (tVar 3) (gName 2))
    (tAsg (tVar 4) (gName 3)))))
    (tRet (tVar 2)))))
def sp_divisor (K : PySem.W.Frag) : Sp := SpF (ι := Nat × Nat) (fun i vs _ => vs = [.int i.1, .int i.2] ∧ True) (fun i v _ => v = .int ((Nat.gcd i.1 i.2 : Nat) : Int))
theorem rd_divisor {K : PySem.W.Frag} {mg : Str → Option Value} {h : Heap} (T : Tx K mg h) {vs : List V} {H : Hp} {Q : VK} {E : XK} (hsp : sp_divisor K vs H Q E) : t_divisor K { nx := fun _ H' => Q .non H', rt := Q } (start ["one", "other", "first", "second", "rest"] vs) H := by
  obtain ⟨⟨a, b⟩, ⟨rfl, -⟩, k⟩ := hsp
  refine Sg.go (H := H) ?_ (Ex.refl H)
  refine g_set (by wtm_at "ev") (g_set (by wtm_at "ev") ?_)
  refine g_while (fun m σ' H' => ∃ (x y : Nat) (v : Option V), σ' = [some (.int a), some (.int b), some (.int x), some (.int y), v] ∧ m = y ∧ Nat.gcd x y = Nat.gcd a b ∧ Ex H H') b (fun H1 e => ⟨a, b, none, rfl, rfl, rfl, e⟩) ?_
  rintro y σ' H' ⟨x, _, v, rfl, rfl, hg, e0⟩
  refine' ⟨_, by wtm_at "ev", fun hb => ?_, fun hb => ?_⟩
  · have hy : 0 < y := by
      have := of_decide_eq_true hb
      omega
    refine ⟨fun σ2 H2 => ∃ v2, σ2 = [some (.int a), some (.int b), some (.int y), some (.int ((x : Int) % (y : Int))), v2] ∧ Ex H H2, ?_, ?_⟩
    · rintro σ2 H2 ⟨v2, rfl, e2⟩
      refine ⟨x % y, Nat.mod_lt _ hy, y, x % y, v2, rfl, rfl, ?_, e2⟩
      rw [← hg, Nat.gcd_comm y, ← Nat.gcd_rec, Nat.gcd_comm]
    · exact g_set (ev_mod (by wtm_at "ev") (by wtm_at "ev") (by omega)) (g_set (by wtm_at "ev") (g_set1 (by wtm_at "ev") fun H2 e2 => ⟨_, rfl, e0.trans e2⟩))
  · have hy : y = 0 := by
      have := of_decide_eq_false hb
      omega
    subst hy
    rw [Nat.gcd_zero_right] at hg
    exact g_retv (by wtm_at "ev") fun H2 e2 => k _ _ (e0.trans e2) (by rw [hg])
theorem ok_divisor {P : Program} {w : World} {K : PySem.W.Frag} {mg : Str → Option Value} {base : Heap} {h : Heap} (T : Tx K mg h) : OkF P w K mg base 1 "divisor" ["one", "other"] (sp_divisor K) :=
  mkOk T (st := s_divisor) (N := ["one", "other", "first", "second", "rest"]) 0 0 sc_divisor (by rintro vs H Q E ⟨_, ⟨rfl, _⟩, _⟩; rfl) (fun f cdv A outer s H vs Q E hr hsp => ⟨t_divisor K, (pss_cons (ps_set (i := 2) sc_divisor.nd rfl (Or.inl rfl) (pv 0))
      (pss_cons (ps_set (i := 3) sc_divisor.nd rfl (Or.inl rfl) (pv 1))
      (pss_cons (ps_while PassesOwn.never (pt_cmp (pc_gt (pv 3) pe_int)) (pss_cons (ps_set (i := 4) sc_divisor.nd rfl (Or.inl rfl) (pe_op op_mod (pv 2) (pv 3)))
      (pss_cons (ps_set (i := 2) sc_divisor.nd rfl (Or.inl rfl) (pv 3))
      (pss_one (ps_set (i := 3) sc_divisor.nd rfl (Or.inl rfl) (pv 4))))))
      (pss_one (ps_ret (pv 2)))))), rd_divisor T hsp⟩) (fun _ _ _ _ _ _ us hl => match us, hl with | [_, _], _ => rfl)
theorem abs_if (t : Int) : (if t < 0 then -t else t) = ((t.natAbs : Nat) : Int) := by
  split <;> omega
abbrev s_lowest : Stmt := top 12
theorem sc_lowest : FnScope ["top", "bottom", "many"] ["top", "bottom"] (defScope s_lowest) := ⟨rfl, rfl, rfl, by decide +kernel, rfl, by decide +kernel, by decide +kernel⟩
def t_lowest (K : PySem.W.Frag) : TS :=
    (tSeq (tAsg (tCall (sp_divisor K) [] E0 (tCons (tCB (rAbs) (tCons (tVar 0) tNil)) (tCons (tVar 1) tNil))) (gName 2))
    (tRet (tTup (tCons (tOp (rI CDivW fun i j => .int (i / j)) (tVar 0) (tVar 2)) (tCons (tOp (rI CDivW fun i j => .int (i / j)) (tVar 1) (tVar 2)) tNil)))))
def sp_lowest (K : PySem.W.Frag) : Sp := SpF (ι := Int × Nat) (fun i vs _ => vs = [.int i.1, .int ((i.2 : Nat) : Int)] ∧ 0 < i.2 ∧ i.2 < 2 ^ 200) (fun i v H => FrQ v H ((i.1 : Rat) / (((i.2 : Nat) : Int) : Rat)))
theorem rd_lowest {K : PySem.W.Frag} {mg : Str → Option Value} {h : Heap} (T : Tx K mg h) {vs : List V} {H : Hp} {Q : VK} {E : XK} (hsp : sp_lowest K vs H Q E) : t_lowest K { nx := fun _ H' => Q .non H', rt := Q } (start ["top", "bottom", "many"] vs) H := by
  obtain ⟨⟨t, b⟩, ⟨rfl, hb, hB⟩, k⟩ := hsp
  refine Sg.go (H := H) ?_ (Ex.refl H)
  have hg : 0 < Nat.gcd t.natAbs b := Nat.gcd_pos_of_pos_right _ hb
  have hg2 : Nat.gcd t.natAbs b ≤ b := Nat.gcd_le_right _ hb
  have hc : ∀ x : Int, CDivW x ((Nat.gcd t.natAbs b : Nat) : Int) := fun x => wide_div (b := 200) (by omega) (by rw [Int.natAbs_natCast]; exact Nat.lt_of_le_of_lt hg2 hB) (by decide) (by decide)
  refine g_set (ev_callV (f := fun i : Nat × Nat => V.int ((Nat.gcd i.1 i.2 : Nat) : Int)) (t.natAbs, b) (ea_cons (ev_i (ev_abs (by wtm_at "ev")) (abs_if t)) (ea_cons (by wtm_at "ev") ea_nil)) fun H1 _ => ⟨rfl, trivial⟩) ?_
  refine g_ret (er_pair (ev_fdivW (by wtm_at "ev") (by wtm_at "ev") (hc _)) (ev_fdivW (by wtm_at "ev") (by wtm_at "ev") (hc _))) fun v H2 e2 r => k _ _ e2 ?_
  show FrI v H2 _ _
  rw [low_num t b hb, low_den t b hb]
  exact r
theorem ok_lowest {P : Program} {w : World} {K : PySem.W.Frag} {mg : Str → Option Value} {base : Heap} {h : Heap} (T : Tx K mg h) : OkF P w K mg base 2 "lowest" ["top", "bottom"] (sp_lowest K) :=
  mkOk T (st := s_lowest) (N := ["top", "bottom", "many"]) 1 1 sc_lowest (by rintro vs H Q E ⟨_, ⟨rfl, _⟩, _⟩; rfl) (fun f cdv A outer s H vs Q E hr hsp => ⟨t_lowest K, (pss_cons (ps_set (i := 2) sc_lowest.nd rfl (Or.inl rfl) (pe_callO (ok_divisor T) (hr.mono (by decide)) rfl (pa_cons (pe_callB call_abs rfl (T.free 98) bt_abs (pa_cons (pv 0) pa_nil)) (pa_cons (pv 1) pa_nil))))
      (pss_one (ps_ret (pe_tup (pa_cons (pe_op op_fdivW (pv 0) (pv 2)) (pa_cons (pe_op op_fdivW (pv 1) (pv 2)) pa_nil)))))), rd_lowest T hsp⟩) (fun _ _ _ _ _ _ us hl => match us, hl with | [_, _], _ => rfl)
theorem pow_lt {b n : Nat} (h : b < 1024) : b ^ n < 2 ^ (10 * n + 1) := by
  have h1 : b ^ n ≤ (2 ^ 10) ^ n := Nat.pow_le_pow_left (by omega) n
  rw [← Nat.pow_mul] at h1
  exact Nat.lt_of_le_of_lt h1 (Nat.pow_lt_pow_of_lt (by decide) (by omega))
abbrev s_power : Stmt := top 13
theorem sc_power : FnScope ["base", "many", "found", "turn"] ["base", "many"] (defScope s_power) := ⟨rfl, rfl, rfl, by decide +kernel, rfl, by decide +kernel, by decide +kernel⟩
def t_power (K : PySem.W.Frag) : TS :=
    (tSeq (tAsg (tC (.int 1)) (gName 2))
    (tSeq (tFor (iRng1 (tCons (tVar 1) tNil)) (gName 3) (tAsg (tOp (rI CMulW fun i j => .int (i * j)) (tVar 2) (tVar 0)) (gName 2)))
    (tRet (tVar 2))))
def sp_power (K : PySem.W.Frag) : Sp := SpF (ι := Nat × Nat) (fun i vs _ => vs = [.int ((i.1 : Nat) : Int), .int ((i.2 : Nat) : Int)] ∧ i.1 < 1024 ∧ i.2 ≤ 60) (fun i v _ => v = .int ((i.1 ^ i.2 : Nat) : Int))
theorem rd_power {K : PySem.W.Frag} {mg : Str → Option Value} {h : Heap} (T : Tx K mg h) {vs : List V} {H : Hp} {Q : VK} {E : XK} (hsp : sp_power K vs H Q E) : t_power K { nx := fun _ H' => Q .non H', rt := Q } (start ["base", "many", "found", "turn"] vs) H := by
  obtain ⟨⟨b, n⟩, ⟨rfl, hb, hn⟩, k⟩ := hsp
  refine Sg.go (H := H) ?_ (Ex.refl H)
  refine g_set (by wtm_at "ev") ?_
  refine g_forR (n := n) (by wtm_at "ev") (by omega) (fun i σ' H' => ∃ v : Option V, σ' = [some (.int (b : Int)), some (.int (n : Int)), some (.int ((b ^ i : Nat) : Int)), v] ∧ Ex H H') (fun H1 e => ⟨none, rfl, e⟩) ?_ ?_
  · rintro i σ' H' hi ⟨v, rfl, e0⟩
    have h1 : b ^ i < 2 ^ 700 := Nat.lt_trans (pow_lt hb) (Nat.pow_lt_pow_of_lt (by decide) (by omega))
    refine Sg.go (H := H) ?_ e0
    refine g_set1 (ev_mulW (a := 700) (b := 10) (by wtm_at "ev") (by wtm_at "ev") (by omega) (by omega) (by decide) (by decide) (by decide)) fun H2 e2 => ⟨some (.int (i : Int)), ?_, e2⟩
    rw [Nat.pow_succ, Int.natCast_mul]
    rfl
  · rintro σ' H' ⟨v, rfl, e0⟩
    refine Sg.go (H := H) ?_ e0
    exact g_retv (by wtm_at "ev") fun H2 e2 => k _ _ e2 rfl
theorem ok_power {P : Program} {w : World} {K : PySem.W.Frag} {mg : Str → Option Value} {base : Heap} {h : Heap} (T : Tx K mg h) : OkF P w K mg base 1 "power" ["base", "many"] (sp_power K) :=
  mkOk T (st := s_power) (N := ["base", "many", "found", "turn"]) 2 2 sc_power (by rintro vs H Q E ⟨_, ⟨rfl, _⟩, _⟩; rfl) (fun f cdv A outer s H vs Q E hr hsp => ⟨t_power K, (pss_cons (ps_set (i := 2) sc_power.nd rfl (Or.inl rfl) pe_int)
      (pss_cons (ps_for PassesOwn.never rfl (pi_range1 rfl (T.free 97) (pa_cons (pv 1) pa_nil)) (pg_name (i := 3) sc_power.nd rfl (Or.inl rfl)) (pss_one (ps_set (i := 2) sc_power.nd rfl (Or.inl rfl) (pe_op op_mulW (pv 2) (pv 0)))))
      (pss_one (ps_ret (pv 2))))), rd_power T hsp⟩) (fun _ _ _ _ _ _ us hl => match us, hl with | [_, _], _ => rfl)
abbrev s_is_less : Stmt := top 14
theorem sc_is_less : FnScope ["one", "other"] ["one", "other"] (defScope s_is_less) := ⟨rfl, rfl, rfl, by decide +kernel, rfl, by decide +kernel, by decide +kernel⟩
def t_is_less (K : PySem.W.Frag) : TS :=
    (tRet (tLt (tOp (rI CMulW fun i j => .int (i * j)) (tOp (rIxT K) (tVar 0) (tC (.int 0))) (tOp (rIxT K) (tVar 1) (tC (.int 1)))) (tOp (rI CMulW fun i j => .int (i * j)) (tOp (rIxT K) (tVar 1) (tC (.int 0))) (tOp (rIxT K) (tVar 0) (tC (.int 1))))))
def sp_is_less (K : PySem.W.Frag) : Sp := SpF (ι := (V × V) × (Int × Int) × (Int × Int)) (fun i vs H => vs = [i.1.1, i.1.2] ∧ FrI i.1.1 H i.2.1.1 i.2.1.2 ∧ FrI i.1.2 H i.2.2.1 i.2.2.2 ∧ i.2.1.1.natAbs < 2 ^ 200 ∧ i.2.1.2.natAbs < 2 ^ 200 ∧ i.2.2.1.natAbs < 2 ^ 200 ∧ i.2.2.2.natAbs < 2 ^ 200)
  (fun i v _ => v = .bl (decide (i.2.1.1 * i.2.2.2 < i.2.2.1 * i.2.1.2)))
theorem rd_is_less {K : PySem.W.Frag} {mg : Str → Option Value} {h : Heap} (T : Tx K mg h) {vs : List V} {H : Hp} {Q : VK} {E : XK} (hsp : sp_is_less K vs H Q E) : t_is_less K { nx := fun _ H' => Q .non H', rt := Q } (start ["one", "other"] vs) H := by
  obtain ⟨⟨⟨v1, v2⟩, ⟨a, b⟩, ⟨c, d⟩⟩, ⟨rfl, h1, h2, ha, hb, hc, hd⟩, k⟩ := hsp
  refine Sg.go (H := H) ?_ (Ex.refl H)
  exact g_retv (ev_cmp (ev_mulW (a := 200) (b := 200) (ev_num (ev_var rfl) h1 ev_c) (ev_den (ev_var rfl) h2 ev_c) ha hd (by decide) (by decide) (by decide)) (ev_mulW (a := 200) (b := 200) (ev_num (ev_var rfl) h2 ev_c) (ev_den (ev_var rfl) h1 ev_c) hc hb (by decide) (by decide) (by decide))) fun H2 e2 => k _ _ e2 rfl
theorem ok_is_less {P : Program} {w : World} {K : PySem.W.Frag} {mg : Str → Option Value} {base : Heap} {h : Heap} (T : Tx K mg h) : OkF P w K mg base 1 "is_less" ["one", "other"] (sp_is_less K) :=
  mkOk T (st := s_is_less) (N := ["one", "other"]) 3 3 sc_is_less (by rintro vs H Q E ⟨_, ⟨rfl, _⟩, _⟩; rfl) (fun f cdv A outer s H vs Q E hr hsp => ⟨t_is_less K, (pss_one (ps_ret (pe_cmp (pc_lt (pe_op op_mulW (pe_ix ix_tup (pv 0) pe_int (fun _ _ => rfl)) (pe_ix ix_tup (pv 1) pe_int (fun _ _ => rfl))) (pe_op op_mulW (pe_ix ix_tup (pv 1) pe_int (fun _ _ => rfl)) (pe_ix ix_tup (pv 0) pe_int (fun _ _ => rfl))))))), rd_is_less T hsp⟩) (fun _ _ _ _ _ _ us hl => match us, hl with | [_, _], _ => rfl)
theorem share_eq (n d : Nat) : (decide ((1 : Int) ≤ (d : Int)) && (decide ((d : Int) ≤ 99) && decide ((n : Int) ≤ (d : Int)))) = Kp415.validFraction n d := by
  unfold Kp415.validFraction
  rw [Bool.eq_iff_iff]
  simp only [Bool.and_eq_true, decide_eq_true_eq]
  omega
abbrev s_is_share : Stmt := top 15
theorem sc_is_share : FnScope ["num", "den"] ["num", "den"] (defScope s_is_share) := ⟨rfl, rfl, rfl, by decide +kernel, rfl, by decide +kernel, by decide +kernel⟩
def t_is_share (K : PySem.W.Frag) : TS :=
    (tRet (tAndV (tLe (tC (.int 1)) (tVar 1)) (tAndV (tLe (tVar 1) (tC (.int 99))) (tLe (tVar 0) (tVar 1)))))
def sp_is_share (K : PySem.W.Frag) : Sp := SpF (ι := Nat × Nat) (fun i vs _ => vs = [.int ((i.1 : Nat) : Int), .int ((i.2 : Nat) : Int)] ∧ True) (fun i v _ => v = .bl (Kp415.validFraction i.1 i.2))
theorem rd_is_share {K : PySem.W.Frag} {mg : Str → Option Value} {h : Heap} (T : Tx K mg h) {vs : List V} {H : Hp} {Q : VK} {E : XK} (hsp : sp_is_share K vs H Q E) : t_is_share K { nx := fun _ H' => Q .non H', rt := Q } (start ["num", "den"] vs) H := by
  obtain ⟨⟨n, d⟩, ⟨rfl, -⟩, k⟩ := hsp
  refine Sg.go (H := H) ?_ (Ex.refl H)
  exact g_retv (ev_b (by wtm_at "ev") (share_eq n d)) fun H2 e2 => k _ _ e2 rfl
theorem ok_is_share {P : Program} {w : World} {K : PySem.W.Frag} {mg : Str → Option Value} {base : Heap} {h : Heap} (T : Tx K mg h) : OkF P w K mg base 1 "is_share" ["num", "den"] (sp_is_share K) :=
  mkOk T (st := s_is_share) (N := ["num", "den"]) 4 4 sc_is_share (by rintro vs H Q E ⟨_, ⟨rfl, _⟩, _⟩; rfl) (fun f cdv A outer s H vs Q E hr hsp => ⟨t_is_share K, (pss_one (ps_ret (pe_and (pe_cmp (pc_le pe_int (pv 1))) (pe_and (pe_cmp (pc_le (pv 1) pe_int)) (pe_one (pe_cmp (pc_le (pv 0) (pv 1)))))))), rd_is_share T hsp⟩) (fun _ _ _ _ _ _ us hl => match us, hl with | [_, _], _ => rfl)
section
variable {K : PySem.W.Frag} {mg : Str → Option Value} {h : Heap} {σ : L2.St} {H : Hp} {ta : TA}
theorem cv_power (T : Tx K mg h) {b n : Nat} (ha : EvA ta σ H [.int ((b : Nat) : Int), .int ((n : Nat) : Int)]) (h1 : b < 1024) (h2 : n ≤ 60) : Ev (tCall (sp_power K) [] E0 ta) σ H (.int ((b ^ n : Nat) : Int)) :=
  ev_callV (f := fun i : Nat × Nat => V.int ((i.1 ^ i.2 : Nat) : Int)) (b, n) ha fun H1 _ => ⟨rfl, h1, h2⟩
theorem cv_is_share (T : Tx K mg h) {n d : Nat} (ha : EvA ta σ H [.int ((n : Nat) : Int), .int ((d : Nat) : Int)]) : Ev (tCall (sp_is_share K) [] E0 ta) σ H (.bl (Kp415.validFraction n d)) :=
  ev_callV (f := fun i : Nat × Nat => V.bl (Kp415.validFraction i.1 i.2)) (n, d) ha fun H1 _ => ⟨rfl, trivial⟩
/-- lowest of a numerator and a denominator -/
theorem cr_lowest (T : Tx K mg h) {t : Int} {b : Nat} (ha : EvA ta σ H [.int t, .int ((b : Nat) : Int)]) (h1 : 0 < b) (h2 : b < 2 ^ 200) : EvR (tCall (sp_lowest K) [] E0 ta) σ H (fun v H => FrQ v H ((t : Rat) / (((b : Nat) : Int) : Rat))) :=
  er_callV (R := fun (i : Int × Nat) v H => FrQ v H ((i.1 : Rat) / (((i.2 : Nat) : Int) : Rat))) (t, b) ha fun H1 _ => ⟨rfl, h1, h2⟩
/-- two fractions that stand in the heap -/
theorem cv_less (T : Tx K mg h) {v1 v2 : V} {a b c d : Int} (ha : EvA ta σ H [v1, v2]) (h1 : FrI v1 H a b) (h2 : FrI v2 H c d) (ha' : a.natAbs < 2 ^ 200) (hb' : b.natAbs < 2 ^ 200) (hc' : c.natAbs < 2 ^ 200) (hd' : d.natAbs < 2 ^ 200) :
    Ev (tCall (sp_is_less K) [] E0 ta) σ H (.bl (decide (a * d < c * b))) :=
  ev_callV (f := fun i : (V × V) × (Int × Int) × (Int × Int) => V.bl (decide (i.2.1.1 * i.2.2.2 < i.2.2.1 * i.2.1.2))) ((v1, v2), (a, b), (c, d)) ha fun H1 e => ⟨rfl, h1.mono e, h2.mono e, ha', hb', hc', hd'⟩
end
end Pw
local macro_rules | `(tactic| wtm_at "ca") => `(tactic| ((with_reducible refine' cv_power (by assumption) ?ha ?h1 ?h2); (case ha => wtm_at "ev"); (case h1 => wtm_at "sd"); (case h2 => wtm_at "sd")))
namespace Pw
open PySem PySem.Spec PyProof.Rows L2 Evl
end Pw
local macro_rules | `(tactic| wtm_at "ca") => `(tactic| ((with_reducible refine' cv_is_share (by assumption) ?ha); (case ha => wtm_at "ev")))
namespace Pw
open PySem PySem.Spec PyProof.Rows L2 Evl
end Pw
namespace Pw
open PySem PySem.Spec PyProof.Rows L2 Evl
/-! ## stores -/
def KX (a : Addr) (H H' : Hp) : Prop := ∀ b o, H b = some o → b ≠ a → H' b = some o
theorem KX.refl (a : Addr) (H : Hp) : KX a H H := fun _ _ h _ => h
theorem KX.trans {a : Addr} {H H1 H2 : Hp} (x : KX a H H1) (y : KX a H1 H2) : KX a H H2 := fun b o h n => y b o (x b o h n) n
theorem KX.of_ex {a : Addr} {H H1 : Hp} (x : Ex H H1) : KX a H H1 := fun b o h _ => x b o h
theorem KX.upd {a : Addr} {H : Hp} {o : HO} : KX a H (upd H a o) := fun b u h n => by
  rw [upd_ne n]
  exact h
/-- what is changed was not there -/
theorem KX.ex {a : Addr} {H H' : Hp} (x : KX a H H') (n : H a = none) : Ex H H' := fun b o h => x b o h (ne_of_none h n)
theorem KX.lst {a l C dx : Addr} {fs : List (Str × V)} {H H' : Hp} {xs : List V} (x : KX a H H') (ha : H a = some (.ins C dx fs)) (h : H l = some (.lst xs)) : H' l = some (.lst xs) := x l _ h (ne_of h ha (by intro z; cases z))
theorem KX.tup {a l C dx : Addr} {fs : List (Str × V)} {H H' : Hp} {xs : List V} (x : KX a H H') (ha : H a = some (.ins C dx fs)) (h : H l = some (.tup xs)) : H' l = some (.tup xs) := x l _ h (ne_of h ha (by intro z; cases z))
section
variable {K : PySem.W.Frag} {mg : Str → Option Value} {h : Heap} {σ : L2.St} {H : Hp} {ta tv te : TE} {a C dx : Addr} {fs fs' : List (Str × V)} {f : Str} {y : V} {tz : TS} {D : Ends} {R : V → Hp → Prop} {i : Nat}
theorem w_fldR (hc : Cls K C) (hn : NoAttr K C f) (hv : EvR tv σ H R) (ha : Ev ta σ H (.ref a)) (ho : H a = some (.ins C dx fs)) (hl : fs.length < 1000)
    (k : ∀ y H2, Ex H H2 → R y H2 → ∀ H3, KX a H2 H3 → H3 a = some (.ins C dx (putF f y fs)) → Sg tz D σ H3) : Sg (tSeq (sFld K ta tv f) tz) D σ H := fun H1 e =>
  hv H1 e _ fun y H2 e2 r => ha H2 (e.trans e2) _ fun H3 e3 => ⟨a, C, dx, fs, rfl, ((e.trans e2).trans e3) _ _ ho, hc, hn, hl,
    k y H2 (e.trans e2) r _ ((KX.of_ex e3).trans KX.upd) upd_same _ (Ex.refl _)⟩
theorem w_fldR1 (hc : Cls K C) (hn : NoAttr K C f) (hv : EvR tv σ H R) (ha : Ev ta σ H (.ref a)) (ho : H a = some (.ins C dx fs)) (hl : fs.length < 1000)
    (k : ∀ y H2, Ex H H2 → R y H2 → ∀ H3, KX a H2 H3 → H3 a = some (.ins C dx (putF f y fs)) → D.nx σ H3) : Sg (sFld K ta tv f) D σ H := fun H1 e =>
  hv H1 e _ fun y H2 e2 r => ha H2 (e.trans e2) _ fun H3 e3 => ⟨a, C, dx, fs, rfl, ((e.trans e2).trans e3) _ _ ho, hc, hn, hl,
    k y H2 (e.trans e2) r _ ((KX.of_ex e3).trans KX.upd) upd_same⟩
theorem w_fld (hc : Cls K C) (hn : NoAttr K C f) (hv : Ev tv σ H y) (ha : Ev ta σ H (.ref a)) (ho : H a = some (.ins C dx fs)) (hl : fs.length < 1000) (hp : putF f y fs = fs')
    (k : ∀ H3, KX a H H3 → H3 a = some (.ins C dx fs') → Sg tz D σ H3) : Sg (tSeq (sFld K ta tv f) tz) D σ H :=
  w_fldR hc hn (er_v hv) ha ho hl fun y' H2 e2 r H3 x h3 => by
    rw [r, hp] at h3
    exact k H3 ((KX.of_ex e2).trans x) h3
theorem w_fld1 (hc : Cls K C) (hn : NoAttr K C f) (hv : Ev tv σ H y) (ha : Ev ta σ H (.ref a)) (ho : H a = some (.ins C dx fs)) (hl : fs.length < 1000) (hp : putF f y fs = fs')
    (k : ∀ H3, KX a H H3 → H3 a = some (.ins C dx fs') → D.nx σ H3) : Sg (sFld K ta tv f) D σ H :=
  w_fldR1 hc hn (er_v hv) ha ho hl fun y' H2 e2 r H3 x h3 => by
    rw [r, hp] at h3
    exact k H3 ((KX.of_ex e2).trans x) h3
/-- a new list is stored -/
theorem w_fldL {xs : List V} {g : Addr → List (Str × V)} (hc : Cls K C) (hn : NoAttr K C f) (hv : EvL tv σ H xs) (ha : Ev ta σ H (.ref a)) (ho : H a = some (.ins C dx fs)) (hl : fs.length < 1000) (hp : ∀ l, putF f (.ref l) fs = g l)
    (k : ∀ l H3, KX a H H3 → H3 a = some (.ins C dx (g l)) → H3 l = some (.lst xs) → Sg tz D σ H3) : Sg (tSeq (sFld K ta tv f) tz) D σ H :=
  w_fldR (R := fun v H1 => ∃ l, v = .ref l ∧ H1 l = some (.lst xs)) hc hn (fun H1 e Q q => hv H1 e Q fun p H2 _ e2 h2 => q _ H2 e2 ⟨p, rfl, h2⟩) ha ho hl fun y' H2 e2 r H3 x h3 => by
    obtain ⟨l, rfl, h4⟩ := r
    rw [hp] at h3
    exact k l H3 ((KX.of_ex e2).trans x) h3 (x.lst (e2 _ _ ho) h4)
theorem el_rep {ta tb : TE} {xs : List V} {n : Nat} (ha : EvL ta σ H xs) (hb : Ev tb σ H (.int (n : Int))) (hn : n ≤ 300) (hx : xs.length ≤ 300) : EvL (tOp rRep ta tb) σ H (List.replicate n xs).flatten := fun H1 e Q q =>
  ha H1 e _ fun l H2 hl e2 h2 => hb H2 (e.trans e2) _ fun H3 e3 => ⟨l, (n : Int), xs, rfl, rfl, e3 _ _ h2, by omega, by omega, by
    rw [Int.toNat_natCast]
    exact sz_of (Nat.le_trans (Nat.mul_le_mul hx hn) (by decide)), fun p hp => by
    rw [Int.toNat_natCast]
    exact q p _ (fresh_back (e2.trans e3) hp) ((e2.trans e3).trans (Ex.new hp)) upd_same⟩
theorem rep_ones (n : Nat) : (List.replicate n [V.int 1]).flatten = nats (List.replicate n 1) := by
  unfold nats
  rw [List.map_replicate]
  induction n with
  | zero => rfl
  | succ n ih =>
    rw [List.replicate_succ, List.flatten_cons, ih, List.replicate_succ]
    rfl
/-- x = C(..) -/
theorem g_make {sp : Sp} {t : TA} {vs : List V} (ht : EvA t σ H vs)
    (k : ∀ x dx H1, Ex H H1 → H1 x = none → H1 dx = none → dx ≠ x → sp (.ref x :: vs) (upd (upd H1 dx (.own x)) x (.ins C dx [])) (fun v H2 => v = .non ∧ tz D (σ.set i (some (.ref x))) H2) E0) : Sg (tSeq (tAsg (tMake C sp [] E0 t) (gName i)) tz) D σ H := fun H1 e =>
  ht H1 e _ fun H2 e2 x dx hx hdx hne => by
    rw [List.append_nil]
    exact k x dx H2 (e.trans e2) hx hdx hne
theorem made_ex {H H2 : Hp} {x dx : Addr} (nx : H x = none) (nd : H dx = none) (k : KX x (upd (upd H dx (.own x)) x (.ins C dx [])) H2) : Ex H H2 := fun b o e =>
  k b o (by rw [upd_ne (ne_of_none e nx), upd_ne (ne_of_none e nd)]; exact e) (ne_of_none e nx)
end
/-- a promise to hand back something new -/
def SpN {ι : Type} (A : ι → List V → Hp → Prop) (R : ι → Addr → Hp → Prop) : Sp := fun vs H Q _ => ∃ i, A i vs H ∧ ∀ p H2, Ex H H2 → H p = none → R i p H2 → Q (.ref p) H2
section
variable {K : PySem.W.Frag} {σ : L2.St} {H : Hp} {D : Ends} {tz : TS} {j : Nat}
theorem g_setN {ι : Type} {A : ι → List V → Hp → Prop} {R : ι → Addr → Hp → Prop} (i : ι) {ta : TA} {vs : List V} (h : EvA ta σ H vs) (ha : ∀ H1, Ex H H1 → A i vs H1)
    (k : ∀ p H1, Ex H H1 → H p = none → R i p H1 → Sg tz D (σ.set j (some (.ref p))) H1) : Sg (tSeq (tAsg (tCall (SpN A R) [] E0 ta) (gName j)) tz) D σ H := fun H1 e =>
  h H1 e _ fun H2 e2 => ⟨i, by rw [List.append_nil]; exact ha H2 (e.trans e2), fun p H3 e3 hp r => k p H3 ((e.trans e2).trans e3) (fresh_back (e.trans e2) hp) r H3 (Ex.refl H3)⟩
end
def sG (n : Int) (tl pl : Addr) (pn pd g l hp tp : Int) : List (Str × V) := [("signal_count", .int n), ("test_weights", .ref tl), ("production_weights", .ref pl), ("prior_num", .int pn), ("prior_den", .int pd), ("gain", .int g), ("loss", .int l), ("harm_price", .int hp), ("test_price", .int tp)]
theorem sF_sG (s : St) (tl pl : Addr) : sF s tl pl = sG ((tws s).length : Int) tl pl (s.model.priorNum : Int) (s.model.priorDen : Int) (s.gain : Int) (s.loss : Int) (s.harmPrice : Int) (s.testPrice : Int) := rfl
theorem pI_1 {v0 v1 : V} : putF "test_weights" v1 ([("signal_count", v0)] : List (Str × V)) = ([("signal_count", v0), ("test_weights", v1)] : List (Str × V)) := (put_past (by decide +kernel)).trans (congrArg _ (rfl))
theorem pI_2 {v0 v1 v2 : V} : putF "production_weights" v2 ([("signal_count", v0), ("test_weights", v1)] : List (Str × V)) = ([("signal_count", v0), ("test_weights", v1), ("production_weights", v2)] : List (Str × V)) := (put_past (by decide +kernel)).trans (congrArg _ ((put_past (by decide +kernel)).trans (congrArg _ (rfl))))
theorem pI_3 {v0 v1 v2 v3 : V} : putF "prior_num" v3 ([("signal_count", v0), ("test_weights", v1), ("production_weights", v2)] : List (Str × V)) = ([("signal_count", v0), ("test_weights", v1), ("production_weights", v2), ("prior_num", v3)] : List (Str × V)) := (put_past (by decide +kernel)).trans (congrArg _ ((put_past (by decide +kernel)).trans (congrArg _ ((put_past (by decide +kernel)).trans (congrArg _ (rfl))))))
theorem pI_4 {v0 v1 v2 v3 v4 : V} : putF "prior_den" v4 ([("signal_count", v0), ("test_weights", v1), ("production_weights", v2), ("prior_num", v3)] : List (Str × V)) = ([("signal_count", v0), ("test_weights", v1), ("production_weights", v2), ("prior_num", v3), ("prior_den", v4)] : List (Str × V)) := (put_past (by decide +kernel)).trans (congrArg _ ((put_past (by decide +kernel)).trans (congrArg _ ((put_past (by decide +kernel)).trans (congrArg _ ((put_past (by decide +kernel)).trans (congrArg _ (rfl))))))))
theorem pI_5 {v0 v1 v2 v3 v4 v5 : V} : putF "gain" v5 ([("signal_count", v0), ("test_weights", v1), ("production_weights", v2), ("prior_num", v3), ("prior_den", v4)] : List (Str × V)) = ([("signal_count", v0), ("test_weights", v1), ("production_weights", v2), ("prior_num", v3), ("prior_den", v4), ("gain", v5)] : List (Str × V)) := (put_past (by decide +kernel)).trans (congrArg _ ((put_past (by decide +kernel)).trans (congrArg _ ((put_past (by decide +kernel)).trans (congrArg _ ((put_past (by decide +kernel)).trans (congrArg _ ((put_past (by decide +kernel)).trans (congrArg _ (rfl))))))))))
theorem pI_6 {v0 v1 v2 v3 v4 v5 v6 : V} : putF "loss" v6 ([("signal_count", v0), ("test_weights", v1), ("production_weights", v2), ("prior_num", v3), ("prior_den", v4), ("gain", v5)] : List (Str × V)) = ([("signal_count", v0), ("test_weights", v1), ("production_weights", v2), ("prior_num", v3), ("prior_den", v4), ("gain", v5), ("loss", v6)] : List (Str × V)) := (put_past (by decide +kernel)).trans (congrArg _ ((put_past (by decide +kernel)).trans (congrArg _ ((put_past (by decide +kernel)).trans (congrArg _ ((put_past (by decide +kernel)).trans (congrArg _ ((put_past (by decide +kernel)).trans (congrArg _ ((put_past (by decide +kernel)).trans (congrArg _ (rfl))))))))))))
theorem pI_7 {v0 v1 v2 v3 v4 v5 v6 v7 : V} : putF "harm_price" v7 ([("signal_count", v0), ("test_weights", v1), ("production_weights", v2), ("prior_num", v3), ("prior_den", v4), ("gain", v5), ("loss", v6)] : List (Str × V)) = ([("signal_count", v0), ("test_weights", v1), ("production_weights", v2), ("prior_num", v3), ("prior_den", v4), ("gain", v5), ("loss", v6), ("harm_price", v7)] : List (Str × V)) := (put_past (by decide +kernel)).trans (congrArg _ ((put_past (by decide +kernel)).trans (congrArg _ ((put_past (by decide +kernel)).trans (congrArg _ ((put_past (by decide +kernel)).trans (congrArg _ ((put_past (by decide +kernel)).trans (congrArg _ ((put_past (by decide +kernel)).trans (congrArg _ ((put_past (by decide +kernel)).trans (congrArg _ (rfl))))))))))))))
theorem pI_8 {v0 v1 v2 v3 v4 v5 v6 v7 v8 : V} : putF "test_price" v8 ([("signal_count", v0), ("test_weights", v1), ("production_weights", v2), ("prior_num", v3), ("prior_den", v4), ("gain", v5), ("loss", v6), ("harm_price", v7)] : List (Str × V)) = ([("signal_count", v0), ("test_weights", v1), ("production_weights", v2), ("prior_num", v3), ("prior_den", v4), ("gain", v5), ("loss", v6), ("harm_price", v7), ("test_price", v8)] : List (Str × V)) := (put_past (by decide +kernel)).trans (congrArg _ ((put_past (by decide +kernel)).trans (congrArg _ ((put_past (by decide +kernel)).trans (congrArg _ ((put_past (by decide +kernel)).trans (congrArg _ ((put_past (by decide +kernel)).trans (congrArg _ ((put_past (by decide +kernel)).trans (congrArg _ ((put_past (by decide +kernel)).trans (congrArg _ ((put_past (by decide +kernel)).trans (congrArg _ (rfl))))))))))))))))
theorem pS_test_weights {n pn pd g l hp tp : Int} {tl pl : Addr} {y : Addr} : putF "test_weights" (.ref y) (sG n tl pl pn pd g l hp tp) = sG n y pl pn pd g l hp tp := (put_past (by decide +kernel)).trans (congrArg _ (put_here))
theorem pS_production_weights {n pn pd g l hp tp : Int} {tl pl : Addr} {y : Addr} : putF "production_weights" (.ref y) (sG n tl pl pn pd g l hp tp) = sG n tl y pn pd g l hp tp := (put_past (by decide +kernel)).trans (congrArg _ ((put_past (by decide +kernel)).trans (congrArg _ (put_here))))
theorem pS_prior_num {n pn pd g l hp tp : Int} {tl pl : Addr} {y : Int} : putF "prior_num" (.int y) (sG n tl pl pn pd g l hp tp) = sG n tl pl y pd g l hp tp := (put_past (by decide +kernel)).trans (congrArg _ ((put_past (by decide +kernel)).trans (congrArg _ ((put_past (by decide +kernel)).trans (congrArg _ (put_here))))))
theorem pS_prior_den {n pn pd g l hp tp : Int} {tl pl : Addr} {y : Int} : putF "prior_den" (.int y) (sG n tl pl pn pd g l hp tp) = sG n tl pl pn y g l hp tp := (put_past (by decide +kernel)).trans (congrArg _ ((put_past (by decide +kernel)).trans (congrArg _ ((put_past (by decide +kernel)).trans (congrArg _ ((put_past (by decide +kernel)).trans (congrArg _ (put_here))))))))
theorem pS_gain {n pn pd g l hp tp : Int} {tl pl : Addr} {y : Int} : putF "gain" (.int y) (sG n tl pl pn pd g l hp tp) = sG n tl pl pn pd y l hp tp := (put_past (by decide +kernel)).trans (congrArg _ ((put_past (by decide +kernel)).trans (congrArg _ ((put_past (by decide +kernel)).trans (congrArg _ ((put_past (by decide +kernel)).trans (congrArg _ ((put_past (by decide +kernel)).trans (congrArg _ (put_here))))))))))
theorem pS_loss {n pn pd g l hp tp : Int} {tl pl : Addr} {y : Int} : putF "loss" (.int y) (sG n tl pl pn pd g l hp tp) = sG n tl pl pn pd g y hp tp := (put_past (by decide +kernel)).trans (congrArg _ ((put_past (by decide +kernel)).trans (congrArg _ ((put_past (by decide +kernel)).trans (congrArg _ ((put_past (by decide +kernel)).trans (congrArg _ ((put_past (by decide +kernel)).trans (congrArg _ ((put_past (by decide +kernel)).trans (congrArg _ (put_here))))))))))))
theorem pS_harm_price {n pn pd g l hp tp : Int} {tl pl : Addr} {y : Int} : putF "harm_price" (.int y) (sG n tl pl pn pd g l hp tp) = sG n tl pl pn pd g l y tp := (put_past (by decide +kernel)).trans (congrArg _ ((put_past (by decide +kernel)).trans (congrArg _ ((put_past (by decide +kernel)).trans (congrArg _ ((put_past (by decide +kernel)).trans (congrArg _ ((put_past (by decide +kernel)).trans (congrArg _ ((put_past (by decide +kernel)).trans (congrArg _ ((put_past (by decide +kernel)).trans (congrArg _ (put_here))))))))))))))
theorem pS_test_price {n pn pd g l hp tp : Int} {tl pl : Addr} {y : Int} : putF "test_price" (.int y) (sG n tl pl pn pd g l hp tp) = sG n tl pl pn pd g l hp y := (put_past (by decide +kernel)).trans (congrArg _ ((put_past (by decide +kernel)).trans (congrArg _ ((put_past (by decide +kernel)).trans (congrArg _ ((put_past (by decide +kernel)).trans (congrArg _ ((put_past (by decide +kernel)).trans (congrArg _ ((put_past (by decide +kernel)).trans (congrArg _ ((put_past (by decide +kernel)).trans (congrArg _ ((put_past (by decide +kernel)).trans (congrArg _ (put_here))))))))))))))))
def fresh (n : Nat) : St := ⟨⟨List.replicate n 1, List.replicate n 1, 1, 2⟩, 1, 1, 1, 1⟩
abbrev s_Setting : Stmt := inClass (top 17) 0
theorem sc_Setting : FnScope ["self", "signal_count"] ["self", "signal_count"] (defScope s_Setting) := ⟨rfl, rfl, rfl, by decide +kernel, rfl, by decide +kernel, by decide +kernel⟩
def t_Setting (K : PySem.W.Frag) : TS :=
    (tSeq (sFld K (tVar 0) (tVar 1) "signal_count")
    (tSeq (sFld K (tVar 0) (tOp rRep (tLst (tCons (tC (.int 1)) tNil)) (tVar 1)) "test_weights")
    (tSeq (sFld K (tVar 0) (tOp rRep (tLst (tCons (tC (.int 1)) tNil)) (tVar 1)) "production_weights")
    (tSeq (sFld K (tVar 0) (tC (.int 1)) "prior_num")
    (tSeq (sFld K (tVar 0) (tC (.int 2)) "prior_den")
    (tSeq (sFld K (tVar 0) (tC (.int 1)) "gain")
    (tSeq (sFld K (tVar 0) (tC (.int 1)) "loss")
    (tSeq (sFld K (tVar 0) (tC (.int 1)) "harm_price")
    (sFld K (tVar 0) (tC (.int 1)) "test_price")))))))))
def sp_Setting (K : PySem.W.Frag) : Sp := fun vs H Q _ => ∃ i : Addr × Addr × Nat, (vs = [.ref i.1, .int ((i.2.2 : Nat) : Int)] ∧ H i.1 = some (.ins (He.ga K "Setting") i.2.1 []) ∧ i.2.2 ≤ 5) ∧ ∀ H2, KX i.1 H H2 → SetAt K H2 i.1 (fresh i.2.2) → Q .non H2
theorem rd_Setting {K : PySem.W.Frag} {mg : Str → Option Value} {h : Heap} (T : Tx K mg h) {vs : List V} {H : Hp} {Q : VK} {E : XK} (hsp : sp_Setting K vs H Q E) : t_Setting K { nx := fun _ H' => Q .non H', rt := Q } (start ["self", "signal_count"] vs) H := by
  obtain ⟨⟨p, dx, n⟩, ⟨rfl, hp, hn⟩, k⟩ := hsp
  dsimp only at hp hn k ⊢
  refine Sg.go (H := H) ?_ (Ex.refl H)
  have hc := T.cls 116
  have hrep : ∀ {H : Hp} {σ : L2.St}, σ[1]? = some (some (.int (n : Int))) → EvL (tOp rRep (tLst (tCons (tC (.int 1)) tNil)) (tVar 1)) σ H (nats (List.replicate n 1)) := fun {H σ} hσ => by
    rw [← rep_ones]
    exact el_rep (el_lst (ea_cons ev_c ea_nil) (Nat.le_of_ble_eq_true rfl)) (ev_var hσ) (by omega) (Nat.le_of_ble_eq_true rfl)
  refine w_fld (fs' := [("signal_count", .int (n : Int))]) hc (T.noat 118) (by wtm_at "ev") (by wtm_at "ev") hp (by decide) rfl fun H1 x1 h1 => ?_
  refine w_fldL (g := fun l => [("signal_count", .int (n : Int)), ("test_weights", .ref l)]) hc (T.noat 119) (hrep rfl) (by wtm_at "ev") h1 (by show 1 < 1000; decide) (fun l => pI_1) fun tl H2 x2 h2 l2 => ?_
  refine w_fldL (g := fun l => [("signal_count", .int (n : Int)), ("test_weights", .ref tl), ("production_weights", .ref l)]) hc (T.noat 120) (hrep rfl) (by wtm_at "ev") h2 (by show 2 < 1000; decide) (fun l => pI_2) fun pl H3 x3 h3 l3 => ?_
  have l2' := x3.lst h2 l2
  refine w_fld hc (T.noat 121) (by wtm_at "ev") (by wtm_at "ev") h3 (by show 3 < 1000; decide) pI_3 fun H4 x4 h4 => ?_
  refine w_fld hc (T.noat 122) (by wtm_at "ev") (by wtm_at "ev") h4 (by show 4 < 1000; decide) pI_4 fun H5 x5 h5 => ?_
  refine w_fld hc (T.noat 123) (by wtm_at "ev") (by wtm_at "ev") h5 (by show 5 < 1000; decide) pI_5 fun H6 x6 h6 => ?_
  refine w_fld hc (T.noat 124) (by wtm_at "ev") (by wtm_at "ev") h6 (by show 6 < 1000; decide) pI_6 fun H7 x7 h7 => ?_
  refine w_fld hc (T.noat 125) (by wtm_at "ev") (by wtm_at "ev") h7 (by show 7 < 1000; decide) pI_7 fun H8 x8 h8 => ?_
  refine w_fld1 hc (T.noat 126) (by wtm_at "ev") (by wtm_at "ev") h8 (by show 8 < 1000; decide) pI_8 fun H9 x9 h9 => ?_
  have x39 : KX p H3 H9 := ((((x4.trans x5).trans x6).trans x7).trans x8).trans x9
  refine k H9 (((x1.trans x2).trans x3).trans x39) ⟨dx, tl, pl, ?_, x39.lst h3 l2', x39.lst h3 l3⟩
  rw [h9]
  unfold sF fresh tws
  rw [List.length_replicate]
  rfl
theorem ok_Setting {P : Program} {w : World} {K : PySem.W.Frag} {mg : Str → Option Value} {base : Heap} {h : Heap} (T : Tx K mg h) : OkI P w K mg base 1 "Setting" ["self", "signal_count"] (sp_Setting K) :=
  mkOkI T (st := s_Setting) (q := "Setting.__init__") (N := ["self", "signal_count"]) 92 117 92 sc_Setting (by rintro vs H Q E ⟨_, ⟨rfl, _⟩, _⟩; rfl) (fun f cdv A outer s H vs Q E hr hsp => ⟨t_Setting K, (pss_cons (ps_fld (pv 0) (pv 1) rfl)
      (pss_cons (ps_fld (pv 0) (pe_op op_rep (pe_lst (pa_cons pe_int pa_nil)) (pv 1)) rfl)
      (pss_cons (ps_fld (pv 0) (pe_op op_rep (pe_lst (pa_cons pe_int pa_nil)) (pv 1)) rfl)
      (pss_cons (ps_fld (pv 0) pe_int rfl)
      (pss_cons (ps_fld (pv 0) pe_int rfl)
      (pss_cons (ps_fld (pv 0) pe_int rfl)
      (pss_cons (ps_fld (pv 0) pe_int rfl)
      (pss_cons (ps_fld (pv 0) pe_int rfl)
      (pss_one (ps_fld (pv 0) pe_int rfl)))))))))), rd_Setting T hsp⟩) (fun _ _ _ _ _ _ us hl => match us, hl with | [_, _], _ => rfl)
abbrev s_copied : Stmt := top 18
theorem sc_copied : FnScope ["setting", "other"] ["setting"] (defScope s_copied) := ⟨rfl, rfl, rfl, by decide +kernel, rfl, by decide +kernel, by decide +kernel⟩
def t_copied (K : PySem.W.Frag) : TS :=
    (tSeq (tAsg (tMake (He.ga K "Setting") (sp_Setting K) [] E0 (tCons (tFld K (tVar 0) "signal_count") tNil)) (gName 1))
    (tSeq (sFld K (tVar 1) (tCB (rListS K) (tCons (tFld K (tVar 0) "test_weights") tNil)) "test_weights")
    (tSeq (sFld K (tVar 1) (tCB (rListS K) (tCons (tFld K (tVar 0) "production_weights") tNil)) "production_weights")
    (tSeq (sFld K (tVar 1) (tFld K (tVar 0) "prior_num") "prior_num")
    (tSeq (sFld K (tVar 1) (tFld K (tVar 0) "prior_den") "prior_den")
    (tSeq (sFld K (tVar 1) (tFld K (tVar 0) "gain") "gain")
    (tSeq (sFld K (tVar 1) (tFld K (tVar 0) "loss") "loss")
    (tSeq (sFld K (tVar 1) (tFld K (tVar 0) "harm_price") "harm_price")
    (tSeq (sFld K (tVar 1) (tFld K (tVar 0) "test_price") "test_price")
    (tRet (tVar 1)))))))))))
def sp_copied (K : PySem.W.Frag) : Sp := SpN (ι := Addr × St) (fun i vs H => vs = [.ref i.1] ∧ SetAt K H i.1 i.2 ∧ (tws i.2).length ≤ 5) (fun i p H => SetAt K H p i.2)
theorem rd_copied {K : PySem.W.Frag} {mg : Str → Option Value} {h : Heap} (T : Tx K mg h) {vs : List V} {H : Hp} {Q : VK} {E : XK} (hsp : sp_copied K vs H Q E) : t_copied K { nx := fun _ H' => Q .non H', rt := Q } (start ["setting", "other"] vs) H := by
  obtain ⟨⟨a, s⟩, ⟨rfl, hs, hn⟩, k⟩ := hsp
  dsimp only at hs hn k ⊢
  refine Sg.go (H := H) ?_ (Ex.refl H)
  have hc := T.cls 116
  refine g_make (vs := [.int (((tws s).length : Nat) : Int)]) (by wtm_at "ev") fun p dp H1 e1 np nd hne => ?_
  refine ⟨(p, dp, (tws s).length), ⟨rfl, upd_same, hn⟩, fun H2 x2 hf => ⟨rfl, ?_⟩⟩
  have e2 : Ex H H2 := e1.trans (made_ex np nd x2)
  have npH : H p = none := fresh_back e1 np
  have hap : a ≠ p := fun z => by
    obtain ⟨_, _, _, q, _⟩ := hs
    rw [z, npH] at q
    cases q
  replace hs := hs.mono e2
  obtain ⟨dx, tl0, pl0, h0, _, _⟩ := hf
  dsimp only at h0
  refine Sg.go (H := H2) ?_ (Ex.refl H2)
  obtain ⟨dxa, tla, pla, ha1, ha2, ha3⟩ := hs
  have hS : ∀ H', KX p H2 H' → SetAt K H' a s := fun H' x => ⟨dxa, tla, pla, x _ _ ha1 hap, x.lst h0 ha2, x.lst h0 ha3⟩
  rw [sF_sG] at h0
  have hs2 := hS H2 (KX.refl _ _)
  obtain ⟨lt, ht1, ht2⟩ := evS_test_weights (σ := [some (.ref a), some (.ref p)]) (ta := tVar 0) T hs2 (ev_var rfl)
  refine w_fldL hc (T.noat 119) (el_list ht1 (SqL.of ht2)) (ev_var rfl) h0 (by show 9 < 1000; decide) (fun l => pS_test_weights) fun tl H3 x3 h3 l3 => ?_
  have hs3 := hS H3 x3
  obtain ⟨lp, hp1, hp2⟩ := evS_production_weights (σ := [some (.ref a), some (.ref p)]) (ta := tVar 0) T hs3 (ev_var rfl)
  refine w_fldL hc (T.noat 120) (el_list hp1 (SqL.of hp2)) (ev_var rfl) h3 (by show 9 < 1000; decide) (fun l => pS_production_weights) fun pl H4 x4 h4 l4 => ?_
  have l3' := x4.lst h3 l3
  have hs4 := hS H4 (x3.trans x4)
  refine w_fld hc (T.noat 121) (by wtm_at "ev") (ev_var rfl) h4 (by show 9 < 1000; decide) pS_prior_num fun H5 x5 h5 => ?_
  have hs5 := hS H5 ((x3.trans x4).trans x5)
  refine w_fld hc (T.noat 122) (by wtm_at "ev") (ev_var rfl) h5 (by show 9 < 1000; decide) pS_prior_den fun H6 x6 h6 => ?_
  have x46 := x5.trans x6
  have hs6 := hS H6 ((x3.trans x4).trans x46)
  refine w_fld hc (T.noat 123) (by wtm_at "ev") (ev_var rfl) h6 (by show 9 < 1000; decide) pS_gain fun H7 x7 h7 => ?_
  have hs7 := hS H7 ((x3.trans x4).trans (x46.trans x7))
  refine w_fld hc (T.noat 124) (by wtm_at "ev") (ev_var rfl) h7 (by show 9 < 1000; decide) pS_loss fun H8 x8 h8 => ?_
  have x48 := (x46.trans x7).trans x8
  have hs8 := hS H8 ((x3.trans x4).trans x48)
  refine w_fld hc (T.noat 125) (by wtm_at "ev") (ev_var rfl) h8 (by show 9 < 1000; decide) pS_harm_price fun H9 x9 h9 => ?_
  have hs9 := hS H9 ((x3.trans x4).trans (x48.trans x9))
  refine w_fld hc (T.noat 126) (by wtm_at "ev") (ev_var rfl) h9 (by show 9 < 1000; decide) pS_test_price fun H10 x10 h10 => ?_
  have x4e := (x48.trans x9).trans x10
  have xe := (x3.trans x4).trans x4e
  have ee : Ex H H10 := fun b o q => xe b o (e2 b o q) (ne_of_none q npH)
  refine g_retv (ev_var rfl) fun H11 e11 => k p H11 (ee.trans e11) npH (SetAt.mono e11 ⟨dx, tl, pl, ?_, x4e.lst h4 l3', x4e.lst h4 l4⟩)
  rw [h10, sF_sG]
  unfold fresh tws
  rw [List.length_replicate]
theorem ok_copied {P : Program} {w : World} {K : PySem.W.Frag} {mg : Str → Option Value} {base : Heap} {h : Heap} (T : Tx K mg h) : OkF P w K mg base 3 "copied" ["setting"] (sp_copied K) :=
  mkOk T (st := s_copied) (N := ["setting", "other"]) 5 5 sc_copied (by rintro vs H Q E ⟨_, ⟨rfl, _⟩, _⟩; rfl) (fun f cdv A outer s H vs Q E hr hsp => ⟨t_copied K, (pss_cons (ps_set (i := 1) sc_copied.nd rfl (Or.inl rfl) (pe_makeO (ok_Setting T) (hr.mono (by decide)) rfl (pa_cons (pe_fld (pv 0) rfl) pa_nil)))
      (pss_cons (ps_fld (pv 1) (pe_callTy call_list_of rfl (T.free 99) bt_list (pa_cons (pe_fld (pv 0) rfl) pa_nil)) rfl)
      (pss_cons (ps_fld (pv 1) (pe_callTy call_list_of rfl (T.free 99) bt_list (pa_cons (pe_fld (pv 0) rfl) pa_nil)) rfl)
      (pss_cons (ps_fld (pv 1) (pe_fld (pv 0) rfl) rfl)
      (pss_cons (ps_fld (pv 1) (pe_fld (pv 0) rfl) rfl)
      (pss_cons (ps_fld (pv 1) (pe_fld (pv 0) rfl) rfl)
      (pss_cons (ps_fld (pv 1) (pe_fld (pv 0) rfl) rfl)
      (pss_cons (ps_fld (pv 1) (pe_fld (pv 0) rfl) rfl)
      (pss_cons (ps_fld (pv 1) (pe_fld (pv 0) rfl) rfl)
      (pss_one (ps_ret (pv 1)))))))))))), rd_copied T hsp⟩) (fun _ _ _ _ _ _ us hl => match us, hl with | [_], _ => rfl)
end Pw
namespace Pw
open PySem PySem.Spec PyProof.Rows L2 Evl
/-! ## lists of numbers, loops over them -/
def LsN (v : V) (H : Hp) (l : List Nat) : Prop := ∃ p, v = .ref p ∧ H p = some (.lst (nats l))
theorem LsN.mono {v : V} {H H' : Hp} {l : List Nat} (e : Ex H H') : LsN v H l → LsN v H' l := fun ⟨p, h1, h2⟩ => ⟨p, h1, e _ _ h2⟩
theorem nats_len (l : List Nat) : (nats l).length = l.length := List.length_map ..
theorem nats_at {l : List Nat} {i : Nat} {x : V} (h : (nats l)[i]? = some x) : ∃ n, l[i]? = some n ∧ x = .int ((n : Nat) : Int) := by
  unfold nats at h
  rw [List.getElem?_map] at h
  cases e : l[i]? with
  | none =>
    rw [e] at h
    cases h
  | some n =>
    rw [e] at h
    exact ⟨n, rfl, (Option.some.inj h).symm⟩
theorem nats_snoc (l : List Nat) (n : Nat) : nats l ++ [V.int ((n : Nat) : Int)] = nats (l ++ [n]) := by
  unfold nats
  rw [List.map_append]
  rfl
theorem take_snoc {α : Type} {l : List α} {i : Nat} {x : α} (h : l[i]? = some x) : l.take (i + 1) = l.take i ++ [x] := by
  rw [List.take_add_one, h]
  rfl
section
variable {K : PySem.W.Frag} {mg : Str → Option Value} {h : Heap} {σ : L2.St} {H : Hp} {ta tv te tl : TE} {tu tz : TS} {D : Ends} {j : Nat} {l : List Nat}
/-- for x in (a list of numbers that an expression gives) -/
theorem g_forN (h : EvR tl σ H (fun v H => LsN v H l))
    (k : ∀ H1, Ex H H1 → ∃ Pv : Nat → L2.St → Hp → Prop, (∀ H2, Ex H1 H2 → Pv 0 σ H2) ∧ (∀ i σ' H', Pv i σ' H' → Ex H1 H') ∧
      (∀ i n σ' H', l[i]? = some n → Pv i σ' H' → tu { D with nx := Pv (i + 1), ct := Pv (i + 1), bk := tz D } (σ'.set j (some (.int ((n : Nat) : Int)))) H') ∧ (∀ σ' H', Pv l.length σ' H' → tz D σ' H')) : Sg (tSeq (tFor (iList K tl) (gName j) tu) tz) D σ H := fun H0 e0 =>
  h H0 e0 _ fun v H1 e1 r => by
    obtain ⟨p, rfl, hp⟩ := r
    obtain ⟨Pv, k0, ke, ks, kd⟩ := k H1 (e0.trans e1)
    refine ⟨p, rfl, ⟨_, SqL.of hp⟩, for_list (xs := nats l) Pv (k0 H1 (Ex.refl H1)) (fun i σ' H' _ pv => SqL.of (ke i σ' H' pv _ _ hp)) ?_ ?_⟩
    · intro i x σ' H' hx pv
      obtain ⟨n, hn, rfl⟩ := nats_at hx
      exact ks i n σ' H' hn pv
    · intro σ' H' pv
      rw [nats_len] at pv
      exact kd σ' H' pv
theorem g_setL {i : Nat} {xs : List V} (h : EvL te σ H xs) (k : ∀ p H1, Ex H H1 → H p = none → H1 p = some (.lst xs) → Sg tz D (σ.set i (some (.ref p))) H1) : Sg (tSeq (tAsg te (gName i)) tz) D σ H := fun H1 e =>
  h H1 e _ fun p H2 hp e2 h2 => k p H2 (e.trans e2) (fresh_back e hp) h2 H2 (Ex.refl H2)
/-- as g_forR, the bound read at an earlier base -/
theorem g_forR' {H0 : Hp} {ta : TA} {n : Nat} (h : EvA ta σ H0 [.int (n : Int)]) (hn : n ≤ 100000) (Pv : Nat → L2.St → Hp → Prop) (e0 : Ex H0 H) (h0 : ∀ H1, Ex H H1 → Pv 0 σ H1)
    (hs : ∀ (i : Nat) σ' H', i < n → Pv i σ' H' → tu { D with nx := Pv (i + 1), ct := Pv (i + 1), bk := tz D } (σ'.set j (some (.int (i : Int)))) H') (hd : ∀ σ' H', Pv n σ' H' → tz D σ' H') : Sg (tSeq (tFor (iRng1 ta) (gName j) tu) tz) D σ H :=
  g_forR (h.mono e0) hn Pv h0 hs hd
/-- found.append(e), found at an address that the base doesn't know -/
theorem g_app {p : Addr} {xs : List V} {H0 : Hp} {v : V} (e : Ex H0 H) (hp : H p = some (.lst xs)) (ha : Ev ta σ H (.ref p)) (hv : Ev te σ H v) (hz : xs.length < 100000) (hn : H0 p = none)
    (k : ∀ H2, Ex H0 H2 → H2 p = some (.lst (xs ++ [v])) → D.nx σ H2) : tDrop (tBM K "list" rAppend ta (tCons te tNil)) D σ H :=
  s_app hp ha hv hz fun H1 e1 => k _ (Ex.mut (e.trans e1) hn) upd_same
end
abbrev s_with_prior : Stmt := top 19
theorem sc_with_prior : FnScope ["setting", "num", "den", "other"] ["setting", "num", "den"] (defScope s_with_prior) := ⟨rfl, rfl, rfl, by decide +kernel, rfl, by decide +kernel, by decide +kernel⟩
def t_with_prior (K : PySem.W.Frag) : TS :=
    (tSeq (tAsg (tCall (sp_copied K) [] E0 (tCons (tVar 0) tNil)) (gName 3))
    (tSeq (sFld K (tVar 3) (tVar 1) "prior_num")
    (tSeq (sFld K (tVar 3) (tVar 2) "prior_den")
    (tRet (tVar 3)))))
def setPrior (s : St) (n d : Nat) : St := { s with model := { s.model with priorNum := n, priorDen := d } }
def sp_with_prior (K : PySem.W.Frag) : Sp := SpF (ι := Addr × St × Nat × Nat) (fun i vs H => vs = [.ref i.1, .int ((i.2.2.1 : Nat) : Int), .int ((i.2.2.2 : Nat) : Int)] ∧ SetAt K H i.1 i.2.1 ∧ (tws i.2.1).length ≤ 5) (fun i v H => ∃ p, v = .ref p ∧ SetAt K H p (setPrior i.2.1 i.2.2.1 i.2.2.2))
theorem rd_with_prior {K : PySem.W.Frag} {mg : Str → Option Value} {h : Heap} (T : Tx K mg h) {vs : List V} {H : Hp} {Q : VK} {E : XK} (hsp : sp_with_prior K vs H Q E) : t_with_prior K { nx := fun _ H' => Q .non H', rt := Q } (start ["setting", "num", "den", "other"] vs) H := by
  obtain ⟨⟨a, s, n, d⟩, ⟨rfl, hs, hn⟩, k⟩ := hsp
  dsimp only at hs hn k ⊢
  refine Sg.go (H := H) ?_ (Ex.refl H)
  refine g_setN (a, s) (vs := [.ref a]) (by wtm_at "ev") (fun H1 e => ⟨rfl, hs.mono e, hn⟩) fun p H1 e1 np r => ?_
  obtain ⟨dx, tl, pl, h0, l1, l2⟩ := r
  rw [sF_sG] at h0
  refine w_fld (T.cls 116) (T.noat 121) (by wtm_at "ev") (ev_var rfl) h0 (by show 9 < 1000; decide) pS_prior_num fun H2 x2 h2 => ?_
  refine w_fld (T.cls 116) (T.noat 122) (by wtm_at "ev") (ev_var rfl) h2 (by show 9 < 1000; decide) pS_prior_den fun H3 x3 h3 => ?_
  have x := x2.trans x3
  refine g_retv (ev_var rfl) fun H4 e4 => k _ _ (fun b o q => e4 _ _ (x b o (e1 b o q) (ne_of_none q np))) ⟨p, rfl, SetAt.mono e4 ⟨dx, tl, pl, ?_, x.lst h0 l1, x.lst h0 l2⟩⟩
  rw [h3, sF_sG]
  rfl
theorem ok_with_prior {P : Program} {w : World} {K : PySem.W.Frag} {mg : Str → Option Value} {base : Heap} {h : Heap} (T : Tx K mg h) : OkF P w K mg base 4 "with_prior" ["setting", "num", "den"] (sp_with_prior K) :=
  mkOk T (st := s_with_prior) (N := ["setting", "num", "den", "other"]) 6 6 sc_with_prior (by rintro vs H Q E ⟨_, ⟨rfl, _⟩, _⟩; rfl) (fun f cdv A outer s H vs Q E hr hsp => ⟨t_with_prior K, (pss_cons (ps_set (i := 3) sc_with_prior.nd rfl (Or.inl rfl) (pe_callO (ok_copied T) (hr.mono (by decide)) rfl (pa_cons (pv 0) pa_nil)))
      (pss_cons (ps_fld (pv 3) (pv 1) rfl)
      (pss_cons (ps_fld (pv 3) (pv 2) rfl)
      (pss_one (ps_ret (pv 3)))))), rd_with_prior T hsp⟩) (fun _ _ _ _ _ _ us hl => match us, hl with | [_, _, _], _ => rfl)
abbrev s_with_stakes : Stmt := top 20
theorem sc_with_stakes : FnScope ["setting", "gain", "loss", "other"] ["setting", "gain", "loss"] (defScope s_with_stakes) := ⟨rfl, rfl, rfl, by decide +kernel, rfl, by decide +kernel, by decide +kernel⟩
def t_with_stakes (K : PySem.W.Frag) : TS :=
    (tSeq (tAsg (tCall (sp_copied K) [] E0 (tCons (tVar 0) tNil)) (gName 3))
    (tSeq (sFld K (tVar 3) (tVar 1) "gain")
    (tSeq (sFld K (tVar 3) (tVar 2) "loss")
    (tRet (tVar 3)))))
def setStakes (s : St) (g l : Nat) : St := { s with gain := g, loss := l }
def sp_with_stakes (K : PySem.W.Frag) : Sp := SpF (ι := Addr × St × Nat × Nat) (fun i vs H => vs = [.ref i.1, .int ((i.2.2.1 : Nat) : Int), .int ((i.2.2.2 : Nat) : Int)] ∧ SetAt K H i.1 i.2.1 ∧ (tws i.2.1).length ≤ 5) (fun i v H => ∃ p, v = .ref p ∧ SetAt K H p (setStakes i.2.1 i.2.2.1 i.2.2.2))
theorem rd_with_stakes {K : PySem.W.Frag} {mg : Str → Option Value} {h : Heap} (T : Tx K mg h) {vs : List V} {H : Hp} {Q : VK} {E : XK} (hsp : sp_with_stakes K vs H Q E) : t_with_stakes K { nx := fun _ H' => Q .non H', rt := Q } (start ["setting", "gain", "loss", "other"] vs) H := by
  obtain ⟨⟨a, s, n, d⟩, ⟨rfl, hs, hn⟩, k⟩ := hsp
  dsimp only at hs hn k ⊢
  refine Sg.go (H := H) ?_ (Ex.refl H)
  refine g_setN (a, s) (vs := [.ref a]) (by wtm_at "ev") (fun H1 e => ⟨rfl, hs.mono e, hn⟩) fun p H1 e1 np r => ?_
  obtain ⟨dx, tl, pl, h0, l1, l2⟩ := r
  rw [sF_sG] at h0
  refine w_fld (T.cls 116) (T.noat 123) (by wtm_at "ev") (ev_var rfl) h0 (by show 9 < 1000; decide) pS_gain fun H2 x2 h2 => ?_
  refine w_fld (T.cls 116) (T.noat 124) (by wtm_at "ev") (ev_var rfl) h2 (by show 9 < 1000; decide) pS_loss fun H3 x3 h3 => ?_
  have x := x2.trans x3
  refine g_retv (ev_var rfl) fun H4 e4 => k _ _ (fun b o q => e4 _ _ (x b o (e1 b o q) (ne_of_none q np))) ⟨p, rfl, SetAt.mono e4 ⟨dx, tl, pl, ?_, x.lst h0 l1, x.lst h0 l2⟩⟩
  rw [h3, sF_sG]
  rfl
theorem ok_with_stakes {P : Program} {w : World} {K : PySem.W.Frag} {mg : Str → Option Value} {base : Heap} {h : Heap} (T : Tx K mg h) : OkF P w K mg base 4 "with_stakes" ["setting", "gain", "loss"] (sp_with_stakes K) :=
  mkOk T (st := s_with_stakes) (N := ["setting", "gain", "loss", "other"]) 7 7 sc_with_stakes (by rintro vs H Q E ⟨_, ⟨rfl, _⟩, _⟩; rfl) (fun f cdv A outer s H vs Q E hr hsp => ⟨t_with_stakes K, (pss_cons (ps_set (i := 3) sc_with_stakes.nd rfl (Or.inl rfl) (pe_callO (ok_copied T) (hr.mono (by decide)) rfl (pa_cons (pv 0) pa_nil)))
      (pss_cons (ps_fld (pv 3) (pv 1) rfl)
      (pss_cons (ps_fld (pv 3) (pv 2) rfl)
      (pss_one (ps_ret (pv 3)))))), rd_with_stakes T hsp⟩) (fun _ _ _ _ _ _ us hl => match us, hl with | [_, _, _], _ => rfl)
theorem contains_eq (c s : Nat) : decide (((c : Nat) : Int) / ((2 ^ s : Nat) : Int) % 2 = 1) = Kp415.contains c s := by
  unfold Kp415.contains
  have e : ((c : Nat) : Int) / ((2 ^ s : Nat) : Int) % 2 = ((c / 2 ^ s % 2 : Nat) : Int) := by
    rw [Int.natCast_emod, Int.natCast_ediv]
    rfl
  rw [e, Bool.eq_iff_iff, decide_eq_true_eq, beq_iff_eq]
  omega
abbrev s_has_signal : Stmt := top 25
theorem sc_has_signal : FnScope ["cheat_set", "signal"] ["cheat_set", "signal"] (defScope s_has_signal) := ⟨rfl, rfl, rfl, by decide +kernel, rfl, by decide +kernel, by decide +kernel⟩
def t_has_signal (K : PySem.W.Frag) : TS :=
    (tRet (tEqI (tOp (rI (fun _ j => 0 < j) fun i j => .int (i % j)) (tOp (rI CDivW fun i j => .int (i / j)) (tVar 0) (tCall (sp_power K) [] E0 (tCons (tC (.int 2)) (tCons (tVar 1) tNil)))) (tC (.int 2))) (tC (.int 1))))
def sp_has_signal (K : PySem.W.Frag) : Sp := SpF (ι := Nat × Nat) (fun i vs H => vs = [.int ((i.1 : Nat) : Int), .int ((i.2 : Nat) : Int)] ∧ i.2 ≤ 60) (fun i v H => v = .bl (Kp415.contains i.1 i.2))
theorem rd_has_signal {K : PySem.W.Frag} {mg : Str → Option Value} {h : Heap} (T : Tx K mg h) {vs : List V} {H : Hp} {Q : VK} {E : XK} (hsp : sp_has_signal K vs H Q E) : t_has_signal K { nx := fun _ H' => Q .non H', rt := Q } (start ["cheat_set", "signal"] vs) H := by
  obtain ⟨⟨c, s⟩, ⟨rfl, hs⟩, k⟩ := hsp
  dsimp only at hs k ⊢
  refine Sg.go (H := H) ?_ (Ex.refl H)
  have hp : (2 : Nat) ^ s < 2 ^ 61 := Nat.pow_lt_pow_of_lt (by decide) (by omega)
  have h0 : 0 < (2 : Nat) ^ s := Nat.two_pow_pos s
  refine g_retv (ev_b (ev_cmp (ev_mod (ev_fdivW (by wtm_at "ev") (cv_power T (b := 2) (n := s) (by wtm_at "ev") (by omega) hs) (wide_div (b := 61) (by omega) (by omega) (by decide) (by decide))) (by wtm_at "ev") (by decide)) (by wtm_at "ev")) (contains_eq c s)) fun H2 e2 => k _ _ e2 rfl
theorem ok_has_signal {P : Program} {w : World} {K : PySem.W.Frag} {mg : Str → Option Value} {base : Heap} {h : Heap} (T : Tx K mg h) : OkF P w K mg base 2 "has_signal" ["cheat_set", "signal"] (sp_has_signal K) :=
  mkOk T (st := s_has_signal) (N := ["cheat_set", "signal"]) 8 8 sc_has_signal (by rintro vs H Q E ⟨_, ⟨rfl, _⟩, _⟩; rfl) (fun f cdv A outer s H vs Q E hr hsp => ⟨t_has_signal K, (pss_one (ps_ret (pe_cmp (pc_eqI (pe_op op_mod (pe_op op_fdivW (pv 0) (pe_callO (ok_power T) (hr.mono (by decide)) rfl (pa_cons pe_int (pa_cons (pv 1) pa_nil)))) pe_int) pe_int)))), rd_has_signal T hsp⟩) (fun _ _ _ _ _ _ us hl => match us, hl with | [_, _], _ => rfl)
theorem cv_has_signal {K : PySem.W.Frag} {mg : Str → Option Value} {h : Heap} {σ : L2.St} {H : Hp} {ta : TA} (T : Tx K mg h) {c s : Nat} (ha : EvA ta σ H [.int ((c : Nat) : Int), .int ((s : Nat) : Int)]) (hs : s ≤ 60) : Ev (tCall (sp_has_signal K) [] E0 ta) σ H (.bl (Kp415.contains c s)) :=
  ev_callV (f := fun i : Nat × Nat => V.bl (Kp415.contains i.1 i.2)) (c, s) ha fun H1 _ => ⟨rfl, hs⟩
end Pw
local macro_rules | `(tactic| wtm_at "ca") => `(tactic| ((with_reducible refine' cv_has_signal (by assumption) ?ha ?hs); (case ha => wtm_at "ev"); (case hs => wtm_at "sd")))
namespace Pw
open PySem PySem.Spec PyProof.Rows L2 Evl
abbrev s_weight_of : Stmt := top 26
theorem sc_weight_of : FnScope ["weights", "cheat_set", "found", "signal"] ["weights", "cheat_set"] (defScope s_weight_of) := ⟨rfl, rfl, rfl, by decide +kernel, rfl, by decide +kernel, by decide +kernel⟩
def t_weight_of (K : PySem.W.Frag) : TS :=
    (tSeq (tAsg (tC (.int 0)) (gName 2))
    (tSeq (tFor (iRng1 (tCons (tCB (rLenS K) (tCons (tVar 0) tNil)) tNil)) (gName 3) (tIfS (tB (tCall (sp_has_signal K) [] E0 (tCons (tVar 1) (tCons (tVar 3) tNil)))) (tAsg (tOp (rI0 fun i j => .int (i + j)) (tVar 2) (tOp (rIxL K) (tVar 0) (tVar 3))) (gName 2)) tNext))
    (tRet (tVar 2))))
def sp_weight_of (K : PySem.W.Frag) : Sp := SpF (ι := Addr × List Nat × Nat) (fun i vs H => vs = [.ref i.1, .int ((i.2.2 : Nat) : Int)] ∧ H i.1 = some (.lst (nats i.2.1)) ∧ i.2.1.length ≤ 5) (fun i v H => v = .int ((setW i.2.1 i.2.2 : Nat) : Int))
theorem rd_weight_of {K : PySem.W.Frag} {mg : Str → Option Value} {h : Heap} (T : Tx K mg h) {vs : List V} {H : Hp} {Q : VK} {E : XK} (hsp : sp_weight_of K vs H Q E) : t_weight_of K { nx := fun _ H' => Q .non H', rt := Q } (start ["weights", "cheat_set", "found", "signal"] vs) H := by
  obtain ⟨⟨l, ws, c⟩, ⟨rfl, hl, hn⟩, k⟩ := hsp
  dsimp only at hl hn k ⊢
  refine Sg.go (H := H) ?_ (Ex.refl H)
  refine g_set (by wtm_at "ev") ?_
  refine g_forR (n := ws.length) (ea_cons (ev_lenL (ev_var rfl) hl (nats_len ws)) ea_nil) (by omega) (fun i σ' H' => ∃ v : Option V, σ' = [some (.ref l), some (.int ((c : Nat) : Int)), some (.int ((setWi ws c i : Nat) : Int)), v] ∧ Ex H H') (fun H1 e => ⟨none, rfl, e⟩) ?_ ?_
  · rintro i σ' H' hi ⟨v, rfl, e0⟩
    refine Sg.go (H := H) ?_ e0
    refine g_if1 (b := Kp415.contains c i) (by wtm_at "ev") (fun hb => ?_) (fun hb => ?_)
    · refine g_set1 (ev_add (by wtm_at "ev") (ev_ixN (ev_var rfl) hl (ev_var rfl) hi)) fun H2 e2 => ⟨some (.int (i : Int)), ?_, e2⟩
      rw [setWi_yes hb, Int.natCast_add]
      rfl
    · refine g_next fun H2 e2 => ⟨some (.int (i : Int)), ?_, e2⟩
      rw [setWi_no hb]
      rfl
  · rintro σ' H' ⟨v, rfl, e0⟩
    exact (g_retv (by wtm_at "ev") fun H2 e2 => k _ _ e2 rfl : Sg _ _ _ H).go e0
theorem ok_weight_of {P : Program} {w : World} {K : PySem.W.Frag} {mg : Str → Option Value} {base : Heap} {h : Heap} (T : Tx K mg h) : OkF P w K mg base 3 "weight_of" ["weights", "cheat_set"] (sp_weight_of K) :=
  mkOk T (st := s_weight_of) (N := ["weights", "cheat_set", "found", "signal"]) 9 9 sc_weight_of (by rintro vs H Q E ⟨_, ⟨rfl, _⟩, _⟩; rfl) (fun f cdv A outer s H vs Q E hr hsp => ⟨t_weight_of K, (pss_cons (ps_set (i := 2) sc_weight_of.nd rfl (Or.inl rfl) pe_int)
      (pss_cons (ps_for PassesOwn.never rfl (pi_range1 rfl (T.free 97) (pa_cons (pe_callB call_len_seq rfl (T.free 95) bt_len (pa_cons (pv 0) pa_nil)) pa_nil)) (pg_name (i := 3) sc_weight_of.nd rfl (Or.inl rfl)) (pss_one (ps_if (pt_val (pe_callO (ok_has_signal T) (hr.mono (by decide)) rfl (pa_cons (pv 1) (pa_cons (pv 3) pa_nil)))) (pss_one (ps_set (i := 2) sc_weight_of.nd rfl (Or.inl rfl) (pe_op op_add (pv 2) (pe_ix ix_list (pv 0) (pv 3) (fun _ _ => rfl))))) pss_nil)))
      (pss_one (ps_ret (pv 2))))), rd_weight_of T hsp⟩) (fun _ _ _ _ _ _ us hl => match us, hl with | [_, _], _ => rfl)
end Pw
namespace Pw
open PySem PySem.Spec PyProof.Rows L2 Evl
/-! ## the rational agent -/
structure BdS (s : St) : Prop where
  tg : ∀ i, (tws s).getD i 0 ≤ 495
  pg : ∀ i, (pws s).getD i 0 ≤ 495
theorem GoodS.bd {s : St} (G : GoodS s) : BdS s := ⟨fun i => Nat.le_trans (getD_le_sum _ _) G.t9, fun i => Nat.le_trans (getD_le_sum _ _) G.p9⟩
theorem vBot_lt {s : St} (G : GoodS s) : vBot s < 2 ^ 60 := by
  unfold vBot
  have h1 : s.model.priorDen * (tws s).sum ≤ 2 ^ 40 * 495 := Nat.mul_le_mul (Nat.le_of_lt G.dB) G.t9
  have h2 : s.model.priorDen * (tws s).sum * (pws s).sum ≤ 2 ^ 40 * 495 * 495 := Nat.mul_le_mul h1 G.p9
  omega
theorem pdt_lt {s : St} (G : GoodS s) : s.model.priorDen * (tws s).sum < 2 ^ 50 := by
  have h1 : s.model.priorDen * (tws s).sum ≤ 2 ^ 40 * 495 := Nat.mul_le_mul (Nat.le_of_lt G.dB) G.t9
  omega
theorem pdp_lt {s : St} (G : GoodS s) : s.model.priorDen * (pws s).sum < 2 ^ 50 := by
  have h1 : s.model.priorDen * (pws s).sum ≤ 2 ^ 40 * 495 := Nat.mul_le_mul (Nat.le_of_lt G.dB) G.p9
  omega
abbrev s_value_bottom : Stmt := top 28
theorem sc_value_bottom : FnScope ["setting"] ["setting"] (defScope s_value_bottom) := ⟨rfl, rfl, rfl, by decide +kernel, rfl, by decide +kernel, by decide +kernel⟩
def t_value_bottom (K : PySem.W.Frag) : TS :=
    (tRet (tOp (rI CMul fun i j => .int (i * j)) (tOp (rI CMul fun i j => .int (i * j)) (tFld K (tVar 0) "prior_den") (tCB (rSum K) (tCons (tFld K (tVar 0) "test_weights") tNil))) (tCB (rSum K) (tCons (tFld K (tVar 0) "production_weights") tNil))))
def sp_value_bottom (K : PySem.W.Frag) : Sp := SpF (ι := Addr × St) (fun i vs H => vs = [.ref i.1] ∧ SetAt K H i.1 i.2 ∧ GoodS i.2) (fun i v H => v = .int ((vBot i.2 : Nat) : Int))
theorem rd_value_bottom {K : PySem.W.Frag} {mg : Str → Option Value} {h : Heap} (T : Tx K mg h) {vs : List V} {H : Hp} {Q : VK} {E : XK} (hsp : sp_value_bottom K vs H Q E) : t_value_bottom K { nx := fun _ H' => Q .non H', rt := Q } (start ["setting"] vs) H := by
  obtain ⟨⟨a, s⟩, ⟨rfl, hs, G⟩, k⟩ := hsp
  dsimp only at hs G k ⊢
  have g1 := G.t9
  have g2 := G.p9
  have g3 := G.dB
  refine Sg.go (H := H) ?_ (Ex.refl H)
  refine g_retv (by wtm_at "ev") fun H2 e2 => k _ _ e2 ?_
  unfold vBot
  rw [Int.natCast_mul, Int.natCast_mul]
theorem ok_value_bottom {P : Program} {w : World} {K : PySem.W.Frag} {mg : Str → Option Value} {base : Heap} {h : Heap} (T : Tx K mg h) : OkF P w K mg base 1 "value_bottom" ["setting"] (sp_value_bottom K) :=
  mkOk T (st := s_value_bottom) (N := ["setting"]) 10 10 sc_value_bottom (by rintro vs H Q E ⟨_, ⟨rfl, _⟩, _⟩; rfl) (fun f cdv A outer s H vs Q E hr hsp => ⟨t_value_bottom K, (pss_one (ps_ret (pe_op op_mul (pe_op op_mul (pe_fld (pv 0) rfl) (pe_callB (cr_sum rfl) rfl (T.free 96) bt_sum (pa_cons (pe_fld (pv 0) rfl) pa_nil))) (pe_callB (cr_sum rfl) rfl (T.free 96) bt_sum (pa_cons (pe_fld (pv 0) rfl) pa_nil))))), rd_value_bottom T hsp⟩) (fun _ _ _ _ _ _ us hl => match us, hl with | [_], _ => rfl)
theorem cv_value_bottom {K : PySem.W.Frag} {mg : Str → Option Value} {h : Heap} {σ : L2.St} {H : Hp} {ta : TA} (T : Tx K mg h) {a : Addr} {s : St} (ha : EvA ta σ H [.ref a]) (hs : SetAt K H a s) (G : GoodS s) : Ev (tCall (sp_value_bottom K) [] E0 ta) σ H (.int ((vBot s : Nat) : Int)) :=
  ev_callV (f := fun i : Addr × St => V.int ((vBot i.2 : Nat) : Int)) (a, s) ha fun H1 e => ⟨rfl, hs.mono e, G⟩
end Pw
local macro_rules | `(tactic| wtm_at "ca") => `(tactic| ((with_reducible refine' cv_value_bottom (by assumption) ?ha ?hs ?G); (case ha => wtm_at "ev"); (case hs => wtm_at "hs"); (case G => wtm_at "sd")))
namespace Pw
open PySem PySem.Spec PyProof.Rows L2 Evl
abbrev s_value_top : Stmt := top 29
theorem sc_value_top : FnScope ["setting", "signal", "rest", "earned", "lost"] ["setting", "signal"] (defScope s_value_top) := ⟨rfl, rfl, rfl, by decide +kernel, rfl, by decide +kernel, by decide +kernel⟩
def t_value_top (K : PySem.W.Frag) : TS :=
    (tSeq (tAsg (tOp (rI0 fun i j => .int (i - j)) (tFld K (tVar 0) "prior_den") (tFld K (tVar 0) "prior_num")) (gName 2))
    (tSeq (tAsg (tOp (rI CMul fun i j => .int (i * j)) (tOp (rI CMul fun i j => .int (i * j)) (tOp (rI CMul fun i j => .int (i * j)) (tFld K (tVar 0) "gain") (tVar 2)) (tOp (rIxL K) (tFld K (tVar 0) "production_weights") (tVar 1))) (tCB (rSum K) (tCons (tFld K (tVar 0) "test_weights") tNil))) (gName 3))
    (tSeq (tAsg (tOp (rI CMul fun i j => .int (i * j)) (tOp (rI CMul fun i j => .int (i * j)) (tOp (rI CMul fun i j => .int (i * j)) (tFld K (tVar 0) "loss") (tFld K (tVar 0) "prior_num")) (tOp (rIxL K) (tFld K (tVar 0) "test_weights") (tVar 1))) (tCB (rSum K) (tCons (tFld K (tVar 0) "production_weights") tNil))) (gName 4))
    (tRet (tOp (rI0 fun i j => .int (i - j)) (tVar 3) (tVar 4))))))
def sp_value_top (K : PySem.W.Frag) : Sp := SpF (ι := Addr × St × Nat) (fun i vs H => vs = [.ref i.1, .int ((i.2.2 : Nat) : Int)] ∧ SetAt K H i.1 i.2.1 ∧ GoodS i.2.1 ∧ i.2.2 < (tws i.2.1).length) (fun i v H => v = .int (vTop i.2.1 i.2.2))
theorem rd_value_top {K : PySem.W.Frag} {mg : Str → Option Value} {h : Heap} (T : Tx K mg h) {vs : List V} {H : Hp} {Q : VK} {E : XK} (hsp : sp_value_top K vs H Q E) : t_value_top K { nx := fun _ H' => Q .non H', rt := Q } (start ["setting", "signal", "rest", "earned", "lost"] vs) H := by
  obtain ⟨⟨a, s, i⟩, ⟨rfl, hs, G, hi⟩, k⟩ := hsp
  dsimp only at hs G hi k ⊢
  have g1 := G.t9
  have g2 := G.p9
  have g3 := G.dB
  have g4 := G.g9
  have g5 := G.l9
  have g6 := G.bd.tg i
  have g7 := G.bd.pg i
  have hi2 : i < (pws s).length := by rw [G.len]; exact hi
  refine Sg.go (H := H) ?_ (Ex.refl H)
  refine g_set (by wtm_at "ev") ?_
  refine g_set (by wtm_at "ev") ?_
  refine g_set (by wtm_at "ev") ?_
  refine g_retv (by wtm_at "ev") fun H2 e2 => k _ _ e2 ?_
  rfl
theorem ok_value_top {P : Program} {w : World} {K : PySem.W.Frag} {mg : Str → Option Value} {base : Heap} {h : Heap} (T : Tx K mg h) : OkF P w K mg base 1 "value_top" ["setting", "signal"] (sp_value_top K) :=
  mkOk T (st := s_value_top) (N := ["setting", "signal", "rest", "earned", "lost"]) 11 11 sc_value_top (by rintro vs H Q E ⟨_, ⟨rfl, _⟩, _⟩; rfl) (fun f cdv A outer s H vs Q E hr hsp => ⟨t_value_top K, (pss_cons (ps_set (i := 2) sc_value_top.nd rfl (Or.inl rfl) (pe_op op_sub (pe_fld (pv 0) rfl) (pe_fld (pv 0) rfl)))
      (pss_cons (ps_set (i := 3) sc_value_top.nd rfl (Or.inl rfl) (pe_op op_mul (pe_op op_mul (pe_op op_mul (pe_fld (pv 0) rfl) (pv 2)) (pe_ix ix_list (pe_fld (pv 0) rfl) (pv 1) (fun _ _ => rfl))) (pe_callB (cr_sum rfl) rfl (T.free 96) bt_sum (pa_cons (pe_fld (pv 0) rfl) pa_nil))))
      (pss_cons (ps_set (i := 4) sc_value_top.nd rfl (Or.inl rfl) (pe_op op_mul (pe_op op_mul (pe_op op_mul (pe_fld (pv 0) rfl) (pe_fld (pv 0) rfl)) (pe_ix ix_list (pe_fld (pv 0) rfl) (pv 1) (fun _ _ => rfl))) (pe_callB (cr_sum rfl) rfl (T.free 96) bt_sum (pa_cons (pe_fld (pv 0) rfl) pa_nil))))
      (pss_one (ps_ret (pe_op op_sub (pv 3) (pv 4))))))), rd_value_top T hsp⟩) (fun _ _ _ _ _ _ us hl => match us, hl with | [_, _], _ => rfl)
theorem cv_value_top {K : PySem.W.Frag} {mg : Str → Option Value} {h : Heap} {σ : L2.St} {H : Hp} {ta : TA} (T : Tx K mg h) {a : Addr} {s : St} {i : Nat} (ha : EvA ta σ H [.ref a, .int ((i : Nat) : Int)]) (hs : SetAt K H a s) (G : GoodS s) (hi : i < (tws s).length) :
    Ev (tCall (sp_value_top K) [] E0 ta) σ H (.int (vTop s i)) :=
  ev_callV (f := fun i : Addr × St × Nat => V.int (vTop i.2.1 i.2.2)) (a, s, i) ha fun H1 e => ⟨rfl, hs.mono e, G, hi⟩
end Pw
local macro_rules | `(tactic| wtm_at "ca") => `(tactic| ((with_reducible refine' cv_value_top (by assumption) ?ha ?hs ?G ?hi); (case ha => wtm_at "ev"); (case hs => wtm_at "hs"); (case G => wtm_at "sd"); (case hi => wtm_at "sd")))
namespace Pw
open PySem PySem.Spec PyProof.Rows L2 Evl
abbrev s_cheating_value : Stmt := top 30
theorem sc_cheating_value : FnScope ["setting", "signal"] ["setting", "signal"] (defScope s_cheating_value) := ⟨rfl, rfl, rfl, by decide +kernel, rfl, by decide +kernel, by decide +kernel⟩
def t_cheating_value (K : PySem.W.Frag) : TS :=
    (tRet (tCall (sp_lowest K) [] E0 (tCons (tCall (sp_value_top K) [] E0 (tCons (tVar 0) (tCons (tVar 1) tNil))) (tCons (tCall (sp_value_bottom K) [] E0 (tCons (tVar 0) tNil)) tNil))))
def sp_cheating_value (K : PySem.W.Frag) : Sp := SpF (ι := Addr × St × Nat) (fun i vs H => vs = [.ref i.1, .int ((i.2.2 : Nat) : Int)] ∧ SetAt K H i.1 i.2.1 ∧ GoodS i.2.1 ∧ i.2.2 < (tws i.2.1).length) (fun i v H => FrQ v H (Kp416.cheatingValue i.2.1 i.2.2))
theorem rd_cheating_value {K : PySem.W.Frag} {mg : Str → Option Value} {h : Heap} (T : Tx K mg h) {vs : List V} {H : Hp} {Q : VK} {E : XK} (hsp : sp_cheating_value K vs H Q E) : t_cheating_value K { nx := fun _ H' => Q .non H', rt := Q } (start ["setting", "signal"] vs) H := by
  obtain ⟨⟨a, s, i⟩, ⟨rfl, hs, G, hi⟩, k⟩ := hsp
  dsimp only at hs G hi k ⊢
  have g1 := vBot_lt G
  refine Sg.go (H := H) ?_ (Ex.refl H)
  refine g_ret (cr_lowest T (by wtm_at "ev") (vBot_pos G) (by omega)) fun v H2 e2 r => k _ _ e2 ?_
  rw [value_eq G]
  exact r
theorem ok_cheating_value {P : Program} {w : World} {K : PySem.W.Frag} {mg : Str → Option Value} {base : Heap} {h : Heap} (T : Tx K mg h) : OkF P w K mg base 3 "cheating_value" ["setting", "signal"] (sp_cheating_value K) :=
  mkOk T (st := s_cheating_value) (N := ["setting", "signal"]) 12 12 sc_cheating_value (by rintro vs H Q E ⟨_, ⟨rfl, _⟩, _⟩; rfl) (fun f cdv A outer s H vs Q E hr hsp => ⟨t_cheating_value K, (pss_one (ps_ret (pe_callO (ok_lowest T) (hr.mono (by decide)) rfl (pa_cons (pe_callO (ok_value_top T) (hr.mono (by decide)) rfl (pa_cons (pv 0) (pa_cons (pv 1) pa_nil))) (pa_cons (pe_callO (ok_value_bottom T) (hr.mono (by decide)) rfl (pa_cons (pv 0) pa_nil)) pa_nil))))), rd_cheating_value T hsp⟩) (fun _ _ _ _ _ _ us hl => match us, hl with | [_, _], _ => rfl)
theorem chI_yes {s : St} {i : Nat} (h : Kp416.pays s i = true) : (List.range (i + 1)).filter (Kp416.pays s) = (List.range i).filter (Kp416.pays s) ++ [i] := by
  rw [List.range_succ, List.filter_append, List.filter_cons, if_pos h]
  rfl
theorem chI_no {s : St} {i : Nat} (h : Kp416.pays s i = false) : (List.range (i + 1)).filter (Kp416.pays s) = (List.range i).filter (Kp416.pays s) := by
  rw [List.range_succ, List.filter_append, List.filter_cons, if_neg (by rw [h]; decide), List.filter_nil, List.append_nil]
theorem filt_len (p : Nat → Bool) (n : Nat) : ((List.range n).filter p).length ≤ n := by
  have h := List.length_filter_le p (List.range n)
  rw [List.length_range] at h
  exact h
theorem ch_lt {s : St} {n i : Nat} (h : i ∈ (List.range n).filter (Kp416.pays s)) : i < n := List.mem_range.mp (List.mem_filter.mp h).1
abbrev s_cheating_signals : Stmt := top 31
theorem sc_cheating_signals : FnScope ["setting", "found", "signal"] ["setting"] (defScope s_cheating_signals) := ⟨rfl, rfl, rfl, by decide +kernel, rfl, by decide +kernel, by decide +kernel⟩
def t_cheating_signals (K : PySem.W.Frag) : TS :=
    (tSeq (tAsg (tLst tNil) (gName 1))
    (tSeq (tFor (iRng1 (tCons (tFld K (tVar 0) "signal_count") tNil)) (gName 2) (tIfS (tB (tGt (tCall (sp_value_top K) [] E0 (tCons (tVar 0) (tCons (tVar 2) tNil))) (tC (.int 0)))) (tDrop (tBM K "list" rAppend (tVar 1) (tCons (tVar 2) tNil))) tNext))
    (tRet (tVar 1))))
def sp_cheating_signals (K : PySem.W.Frag) : Sp := SpF (ι := Addr × St) (fun i vs H => vs = [.ref i.1] ∧ SetAt K H i.1 i.2 ∧ GoodS i.2) (fun i v H => LsN v H (Kp416.cheatingSignals i.2))
theorem rd_cheating_signals {K : PySem.W.Frag} {mg : Str → Option Value} {h : Heap} (T : Tx K mg h) {vs : List V} {H : Hp} {Q : VK} {E : XK} (hsp : sp_cheating_signals K vs H Q E) : t_cheating_signals K { nx := fun _ H' => Q .non H', rt := Q } (start ["setting", "found", "signal"] vs) H := by
  obtain ⟨⟨a, s⟩, ⟨rfl, hs, G⟩, k⟩ := hsp
  dsimp only at hs G k ⊢
  have g5 := G.n5
  refine Sg.go (H := H) ?_ (Ex.refl H)
  refine g_setL (el_lst ea_nil (Nat.zero_le _)) fun p H1 e1 np hp => ?_
  refine g_forR' (n := (tws s).length) (by wtm_at "ev") (by omega) (fun i σ' H' => ∃ v : Option V, σ' = [some (.ref a), some (.ref p), v] ∧ Ex H H' ∧ H' p = some (.lst (nats ((List.range i).filter (Kp416.pays s))))) e1 (fun H2 e2 => ⟨none, rfl, e1.trans e2, e2 _ _ hp⟩) ?_ ?_
  · rintro i σ' H' hi ⟨v, rfl, e0, hl⟩
    have hs' := hs.mono e0
    have hi' := filt_len (Kp416.pays s) i
    refine Sg.go (H := H') ?_ (Ex.refl H')
    refine g_if1 (b := Kp416.pays s i) ?_ (fun hb => ?_) (fun hb => ?_)
    · rw [← pays_eq G]
      wtm_at "ev"
    · intro H2 e2
      refine g_app (e0.trans e2) (e2 _ _ hl) (ev_var rfl) (ev_var rfl) (by rw [nats_len]; omega) np fun H3 e3 h3 => ⟨_, rfl, e3, ?_⟩
      rw [h3, chI_yes hb, nats_snoc]
    · refine g_next fun H2 e2 => ⟨_, rfl, e0.trans e2, ?_⟩
      rw [e2 _ _ hl, chI_no hb]
  · rintro σ' H' ⟨v, rfl, e0, hl⟩
    exact (g_retv (ev_var rfl) fun H2 e2 => k _ _ (e0.trans e2) ⟨p, rfl, e2 _ _ hl⟩ : Sg _ _ _ H').go (Ex.refl H')
theorem ok_cheating_signals {P : Program} {w : World} {K : PySem.W.Frag} {mg : Str → Option Value} {base : Heap} {h : Heap} (T : Tx K mg h) : OkF P w K mg base 2 "cheating_signals" ["setting"] (sp_cheating_signals K) :=
  mkOk T (st := s_cheating_signals) (N := ["setting", "found", "signal"]) 13 13 sc_cheating_signals (by rintro vs H Q E ⟨_, ⟨rfl, _⟩, _⟩; rfl) (fun f cdv A outer s H vs Q E hr hsp => ⟨t_cheating_signals K, (pss_cons (ps_set (i := 1) sc_cheating_signals.nd rfl (Or.inl rfl) (pe_lst pa_nil))
      (pss_cons (ps_for PassesOwn.never rfl (pi_range1 rfl (T.free 97) (pa_cons (pe_fld (pv 0) rfl) pa_nil)) (pg_name (i := 2) sc_cheating_signals.nd rfl (Or.inl rfl)) (pss_one (ps_if (pt_cmp (pc_gt (pe_callO (ok_value_top T) (hr.mono (by decide)) rfl (pa_cons (pv 0) (pa_cons (pv 2) pa_nil))) pe_int)) (pss_one (ps_expr (pe_bm PySem.F.plainAttrs_list PySem.F.slot_list_append PySem.F.type_list_append mt_append (pv 1) (pa_cons (pv 2) pa_nil)))) pss_nil)))
      (pss_one (ps_ret (pv 1))))), rd_cheating_signals T hsp⟩) (fun _ _ _ _ _ _ us hl => match us, hl with | [_], _ => rfl)
theorem cr_cheating_signals {K : PySem.W.Frag} {mg : Str → Option Value} {h : Heap} {σ : L2.St} {H : Hp} {ta : TA} (T : Tx K mg h) {a : Addr} {s : St} (ha : EvA ta σ H [.ref a]) (hs : SetAt K H a s) (G : GoodS s) : EvR (tCall (sp_cheating_signals K) [] E0 ta) σ H (fun v H => LsN v H (Kp416.cheatingSignals s)) :=
  er_callV (R := fun (i : Addr × St) v H => LsN v H (Kp416.cheatingSignals i.2)) (a, s) ha fun H1 e => ⟨rfl, hs.mono e, G⟩
theorem ch_mem {s : St} {i n : Nat} (h : (Kp416.cheatingSignals s)[i]? = some n) : n < (tws s).length := ch_lt (List.mem_of_getElem? h)
theorem ch_len {s : St} (G : GoodS s) : (Kp416.cheatingSignals s).length ≤ 5 := Nat.le_trans (filt_len _ _) G.n5
theorem sum_map_snoc {α : Type} (f : α → Int) (l : List α) (x : α) : ((l ++ [x]).map f).sum = (l.map f).sum + f x := by
  rw [List.map_append, List.sum_append]
  simp
abbrev s_rational_set : Stmt := top 32
theorem sc_rational_set : FnScope ["setting", "found", "signal"] ["setting"] (defScope s_rational_set) := ⟨rfl, rfl, rfl, by decide +kernel, rfl, by decide +kernel, by decide +kernel⟩
def t_rational_set (K : PySem.W.Frag) : TS :=
    (tSeq (tAsg (tC (.int 0)) (gName 1))
    (tSeq (tFor (iList K (tCall (sp_cheating_signals K) [] E0 (tCons (tVar 0) tNil))) (gName 2) (tAsg (tOp (rI0 fun i j => .int (i + j)) (tVar 1) (tCall (sp_power K) [] E0 (tCons (tC (.int 2)) (tCons (tVar 2) tNil)))) (gName 1)))
    (tRet (tVar 1))))
def maskI (l : List Nat) : Nat := (l.map fun s => 2 ^ s).sum
def sp_rational_set (K : PySem.W.Frag) : Sp := SpF (ι := Addr × St) (fun i vs H => vs = [.ref i.1] ∧ SetAt K H i.1 i.2 ∧ GoodS i.2) (fun i v H => v = .int ((Kp417.maskOf (Kp416.cheatingSignals i.2) : Nat) : Int))
theorem rd_rational_set {K : PySem.W.Frag} {mg : Str → Option Value} {h : Heap} (T : Tx K mg h) {vs : List V} {H : Hp} {Q : VK} {E : XK} (hsp : sp_rational_set K vs H Q E) : t_rational_set K { nx := fun _ H' => Q .non H', rt := Q } (start ["setting", "found", "signal"] vs) H := by
  obtain ⟨⟨a, s⟩, ⟨rfl, hs, G⟩, k⟩ := hsp
  dsimp only at hs G k ⊢
  have g5 := G.n5
  refine Sg.go (H := H) ?_ (Ex.refl H)
  refine g_set (by wtm_at "ev") ?_
  refine g_forN (l := Kp416.cheatingSignals s) (cr_cheating_signals T (by wtm_at "ev") hs G) fun H1 e1 => ⟨fun i σ' H' => ∃ v : Option V, σ' = [some (.ref a), some (.int ((Kp417.maskOf ((Kp416.cheatingSignals s).take i) : Nat) : Int)), v] ∧ Ex H1 H', fun H2 e2 => ⟨none, rfl, e2⟩, fun i σ' H' ⟨_, _, e⟩ => e, ?_, ?_⟩
  · rintro i n σ' H' hn ⟨v, rfl, e0⟩
    have hlt := ch_mem hn
    refine Sg.go (H := H1) ?_ e0
    refine g_set1 (ev_add (by wtm_at "ev") (cv_power T (b := 2) (n := n) (by wtm_at "ev") (by omega) (by omega))) fun H2 e2 => ⟨some (.int (n : Int)), ?_, e2⟩
    rw [take_snoc hn]
    unfold Kp417.maskOf
    rw [List.map_append, List.sum_append, Int.natCast_add]
    rfl
  · rintro σ' H' ⟨v, rfl, e0⟩
    refine (g_retv (by wtm_at "ev") fun H2 e2 => k _ _ (e1.trans e2) ?_ : Sg _ _ _ H1).go e0
    rw [List.take_length]
theorem ok_rational_set {P : Program} {w : World} {K : PySem.W.Frag} {mg : Str → Option Value} {base : Heap} {h : Heap} (T : Tx K mg h) : OkF P w K mg base 3 "rational_set" ["setting"] (sp_rational_set K) :=
  mkOk T (st := s_rational_set) (N := ["setting", "found", "signal"]) 14 14 sc_rational_set (by rintro vs H Q E ⟨_, ⟨rfl, _⟩, _⟩; rfl) (fun f cdv A outer s H vs Q E hr hsp => ⟨t_rational_set K, (pss_cons (ps_set (i := 1) sc_rational_set.nd rfl (Or.inl rfl) pe_int)
      (pss_cons (ps_for PassesOwn.never rfl (pi_list (pe_callO (ok_cheating_signals T) (hr.mono (by decide)) rfl (pa_cons (pv 0) pa_nil))) (pg_name (i := 2) sc_rational_set.nd rfl (Or.inl rfl)) (pss_one (ps_set (i := 1) sc_rational_set.nd rfl (Or.inl rfl) (pe_op op_add (pv 1) (pe_callO (ok_power T) (hr.mono (by decide)) rfl (pa_cons pe_int (pa_cons (pv 2) pa_nil)))))))
      (pss_one (ps_ret (pv 1))))), rd_rational_set T hsp⟩) (fun _ _ _ _ _ _ us hl => match us, hl with | [_], _ => rfl)
theorem cv_rational_set {K : PySem.W.Frag} {mg : Str → Option Value} {h : Heap} {σ : L2.St} {H : Hp} {ta : TA} (T : Tx K mg h) {a : Addr} {s : St} (ha : EvA ta σ H [.ref a]) (hs : SetAt K H a s) (G : GoodS s) : Ev (tCall (sp_rational_set K) [] E0 ta) σ H (.int ((Kp417.maskOf (Kp416.cheatingSignals s) : Nat) : Int)) :=
  ev_callV (f := fun i : Addr × St => V.int ((Kp417.maskOf (Kp416.cheatingSignals i.2) : Nat) : Int)) (a, s) ha fun H1 e => ⟨rfl, hs.mono e, G⟩
end Pw
local macro_rules | `(tactic| wtm_at "ca") => `(tactic| ((with_reducible refine' cv_rational_set (by assumption) ?ha ?hs ?G); (case ha => wtm_at "ev"); (case hs => wtm_at "hs"); (case G => wtm_at "sd")))
namespace Pw
open PySem PySem.Spec PyProof.Rows L2 Evl
abbrev s_expected_profit : Stmt := top 33
theorem sc_expected_profit : FnScope ["setting", "found", "signal"] ["setting"] (defScope s_expected_profit) := ⟨rfl, rfl, rfl, by decide +kernel, rfl, by decide +kernel, by decide +kernel⟩
def t_expected_profit (K : PySem.W.Frag) : TS :=
    (tSeq (tAsg (tC (.int 0)) (gName 1))
    (tSeq (tFor (iList K (tCall (sp_cheating_signals K) [] E0 (tCons (tVar 0) tNil))) (gName 2) (tAsg (tOp (rI0 fun i j => .int (i + j)) (tVar 1) (tCall (sp_value_top K) [] E0 (tCons (tVar 0) (tCons (tVar 2) tNil)))) (gName 1)))
    (tRet (tCall (sp_lowest K) [] E0 (tCons (tVar 1) (tCons (tCall (sp_value_bottom K) [] E0 (tCons (tVar 0) tNil)) tNil))))))
def sp_expected_profit (K : PySem.W.Frag) : Sp := SpF (ι := Addr × St) (fun i vs H => vs = [.ref i.1] ∧ SetAt K H i.1 i.2 ∧ GoodS i.2) (fun i v H => FrQ v H (Kp416.expectedProfit i.2))
theorem rd_expected_profit {K : PySem.W.Frag} {mg : Str → Option Value} {h : Heap} (T : Tx K mg h) {vs : List V} {H : Hp} {Q : VK} {E : XK} (hsp : sp_expected_profit K vs H Q E) : t_expected_profit K { nx := fun _ H' => Q .non H', rt := Q } (start ["setting", "found", "signal"] vs) H := by
  obtain ⟨⟨a, s⟩, ⟨rfl, hs, G⟩, k⟩ := hsp
  dsimp only at hs G k ⊢
  have g1 := vBot_lt G
  refine Sg.go (H := H) ?_ (Ex.refl H)
  refine g_set (by wtm_at "ev") ?_
  refine g_forN (l := Kp416.cheatingSignals s) (cr_cheating_signals T (by wtm_at "ev") hs G) fun H1 e1 => ⟨fun i σ' H' => ∃ v : Option V, σ' = [some (.ref a), some (.int ((((Kp416.cheatingSignals s).take i).map (vTop s)).sum)), v] ∧ Ex H1 H', fun H2 e2 => ⟨none, rfl, e2⟩, fun i σ' H' ⟨_, _, e⟩ => e, ?_, ?_⟩
  · rintro i n σ' H' hn ⟨v, rfl, e0⟩
    have hlt := ch_mem hn
    have hs1 := hs.mono e1
    refine Sg.go (H := H1) ?_ e0
    refine g_set1 (by wtm_at "ev") fun H2 e2 => ⟨some (.int (n : Int)), ?_, e2⟩
    rw [take_snoc hn, sum_map_snoc]
    rfl
  · rintro σ' H' ⟨v, rfl, e0⟩
    have hs1 := hs.mono e1
    rw [List.take_length]
    refine (g_ret (cr_lowest T (by wtm_at "ev") (vBot_pos G) (by omega)) fun v H2 e2 r => k _ _ (e1.trans e2) ?_ : Sg _ _ _ H1).go e0
    rw [profit_eq G]
    exact r
theorem ok_expected_profit {P : Program} {w : World} {K : PySem.W.Frag} {mg : Str → Option Value} {base : Heap} {h : Heap} (T : Tx K mg h) : OkF P w K mg base 3 "expected_profit" ["setting"] (sp_expected_profit K) :=
  mkOk T (st := s_expected_profit) (N := ["setting", "found", "signal"]) 15 15 sc_expected_profit (by rintro vs H Q E ⟨_, ⟨rfl, _⟩, _⟩; rfl) (fun f cdv A outer s H vs Q E hr hsp => ⟨t_expected_profit K, (pss_cons (ps_set (i := 1) sc_expected_profit.nd rfl (Or.inl rfl) pe_int)
      (pss_cons (ps_for PassesOwn.never rfl (pi_list (pe_callO (ok_cheating_signals T) (hr.mono (by decide)) rfl (pa_cons (pv 0) pa_nil))) (pg_name (i := 2) sc_expected_profit.nd rfl (Or.inl rfl)) (pss_one (ps_set (i := 1) sc_expected_profit.nd rfl (Or.inl rfl) (pe_op op_add (pv 1) (pe_callO (ok_value_top T) (hr.mono (by decide)) rfl (pa_cons (pv 0) (pa_cons (pv 2) pa_nil)))))))
      (pss_one (ps_ret (pe_callO (ok_lowest T) (hr.mono (by decide)) rfl (pa_cons (pv 1) (pa_cons (pe_callO (ok_value_bottom T) (hr.mono (by decide)) rfl (pa_cons (pv 0) pa_nil)) pa_nil))))))), rd_expected_profit T hsp⟩) (fun _ _ _ _ _ _ us hl => match us, hl with | [_], _ => rfl)
theorem wAt_snoc (ws l : List Nat) (n : Nat) : wAt ws (l ++ [n]) = wAt ws l + ws.getD n 0 := by
  unfold wAt
  rw [List.map_append, List.sum_append]
  simp
abbrev s_weights_at : Stmt := top 34
theorem sc_weights_at : FnScope ["weights", "signals", "found", "signal"] ["weights", "signals"] (defScope s_weights_at) := ⟨rfl, rfl, rfl, by decide +kernel, rfl, by decide +kernel, by decide +kernel⟩
def t_weights_at (K : PySem.W.Frag) : TS :=
    (tSeq (tAsg (tC (.int 0)) (gName 2))
    (tSeq (tFor (iList K (tVar 1)) (gName 3) (tAsg (tOp (rI0 fun i j => .int (i + j)) (tVar 2) (tOp (rIxL K) (tVar 0) (tVar 3))) (gName 2)))
    (tRet (tVar 2))))
def sp_weights_at (K : PySem.W.Frag) : Sp := SpF (ι := Addr × List Nat × V × List Nat) (fun i vs H => vs = [.ref i.1, i.2.2.1] ∧ H i.1 = some (.lst (nats i.2.1)) ∧ LsN i.2.2.1 H i.2.2.2 ∧ ∀ n ∈ i.2.2.2, n < i.2.1.length) (fun i v H => v = .int ((wAt i.2.1 i.2.2.2 : Nat) : Int))
theorem rd_weights_at {K : PySem.W.Frag} {mg : Str → Option Value} {h : Heap} (T : Tx K mg h) {vs : List V} {H : Hp} {Q : VK} {E : XK} (hsp : sp_weights_at K vs H Q E) : t_weights_at K { nx := fun _ H' => Q .non H', rt := Q } (start ["weights", "signals", "found", "signal"] vs) H := by
  obtain ⟨⟨a, ws, lv, l⟩, ⟨rfl, hw, hl, hlt⟩, k⟩ := hsp
  dsimp only at hw hl hlt k ⊢
  refine Sg.go (H := H) ?_ (Ex.refl H)
  refine g_set (by wtm_at "ev") ?_
  refine g_forN (l := l) (er_w (er_v (ev_var rfl)) fun v H1 e1 r => by rw [r]; exact hl.mono e1) fun H1 e1 => ⟨fun i σ' H' => ∃ v : Option V, σ' = [some (.ref a), some lv, some (.int ((wAt ws (l.take i) : Nat) : Int)), v] ∧ Ex H1 H', fun H2 e2 => ⟨none, rfl, e2⟩, fun i σ' H' ⟨_, _, e⟩ => e, ?_, ?_⟩
  · rintro i n σ' H' hn ⟨v, rfl, e0⟩
    refine Sg.go (H := H1) ?_ e0
    refine g_set1 (ev_add (by wtm_at "ev") (ev_ixN (ev_var rfl) (e1 _ _ hw) (ev_var rfl) (hlt n (List.mem_of_getElem? hn)))) fun H2 e2 => ⟨some (.int (n : Int)), ?_, e2⟩
    rw [take_snoc hn, wAt_snoc, Int.natCast_add]
    rfl
  · rintro σ' H' ⟨v, rfl, e0⟩
    refine (g_retv (by wtm_at "ev") fun H2 e2 => k _ _ (e1.trans e2) ?_ : Sg _ _ _ H1).go e0
    rw [List.take_length]
theorem ok_weights_at {P : Program} {w : World} {K : PySem.W.Frag} {mg : Str → Option Value} {base : Heap} {h : Heap} (T : Tx K mg h) : OkF P w K mg base 1 "weights_at" ["weights", "signals"] (sp_weights_at K) :=
  mkOk T (st := s_weights_at) (N := ["weights", "signals", "found", "signal"]) 16 16 sc_weights_at (by rintro vs H Q E ⟨_, ⟨rfl, _⟩, _⟩; rfl) (fun f cdv A outer s H vs Q E hr hsp => ⟨t_weights_at K, (pss_cons (ps_set (i := 2) sc_weights_at.nd rfl (Or.inl rfl) pe_int)
      (pss_cons (ps_for PassesOwn.never rfl (pi_list (pv 1)) (pg_name (i := 3) sc_weights_at.nd rfl (Or.inl rfl)) (pss_one (ps_set (i := 2) sc_weights_at.nd rfl (Or.inl rfl) (pe_op op_add (pv 2) (pe_ix ix_list (pv 0) (pv 3) (fun _ _ => rfl))))))
      (pss_one (ps_ret (pv 2))))), rd_weights_at T hsp⟩) (fun _ _ _ _ _ _ us hl => match us, hl with | [_, _], _ => rfl)
end Pw
namespace Pw
open PySem PySem.Spec PyProof.Rows L2 Evl
theorem er_callX {ι : Type} {A : ι → List V → Hp → Prop} {R : ι → V → Hp → Prop} {R' : V → Hp → Prop} {RA : List V → Hp → Prop} {σ : L2.St} {H : Hp} {ta : TA} (h : EvAR ta σ H RA) (ha : ∀ vs H1, Ex H H1 → RA vs H1 → ∃ i, A i vs H1 ∧ ∀ v H2, Ex H1 H2 → R i v H2 → R' v H2) : EvR (tCall (SpF A R) [] E0 ta) σ H R' := fun H1 e Q q =>
  h H1 e _ fun vs H2 e2 r => by
    obtain ⟨i, hA, hR⟩ := ha vs H2 (e.trans e2) r
    exact ⟨i, by rw [List.append_nil]; exact hA, fun v H3 e3 r3 => q v H3 (e2.trans e3) (hR v H3 e3 r3)⟩
theorem ev_of {te : TE} {σ : L2.St} {H : Hp} {z : V} (h : EvR te σ H (fun v _ => v = z)) : Ev te σ H z := fun H1 e Q q => h H1 e Q fun v H2 e2 r => by
  rw [r]
  exact q H2 e2
section
variable {K : PySem.W.Frag} {mg : Str → Option Value} {h : Heap} {σ : L2.St} {H : Hp} {ta tb : TE}
theorem cv_weights (T : Tx K mg h) {l : Addr} {ws sig : List Nat} (ha : Ev ta σ H (.ref l)) (hl : H l = some (.lst (nats ws))) (hb : EvR tb σ H (fun v H => LsN v H sig)) (hlt : ∀ n ∈ sig, n < ws.length) : Ev (tCall (sp_weights_at K) [] E0 (tCons ta (tCons tb tNil))) σ H (.int ((wAt ws sig : Nat) : Int)) :=
  ev_of (er_callX (ear_cons ha (ear_one hb)) fun vs H1 e r => by
    obtain ⟨r', rfl, v, rfl, hv⟩ := r
    exact ⟨(l, ws, v, sig), ⟨rfl, e _ _ hl, hv, hlt⟩, fun v' H2 _ q => q⟩)
theorem cr_lowest' (T : Tx K mg h) {ta : TA} {t b' : Int} {b : Nat} (ha : EvA ta σ H [.int t, .int b']) (hb : b' = ((b : Nat) : Int)) (h1 : 0 < b) (h2 : b < 2 ^ 200) : EvR (tCall (sp_lowest K) [] E0 ta) σ H (fun v H => FrQ v H ((t : Rat) / (((b : Nat) : Int) : Rat))) := by
  subst hb
  exact cr_lowest T ha h1 h2
end
theorem ch_all {s : St} : ∀ n ∈ Kp416.cheatingSignals s, n < (tws s).length := fun n hn => ch_lt hn
abbrev s_detection_probability : Stmt := top 35
theorem sc_detection_probability : FnScope ["setting", "weight"] ["setting"] (defScope s_detection_probability) := ⟨rfl, rfl, rfl, by decide +kernel, rfl, by decide +kernel, by decide +kernel⟩
def t_detection_probability (K : PySem.W.Frag) : TS :=
    (tSeq (tAsg (tCall (sp_weights_at K) [] E0 (tCons (tFld K (tVar 0) "test_weights") (tCons (tCall (sp_cheating_signals K) [] E0 (tCons (tVar 0) tNil)) tNil))) (gName 1))
    (tRet (tCall (sp_lowest K) [] E0 (tCons (tOp (rI CMul fun i j => .int (i * j)) (tFld K (tVar 0) "prior_num") (tVar 1)) (tCons (tOp (rI CMul fun i j => .int (i * j)) (tFld K (tVar 0) "prior_den") (tCB (rSum K) (tCons (tFld K (tVar 0) "test_weights") tNil))) tNil)))))
def sp_detection_probability (K : PySem.W.Frag) : Sp := SpF (ι := Addr × St) (fun i vs H => vs = [.ref i.1] ∧ SetAt K H i.1 i.2 ∧ GoodS i.2) (fun i v H => FrQ v H (Kp416.detectionProbability i.2))
theorem rd_detection_probability {K : PySem.W.Frag} {mg : Str → Option Value} {h : Heap} (T : Tx K mg h) {vs : List V} {H : Hp} {Q : VK} {E : XK} (hsp : sp_detection_probability K vs H Q E) : t_detection_probability K { nx := fun _ H' => Q .non H', rt := Q } (start ["setting", "weight"] vs) H := by
  obtain ⟨⟨a, s⟩, ⟨rfl, hs, G⟩, k⟩ := hsp
  dsimp only at hs G k ⊢
  have g1 := G.t9
  have g3 := G.dB
  have g4 := G.pd
  have g5 := wAt_t G
  have g6 := pdt_lt G
  obtain ⟨lt, ht1, ht2⟩ := evS_test_weights (σ := L2.start ["setting", "weight"] [.ref a]) (ta := tVar 0) T hs (ev_var rfl)
  refine Sg.go (H := H) ?_ (Ex.refl H)
  refine g_set (cv_weights T ht1 ht2 (cr_cheating_signals T (by wtm_at "ev") hs G) ch_all) ?_
  refine g_ret (cr_lowest' T (b := s.model.priorDen * (tws s).sum) (by wtm_at "ev") (by rw [Int.natCast_mul]) (pdt_pos G) (by omega)) fun v H2 e2 r => k _ _ e2 ?_
  rw [detect_eq G]
  exact r
theorem ok_detection_probability {P : Program} {w : World} {K : PySem.W.Frag} {mg : Str → Option Value} {base : Heap} {h : Heap} (T : Tx K mg h) : OkF P w K mg base 3 "detection_probability" ["setting"] (sp_detection_probability K) :=
  mkOk T (st := s_detection_probability) (N := ["setting", "weight"]) 17 17 sc_detection_probability (by rintro vs H Q E ⟨_, ⟨rfl, _⟩, _⟩; rfl) (fun f cdv A outer s H vs Q E hr hsp => ⟨t_detection_probability K, (pss_cons (ps_set (i := 1) sc_detection_probability.nd rfl (Or.inl rfl) (pe_callO (ok_weights_at T) (hr.mono (by decide)) rfl (pa_cons (pe_fld (pv 0) rfl) (pa_cons (pe_callO (ok_cheating_signals T) (hr.mono (by decide)) rfl (pa_cons (pv 0) pa_nil)) pa_nil))))
      (pss_one (ps_ret (pe_callO (ok_lowest T) (hr.mono (by decide)) rfl (pa_cons (pe_op op_mul (pe_fld (pv 0) rfl) (pv 1)) (pa_cons (pe_op op_mul (pe_fld (pv 0) rfl) (pe_callB (cr_sum rfl) rfl (T.free 96) bt_sum (pa_cons (pe_fld (pv 0) rfl) pa_nil))) pa_nil)))))), rd_detection_probability T hsp⟩) (fun _ _ _ _ _ _ us hl => match us, hl with | [_], _ => rfl)
abbrev s_harm_probability : Stmt := top 36
theorem sc_harm_probability : FnScope ["setting", "weight", "rest"] ["setting"] (defScope s_harm_probability) := ⟨rfl, rfl, rfl, by decide +kernel, rfl, by decide +kernel, by decide +kernel⟩
def t_harm_probability (K : PySem.W.Frag) : TS :=
    (tSeq (tAsg (tCall (sp_weights_at K) [] E0 (tCons (tFld K (tVar 0) "production_weights") (tCons (tCall (sp_cheating_signals K) [] E0 (tCons (tVar 0) tNil)) tNil))) (gName 1))
    (tSeq (tAsg (tOp (rI0 fun i j => .int (i - j)) (tFld K (tVar 0) "prior_den") (tFld K (tVar 0) "prior_num")) (gName 2))
    (tRet (tCall (sp_lowest K) [] E0 (tCons (tOp (rI CMul fun i j => .int (i * j)) (tVar 2) (tVar 1)) (tCons (tOp (rI CMul fun i j => .int (i * j)) (tFld K (tVar 0) "prior_den") (tCB (rSum K) (tCons (tFld K (tVar 0) "production_weights") tNil))) tNil))))))
def sp_harm_probability (K : PySem.W.Frag) : Sp := SpF (ι := Addr × St) (fun i vs H => vs = [.ref i.1] ∧ SetAt K H i.1 i.2 ∧ GoodS i.2) (fun i v H => FrQ v H (Kp416.harmProbability i.2))
theorem rd_harm_probability {K : PySem.W.Frag} {mg : Str → Option Value} {h : Heap} (T : Tx K mg h) {vs : List V} {H : Hp} {Q : VK} {E : XK} (hsp : sp_harm_probability K vs H Q E) : t_harm_probability K { nx := fun _ H' => Q .non H', rt := Q } (start ["setting", "weight", "rest"] vs) H := by
  obtain ⟨⟨a, s⟩, ⟨rfl, hs, G⟩, k⟩ := hsp
  dsimp only at hs G k ⊢
  have g1 := G.p9
  have g3 := G.dB
  have g4 := G.pd
  have g5 := wAt_p G
  have g6 := pdp_lt G
  have hc : ∀ n ∈ Kp416.cheatingSignals s, n < (pws s).length := fun n hn => by rw [G.len]; exact ch_all n hn
  obtain ⟨lt, ht1, ht2⟩ := evS_production_weights (σ := L2.start ["setting", "weight", "rest"] [.ref a]) (ta := tVar 0) T hs (ev_var rfl)
  refine Sg.go (H := H) ?_ (Ex.refl H)
  refine g_set (cv_weights T ht1 ht2 (cr_cheating_signals T (by wtm_at "ev") hs G) hc) ?_
  refine g_set (by wtm_at "ev") ?_
  refine g_ret (cr_lowest' T (b := s.model.priorDen * (pws s).sum) (by wtm_at "ev") (by rw [Int.natCast_mul]) (pdp_pos G) (by omega)) fun v H2 e2 r => k _ _ e2 ?_
  rw [harm_eq G]
  exact r
theorem ok_harm_probability {P : Program} {w : World} {K : PySem.W.Frag} {mg : Str → Option Value} {base : Heap} {h : Heap} (T : Tx K mg h) : OkF P w K mg base 3 "harm_probability" ["setting"] (sp_harm_probability K) :=
  mkOk T (st := s_harm_probability) (N := ["setting", "weight", "rest"]) 18 18 sc_harm_probability (by rintro vs H Q E ⟨_, ⟨rfl, _⟩, _⟩; rfl) (fun f cdv A outer s H vs Q E hr hsp => ⟨t_harm_probability K, (pss_cons (ps_set (i := 1) sc_harm_probability.nd rfl (Or.inl rfl) (pe_callO (ok_weights_at T) (hr.mono (by decide)) rfl (pa_cons (pe_fld (pv 0) rfl) (pa_cons (pe_callO (ok_cheating_signals T) (hr.mono (by decide)) rfl (pa_cons (pv 0) pa_nil)) pa_nil))))
      (pss_cons (ps_set (i := 2) sc_harm_probability.nd rfl (Or.inl rfl) (pe_op op_sub (pe_fld (pv 0) rfl) (pe_fld (pv 0) rfl)))
      (pss_one (ps_ret (pe_callO (ok_lowest T) (hr.mono (by decide)) rfl (pa_cons (pe_op op_mul (pv 2) (pv 1)) (pa_cons (pe_op op_mul (pe_fld (pv 0) rfl) (pe_callB (cr_sum rfl) rfl (T.free 96) bt_sum (pa_cons (pe_fld (pv 0) rfl) pa_nil))) pa_nil))))))), rd_harm_probability T hsp⟩) (fun _ _ _ _ _ _ us hl => match us, hl with | [_], _ => rfl)
theorem cr_harm_probability {K : PySem.W.Frag} {mg : Str → Option Value} {h : Heap} {σ : L2.St} {H : Hp} {ta : TA} (T : Tx K mg h) {a : Addr} {s : St} (ha : EvA ta σ H [.ref a]) (hs : SetAt K H a s) (G : GoodS s) : EvR (tCall (sp_harm_probability K) [] E0 ta) σ H (fun v H => FrQ v H (Kp416.harmProbability s)) :=
  er_callV (R := fun (i : Addr × St) v H => FrQ v H (Kp416.harmProbability i.2)) (a, s) ha fun H1 e => ⟨rfl, hs.mono e, G⟩
abbrev s_total_cost : Stmt := top 37
theorem sc_total_cost : FnScope ["setting", "harm", "top"] ["setting"] (defScope s_total_cost) := ⟨rfl, rfl, rfl, by decide +kernel, rfl, by decide +kernel, by decide +kernel⟩
def t_total_cost (K : PySem.W.Frag) : TS :=
    (tSeq (tAsg (tCall (sp_harm_probability K) [] E0 (tCons (tVar 0) tNil)) (gName 1))
    (tSeq (tAsg (tOp (rI0 fun i j => .int (i + j)) (tOp (rI CMul fun i j => .int (i * j)) (tOp (rI CMul fun i j => .int (i * j)) (tFld K (tVar 0) "test_price") (tFld K (tVar 0) "prior_num")) (tOp (rIxT K) (tVar 1) (tC (.int 1)))) (tOp (rI CMul fun i j => .int (i * j)) (tOp (rI CMul fun i j => .int (i * j)) (tFld K (tVar 0) "harm_price") (tOp (rIxT K) (tVar 1) (tC (.int 0)))) (tFld K (tVar 0) "prior_den"))) (gName 2))
    (tRet (tCall (sp_lowest K) [] E0 (tCons (tVar 2) (tCons (tOp (rI CMul fun i j => .int (i * j)) (tFld K (tVar 0) "prior_den") (tOp (rIxT K) (tVar 1) (tC (.int 1)))) tNil))))))
def sp_total_cost (K : PySem.W.Frag) : Sp := SpF (ι := Addr × St) (fun i vs H => vs = [.ref i.1] ∧ SetAt K H i.1 i.2 ∧ GoodS i.2) (fun i v H => FrQ v H (Kp416.totalCost i.2))
theorem rd_total_cost {K : PySem.W.Frag} {mg : Str → Option Value} {h : Heap} (T : Tx K mg h) {vs : List V} {H : Hp} {Q : VK} {E : XK} (hsp : sp_total_cost K vs H Q E) : t_total_cost K { nx := fun _ H' => Q .non H', rt := Q } (start ["setting", "harm", "top"] vs) H := by
  obtain ⟨⟨a, s⟩, ⟨rfl, hs, G⟩, k⟩ := hsp
  dsimp only at hs G k ⊢
  have g3 := G.dB
  have g4 := G.pd
  have g5 := G.c9
  have g6 := G.h9
  have g7 := harm_den G
  have g8 := cost_bot_lt G
  refine Sg.go (H := H) ?_ (Ex.refl H)
  refine g_setR (cr_harm_probability T (by wtm_at "ev") hs G) fun v H1 e1 hq => ?_
  have hs1 := hs.mono e1
  have hq' : FrI v H1 (Kp416.harmProbability s).num ((Kp416.harmProbability s).den : Int) := hq
  refine g_set (by wtm_at "ev") ?_
  refine g_ret (cr_lowest' T (b := s.model.priorDen * (Kp416.harmProbability s).den) (by wtm_at "ev") (by rw [Int.natCast_mul]) (cost_bot G) (by omega)) fun v H2 e2 r => k _ _ (e1.trans e2) ?_
  rw [cost_eq G]
  exact r
theorem ok_total_cost {P : Program} {w : World} {K : PySem.W.Frag} {mg : Str → Option Value} {base : Heap} {h : Heap} (T : Tx K mg h) : OkF P w K mg base 4 "total_cost" ["setting"] (sp_total_cost K) :=
  mkOk T (st := s_total_cost) (N := ["setting", "harm", "top"]) 19 19 sc_total_cost (by rintro vs H Q E ⟨_, ⟨rfl, _⟩, _⟩; rfl) (fun f cdv A outer s H vs Q E hr hsp => ⟨t_total_cost K, (pss_cons (ps_set (i := 1) sc_total_cost.nd rfl (Or.inl rfl) (pe_callO (ok_harm_probability T) (hr.mono (by decide)) rfl (pa_cons (pv 0) pa_nil)))
      (pss_cons (ps_set (i := 2) sc_total_cost.nd rfl (Or.inl rfl) (pe_op op_add (pe_op op_mul (pe_op op_mul (pe_fld (pv 0) rfl) (pe_fld (pv 0) rfl)) (pe_ix ix_tup (pv 1) pe_int (fun _ _ => rfl))) (pe_op op_mul (pe_op op_mul (pe_fld (pv 0) rfl) (pe_ix ix_tup (pv 1) pe_int (fun _ _ => rfl))) (pe_fld (pv 0) rfl))))
      (pss_one (ps_ret (pe_callO (ok_lowest T) (hr.mono (by decide)) rfl (pa_cons (pv 2) (pa_cons (pe_op op_mul (pe_fld (pv 0) rfl) (pe_ix ix_tup (pv 1) pe_int (fun _ _ => rfl))) pa_nil))))))), rd_total_cost T hsp⟩) (fun _ _ _ _ _ _ us hl => match us, hl with | [_], _ => rfl)
theorem cr_total_cost {K : PySem.W.Frag} {mg : Str → Option Value} {h : Heap} {σ : L2.St} {H : Hp} {ta : TA} (T : Tx K mg h) {a : Addr} {s : St} (ha : EvA ta σ H [.ref a]) (hs : SetAt K H a s) (G : GoodS s) : EvR (tCall (sp_total_cost K) [] E0 ta) σ H (fun v H => FrQ v H (Kp416.totalCost s)) :=
  er_callV (R := fun (i : Addr × St) v H => FrQ v H (Kp416.totalCost i.2)) (a, s) ha fun H1 e => ⟨rfl, hs.mono e, G⟩
/-- a fraction, or None -/
def OptQ (v : V) (H : Hp) : Option Rat → Prop
  | none => v = .non
  | some q => FrQ v H q
abbrev s_deterrent_at : Stmt := top 38
theorem sc_deterrent_at : FnScope ["setting", "signal", "earned", "lost"] ["setting", "signal"] (defScope s_deterrent_at) := ⟨rfl, rfl, rfl, by decide +kernel, rfl, by decide +kernel, by decide +kernel⟩
def t_deterrent_at (K : PySem.W.Frag) : TS :=
    (tSeq (tAsg (tOp (rI CMul fun i j => .int (i * j)) (tOp (rI CMul fun i j => .int (i * j)) (tFld K (tVar 0) "gain") (tOp (rIxL K) (tFld K (tVar 0) "production_weights") (tVar 1))) (tCB (rSum K) (tCons (tFld K (tVar 0) "test_weights") tNil))) (gName 2))
    (tSeq (tAsg (tOp (rI CMul fun i j => .int (i * j)) (tOp (rI CMul fun i j => .int (i * j)) (tFld K (tVar 0) "loss") (tOp (rIxL K) (tFld K (tVar 0) "test_weights") (tVar 1))) (tCB (rSum K) (tCons (tFld K (tVar 0) "production_weights") tNil))) (gName 3))
    (tSeq (tIfS (tB (tEqI (tVar 2) (tC (.int 0)))) (tRet (tTup (tCons (tC (.int 0)) (tCons (tC (.int 1)) tNil)))) tNext)
    (tSeq (tIfS (tB (tEqI (tVar 3) (tC (.int 0)))) (tRet (tC .non)) tNext)
    (tRet (tCall (sp_lowest K) [] E0 (tCons (tVar 2) (tCons (tOp (rI0 fun i j => .int (i + j)) (tVar 2) (tVar 3)) tNil))))))))
def sp_deterrent_at (K : PySem.W.Frag) : Sp := SpF (ι := Addr × St × Nat) (fun i vs H => vs = [.ref i.1, .int ((i.2.2 : Nat) : Int)] ∧ SetAt K H i.1 i.2.1 ∧ GoodS i.2.1 ∧ i.2.2 < (tws i.2.1).length) (fun i v H => OptQ v H (Kp416.deterrentPriorAt i.2.1 i.2.2))
theorem rd_deterrent_at {K : PySem.W.Frag} {mg : Str → Option Value} {h : Heap} (T : Tx K mg h) {vs : List V} {H : Hp} {Q : VK} {E : XK} (hsp : sp_deterrent_at K vs H Q E) : t_deterrent_at K { nx := fun _ H' => Q .non H', rt := Q } (start ["setting", "signal", "earned", "lost"] vs) H := by
  obtain ⟨⟨a, s, i⟩, ⟨rfl, hs, G, hi⟩, k⟩ := hsp
  dsimp only at hs G hi k ⊢
  have g1 := G.t9
  have g2 := G.p9
  have g4 := G.g9
  have g5 := G.l9
  have g6 := G.bd.tg i
  have g7 := G.bd.pg i
  have g8 := dEarn_lt G i
  have g9 := dLost_lt G i
  have hi2 : i < (pws s).length := by rw [G.len]; exact hi
  rw [deter_eq G] at k
  refine Sg.go (H := H) ?_ (Ex.refl H)
  refine g_set (ev_i (by wtm_at "ev") (earn_i s i)) ?_
  refine g_set (ev_i (by wtm_at "ev") (lost_i s i)) ?_
  refine g_when (b := decide (((dEarn s i : Nat) : Int) = 0)) (by wtm_at "ev") (fun hb => ?_) (fun hb => ?_)
  · have c1 : dEarn s i = 0 := by
      have := of_decide_eq_true hb
      omega
    rw [if_pos c1] at k
    exact g_ret (er_pair ev_c ev_c) fun v H2 e2 r => k _ _ e2 r
  · have c1 : ¬ dEarn s i = 0 := by
      have := of_decide_eq_false hb
      omega
    rw [if_neg c1] at k
    refine g_when (b := decide (((dLost s i : Nat) : Int) = 0)) (by wtm_at "ev") (fun hb2 => ?_) (fun hb2 => ?_)
    · have c2 : dLost s i = 0 := by
        have := of_decide_eq_true hb2
        omega
      rw [if_pos c2] at k
      exact g_retv ev_c fun H2 e2 => k _ _ e2 rfl
    · have c2 : ¬ dLost s i = 0 := by
        have := of_decide_eq_false hb2
        omega
      rw [if_neg c2] at k
      exact g_ret (cr_lowest' T (b := dEarn s i + dLost s i) (by wtm_at "ev") (by rw [Int.natCast_add]) (by omega) (by omega)) fun v H2 e2 r => k _ _ e2 r
theorem ok_deterrent_at {P : Program} {w : World} {K : PySem.W.Frag} {mg : Str → Option Value} {base : Heap} {h : Heap} (T : Tx K mg h) : OkF P w K mg base 3 "deterrent_at" ["setting", "signal"] (sp_deterrent_at K) :=
  mkOk T (st := s_deterrent_at) (N := ["setting", "signal", "earned", "lost"]) 20 20 sc_deterrent_at (by rintro vs H Q E ⟨_, ⟨rfl, _⟩, _⟩; rfl) (fun f cdv A outer s H vs Q E hr hsp => ⟨t_deterrent_at K, (pss_cons (ps_set (i := 2) sc_deterrent_at.nd rfl (Or.inl rfl) (pe_op op_mul (pe_op op_mul (pe_fld (pv 0) rfl) (pe_ix ix_list (pe_fld (pv 0) rfl) (pv 1) (fun _ _ => rfl))) (pe_callB (cr_sum rfl) rfl (T.free 96) bt_sum (pa_cons (pe_fld (pv 0) rfl) pa_nil))))
      (pss_cons (ps_set (i := 3) sc_deterrent_at.nd rfl (Or.inl rfl) (pe_op op_mul (pe_op op_mul (pe_fld (pv 0) rfl) (pe_ix ix_list (pe_fld (pv 0) rfl) (pv 1) (fun _ _ => rfl))) (pe_callB (cr_sum rfl) rfl (T.free 96) bt_sum (pa_cons (pe_fld (pv 0) rfl) pa_nil))))
      (pss_cons (ps_if (pt_cmp (pc_eqI (pv 2) pe_int)) (pss_one (ps_ret (pe_tup (pa_cons pe_int (pa_cons pe_int pa_nil))))) pss_nil)
      (pss_cons (ps_if (pt_cmp (pc_eqI (pv 3) pe_int)) (pss_one (ps_ret pe_non)) pss_nil)
      (pss_one (ps_ret (pe_callO (ok_lowest T) (hr.mono (by decide)) rfl (pa_cons (pv 2) (pa_cons (pe_op op_add (pv 2) (pv 3)) pa_nil))))))))), rd_deterrent_at T hsp⟩) (fun _ _ _ _ _ _ us hl => match us, hl with | [_, _], _ => rfl)
theorem cr_deterrent_at {K : PySem.W.Frag} {mg : Str → Option Value} {h : Heap} {σ : L2.St} {H : Hp} {ta : TA} (T : Tx K mg h) {a : Addr} {s : St} {i : Nat} (ha : EvA ta σ H [.ref a, .int ((i : Nat) : Int)]) (hs : SetAt K H a s) (G : GoodS s) (hi : i < (tws s).length) : EvR (tCall (sp_deterrent_at K) [] E0 ta) σ H (fun v H => OptQ v H (Kp416.deterrentPriorAt s i)) :=
  er_callV (R := fun (i : Addr × St × Nat) v H => OptQ v H (Kp416.deterrentPriorAt i.2.1 i.2.2)) (a, s, i) ha fun H1 e => ⟨rfl, hs.mono e, G, hi⟩
theorem cv_lessQ {K : PySem.W.Frag} {mg : Str → Option Value} {h : Heap} {σ : L2.St} {H : Hp} {ta : TA} (T : Tx K mg h) {v1 v2 : V} {p q : Rat} (ha : EvA ta σ H [v1, v2]) (h1 : FrQ v1 H p) (h2 : FrQ v2 H q) (s1 : SmQ p) (s2 : SmQ q) : Ev (tCall (sp_is_less K) [] E0 ta) σ H (.bl (decide (p < q))) :=
  ev_b (cv_less T ha h1 h2 s1.1 s1.den s2.1 s2.den) (by rw [Bool.eq_iff_iff, decide_eq_true_eq, decide_eq_true_eq]; exact q_lt p q)
theorem optq_ne {v : V} {H : Hp} {q : Rat} (h : FrQ v H q) : decide (v = .non) = false := by
  obtain ⟨p, rfl, _⟩ := h
  rfl
abbrev s_deterrent_prior : Stmt := top 39
theorem sc_deterrent_prior : FnScope ["setting", "found", "signal", "prior"] ["setting"] (defScope s_deterrent_prior) := ⟨rfl, rfl, rfl, by decide +kernel, rfl, by decide +kernel, by decide +kernel⟩
def t_deterrent_prior (K : PySem.W.Frag) : TS :=
    (tSeq (tAsg (tTup (tCons (tC (.int 0)) (tCons (tC (.int 1)) tNil))) (gName 1))
    (tSeq (tFor (iRng1 (tCons (tFld K (tVar 0) "signal_count") tNil)) (gName 2) (tSeq (tAsg (tCall (sp_deterrent_at K) [] E0 (tCons (tVar 0) (tCons (tVar 2) tNil))) (gName 3))
    (tSeq (tIfS (tB (tIsN (tVar 3))) (tRet (tC .non)) tNext)
    (tIfS (tB (tCall (sp_is_less K) [] E0 (tCons (tVar 1) (tCons (tVar 3) tNil)))) (tAsg (tVar 3) (gName 1)) tNext))))
    (tRet (tVar 1))))
def sp_deterrent_prior (K : PySem.W.Frag) : Sp := SpF (ι := Addr × St) (fun i vs H => vs = [.ref i.1] ∧ SetAt K H i.1 i.2 ∧ GoodS i.2) (fun i v H => OptQ v H (Kp416.deterrentPrior i.2))
theorem rd_deterrent_prior {K : PySem.W.Frag} {mg : Str → Option Value} {h : Heap} (T : Tx K mg h) {vs : List V} {H : Hp} {Q : VK} {E : XK} (hsp : sp_deterrent_prior K vs H Q E) : t_deterrent_prior K { nx := fun _ H' => Q .non H', rt := Q } (start ["setting", "found", "signal", "prior"] vs) H := by
  obtain ⟨⟨a, s⟩, ⟨rfl, hs, G⟩, k⟩ := hsp
  dsimp only at hs G k ⊢
  have g5 := G.n5
  refine Sg.go (H := H) ?_ (Ex.refl H)
  refine g_setR (er_pair ev_c ev_c) fun v0 H1 e1 hv0 => ?_
  refine g_forR' (n := (tws s).length) (by wtm_at "ev") (by omega) (fun i σ' H' => ∃ (fv : V) (v w : Option V) (q : Rat), σ' = [some (.ref a), some fv, v, w] ∧ Ex H H' ∧ dI s i = some q ∧ SmQ q ∧ FrQ fv H' q) e1 (fun H2 e2 => ⟨v0, none, none, 0, rfl, e1.trans e2, rfl, smQ_0, hv0.mono e2⟩) ?_ ?_
  · rintro i σ' H' hi ⟨fv, v, w, q, rfl, e0, hd, hm, hq⟩
    have hs' := hs.mono e0
    refine Sg.go (H := H') ?_ (Ex.refl H')
    refine g_setR (cr_deterrent_at T (by wtm_at "ev") hs' G hi) fun pv H2 e2 hp => ?_
    have st := dI_succ s i
    rw [hd] at st
    cases hdp : Kp416.deterrentPriorAt s i with
    | none =>
      rw [hdp] at hp
      have hp' : pv = .non := hp
      subst hp'
      refine g_when (b := true) (et_B (ev_b (ev_isN (ev_var rfl)) rfl)) (fun _ => ?_) (fun hb => nomatch hb)
      refine g_retv ev_c fun H3 e3 => k _ _ ((e0.trans e2).trans e3) ?_
      have hn : dI s (i + 1) = none := by
        rw [st]
        unfold dStep
        rw [hdp]
      have hz := dI_none hn ((tws s).length - (i + 1))
      rw [show i + 1 + ((tws s).length - (i + 1)) = (tws s).length by omega, dI_all] at hz
      rw [hz]
      rfl
    | some p =>
      rw [hdp] at hp
      have hp' : FrQ pv H2 p := hp
      have hpm := (pri_at G hdp).sm
      have st2 : dI s (i + 1) = some (Kp415.larger q p) := by
        rw [st]
        unfold dStep
        rw [hdp]
      refine g_when (b := false) (et_B (ev_b (ev_isN (ev_var rfl)) (optq_ne hp'))) (fun hb => nomatch hb) (fun _ => ?_)
      refine g_if1 (b := decide (q < p)) (et_B (cv_lessQ T (by wtm_at "ev") (hq.mono e2) hp' hm hpm)) (fun hb => ?_) (fun hb => ?_)
      · refine g_set1 (ev_var rfl) fun H3 e3 => ⟨pv, _, _, p, rfl, (e0.trans e2).trans e3, ?_, hpm, hp'.mono e3⟩
        rw [st2]
        unfold Kp415.larger
        rw [if_pos (of_decide_eq_true hb)]
      · refine g_next fun H3 e3 => ⟨fv, _, _, q, rfl, (e0.trans e2).trans e3, ?_, hm, (hq.mono e2).mono e3⟩
        rw [st2]
        unfold Kp415.larger
        rw [if_neg (of_decide_eq_false hb)]
  · rintro σ' H' ⟨fv, v, w, q, rfl, e0, hd, hm, hq⟩
    rw [dI_all] at hd
    rw [hd] at k
    exact (g_retv (ev_var rfl) fun H2 e2 => k _ _ (e0.trans e2) (hq.mono e2) : Sg _ _ _ H').go (Ex.refl H')
theorem ok_deterrent_prior {P : Program} {w : World} {K : PySem.W.Frag} {mg : Str → Option Value} {base : Heap} {h : Heap} (T : Tx K mg h) : OkF P w K mg base 4 "deterrent_prior" ["setting"] (sp_deterrent_prior K) :=
  mkOk T (st := s_deterrent_prior) (N := ["setting", "found", "signal", "prior"]) 21 21 sc_deterrent_prior (by rintro vs H Q E ⟨_, ⟨rfl, _⟩, _⟩; rfl) (fun f cdv A outer s H vs Q E hr hsp => ⟨t_deterrent_prior K, (pss_cons (ps_set (i := 1) sc_deterrent_prior.nd rfl (Or.inl rfl) (pe_tup (pa_cons pe_int (pa_cons pe_int pa_nil))))
      (pss_cons (ps_for PassesOwn.never rfl (pi_range1 rfl (T.free 97) (pa_cons (pe_fld (pv 0) rfl) pa_nil)) (pg_name (i := 2) sc_deterrent_prior.nd rfl (Or.inl rfl)) (pss_cons (ps_set (i := 3) sc_deterrent_prior.nd rfl (Or.inl rfl) (pe_callO (ok_deterrent_at T) (hr.mono (by decide)) rfl (pa_cons (pv 0) (pa_cons (pv 2) pa_nil))))
      (pss_cons (ps_if (pt_cmp (pc_isN (pv 3))) (pss_one (ps_ret pe_non)) pss_nil)
      (pss_one (ps_if (pt_val (pe_callO (ok_is_less T) (hr.mono (by decide)) rfl (pa_cons (pv 1) (pa_cons (pv 3) pa_nil)))) (pss_one (ps_set (i := 1) sc_deterrent_prior.nd rfl (Or.inl rfl) (pv 3))) pss_nil)))))
      (pss_one (ps_ret (pv 1))))), rd_deterrent_prior T hsp⟩) (fun _ _ _ _ _ _ us hl => match us, hl with | [_], _ => rfl)
end Pw
namespace Pw
open PySem PySem.Spec PyProof.Rows L2 Evl
/-- fractions, one by one -/
def QsAt (H : Hp) (xs : List V) (l : List Rat) : Prop := xs.length = l.length ∧ ∀ (i : Nat) (x : V), xs[i]? = some x → ∃ q, l[i]? = some q ∧ FrQ x H q
theorem QsAt.mono {H H' : Hp} {xs : List V} {l : List Rat} (e : Ex H H') : QsAt H xs l → QsAt H' xs l := fun ⟨h1, h2⟩ => ⟨h1, fun i x hx => let ⟨q, h3, h4⟩ := h2 i x hx; ⟨q, h3, h4.mono e⟩⟩
theorem FrI.upd {H : Hp} {v : V} {a b : Int} {p : Addr} {ys zs : List V} (h : FrI v H a b) (hp : H p = some (.lst ys)) : FrI v (upd H p (.lst zs)) a b := by
  obtain ⟨t, rfl, ht⟩ := h
  exact ⟨t, rfl, by rw [upd_ne (ne_of ht hp (by intro z; cases z))]; exact ht⟩
theorem QsAt.upd {H : Hp} {xs : List V} {l : List Rat} {p : Addr} {ys zs : List V} (h : QsAt H xs l) (hp : H p = some (.lst ys)) : QsAt (L2.upd H p (.lst zs)) xs l :=
  ⟨h.1, fun i x hx => let ⟨q, h3, h4⟩ := h.2 i x hx; ⟨q, h3, FrI.upd h4 hp⟩⟩
theorem QsAt.snoc {H : Hp} {xs : List V} {l : List Rat} {v : V} {q : Rat} (h : QsAt H xs l) (hv : FrQ v H q) : QsAt H (xs ++ [v]) (l ++ [q]) := by
  refine ⟨by rw [List.length_append, List.length_append, h.1]; rfl, fun i x hx => ?_⟩
  by_cases c : i < xs.length
  · rw [List.getElem?_append_left c] at hx
    obtain ⟨q', h3, h4⟩ := h.2 i x hx
    exact ⟨q', by rw [List.getElem?_append_left (by rw [← h.1]; exact c)]; exact h3, h4⟩
  · rw [List.getElem?_append_right (by omega)] at hx
    have hi : i = xs.length := by
      have := (List.getElem?_eq_some_iff.mp hx).1
      simp at this
      omega
    subst hi
    rw [Nat.sub_self] at hx
    have hx' : v = x := Option.some.inj hx
    subst hx'
    exact ⟨q, by rw [h.1, List.getElem?_append_right (Nat.le_refl _), Nat.sub_self]; rfl, hv⟩
section
variable {K : PySem.W.Frag} {mg : Str → Option Value} {h : Heap} {σ : L2.St} {H : Hp} {ta tb tl : TE} {tu tz : TS} {D : Ends} {i j : Nat} {R R1 R2 : V → Hp → Prop}
theorem g_set2 (ha : EvR ta σ H R1) (hb : EvR tb σ H R2) (m1 : ∀ v H1 H2, Ex H1 H2 → R1 v H1 → R1 v H2) (m2 : ∀ v H1 H2, Ex H1 H2 → R2 v H1 → R2 v H2)
    (k : ∀ p x y H1, Ex H H1 → H p = none → H1 p = some (.lst [x, y]) → R1 x H1 → R2 y H1 → Sg tz D (σ.set i (some (.ref p))) H1) : Sg (tSeq (tAsg (tLst (tCons ta (tCons tb tNil))) (gName i)) tz) D σ H := fun H1 e =>
  ha H1 e _ fun x H2 e2 r1 => hb H2 (e.trans e2) _ fun y H3 e3 r2 => ⟨sz_of (by show 2 ≤ 100000; decide), fun p hp =>
    k p x y _ (((e.trans e2).trans e3).trans (Ex.new hp)) (fresh_back ((e.trans e2).trans e3) hp) upd_same (m1 _ _ _ (e3.trans (Ex.new hp)) r1) (m2 _ _ _ (Ex.new hp) r2) _ (Ex.refl _)⟩
theorem g_forX (h : EvR tl σ H R)
    (k : ∀ v H1, Ex H H1 → R v H1 → ∃ p xs, v = .ref p ∧ H1 p = some (.lst xs) ∧ ∃ Pv : Nat → L2.St → Hp → Prop, (∀ H2, Ex H1 H2 → Pv 0 σ H2) ∧ (∀ i σ' H', Pv i σ' H' → Ex H1 H') ∧
      (∀ i x σ' H', xs[i]? = some x → Pv i σ' H' → tu { D with nx := Pv (i + 1), ct := Pv (i + 1), bk := tz D } (σ'.set j (some x)) H') ∧ (∀ σ' H', Pv xs.length σ' H' → tz D σ' H')) : Sg (tSeq (tFor (iList K tl) (gName j) tu) tz) D σ H := fun H0 e0 =>
  h H0 e0 _ fun v H1 e1 r => by
    obtain ⟨p, xs, rfl, hp, Pv, k0, ke, ks, kd⟩ := k v H1 (e0.trans e1) r
    exact ⟨p, rfl, ⟨_, SqL.of hp⟩, for_list (xs := xs) Pv (k0 H1 (Ex.refl H1)) (fun i σ' H' _ pv => SqL.of (ke i σ' H' pv _ _ hp)) ks kd⟩
/-- (a, b) of two values that are known -/
theorem er_tup2 {x y : V} (ha : Ev ta σ H x) (hb : Ev tb σ H y) : EvR (tTup (tCons ta (tCons tb tNil))) σ H (fun v H1 => ∃ p, v = .ref p ∧ H1 p = some (.tup [x, y])) := fun H1 e Q q =>
  (eu_tup (ea_cons ha (ea_cons hb ea_nil)) (Nat.le_of_ble_eq_true rfl)) H1 e _ fun p H2 _ e2 h2 => q _ H2 e2 ⟨p, rfl, h2⟩
theorem rv_eqF {v1 v2 : V} {a b c d : Int} (h1 : FrI v1 H a b) (h2 : FrI v2 H c d) : RV (rEqD K) v1 v2 H (.bl (decide (a = c ∧ b = d))) := fun H1 e Q q => by
  obtain ⟨p, rfl, hp⟩ := h1
  obtain ⟨p', rfl, hp'⟩ := h2
  refine ⟨.tuple [.int a, .int b], .tuple [.int c, .int d], .tup (SqT.of (e _ _ hp)) (.cons (.int _) (.cons (.int _) .nil)), .tup (SqT.of (e _ _ hp')) (.cons (.int _) (.cons (.int _) .nil)), rfl, rfl, ?_⟩
  have e1 : PyData.eqv (.tuple [.int a, .int b]) (.tuple [.int c, .int d]) = decide (a = c ∧ b = d) := by
    show ((a == c) && ((b == d) && true)) = decide (a = c ∧ b = d)
    rw [Bool.and_true, Bool.eq_iff_iff, Bool.and_eq_true, beq_iff_eq, beq_iff_eq, decide_eq_true_eq]
  rw [e1]
  exact q H1 (Ex.refl H1)
end
abbrev s_tried_priors : Stmt := top 40
theorem sc_tried_priors : FnScope ["setting", "found", "signal", "prior"] ["setting"] (defScope s_tried_priors) := ⟨rfl, rfl, rfl, by decide +kernel, rfl, by decide +kernel, by decide +kernel⟩
def t_tried_priors (K : PySem.W.Frag) : TS :=
    (tSeq (tAsg (tLst (tCons (tTup (tCons (tC (.int 0)) (tCons (tC (.int 1)) tNil))) (tCons (tTup (tCons (tC (.int 1)) (tCons (tC (.int 1)) tNil))) tNil))) (gName 1))
    (tSeq (tFor (iRng1 (tCons (tFld K (tVar 0) "signal_count") tNil)) (gName 2) (tSeq (tAsg (tCall (sp_deterrent_at K) [] E0 (tCons (tVar 0) (tCons (tVar 2) tNil))) (gName 3))
    (tIfS (tB (tNotN (tVar 3))) (tDrop (tBM K "list" rAppend (tVar 1) (tCons (tVar 3) tNil))) tNext)))
    (tRet (tVar 1))))
def LsQ (v : V) (H : Hp) (l : List Rat) : Prop := ∃ p xs, v = .ref p ∧ H p = some (.lst xs) ∧ QsAt H xs l
def sp_tried_priors (K : PySem.W.Frag) : Sp := SpF (ι := Addr × St) (fun i vs H => vs = [.ref i.1] ∧ SetAt K H i.1 i.2 ∧ GoodS i.2) (fun i v H => LsQ v H (Kp416.candidatePriors i.2))
theorem rd_tried_priors {K : PySem.W.Frag} {mg : Str → Option Value} {h : Heap} (T : Tx K mg h) {vs : List V} {H : Hp} {Q : VK} {E : XK} (hsp : sp_tried_priors K vs H Q E) : t_tried_priors K { nx := fun _ H' => Q .non H', rt := Q } (start ["setting", "found", "signal", "prior"] vs) H := by
  obtain ⟨⟨a, s⟩, ⟨rfl, hs, G⟩, k⟩ := hsp
  dsimp only at hs G k ⊢
  have g5 := G.n5
  refine Sg.go (H := H) ?_ (Ex.refl H)
  refine g_set2 (er_pair ev_c ev_c) (er_pair ev_c ev_c) (fun _ _ _ e => FrI.mono e) (fun _ _ _ e => FrI.mono e) fun p x y H1 e1 np hp hx hy => ?_
  refine g_forR' (n := (tws s).length) (by wtm_at "ev") (by omega) (fun i σ' H' => ∃ (v w : Option V) (xs : List V), σ' = [some (.ref a), some (.ref p), v, w] ∧ Ex H H' ∧ H' p = some (.lst xs) ∧ QsAt H' xs (0 :: 1 :: (List.range i).filterMap (Kp416.deterrentPriorAt s))) e1 (fun H2 e2 => ⟨none, none, _, rfl, e1.trans e2, e2 _ _ hp, ?_⟩) ?_ ?_
  · refine ⟨rfl, fun i z hz => ?_⟩
    match i, hz with
    | 0, hz => exact ⟨0, rfl, by cases hz; exact hx.mono e2⟩
    | 1, hz => exact ⟨1, rfl, by cases hz; exact hy.mono e2⟩
    | n + 2, hz => cases hz
  · rintro i σ' H' hi ⟨v, w, xs, rfl, e0, hl, hq⟩
    have hs' := hs.mono e0
    refine Sg.go (H := H') ?_ (Ex.refl H')
    refine g_setR (cr_deterrent_at T (by wtm_at "ev") hs' G hi) fun pv H2 e2 hpv => ?_
    have hlen : xs.length ≤ 100 := by
      rw [hq.1]
      have := List.length_filterMap_le (Kp416.deterrentPriorAt s) (List.range i)
      simp only [List.length_cons, List.length_range] at this ⊢
      omega
    have st : (List.range (i + 1)).filterMap (Kp416.deterrentPriorAt s) = (List.range i).filterMap (Kp416.deterrentPriorAt s) ++ (match Kp416.deterrentPriorAt s i with | some q => [q] | none => []) := by
      rw [List.range_succ, List.filterMap_append]
      cases e : Kp416.deterrentPriorAt s i with
      | none => simp [e]
      | some q => simp [e]
    cases hdp : Kp416.deterrentPriorAt s i with
    | none =>
      rw [hdp] at hpv
      have hp' : pv = .non := hpv
      subst hp'
      refine g_if1 (b := false) (et_B (ev_b (ev_notN (ev_var rfl)) rfl)) (fun hb => nomatch hb) (fun _ => ?_)
      refine g_next fun H3 e3 => ⟨_, _, xs, rfl, (e0.trans e2).trans e3, e3 _ _ (e2 _ _ hl), ?_⟩
      rw [st, hdp, List.append_nil]
      exact (hq.mono e2).mono e3
    | some q =>
      rw [hdp] at hpv
      have hp' : FrQ pv H2 q := hpv
      refine g_if1 (b := true) (et_B (ev_b (ev_notN (ev_var rfl)) (by rw [optq_ne hp']; rfl))) (fun _ => ?_) (fun hb => nomatch hb)
      intro H3 e3
      refine s_app (e3 _ _ (e2 _ _ hl)) (ev_var rfl) (ev_var rfl) (by omega) fun H4 e4 => ?_
      have l4 := e4 _ _ (e3 _ _ (e2 _ _ hl))
      refine ⟨_, _, _, rfl, Ex.mut (((e0.trans e2).trans e3).trans e4) np, upd_same, ?_⟩
      rw [st, hdp]
      exact ((((hq.mono e2).mono e3).mono e4).snoc ((FrI.mono e3 hp').mono e4)).upd l4
  · rintro σ' H' ⟨v, w, xs, rfl, e0, hl, hq⟩
    exact (g_retv (ev_var rfl) fun H2 e2 => k _ _ (e0.trans e2) ⟨p, xs, rfl, e2 _ _ hl, hq.mono e2⟩ : Sg _ _ _ H').go (Ex.refl H')
theorem ok_tried_priors {P : Program} {w : World} {K : PySem.W.Frag} {mg : Str → Option Value} {base : Heap} {h : Heap} (T : Tx K mg h) : OkF P w K mg base 4 "tried_priors" ["setting"] (sp_tried_priors K) :=
  mkOk T (st := s_tried_priors) (N := ["setting", "found", "signal", "prior"]) 22 22 sc_tried_priors (by rintro vs H Q E ⟨_, ⟨rfl, _⟩, _⟩; rfl) (fun f cdv A outer s H vs Q E hr hsp => ⟨t_tried_priors K, (pss_cons (ps_set (i := 1) sc_tried_priors.nd rfl (Or.inl rfl) (pe_lst (pa_cons (pe_tup (pa_cons pe_int (pa_cons pe_int pa_nil))) (pa_cons (pe_tup (pa_cons pe_int (pa_cons pe_int pa_nil))) pa_nil))))
      (pss_cons (ps_for PassesOwn.never rfl (pi_range1 rfl (T.free 97) (pa_cons (pe_fld (pv 0) rfl) pa_nil)) (pg_name (i := 2) sc_tried_priors.nd rfl (Or.inl rfl)) (pss_cons (ps_set (i := 3) sc_tried_priors.nd rfl (Or.inl rfl) (pe_callO (ok_deterrent_at T) (hr.mono (by decide)) rfl (pa_cons (pv 0) (pa_cons (pv 2) pa_nil))))
      (pss_one (ps_if (pt_cmp (pc_notN (pv 3))) (pss_one (ps_expr (pe_bm PySem.F.plainAttrs_list PySem.F.slot_list_append PySem.F.type_list_append mt_append (pv 1) (pa_cons (pv 3) pa_nil)))) pss_nil))))
      (pss_one (ps_ret (pv 1))))), rd_tried_priors T hsp⟩) (fun _ _ _ _ _ _ us hl => match us, hl with | [_], _ => rfl)
abbrev s_cost_with : Stmt := top 41
theorem sc_cost_with : FnScope ["setting", "prior"] ["setting", "prior"] (defScope s_cost_with) := ⟨rfl, rfl, rfl, by decide +kernel, rfl, by decide +kernel, by decide +kernel⟩
def t_cost_with (K : PySem.W.Frag) : TS :=
    (tRet (tCall (sp_total_cost K) [] E0 (tCons (tCall (sp_with_prior K) [] E0 (tCons (tVar 0) (tCons (tOp (rIxT K) (tVar 1) (tC (.int 0))) (tCons (tOp (rIxT K) (tVar 1) (tC (.int 1))) tNil)))) tNil)))
def sp_cost_with (K : PySem.W.Frag) : Sp := SpF (ι := Addr × St × V × Rat) (fun i vs H => vs = [.ref i.1, i.2.2.1] ∧ SetAt K H i.1 i.2.1 ∧ GoodS i.2.1 ∧ FrQ i.2.2.1 H i.2.2.2 ∧ Pri i.2.2.2) (fun i v H => FrQ v H (Kp416.totalCost (Kp416.withPrior i.2.1 i.2.2.2)))
theorem rd_cost_with {K : PySem.W.Frag} {mg : Str → Option Value} {h : Heap} (T : Tx K mg h) {vs : List V} {H : Hp} {Q : VK} {E : XK} (hsp : sp_cost_with K vs H Q E) : t_cost_with K { nx := fun _ H' => Q .non H', rt := Q } (start ["setting", "prior"] vs) H := by
  obtain ⟨⟨a, s, pv, q⟩, ⟨rfl, hs, G, hq, hP⟩, k⟩ := hsp
  dsimp only at hs G hq hP k ⊢
  have g5 := G.n5
  have hq' : FrI pv H q.num (q.den : Int) := hq
  have hn := hP.n0
  have hnum : q.num = ((q.num.toNat : Nat) : Int) := by omega
  refine Sg.go (H := H) ?_ (Ex.refl H)
  refine g_ret (er_callX (R' := fun v H => FrQ v H (Kp416.totalCost (Kp416.withPrior s q))) (ear_one (er_callV (R := fun (i : Addr × St × Nat × Nat) v H => ∃ p, v = .ref p ∧ SetAt K H p (setPrior i.2.1 i.2.2.1 i.2.2.2)) (a, s, q.num.toNat, q.den) (ea_cons (ev_var rfl) (ea_cons (ev_i (by wtm_at "ev") hnum) (by wtm_at "ev"))) fun H1 e => ⟨rfl, hs.mono e, g5⟩)) fun vs H1 e r => ?_) fun v H2 e2 r => k _ _ e2 r
  obtain ⟨v, rfl, p, rfl, hp⟩ := r
  exact ⟨(p, Kp416.withPrior s q), ⟨rfl, hp, good_prior G hP⟩, fun v H2 _ r => r⟩
theorem ok_cost_with {P : Program} {w : World} {K : PySem.W.Frag} {mg : Str → Option Value} {base : Heap} {h : Heap} (T : Tx K mg h) : OkF P w K mg base 5 "cost_with" ["setting", "prior"] (sp_cost_with K) :=
  mkOk T (st := s_cost_with) (N := ["setting", "prior"]) 23 23 sc_cost_with (by rintro vs H Q E ⟨_, ⟨rfl, _⟩, _⟩; rfl) (fun f cdv A outer s H vs Q E hr hsp => ⟨t_cost_with K, (pss_one (ps_ret (pe_callO (ok_total_cost T) (hr.mono (by decide)) rfl (pa_cons (pe_callO (ok_with_prior T) (hr.mono (by decide)) rfl (pa_cons (pv 0) (pa_cons (pe_ix ix_tup (pv 1) pe_int (fun _ _ => rfl)) (pa_cons (pe_ix ix_tup (pv 1) pe_int (fun _ _ => rfl)) pa_nil)))) pa_nil)))), rd_cost_with T hsp⟩) (fun _ _ _ _ _ _ us hl => match us, hl with | [_, _], _ => rfl)
theorem cr_cost_with {K : PySem.W.Frag} {mg : Str → Option Value} {h : Heap} {σ : L2.St} {H : Hp} {ta : TA} (T : Tx K mg h) {a : Addr} {s : St} {pv : V} {q : Rat} (ha : EvA ta σ H [.ref a, pv]) (hs : SetAt K H a s) (G : GoodS s) (hq : FrQ pv H q) (hP : Pri q) :
    EvR (tCall (sp_cost_with K) [] E0 ta) σ H (fun v H => FrQ v H (Kp416.totalCost (Kp416.withPrior s q))) :=
  er_callV (R := fun (i : Addr × St × V × Rat) v H => FrQ v H (Kp416.totalCost (Kp416.withPrior i.2.1 i.2.2.2))) (a, s, pv, q) ha fun H1 e => ⟨rfl, hs.mono e, G, hq.mono e, hP⟩
abbrev s_is_cheaper : Stmt := top 42
theorem sc_is_cheaper : FnScope ["prior", "cost", "best", "best_cost"] ["prior", "cost", "best", "best_cost"] (defScope s_is_cheaper) := ⟨rfl, rfl, rfl, by decide +kernel, rfl, by decide +kernel, by decide +kernel⟩
def t_is_cheaper (K : PySem.W.Frag) : TS :=
    (tSeq (tIfS (tB (tCall (sp_is_less K) [] E0 (tCons (tVar 1) (tCons (tVar 3) tNil)))) (tRet (tC (.bl true))) tNext)
    (tRet (tAndV (tOp (rEqD K) (tVar 1) (tVar 3)) (tCall (sp_is_less K) [] E0 (tCons (tVar 0) (tCons (tVar 2) tNil))))))
def sp_is_cheaper (K : PySem.W.Frag) : Sp := SpF (ι := (V × V × V × V) × (Rat × Rat × Rat × Rat)) (fun i vs H => vs = [i.1.1, i.1.2.1, i.1.2.2.1, i.1.2.2.2] ∧ FrQ i.1.1 H i.2.1 ∧ FrQ i.1.2.1 H i.2.2.1 ∧ FrQ i.1.2.2.1 H i.2.2.2.1 ∧ FrQ i.1.2.2.2 H i.2.2.2.2 ∧ SmQ i.2.1 ∧ SmQ i.2.2.1 ∧ SmQ i.2.2.2.1 ∧ SmQ i.2.2.2.2)
  (fun i v _ => v = .bl (decide (i.2.2.1 < i.2.2.2.2 ∨ (i.2.2.1 = i.2.2.2.2 ∧ i.2.1 < i.2.2.2.1))))
theorem rd_is_cheaper {K : PySem.W.Frag} {mg : Str → Option Value} {h : Heap} (T : Tx K mg h) {vs : List V} {H : Hp} {Q : VK} {E : XK} (hsp : sp_is_cheaper K vs H Q E) : t_is_cheaper K { nx := fun _ H' => Q .non H', rt := Q } (start ["prior", "cost", "best", "best_cost"] vs) H := by
  obtain ⟨⟨⟨v1, v2, v3, v4⟩, ⟨p, c, b, bc⟩⟩, ⟨rfl, h1, h2, h3, h4, s1, s2, s3, s4⟩, k⟩ := hsp
  dsimp only at h1 h2 h3 h4 s1 s2 s3 s4 k ⊢
  refine Sg.go (H := H) ?_ (Ex.refl H)
  refine g_when (b := decide (c < bc)) (et_B (cv_lessQ T (by wtm_at "ev") h2 h4 s2 s4)) (fun hb => ?_) (fun hb => ?_)
  · refine g_retv ev_c fun H2 e2 => k _ _ e2 ?_
    rw [decide_eq_true (Or.inl (of_decide_eq_true hb))]
  · refine g_retv (ev_andV (a := decide (c = bc)) (b := decide (p < b)) (ev_b (ev_op (ev_var rfl) (ev_var rfl) (rv_eqF h2 h4)) (by rw [Bool.eq_iff_iff, decide_eq_true_eq, decide_eq_true_eq]; exact eq_nd c bc)) (fun _ => cv_lessQ T (by wtm_at "ev") h1 h3 s1 s3)) fun H2 e2 => k _ _ e2 ?_
    have hn := of_decide_eq_false hb
    congr 1
    rw [Bool.eq_iff_iff, Bool.and_eq_true, decide_eq_true_eq, decide_eq_true_eq, decide_eq_true_eq]
    exact ⟨fun z => .inr z, fun z => z.resolve_left hn⟩
theorem ok_is_cheaper {P : Program} {w : World} {K : PySem.W.Frag} {mg : Str → Option Value} {base : Heap} {h : Heap} (T : Tx K mg h) : OkF P w K mg base 2 "is_cheaper" ["prior", "cost", "best", "best_cost"] (sp_is_cheaper K) :=
  mkOk T (st := s_is_cheaper) (N := ["prior", "cost", "best", "best_cost"]) 24 24 sc_is_cheaper (by rintro vs H Q E ⟨_, ⟨rfl, _⟩, _⟩; rfl) (fun f cdv A outer s H vs Q E hr hsp => ⟨t_is_cheaper K, (pss_cons (ps_if (pt_val (pe_callO (ok_is_less T) (hr.mono (by decide)) rfl (pa_cons (pv 1) (pa_cons (pv 3) pa_nil)))) (pss_one (ps_ret pe_bl)) pss_nil)
      (pss_one (ps_ret (pe_and (pe_cmpR (op_eqD hr.units) (pv 1) (pv 3) (nomark _)) (pe_one (pe_callO (ok_is_less T) (hr.mono (by decide)) rfl (pa_cons (pv 0) (pa_cons (pv 2) pa_nil)))))))), rd_is_cheaper T hsp⟩) (fun _ _ _ _ _ _ us hl => match us, hl with | [_, _, _, _], _ => rfl)
theorem cv_is_cheaper {K : PySem.W.Frag} {mg : Str → Option Value} {h : Heap} {σ : L2.St} {H : Hp} {ta : TA} (T : Tx K mg h) {v1 v2 v3 v4 : V} {p c b bc : Rat} (ha : EvA ta σ H [v1, v2, v3, v4]) (h1 : FrQ v1 H p) (h2 : FrQ v2 H c) (h3 : FrQ v3 H b) (h4 : FrQ v4 H bc) (s1 : SmQ p) (s2 : SmQ c) (s3 : SmQ b) (s4 : SmQ bc) :
    Ev (tCall (sp_is_cheaper K) [] E0 ta) σ H (.bl (decide (c < bc ∨ (c = bc ∧ p < b)))) :=
  ev_callV (f := fun i : (V × V × V × V) × (Rat × Rat × Rat × Rat) => V.bl (decide (i.2.2.1 < i.2.2.2.2 ∨ (i.2.2.1 = i.2.2.2.2 ∧ i.2.1 < i.2.2.2.1)))) ((v1, v2, v3, v4), (p, c, b, bc)) ha fun H1 e => ⟨rfl, h1.mono e, h2.mono e, h3.mono e, h4.mono e, s1, s2, s3, s4⟩
abbrev s_cheapest_prior : Stmt := top 43
theorem sc_cheapest_prior : FnScope ["setting", "best", "best_cost", "prior", "cost"] ["setting"] (defScope s_cheapest_prior) := ⟨rfl, rfl, rfl, by decide +kernel, rfl, by decide +kernel, by decide +kernel⟩
def t_cheapest_prior (K : PySem.W.Frag) : TS :=
    (tSeq (tAsg (tTup (tCons (tC (.int 0)) (tCons (tC (.int 1)) tNil))) (gName 1))
    (tSeq (tAsg (tCall (sp_cost_with K) [] E0 (tCons (tVar 0) (tCons (tVar 1) tNil))) (gName 2))
    (tSeq (tFor (iList K (tCall (sp_tried_priors K) [] E0 (tCons (tVar 0) tNil))) (gName 3) (tSeq (tAsg (tCall (sp_cost_with K) [] E0 (tCons (tVar 0) (tCons (tVar 3) tNil))) (gName 4))
    (tIfS (tB (tCall (sp_is_cheaper K) [] E0 (tCons (tVar 3) (tCons (tVar 4) (tCons (tVar 1) (tCons (tVar 2) tNil)))))) (tSeq (tAsg (tVar 3) (gName 1))
    (tAsg (tVar 4) (gName 2))) tNext)))
    (tRet (tTup (tCons (tVar 1) (tCons (tVar 2) tNil)))))))
/-- two fractions -/
def Fr2 (v : V) (H : Hp) (p q : Rat) : Prop := ∃ t v1 v2, v = .ref t ∧ H t = some (.tup [v1, v2]) ∧ FrQ v1 H p ∧ FrQ v2 H q
def sp_cheapest_prior (K : PySem.W.Frag) : Sp := SpF (ι := Addr × St) (fun i vs H => vs = [.ref i.1] ∧ SetAt K H i.1 i.2 ∧ GoodS i.2) (fun i v H => Fr2 v H (Kp416.cheapestPrior i.2) (Kp416.totalCost (Kp416.withPrior i.2 (Kp416.cheapestPrior i.2))))
theorem rd_cheapest_prior {K : PySem.W.Frag} {mg : Str → Option Value} {h : Heap} (T : Tx K mg h) {vs : List V} {H : Hp} {Q : VK} {E : XK} (hsp : sp_cheapest_prior K vs H Q E) : t_cheapest_prior K { nx := fun _ H' => Q .non H', rt := Q } (start ["setting", "best", "best_cost", "prior", "cost"] vs) H := by
  obtain ⟨⟨a, s⟩, ⟨rfl, hs, G⟩, k⟩ := hsp
  dsimp only at hs G k ⊢
  have g5 := G.n5
  refine Sg.go (H := H) ?_ (Ex.refl H)
  refine g_setR (er_pair ev_c ev_c) fun b0 H1 e1 hb0 => ?_
  have hb0' : FrQ b0 H1 0 := hb0
  refine g_setR (cr_cost_with T (by wtm_at "ev") (hs.mono e1) G hb0' pri_0) fun c0 H2 e2 hc0 => ?_
  have e12 := e1.trans e2
  refine g_forX (R := fun v H => LsQ v H (Kp416.candidatePriors s)) (er_callV (R := fun (i : Addr × St) v H => LsQ v H (Kp416.candidatePriors i.2)) (a, s) (by wtm_at "ev") fun H3 e3 => ⟨rfl, (hs.mono e12).mono e3, G⟩) fun lv H3 e3 hl => ?_
  obtain ⟨p, xs, rfl, hp, hq⟩ := hl
  refine ⟨p, xs, rfl, hp, fun i σ' H' => ∃ (bv cv : V) (v w : Option V), σ' = [some (.ref a), some bv, some cv, v, w] ∧ Ex H3 H' ∧ FrQ bv H' (cI s i) ∧ FrQ cv H' (Kp416.totalCost (Kp416.withPrior s (cI s i))) ∧ Pri (cI s i), fun H4 e4 => ⟨b0, c0, none, none, rfl, e4, (hb0'.mono e2).mono (e3.trans e4), FrI.mono (e3.trans e4) hc0, pri_0⟩, fun i σ' H' ⟨_, _, _, _, _, e, _⟩ => e, ?_, ?_⟩
  · rintro i x σ' H' hx ⟨bv, cv, v, w, rfl, e4, hb, hc, hP⟩
    have e := (e12.trans e3).trans e4
    obtain ⟨q, hqi, hxq⟩ := hq.2 i x hx
    have hPq := pri_mem G (List.mem_of_getElem? hqi)
    have hxq' := FrI.mono e4 hxq
    refine Sg.go (H := H') ?_ (Ex.refl H')
    refine g_setR (cr_cost_with T (by wtm_at "ev") (hs.mono e) G hxq' hPq) fun nc H5 e5 hnc => ?_
    have st := cI_succ (s := s) hqi
    refine g_if1 (b := decide (Kp416.totalCost (Kp416.withPrior s q) < Kp416.totalCost (Kp416.withPrior s (cI s i)) ∨ (Kp416.totalCost (Kp416.withPrior s q) = Kp416.totalCost (Kp416.withPrior s (cI s i)) ∧ q < cI s i))) (et_B (cv_is_cheaper T (by wtm_at "ev") (hxq'.mono e5) hnc (FrI.mono e5 hb) (FrI.mono e5 hc) hPq.sm (smQ_cost (good_prior G hPq)) hP.sm (smQ_cost (good_prior G hP)))) (fun hb' => ?_) (fun hb' => ?_)
    · have e6 : cI s (i + 1) = q := by
        rw [st]
        unfold cStep
        rw [if_pos (of_decide_eq_true hb')]
      refine g_set (ev_var rfl) (g_set1 (ev_var rfl) fun H6 e7 => ⟨x, nc, _, _, rfl, e4.trans (e5.trans e7), ?_⟩)
      rw [e6]
      exact ⟨hxq'.mono (e5.trans e7), FrI.mono e7 hnc, hPq⟩
    · have e6 : cI s (i + 1) = cI s i := by
        rw [st]
        unfold cStep
        rw [if_neg (of_decide_eq_false hb')]
      refine g_next fun H6 e7 => ⟨bv, cv, _, _, rfl, e4.trans (e5.trans e7), ?_⟩
      rw [e6]
      exact ⟨FrI.mono (e5.trans e7) hb, FrI.mono (e5.trans e7) hc, hP⟩
  · rintro σ' H' ⟨bv, cv, v, w, rfl, e4, hb, hc, hP⟩
    rw [hq.1, cI_all] at hb hc
    refine (g_ret (er_tup2 (ev_var rfl) (ev_var rfl)) fun v H5 e5 r => k _ _ (((e12.trans e3).trans e4).trans e5) ?_ : Sg _ _ _ H').go (Ex.refl H')
    obtain ⟨t, rfl, ht⟩ := r
    exact ⟨t, bv, cv, rfl, ht, FrI.mono e5 hb, FrI.mono e5 hc⟩
theorem ok_cheapest_prior {P : Program} {w : World} {K : PySem.W.Frag} {mg : Str → Option Value} {base : Heap} {h : Heap} (T : Tx K mg h) : OkF P w K mg base 6 "cheapest_prior" ["setting"] (sp_cheapest_prior K) :=
  mkOk T (st := s_cheapest_prior) (N := ["setting", "best", "best_cost", "prior", "cost"]) 25 25 sc_cheapest_prior (by rintro vs H Q E ⟨_, ⟨rfl, _⟩, _⟩; rfl) (fun f cdv A outer s H vs Q E hr hsp => ⟨t_cheapest_prior K, (pss_cons (ps_set (i := 1) sc_cheapest_prior.nd rfl (Or.inl rfl) (pe_tup (pa_cons pe_int (pa_cons pe_int pa_nil))))
      (pss_cons (ps_set (i := 2) sc_cheapest_prior.nd rfl (Or.inl rfl) (pe_callO (ok_cost_with T) (hr.mono (by decide)) rfl (pa_cons (pv 0) (pa_cons (pv 1) pa_nil))))
      (pss_cons (ps_for PassesOwn.never rfl (pi_list (pe_callO (ok_tried_priors T) (hr.mono (by decide)) rfl (pa_cons (pv 0) pa_nil))) (pg_name (i := 3) sc_cheapest_prior.nd rfl (Or.inl rfl)) (pss_cons (ps_set (i := 4) sc_cheapest_prior.nd rfl (Or.inl rfl) (pe_callO (ok_cost_with T) (hr.mono (by decide)) rfl (pa_cons (pv 0) (pa_cons (pv 3) pa_nil))))
      (pss_one (ps_if (pt_val (pe_callO (ok_is_cheaper T) (hr.mono (by decide)) rfl (pa_cons (pv 3) (pa_cons (pv 4) (pa_cons (pv 1) (pa_cons (pv 2) pa_nil)))))) (pss_cons (ps_set (i := 1) sc_cheapest_prior.nd rfl (Or.inl rfl) (pv 3))
      (pss_one (ps_set (i := 2) sc_cheapest_prior.nd rfl (Or.inl rfl) (pv 4)))) pss_nil))))
      (pss_one (ps_ret (pe_tup (pa_cons (pv 1) (pa_cons (pv 2) pa_nil)))))))), rd_cheapest_prior T hsp⟩) (fun _ _ _ _ _ _ us hl => match us, hl with | [_], _ => rfl)
end Pw
namespace Pw
open PySem PySem.Spec PyProof.Rows L2 Evl
/-! ## state.py -/
/-- a monitor with or without a setting -/
def MonO (K : PySem.W.Frag) (H : Hp) (a : Addr) : Option Mo → Prop
  | none => ∃ dx pl ll, H a = some (.ins (He.ga K "Monitor") dx (mF .non pl ll .non)) ∧ H pl = some (.lst []) ∧ H ll = some (.lst [])
  | some m => ∃ L, MonL K H a m L
theorem pM1 {a b : V} : putF "policies" b ([("setting", a)] : List (Str × V)) = ([("setting", a), ("policies", b)] : List (Str × V)) := (put_past (by decide +kernel)).trans (congrArg _ rfl)
theorem pM2 {a b c : V} : putF "log" c ([("setting", a), ("policies", b)] : List (Str × V)) = ([("setting", a), ("policies", b), ("log", c)] : List (Str × V)) := (put_past (by decide +kernel)).trans (congrArg _ ((put_past (by decide +kernel)).trans (congrArg _ rfl)))
theorem pM3 {a b c d : V} : putF "permit" d ([("setting", a), ("policies", b), ("log", c)] : List (Str × V)) = ([("setting", a), ("policies", b), ("log", c), ("permit", d)] : List (Str × V)) :=
  (put_past (by decide +kernel)).trans (congrArg _ ((put_past (by decide +kernel)).trans (congrArg _ ((put_past (by decide +kernel)).trans (congrArg _ rfl)))))
abbrev s_Monitor : Stmt := inClass (top 45) 0
theorem sc_Monitor : FnScope ["self"] ["self"] (defScope s_Monitor) := ⟨rfl, rfl, rfl, by decide +kernel, rfl, by decide +kernel, by decide +kernel⟩
def t_Monitor (K : PySem.W.Frag) : TS :=
    (tSeq (sFld K (tVar 0) (tC .non) "setting")
    (tSeq (sFld K (tVar 0) (tLst tNil) "policies")
    (tSeq (sFld K (tVar 0) (tLst tNil) "log")
    (sFld K (tVar 0) (tC .non) "permit"))))
def sp_Monitor (K : PySem.W.Frag) : Sp := fun vs H Q _ => ∃ i : Addr × Addr, (vs = [.ref i.1] ∧ H i.1 = some (.ins (He.ga K "Monitor") i.2 [])) ∧ ∀ H2, KX i.1 H H2 → MonO K H2 i.1 none → Q .non H2
theorem rd_Monitor {K : PySem.W.Frag} {mg : Str → Option Value} {h : Heap} (T : Tx K mg h) {vs : List V} {H : Hp} {Q : VK} {E : XK} (hsp : sp_Monitor K vs H Q E) : t_Monitor K { nx := fun _ H' => Q .non H', rt := Q } (start ["self"] vs) H := by
  obtain ⟨⟨p, dx⟩, ⟨rfl, hp⟩, k⟩ := hsp
  dsimp only at hp k ⊢
  refine Sg.go (H := H) ?_ (Ex.refl H)
  have hc := T.cls 127
  refine w_fld (fs' := [("setting", .non)]) hc (T.noat 129) ev_c (ev_var rfl) hp (by decide) rfl fun H1 x1 h1 => ?_
  refine w_fldL (g := fun l => [("setting", .non), ("policies", .ref l)]) hc (T.noat 130) (el_lst ea_nil (Nat.zero_le _)) (ev_var rfl) h1 (by show 1 < 1000; decide) (fun l => pM1) fun pl H2 x2 h2 l2 => ?_
  refine w_fldL (g := fun l => [("setting", .non), ("policies", .ref pl), ("log", .ref l)]) hc (T.noat 131) (el_lst ea_nil (Nat.zero_le _)) (ev_var rfl) h2 (by show 2 < 1000; decide) (fun l => pM2) fun ll H3 x3 h3 l3 => ?_
  refine w_fld1 hc (T.noat 132) ev_c (ev_var rfl) h3 (by show 3 < 1000; decide) pM3 fun H4 x4 h4 => ?_
  exact k H4 (((x1.trans x2).trans x3).trans x4) ⟨dx, pl, ll, h4, x4.lst h3 (x3.lst h2 l2), x4.lst h3 l3⟩
theorem ok_Monitor {P : Program} {w : World} {K : PySem.W.Frag} {mg : Str → Option Value} {base : Heap} {h : Heap} (T : Tx K mg h) : OkI P w K mg base 1 "Monitor" ["self"] (sp_Monitor K) :=
  mkOkI T (st := s_Monitor) (q := "Monitor.__init__") (N := ["self"]) 93 128 93 sc_Monitor (by rintro vs H Q E ⟨_, ⟨rfl, _⟩, _⟩; rfl) (fun f cdv A outer s H vs Q E hr hsp => ⟨t_Monitor K, (pss_cons (ps_fld (pv 0) pe_non rfl)
      (pss_cons (ps_fld (pv 0) (pe_lst pa_nil) rfl)
      (pss_cons (ps_fld (pv 0) (pe_lst pa_nil) rfl)
      (pss_one (ps_fld (pv 0) pe_non rfl))))), rd_Monitor T hsp⟩) (fun _ _ _ _ _ _ us hl => match us, hl with | [_], _ => rfl)
abbrev s_Desk : Stmt := inClass (top 46) 0
theorem sc_Desk : FnScope ["self"] ["self"] (defScope s_Desk) := ⟨rfl, rfl, rfl, by decide +kernel, rfl, by decide +kernel, by decide +kernel⟩
def t_Desk (K : PySem.W.Frag) : TS :=
    (sFld K (tVar 0) (tC .non) "monitor")
def sp_Desk (K : PySem.W.Frag) : Sp := fun vs H Q _ => ∃ i : Addr × Addr, (vs = [.ref i.1] ∧ H i.1 = some (.ins (He.ga K "Desk") i.2 [])) ∧ ∀ H2, KX i.1 H H2 → H2 i.1 = some (.ins (He.ga K "Desk") i.2 [("monitor", .non)]) → Q .non H2
theorem rd_Desk {K : PySem.W.Frag} {mg : Str → Option Value} {h : Heap} (T : Tx K mg h) {vs : List V} {H : Hp} {Q : VK} {E : XK} (hsp : sp_Desk K vs H Q E) : t_Desk K { nx := fun _ H' => Q .non H', rt := Q } (start ["self"] vs) H := by
  obtain ⟨⟨p, dx⟩, ⟨rfl, hp⟩, k⟩ := hsp
  dsimp only at hp k ⊢
  refine Sg.go (H := H) ?_ (Ex.refl H)
  exact w_fld1 (fs' := [("monitor", .non)]) (T.cls 133) (T.noat 135) ev_c (ev_var rfl) hp (by decide) rfl fun H1 x1 h1 => k H1 x1 h1
theorem ok_Desk {P : Program} {w : World} {K : PySem.W.Frag} {mg : Str → Option Value} {base : Heap} {h : Heap} (T : Tx K mg h) : OkI P w K mg base 1 "Desk" ["self"] (sp_Desk K) :=
  mkOkI T (st := s_Desk) (q := "Desk.__init__") (N := ["self"]) 94 134 94 sc_Desk (by rintro vs H Q E ⟨_, ⟨rfl, _⟩, _⟩; rfl) (fun f cdv A outer s H vs Q E hr hsp => ⟨t_Desk K, (pss_one (ps_fld (pv 0) pe_non rfl)), rd_Desk T hsp⟩) (fun _ _ _ _ _ _ us hl => match us, hl with | [_], _ => rfl)
section
variable {K : PySem.W.Frag} {mg : Str → Option Value} {h : Heap} {σ : L2.St} {H : Hp} {ta tb tl : TE} {tu tz : TS} {D : Ends} {i j : Nat} {R R1 R2 : V → Hp → Prop} {g : TG}
/-- a walk over a list at a known place, any target -/
theorem g_forG {a : Addr} {xs : List V} (h : Ev tl σ H (.ref a)) (hx : H a = some (.lst xs)) (Pv : Nat → L2.St → Hp → Prop) (h0 : ∀ H1, Ex H H1 → Pv 0 σ H1) (he : ∀ i σ' H', Pv i σ' H' → Ex H H')
    (hs : ∀ i x σ' H', xs[i]? = some x → Pv i σ' H' → g x σ' H' fun σ2 H2 => tu { D with nx := Pv (i + 1), ct := Pv (i + 1), bk := tz D } σ2 H2) (hd : ∀ σ' H', Pv xs.length σ' H' → tz D σ' H') : Sg (tSeq (tFor (iList K tl) g tu) tz) D σ H := fun H1 e =>
  q_forL (h.mono e) (SqL.of (e _ _ hx)) Pv (fun H2 e2 => h0 H2 (e.trans e2)) (fun i σ' H' _ p => SqL.of (he i σ' H' p _ _ hx)) hs hd
/-- the target (a, b) of a pair -/
theorem t_pair {x : V} {a b : Int} {Q : L2.St → Hp → Prop} (h : FrI x H a b) (k : Q ((σ.set i (some (.int a))).set j (some (.int b))) H) : gTup K 2 (gCons (gName i) (gCons (gName j) gNil)) x σ H Q := by
  obtain ⟨p, rfl, hp⟩ := h
  exact ⟨p, _, rfl, SqT.of hp, rfl, _, _, rfl, _, _, rfl, rfl, k⟩
end
theorem okE_log {lg : List Kp417.Entry} {i : Nat} {x : V} {H : Hp} {xs : List V} (hx : xs[i]? = some x) (h : ∀ (i : Nat) (x : V), xs[i]? = some x → ∃ p, (logI lg)[i]? = some p ∧ FrI x H p.1 p.2) : ∃ e, lg[i]? = some e ∧ FrI x H (e.kind.code : Int) (e.signal : Int) := by
  obtain ⟨p, h1, h2⟩ := h i x hx
  unfold logI at h1
  rw [List.getElem?_map] at h1
  cases q : lg[i]? with
  | none =>
    rw [q] at h1
    cases h1
  | some e =>
    rw [q] at h1
    have h3 := Option.some.inj h1
    rw [← h3] at h2
    exact ⟨e, rfl, h2⟩
theorem all_no {α : Type} {f : α → Bool} {l : List α} {i : Nat} {x : α} (h : l[i]? = some x) (hf : f x = false) : l.all f = false := by
  rw [Bool.eq_false_iff]
  intro z
  have := List.all_eq_true.mp z x (List.mem_of_getElem? h)
  rw [hf] at this
  cases this
theorem all_more {α : Type} {f : α → Bool} {l : List α} {i : Nat} {x : α} (h : l[i]? = some x) (h1 : (l.take i).all f = true) (hf : f x = true) : (l.take (i + 1)).all f = true := by
  rw [take_snoc h, List.all_append, h1]
  simp [hf]
abbrev s_is_consistent : Stmt := top 47
theorem sc_is_consistent : FnScope ["cheat_set", "log", "kind", "signal"] ["cheat_set", "log"] (defScope s_is_consistent) := ⟨rfl, rfl, rfl, by decide +kernel, rfl, by decide +kernel, by decide +kernel⟩
def t_is_consistent (K : PySem.W.Frag) : TS :=
    (tSeq (tFor (iList K (tVar 1)) (gTup K 2 (gCons (gName 2) (gCons (gName 3) gNil))) (tSeq (tIfS (tAnd (tB (tEqI (tVar 2) (tC (.int 1)))) (tNot (tB (tCall (sp_has_signal K) [] E0 (tCons (tVar 0) (tCons (tVar 3) tNil)))))) (tRet (tC (.bl false))) tNext)
    (tIfS (tAnd (tB (tEqI (tVar 2) (tC (.int 0)))) (tB (tCall (sp_has_signal K) [] E0 (tCons (tVar 0) (tCons (tVar 3) tNil))))) (tRet (tC (.bl false))) tNext)))
    (tRet (tC (.bl true))))
def sp_is_consistent (K : PySem.W.Frag) : Sp := SpF (ι := Nat × Addr × List Kp417.Entry) (fun i vs H => vs = [.int ((i.1 : Nat) : Int), .ref i.2.1] ∧ PairsAt H i.2.1 (logI i.2.2) ∧ ∀ e ∈ i.2.2, e.signal ≤ 60) (fun i v _ => v = .bl (consC i.2.2 i.1))
theorem rd_is_consistent {K : PySem.W.Frag} {mg : Str → Option Value} {h : Heap} (T : Tx K mg h) {vs : List V} {H : Hp} {Q : VK} {E : XK} (hsp : sp_is_consistent K vs H Q E) : t_is_consistent K { nx := fun _ H' => Q .non H', rt := Q } (start ["cheat_set", "log", "kind", "signal"] vs) H := by
  obtain ⟨⟨c, lv, lg⟩, ⟨rfl, hl, hs⟩, k⟩ := hsp
  dsimp only at hl hs k ⊢
  obtain ⟨xs, hx, hlen, hxs⟩ := hl
  have hlen2 : xs.length = lg.length := hlen.trans (List.length_map ..)
  refine Sg.go (H := H) ?_ (Ex.refl H)
  refine g_forG (ev_var rfl) hx (fun i σ' H' => ∃ v w : Option V, σ' = [some (.int ((c : Nat) : Int)), some (.ref lv), v, w] ∧ Ex H H' ∧ (lg.take i).all (okE c) = true) (fun H1 e => ⟨none, none, rfl, e, rfl⟩) (fun i σ' H' ⟨_, _, _, e, _⟩ => e) ?_ ?_
  · rintro i x σ' H' hxi ⟨v, w, rfl, e0, hall⟩
    obtain ⟨e, he, hf⟩ := okE_log hxi hxs
    have hsig := hs e (List.mem_of_getElem? he)
    refine t_pair (hf.mono e0) ?_
    refine Sg.go (H := H) ?_ e0
    have fin : okE c e = false → ∀ H2, Ex H H2 → Q (.bl false) H2 := fun hk H2 e2 => k _ _ e2 (by unfold consC; rw [all_no he hk])
    refine g_when (b := decide ((e.kind.code : Int) = 1) && !Kp415.contains c e.signal) (by wtm_at "ev") (fun hb => ?_) (fun hb => ?_)
    · refine g_retv ev_c (fin ?_)
      obtain ⟨h1, h2⟩ := Bool.and_eq_true_iff.mp hb
      have h1 := of_decide_eq_true h1
      unfold okE
      cases hk : e.kind <;> rw [hk] at h1
      · cases h1
      · simpa using h2
      · cases h1
    · refine g_if1 (b := decide ((e.kind.code : Int) = 0) && Kp415.contains c e.signal) (by wtm_at "ev") (fun hb2 => ?_) (fun hb2 => ?_)
      · refine g_retv ev_c (fin ?_)
        obtain ⟨h1, h2⟩ := Bool.and_eq_true_iff.mp hb2
        have h1 := of_decide_eq_true h1
        unfold okE
        cases hk : e.kind <;> rw [hk] at h1
        · simpa using h2
        · cases h1
        · cases h1
      · refine g_next fun H2 e2 => ⟨_, _, rfl, e2, all_more he hall ?_⟩
        unfold okE
        cases hk : e.kind with
        | testBehaved =>
          rw [hk] at hb2
          simpa [Kp417.EntryKind.code] using hb2
        | testCheated =>
          rw [hk] at hb
          simpa [Kp417.EntryKind.code] using hb
        | production => rfl
  · rintro σ' H' ⟨v, w, rfl, e0, hall⟩
    rw [hlen2, List.take_length] at hall
    exact (g_retv ev_c fun H2 e2 => k _ _ e2 (by unfold consC; rw [hall]) : Sg _ _ _ H).go e0
theorem ok_is_consistent {P : Program} {w : World} {K : PySem.W.Frag} {mg : Str → Option Value} {base : Heap} {h : Heap} (T : Tx K mg h) : OkF P w K mg base 3 "is_consistent" ["cheat_set", "log"] (sp_is_consistent K) :=
  mkOk T (st := s_is_consistent) (N := ["cheat_set", "log", "kind", "signal"]) 26 26 sc_is_consistent (by rintro vs H Q E ⟨_, ⟨rfl, _⟩, _⟩; rfl) (fun f cdv A outer s H vs Q E hr hsp => ⟨t_is_consistent K, (pss_cons (ps_for PassesOwn.never rfl (pi_list (pv 1)) (pg_tup rfl (pgs_cons (pg_name (i := 2) sc_is_consistent.nd rfl (Or.inl rfl)) (pgs_cons (pg_name (i := 3) sc_is_consistent.nd rfl (Or.inl rfl)) pgs_nil))) (pss_cons (ps_if (PW.pt (pw_and (pt_cmp (pc_eqI (pv 2) pe_int)) (pw_and1 (pt_not (pt_val (pe_callO (ok_has_signal T) (hr.mono (by decide)) rfl (pa_cons (pv 0) (pa_cons (pv 3) pa_nil)))))))) (pss_one (ps_ret pe_bl)) pss_nil)
      (pss_one (ps_if (PW.pt (pw_and (pt_cmp (pc_eqI (pv 2) pe_int)) (pw_and1 (pt_val (pe_callO (ok_has_signal T) (hr.mono (by decide)) rfl (pa_cons (pv 0) (pa_cons (pv 3) pa_nil))))))) (pss_one (ps_ret pe_bl)) pss_nil))))
      (pss_one (ps_ret pe_bl))), rd_is_consistent T hsp⟩) (fun _ _ _ _ _ _ us hl => match us, hl with | [_, _], _ => rfl)
theorem cv_is_consistent {K : PySem.W.Frag} {mg : Str → Option Value} {h : Heap} {σ : L2.St} {H : Hp} {ta : TA} (T : Tx K mg h) {c : Nat} {lv : Addr} {lg : List Kp417.Entry} (ha : EvA ta σ H [.int ((c : Nat) : Int), .ref lv]) (hl : PairsAt H lv (logI lg)) (hs : ∀ e ∈ lg, e.signal ≤ 60) : Ev (tCall (sp_is_consistent K) [] E0 ta) σ H (.bl (consC lg c)) :=
  ev_callV (f := fun i : Nat × Addr × List Kp417.Entry => V.bl (consC i.2.2 i.1)) (c, lv, lg) ha fun H1 e => ⟨rfl, hl.mono e, hs⟩
end Pw
local macro_rules | `(tactic| wtm_at "ca") => `(tactic| ((with_reducible refine' cv_is_consistent (by assumption) ?ha ?hl ?hs); (case ha => wtm_at "ev"); (case hl => wtm_at "sd"); (case hs => wtm_at "sd")))
namespace Pw
open PySem PySem.Spec PyProof.Rows L2 Evl
theorem fI_yes {p : Nat → Bool} {i : Nat} (h : p i = true) : (List.range (i + 1)).filter p = (List.range i).filter p ++ [i] := by
  rw [List.range_succ, List.filter_append, List.filter_cons, if_pos h]
  rfl
theorem fI_no {p : Nat → Bool} {i : Nat} (h : p i = false) : (List.range (i + 1)).filter p = (List.range i).filter p := by
  rw [List.range_succ, List.filter_append, List.filter_cons, if_neg (by rw [h]; decide), List.filter_nil, List.append_nil]
abbrev s_candidates_by : Stmt := top 48
theorem sc_candidates_by : FnScope ["monitor", "log", "found", "index"] ["monitor", "log"] (defScope s_candidates_by) := ⟨rfl, rfl, rfl, by decide +kernel, rfl, by decide +kernel, by decide +kernel⟩
def t_candidates_by (K : PySem.W.Frag) : TS :=
    (tSeq (tAsg (tLst tNil) (gName 2))
    (tSeq (tFor (iRng1 (tCons (tCB (rLenS K) (tCons (tFld K (tVar 0) "policies") tNil)) tNil)) (gName 3) (tIfS (tB (tCall (sp_is_consistent K) [] E0 (tCons (tOp (rIxT K) (tOp (rIxL K) (tFld K (tVar 0) "policies") (tVar 3)) (tC (.int 0))) (tCons (tVar 1) tNil)))) (tDrop (tBM K "list" rAppend (tVar 2) (tCons (tVar 3) tNil))) tNext))
    (tRet (tVar 2))))
def sp_candidates_by (K : PySem.W.Frag) : Sp := SpF (ι := Addr × Mo × Lay × Addr × List Kp417.Entry) (fun i vs H => vs = [.ref i.1, .ref i.2.2.2.1] ∧ MonL K H i.1 i.2.1 i.2.2.1 ∧ GoodM i.2.1 ∧ PairsAt H i.2.2.2.1 (logI i.2.2.2.2) ∧ ∀ e ∈ i.2.2.2.2, e.signal ≤ 60) (fun i v H => LsN v H (candBy i.2.1 i.2.2.2.2))
theorem rd_candidates_by {K : PySem.W.Frag} {mg : Str → Option Value} {h : Heap} (T : Tx K mg h) {vs : List V} {H : Hp} {Q : VK} {E : XK} (hsp : sp_candidates_by K vs H Q E) : t_candidates_by K { nx := fun _ H' => Q .non H', rt := Q } (start ["monitor", "log", "found", "index"] vs) H := by
  obtain ⟨⟨a, m, L, lv, lg⟩, ⟨rfl, hM, G, hl, hs⟩, k⟩ := hsp
  dsimp only at hM G hl hs k ⊢
  have g6 := G.p6
  refine Sg.go (H := H) ?_ (Ex.refl H)
  refine g_setL (el_lst ea_nil (Nat.zero_le _)) fun p H1 e1 np hp => ?_
  refine g_forR' (n := m.policies.length) (by wtm_at "ev") (by omega) (fun i σ' H' => ∃ v : Option V, σ' = [some (.ref a), some (.ref lv), some (.ref p), v] ∧ Ex H H' ∧ H' p = some (.lst (nats ((List.range i).filter fun i => consC lg (pC m i))))) e1 (fun H2 e2 => ⟨none, rfl, e1.trans e2, e2 _ _ hp⟩) ?_ ?_
  · rintro i σ' H' hi ⟨v, rfl, e0, hl'⟩
    have hM' := hM.mono e0
    have hlg := hl.mono e0
    have hi' := filt_len (fun i => consC lg (pC m i)) i
    refine Sg.go (H := H') ?_ (Ex.refl H')
    refine g_if1 (b := consC lg (pC m i)) (by wtm_at "ev") (fun hb => ?_) (fun hb => ?_)
    · intro H2 e2
      refine g_app (e0.trans e2) (e2 _ _ hl') (ev_var rfl) (ev_var rfl) (by rw [nats_len]; omega) np fun H3 e3 h3 => ⟨_, rfl, e3, ?_⟩
      rw [h3, fI_yes (p := fun i => consC lg (pC m i)) hb, nats_snoc]
    · refine g_next fun H2 e2 => ⟨_, rfl, e0.trans e2, ?_⟩
      rw [e2 _ _ hl', fI_no (p := fun i => consC lg (pC m i)) hb]
  · rintro σ' H' ⟨v, rfl, e0, hl'⟩
    exact (g_retv (ev_var rfl) fun H2 e2 => k _ _ (e0.trans e2) ⟨p, rfl, e2 _ _ hl'⟩ : Sg _ _ _ H').go (Ex.refl H')
theorem ok_candidates_by {P : Program} {w : World} {K : PySem.W.Frag} {mg : Str → Option Value} {base : Heap} {h : Heap} (T : Tx K mg h) : OkF P w K mg base 4 "candidates_by" ["monitor", "log"] (sp_candidates_by K) :=
  mkOk T (st := s_candidates_by) (N := ["monitor", "log", "found", "index"]) 27 27 sc_candidates_by (by rintro vs H Q E ⟨_, ⟨rfl, _⟩, _⟩; rfl) (fun f cdv A outer s H vs Q E hr hsp => ⟨t_candidates_by K, (pss_cons (ps_set (i := 2) sc_candidates_by.nd rfl (Or.inl rfl) (pe_lst pa_nil))
      (pss_cons (ps_for PassesOwn.never rfl (pi_range1 rfl (T.free 97) (pa_cons (pe_callB call_len_seq rfl (T.free 95) bt_len (pa_cons (pe_fld (pv 0) rfl) pa_nil)) pa_nil)) (pg_name (i := 3) sc_candidates_by.nd rfl (Or.inl rfl)) (pss_one (ps_if (pt_val (pe_callO (ok_is_consistent T) (hr.mono (by decide)) rfl (pa_cons (pe_ix ix_tup (pe_ix ix_list (pe_fld (pv 0) rfl) (pv 3) (fun _ _ => rfl)) pe_int (fun _ _ => rfl)) (pa_cons (pv 1) pa_nil)))) (pss_one (ps_expr (pe_bm PySem.F.plainAttrs_list PySem.F.slot_list_append PySem.F.type_list_append mt_append (pv 2) (pa_cons (pv 3) pa_nil)))) pss_nil)))
      (pss_one (ps_ret (pv 2))))), rd_candidates_by T hsp⟩) (fun _ _ _ _ _ _ us hl => match us, hl with | [_, _], _ => rfl)
theorem GoodM.s60 {m : Mo} (G : GoodM m) : ∀ e ∈ m.log, e.signal ≤ 60 := fun e he => by
  have h1 := G.ls e he
  have h2 := G.s.n5
  omega
section
variable {K : PySem.W.Frag} {mg : Str → Option Value} {h : Heap} {σ : L2.St} {H : Hp} {ta : TA} {a : Addr} {m : Mo} {L : Lay}
theorem cr_candidates_by (T : Tx K mg h) {lv : Addr} {lg : List Kp417.Entry} (ha : EvA ta σ H [.ref a, .ref lv]) (hM : MonL K H a m L) (G : GoodM m) (hl : PairsAt H lv (logI lg)) (hs : ∀ e ∈ lg, e.signal ≤ 60) : EvR (tCall (sp_candidates_by K) [] E0 ta) σ H (fun v H => LsN v H (candBy m lg)) :=
  er_callV (R := fun (i : Addr × Mo × Lay × Addr × List Kp417.Entry) v H => LsN v H (candBy i.2.1 i.2.2.2.2)) (a, m, L, lv, lg) ha fun H1 e => ⟨rfl, hM.mono e, G, hl.mono e, hs⟩
end
abbrev s_candidates : Stmt := top 49
theorem sc_candidates : FnScope ["monitor"] ["monitor"] (defScope s_candidates) := ⟨rfl, rfl, rfl, by decide +kernel, rfl, by decide +kernel, by decide +kernel⟩
def t_candidates (K : PySem.W.Frag) : TS :=
    (tRet (tCall (sp_candidates_by K) [] E0 (tCons (tVar 0) (tCons (tFld K (tVar 0) "log") tNil))))
def sp_candidates (K : PySem.W.Frag) : Sp := SpF (ι := Addr × Mo × Lay) (fun i vs H => vs = [.ref i.1] ∧ MonL K H i.1 i.2.1 i.2.2 ∧ GoodM i.2.1) (fun i v H => LsN v H (Kp417.candidates i.2.1))
theorem rd_candidates {K : PySem.W.Frag} {mg : Str → Option Value} {h : Heap} (T : Tx K mg h) {vs : List V} {H : Hp} {Q : VK} {E : XK} (hsp : sp_candidates K vs H Q E) : t_candidates K { nx := fun _ H' => Q .non H', rt := Q } (start ["monitor"] vs) H := by
  obtain ⟨⟨a, m, L⟩, ⟨rfl, hM, G⟩, k⟩ := hsp
  dsimp only at hM G k ⊢
  refine Sg.go (H := H) ?_ (Ex.refl H)
  exact g_ret (cr_candidates_by T (by wtm_at "ev") hM G hM.log G.s60) fun v H2 e2 r => k _ _ e2 r
theorem ok_candidates {P : Program} {w : World} {K : PySem.W.Frag} {mg : Str → Option Value} {base : Heap} {h : Heap} (T : Tx K mg h) : OkF P w K mg base 5 "candidates" ["monitor"] (sp_candidates K) :=
  mkOk T (st := s_candidates) (N := ["monitor"]) 28 28 sc_candidates (by rintro vs H Q E ⟨_, ⟨rfl, _⟩, _⟩; rfl) (fun f cdv A outer s H vs Q E hr hsp => ⟨t_candidates K, (pss_one (ps_ret (pe_callO (ok_candidates_by T) (hr.mono (by decide)) rfl (pa_cons (pv 0) (pa_cons (pe_fld (pv 0) rfl) pa_nil))))), rd_candidates T hsp⟩) (fun _ _ _ _ _ _ us hl => match us, hl with | [_], _ => rfl)
theorem cr_candidates {K : PySem.W.Frag} {mg : Str → Option Value} {h : Heap} {σ : L2.St} {H : Hp} {ta : TA} (T : Tx K mg h) {a : Addr} {m : Mo} {L : Lay} (ha : EvA ta σ H [.ref a]) (hM : MonL K H a m L) (G : GoodM m) : EvR (tCall (sp_candidates K) [] E0 ta) σ H (fun v H => LsN v H (Kp417.candidates m)) :=
  er_callV (R := fun (i : Addr × Mo × Lay) v H => LsN v H (Kp417.candidates i.2.1)) (a, m, L) ha fun H1 e => ⟨rfl, hM.mono e, G⟩
/-! ### a comprehension over a list of numbers that an expression gives -/
section
variable {K : PySem.W.Frag} {mg : Str → Option Value} {h : Heap} {σ : L2.St} {H : Hp} {ta tb tl te : TE} {tt : TT} {j : Nat}
theorem el_lcR {R : V → Hp → Prop} {RL : List V → Prop} {vs : List Nat} (h : EvR tl σ H R)
    (k : ∀ v H1, Ex H H1 → R v H1 → ∃ p xs, v = .ref p ∧ H1 p = some (.lst xs) ∧ xs.length ≤ 40000 ∧ ∃ (f : Nat → Bool) (r : Nat → V), (∀ x, wipe ((wipe σ vs).set j (some x)) vs = wipe σ vs) ∧
      (∀ (i : Nat) (x : V), xs[i]? = some x → EvT tt ((wipe σ vs).set j (some x)) H1 (f i)) ∧ (∀ (i : Nat) (x : V), xs[i]? = some x → f i = true → Ev te ((wipe σ vs).set j (some x)) H1 (r i)) ∧ RL (given xs.length f r)) :
    EvR (tLc (iList K tl) (gName j) tt te vs) σ H (fun v H2 => ∃ p xs, v = .ref p ∧ H2 p = some (.lst xs) ∧ RL xs) := fun H0 e0 Q q =>
  h H0 e0 _ fun v H1 e1 r => by
    obtain ⟨p, xs, rfl, hp, hz, f, rr, hw, ht, he, hR⟩ := k v H1 (e0.trans e1) r
    refine ⟨p, rfl, ⟨_, SqL.of hp⟩, fun Dl hD => ?_⟩
    exact lc_list (xs := xs) (Cw H1 f rr Dl) ⟨hD, Ex.new hD, upd_same⟩ (fun i H' _ pw => SqL.of (pw.2.1 p _ hp)) (fun i x H' hi pw => ⟨hw x, cw_turn pw (by have := (List.getElem?_eq_some_iff.mp hi).1; omega) (ht i x hi) (fun hf => he i x hi hf)⟩)
      (fun H' pw => q _ H' (e1.trans pw.2.1) ⟨Dl, _, rfl, pw.2.2, hR⟩)
end
theorem given_filter (l : List Nat) (p : Nat → Bool) : given l.length (fun i => p (l.getD i 0)) (fun i => V.int ((l.getD i 0 : Nat) : Int)) = nats (l.filter p) := by
  unfold given nats
  have e : l = (List.range l.length).map fun i => l.getD i 0 := by
    apply List.ext_getElem?
    intro i
    rw [List.getElem?_map]
    by_cases c : i < l.length
    · rw [List.getElem?_range c, List.getElem?_eq_getElem c]
      show _ = some (l.getD i 0)
      rw [List.getD_eq_getElem?_getD, List.getElem?_eq_getElem c]
      rfl
    · rw [List.getElem?_eq_none (by omega), List.getElem?_eq_none (by rw [List.length_range]; omega)]
      rfl
  conv => rhs; rw [e]
  rw [List.filter_map, List.map_map]
  rfl
theorem getD_of {l : List Nat} {i n : Nat} (h : l[i]? = some n) : l.getD i 0 = n := by
  rw [List.getD_eq_getElem?_getD, h]
  rfl
abbrev s_suspects : Stmt := top 50
theorem sc_suspects : FnScope ["monitor", "signal", "index"] ["monitor", "signal"] (defScope s_suspects) := ⟨rfl, rfl, rfl, by decide +kernel, rfl, by decide +kernel, by decide +kernel⟩
def t_suspects (K : PySem.W.Frag) : TS :=
    (tRet (tLc (iList K (tCall (sp_candidates K) [] E0 (tCons (tVar 0) tNil))) (gName 2) (tB (tCall (sp_has_signal K) [] E0 (tCons (tOp (rIxT K) (tOp (rIxL K) (tFld K (tVar 0) "policies") (tVar 2)) (tC (.int 0))) (tCons (tVar 1) tNil)))) (tVar 2) [2]))
def sp_suspects (K : PySem.W.Frag) : Sp := SpF (ι := Addr × Mo × Lay × Nat) (fun i vs H => vs = [.ref i.1, .int ((i.2.2.2 : Nat) : Int)] ∧ MonL K H i.1 i.2.1 i.2.2.1 ∧ GoodM i.2.1 ∧ i.2.2.2 ≤ 60) (fun i v H => LsN v H ((Kp417.candidates i.2.1).filter fun j => Kp415.contains (Kp417.policyAt i.2.1 j).cheatSet i.2.2.2))
theorem rd_suspects {K : PySem.W.Frag} {mg : Str → Option Value} {h : Heap} (T : Tx K mg h) {vs : List V} {H : Hp} {Q : VK} {E : XK} (hsp : sp_suspects K vs H Q E) : t_suspects K { nx := fun _ H' => Q .non H', rt := Q } (start ["monitor", "signal", "index"] vs) H := by
  obtain ⟨⟨a, m, L, s⟩, ⟨rfl, hM, G, hs⟩, k⟩ := hsp
  dsimp only at hM G hs k ⊢
  refine Sg.go (H := H) ?_ (Ex.refl H)
  refine g_ret (el_lcR (RL := fun xs => xs = nats ((Kp417.candidates m).filter fun j => Kp415.contains (Kp417.policyAt m j).cheatSet s)) (cr_candidates T (by wtm_at "ev") hM G) fun v H1 e1 r => ?_) fun v H2 e2 r => k _ _ e2 ?_
  · obtain ⟨p, rfl, hp⟩ := r
    have hM' := hM.mono e1
    have hl : (Kp417.candidates m).length ≤ 6 := Nat.le_trans (filt_len _ _) G.p6
    refine ⟨p, _, rfl, hp, by rw [nats_len]; omega, fun i => Kp415.contains (Kp417.policyAt m ((Kp417.candidates m).getD i 0)).cheatSet s, fun i => V.int (((Kp417.candidates m).getD i 0 : Nat) : Int), fun x => rfl, fun i x hx => ?_, fun i x hx _ => ?_, ?_⟩
    · obtain ⟨n, hn, rfl⟩ := nats_at hx
      have hlt : n < m.policies.length := cand_lt (List.mem_of_getElem? hn)
      dsimp only
      rw [getD_of hn]
      wtm_at "ev"
    · obtain ⟨n, hn, rfl⟩ := nats_at hx
      dsimp only
      rw [getD_of hn]
      exact ev_var rfl
    · rw [nats_len]
      exact given_filter _ fun j => Kp415.contains (Kp417.policyAt m j).cheatSet s
  · obtain ⟨p, xs, rfl, hp, rfl⟩ := r
    exact ⟨p, rfl, hp⟩
theorem ok_suspects {P : Program} {w : World} {K : PySem.W.Frag} {mg : Str → Option Value} {base : Heap} {h : Heap} (T : Tx K mg h) : OkF P w K mg base 6 "suspects" ["monitor", "signal"] (sp_suspects K) :=
  mkOk T (st := s_suspects) (N := ["monitor", "signal", "index"]) 29 29 sc_suspects (by rintro vs H Q E ⟨_, ⟨rfl, _⟩, _⟩; rfl) (fun f cdv A outer s H vs Q E hr hsp => ⟨t_suspects K, (pss_one (ps_ret (pe_lc (own := [("index", 2)]) (g := gName 2) rfl sc_suspects.nd (pi_list (pe_callO (ok_candidates T) (hr.mono (by decide)) rfl (pa_cons (pv 0) pa_nil))) (blkOk_by (own := [("index", 2)]) (N := (["monitor", "signal", "index"] : List Str)) (sc := defScope (top 50)) (by decide +kernel)) (fun _ _ _ _ _ => pg_name (i := 2) sc_suspects.nd rfl (Or.inl rfl)) (fun _ _ _ _ _ => pts_one (pt_val (pe_callO (ok_has_signal T) (hr.mono (by decide)) rfl (pa_cons (pe_ix ix_tup (pe_ix ix_list (pe_fld (pv 0) rfl) (pv 2) (fun _ _ => rfl)) pe_int (fun _ _ => rfl)) (pa_cons (pv 1) pa_nil))))) (fun _ _ _ _ _ => (pv 2))))), rd_suspects T hsp⟩) (fun _ _ _ _ _ _ us hl => match us, hl with | [_, _], _ => rfl)
end Pw
namespace Pw
open PySem PySem.Spec PyProof.Rows L2 Evl
/-! ## state.py, further -/
section
variable {K : PySem.W.Frag} {mg : Str → Option Value} {h : Heap} {σ : L2.St} {H : Hp} {ta tb : TE} {a : Addr} {m : Mo} {L : Lay}
/-- the weights of the monitor's setting -/
theorem evM_pws (T : Tx K mg h) (hM : MonL K H a m L) (ha : Ev ta σ H (.ref a)) : ∃ l, Ev (tFld K (tFld K ta "setting") "production_weights") σ H (.ref l) ∧ H l = some (.lst (nats (pws m.setting))) := evS_production_weights T hM.set (evM_setting T hM ha)
theorem evM_tws (T : Tx K mg h) (hM : MonL K H a m L) (ha : Ev ta σ H (.ref a)) : ∃ l, Ev (tFld K (tFld K ta "setting") "test_weights") σ H (.ref l) ∧ H l = some (.lst (nats (tws m.setting))) := evS_test_weights T hM.set (evM_setting T hM ha)
theorem inV_nats (l : List Nat) (i : Nat) : inV (.int ((i : Nat) : Int)) (nats l) = l.contains i := by
  unfold inV nats
  rw [List.any_map, Bool.eq_iff_iff, List.any_eq_true, List.contains_iff_mem]
  constructor
  · rintro ⟨x, hx, hq⟩
    have hq' : (((x : Nat) : Int) == ((i : Nat) : Int)) = true := hq
    have := beq_iff_eq.mp hq'
    have e : x = i := by omega
    rw [← e]
    exact hx
  · intro hx
    exact ⟨i, hx, beq_self_eq_true _⟩
theorem flat_nats (l : List Nat) : (nats l).all flatV = true := by
  unfold nats
  rw [List.all_map, List.all_eq_true]
  intro x _
  rfl
theorem ev_notIn {l : List Nat} {i : Nat} (ha : Ev ta σ H (.int ((i : Nat) : Int))) (hb : EvR tb σ H (fun v H => LsN v H l)) : Ev (tOp (rIn K true) ta tb) σ H (.bl (!l.contains i)) := fun H1 e Q q =>
  ha H1 e _ fun H2 e2 => hb H2 (e.trans e2) _ fun v H3 e3 r => by
    obtain ⟨p, rfl, hp⟩ := r
    refine ⟨p, _, rfl, .inl (SqL.of hp), rfl, flat_nats l, ?_⟩
    rw [inV_nats]
    exact q H3 (e2.trans e3)
/-! == with [] -/
theorem canLayAll {f : Int × Int → PyData} : ∀ l : List (Int × Int), (∀ p, PyData.canLay0 (f p) = true) → PyData.canLayAll0 (l.map f) = true
  | [], _ => rfl
  | p :: r, hf => by
    show (PyData.canLay0 (f p) && PyData.canLayAll0 (r.map f)) = true
    rw [hf p, canLayAll r hf]
    rfl
theorem depthAll_le {f : Int × Int → PyData} {n : Nat} : ∀ l : List (Int × Int), (∀ p, PyData.depth (f p) ≤ n) → PyData.depthAll (l.map f) ≤ n
  | [], _ => Nat.zero_le _
  | p :: r, hf => by
    show max (PyData.depth (f p)) (PyData.depthAll (r.map f)) ≤ n
    exact Nat.max_le.mpr ⟨hf p, depthAll_le r hf⟩
theorem shaped_of {f : Int × Int → PyData} (l : List (Int × Int)) (h1 : ∀ p, PyData.canLay0 (f p) = true) (h2 : ∀ p, PyData.depth (f p) ≤ 5) : SeqAt.shaped (.list (l.map f)) = true := by
  unfold SeqAt.shaped
  rw [Bool.and_eq_true]
  refine ⟨canLayAll l h1, decide_eq_true ?_⟩
  show PyData.depthAll (l.map f) + 1 ≤ 64
  have := depthAll_le l h2
  omega
theorem eqv_nil {f : Int × Int → PyData} : ∀ l : List (Int × Int), PyData.eqv (.list (l.map f)) (.list []) = l.isEmpty
  | [] => rfl
  | _ :: _ => rfl
theorem dpAll_pairs {H : Hp} : ∀ (xs : List V) (ps : List (Int × Int)), xs.length = ps.length → (∀ (i : Nat) (x : V), xs[i]? = some x → ∃ p, ps[i]? = some p ∧ FrI x H p.1 p.2) → DpAll K H xs (ps.map fun p => .tuple [.int p.1, .int p.2])
  | [], [], _, _ => .nil
  | [], _ :: _, hl, _ => nomatch hl
  | _ :: _, [], hl, _ => nomatch hl
  | x :: xs, p :: ps, hl, hh => by
    obtain ⟨q, h1, t, rfl, ht⟩ := hh 0 x rfl
    cases h1
    exact .cons (.tup (SqT.of ht) (.cons (.int _) (.cons (.int _) .nil))) (dpAll_pairs xs ps (Nat.succ.inj hl) fun i y hy => hh (i + 1) y hy)
theorem dpAll_nats {H : Hp} : ∀ l : List Nat, DpAll K H (nats l) ((l.map fun n => (((n : Nat) : Int), (0 : Int))).map fun p => .int p.1)
  | [] => .nil
  | n :: r => .cons (.int _) (dpAll_nats r)
/-- monitor.log != [] -/
theorem ev_log_ne (T : Tx K mg h) (hM : MonL K H a m L) (ha : Ev ta σ H (.ref a)) : Ev (tOp (rNeD K) (tFld K ta "log") (tLst tNil)) σ H (.bl (!m.log.isEmpty)) := by
  obtain ⟨xs, h1, h2, h3⟩ := hM.log
  refine ev_opL (xs := []) (evM_log T hM ha) (el_lst ea_nil (Nat.zero_le _)) fun p H1 hp e1 H2 e2 Q q => ?_
  refine ⟨.list ((logI m.log).map fun p => .tuple [.int p.1, .int p.2]), .list [], .lst (SqL.of ((e1.trans e2) _ _ h1)) (dpAll_pairs xs _ h2 fun i x hx => ?_), .lst (SqL.of (e2 _ _ hp)) .nil, shaped_of _ (fun _ => rfl) (fun _ => by show 1 ≤ 5; decide), rfl, ?_⟩
  · obtain ⟨q, h4, h5⟩ := h3 i x hx
    exact ⟨q, h4, h5.mono (e1.trans e2)⟩
  · rw [eqv_nil]
    have e : (logI m.log).isEmpty = m.log.isEmpty := by
      unfold logI
      cases m.log <;> rfl
    rw [e]
    exact q H2 (Ex.refl H2)
theorem ev_log_eq (T : Tx K mg h) (hM : MonL K H a m L) (ha : Ev ta σ H (.ref a)) : Ev (tOp (rEqD K) (tFld K ta "log") (tLst tNil)) σ H (.bl m.log.isEmpty) := by
  obtain ⟨xs, h1, h2, h3⟩ := hM.log
  refine ev_opL (xs := []) (evM_log T hM ha) (el_lst ea_nil (Nat.zero_le _)) fun p H1 hp e1 H2 e2 Q q => ?_
  refine ⟨.list ((logI m.log).map fun p => .tuple [.int p.1, .int p.2]), .list [], .lst (SqL.of ((e1.trans e2) _ _ h1)) (dpAll_pairs xs _ h2 fun i x hx => ?_), .lst (SqL.of (e2 _ _ hp)) .nil, shaped_of _ (fun _ => rfl) (fun _ => by show 1 ≤ 5; decide), rfl, ?_⟩
  · obtain ⟨q, h4, h5⟩ := h3 i x hx
    exact ⟨q, h4, h5.mono (e1.trans e2)⟩
  · rw [eqv_nil]
    have e : (logI m.log).isEmpty = m.log.isEmpty := by
      unfold logI
      cases m.log <;> rfl
    rw [e]
    exact q H2 (Ex.refl H2)
/-- (a list of numbers) == [] -/
theorem ev_nil {l : List Nat} (ha : EvR ta σ H (fun v H => LsN v H l)) : Ev (tOp (rEqD K) ta (tLst tNil)) σ H (.bl l.isEmpty) := fun H1 e Q q =>
  ha H1 e _ fun v H2 e2 r => by
    obtain ⟨p, rfl, hp⟩ := r
    refine (el_lst (σ := σ) (H := H2) ea_nil (Nat.zero_le _)) H2 (Ex.refl H2) _ fun p' H3 _ e3 h3 => ?_
    refine ⟨.list ((l.map fun n => (((n : Nat) : Int), (0 : Int))).map fun p => .int p.1), .list [], .lst (SqL.of (e3 _ _ hp)) (dpAll_nats l), .lst (SqL.of h3) .nil, shaped_of _ (fun _ => rfl) (fun _ => by show 0 ≤ 5; decide), rfl, ?_⟩
    rw [eqv_nil]
    have e4 : (l.map fun n => (((n : Nat) : Int), (0 : Int))).isEmpty = l.isEmpty := by cases l <;> rfl
    rw [e4]
    exact q H3 (e2.trans e3)
theorem cand_len {m : Mo} (G : GoodM m) : (Kp417.candidates m).length ≤ 6 := Nat.le_trans (filt_len _ _) G.p6
theorem pW1 {m : Mo} (G : GoodM m) {i : Nat} (hi : i < m.policies.length) : 1 ≤ pW m i ∧ pW m i ≤ 99 := by
  have hm : Kp417.policyAt m i ∈ m.policies := by
    unfold Kp417.policyAt
    rw [List.getD_eq_getElem?_getD, List.getElem?_eq_getElem hi]
    exact List.getElem_mem hi
  exact ⟨G.pw1 _ hm, G.pw9 _ hm⟩
theorem cw_pos {m : Mo} (G : GoodM m) {i : Nat} (hi : i ∈ Kp417.candidates m) : 1 ≤ Kp417.candidateWeight m := sum_pos hi (pW1 G (cand_lt hi)).1
theorem cw_le {m : Mo} (G : GoodM m) : Kp417.candidateWeight m ≤ 600 := by
  have h1 : Kp417.candidateWeight m ≤ (Kp417.candidates m).length * 99 := sum_bd fun x hx => (pW1 G (cand_lt hx)).2
  have h2 := cand_len G
  have h3 : (Kp417.candidates m).length * 99 ≤ 6 * 99 := Nat.mul_le_mul_right _ h2
  omega
end
theorem sumN_snoc {α : Type} (f : α → Nat) (l : List α) (x : α) : ((l ++ [x]).map f).sum = (l.map f).sum + f x := by
  rw [List.map_append, List.sum_append]
  simp
theorem cd_mem {m : Mo} {i n : Nat} (h : (Kp417.candidates m)[i]? = some n) : n < m.policies.length := cand_lt (List.mem_of_getElem? h)
abbrev s_whole_weight : Stmt := top 51
theorem sc_whole_weight : FnScope ["monitor", "found", "index"] ["monitor"] (defScope s_whole_weight) := ⟨rfl, rfl, rfl, by decide +kernel, rfl, by decide +kernel, by decide +kernel⟩
def t_whole_weight (K : PySem.W.Frag) : TS :=
    (tSeq (tAsg (tC (.int 0)) (gName 1))
    (tSeq (tFor (iList K (tCall (sp_candidates K) [] E0 (tCons (tVar 0) tNil))) (gName 2) (tAsg (tOp (rI0 fun i j => .int (i + j)) (tVar 1) (tOp (rIxT K) (tOp (rIxL K) (tFld K (tVar 0) "policies") (tVar 2)) (tC (.int 1)))) (gName 1)))
    (tRet (tVar 1))))
def sp_whole_weight (K : PySem.W.Frag) : Sp := SpF (ι := Addr × Mo × Lay) (fun i vs H => vs = [.ref i.1] ∧ MonL K H i.1 i.2.1 i.2.2 ∧ GoodM i.2.1) (fun i v H => v = .int ((Kp417.candidateWeight i.2.1 : Nat) : Int))
theorem rd_whole_weight {K : PySem.W.Frag} {mg : Str → Option Value} {h : Heap} (T : Tx K mg h) {vs : List V} {H : Hp} {Q : VK} {E : XK} (hsp : sp_whole_weight K vs H Q E) : t_whole_weight K { nx := fun _ H' => Q .non H', rt := Q } (start ["monitor", "found", "index"] vs) H := by
  obtain ⟨⟨a, m, L⟩, ⟨rfl, hM, G⟩, k⟩ := hsp
  dsimp only at hM G k ⊢
  refine Sg.go (H := H) ?_ (Ex.refl H)
  refine g_set (by wtm_at "ev") ?_
  refine g_forN (l := Kp417.candidates m) (cr_candidates T (by wtm_at "ev") hM G) fun H1 e1 => ⟨fun i σ' H' => ∃ v : Option V, σ' = [some (.ref a), some (.int (((((Kp417.candidates m).take i).map (pW m)).sum : Nat) : Int)), v] ∧ Ex H1 H', fun H2 e2 => ⟨none, rfl, e2⟩, fun i σ' H' ⟨_, _, e⟩ => e, ?_, ?_⟩
  · rintro i n σ' H' hn ⟨v, rfl, e0⟩
    have hlt := cd_mem hn
    have hM1 := hM.mono e1
    refine Sg.go (H := H1) ?_ e0
    refine g_set1 (by wtm_at "ev") fun H2 e2 => ⟨some (.int (n : Int)), ?_, e2⟩
    rw [take_snoc hn, sumN_snoc]
    rfl
  · rintro σ' H' ⟨v, rfl, e0⟩
    refine (g_retv (by wtm_at "ev") fun H2 e2 => k _ _ (e1.trans e2) ?_ : Sg _ _ _ H1).go e0
    rw [List.take_length]
    rfl
theorem ok_whole_weight {P : Program} {w : World} {K : PySem.W.Frag} {mg : Str → Option Value} {base : Heap} {h : Heap} (T : Tx K mg h) : OkF P w K mg base 6 "whole_weight" ["monitor"] (sp_whole_weight K) :=
  mkOk T (st := s_whole_weight) (N := ["monitor", "found", "index"]) 30 30 sc_whole_weight (by rintro vs H Q E ⟨_, ⟨rfl, _⟩, _⟩; rfl) (fun f cdv A outer s H vs Q E hr hsp => ⟨t_whole_weight K, (pss_cons (ps_set (i := 1) sc_whole_weight.nd rfl (Or.inl rfl) pe_int)
      (pss_cons (ps_for PassesOwn.never rfl (pi_list (pe_callO (ok_candidates T) (hr.mono (by decide)) rfl (pa_cons (pv 0) pa_nil))) (pg_name (i := 2) sc_whole_weight.nd rfl (Or.inl rfl)) (pss_one (ps_set (i := 1) sc_whole_weight.nd rfl (Or.inl rfl) (pe_op op_add (pv 1) (pe_ix ix_tup (pe_ix ix_list (pe_fld (pv 0) rfl) (pv 2) (fun _ _ => rfl)) pe_int (fun _ _ => rfl))))))
      (pss_one (ps_ret (pv 1))))), rd_whole_weight T hsp⟩) (fun _ _ _ _ _ _ us hl => match us, hl with | [_], _ => rfl)
theorem cv_whole_weight {K : PySem.W.Frag} {mg : Str → Option Value} {h : Heap} {σ : L2.St} {H : Hp} {ta : TA} (T : Tx K mg h) {a : Addr} {m : Mo} {L : Lay} (ha : EvA ta σ H [.ref a]) (hM : MonL K H a m L) (G : GoodM m) : Ev (tCall (sp_whole_weight K) [] E0 ta) σ H (.int ((Kp417.candidateWeight m : Nat) : Int)) :=
  ev_callV (f := fun i : Addr × Mo × Lay => V.int ((Kp417.candidateWeight i.2.1 : Nat) : Int)) (a, m, L) ha fun H1 e => ⟨rfl, hM.mono e, G⟩
end Pw
local macro_rules | `(tactic| wtm_at "ca") => `(tactic| ((with_reducible refine' cv_whole_weight (by assumption) ?ha ?hM ?G); (case ha => wtm_at "ev"); (case hM => wtm_at "sd"); (case G => wtm_at "sd")))
namespace Pw
open PySem PySem.Spec PyProof.Rows L2 Evl
abbrev s_belief : Stmt := top 52
theorem sc_belief : FnScope ["monitor", "policy"] ["monitor", "policy"] (defScope s_belief) := ⟨rfl, rfl, rfl, by decide +kernel, rfl, by decide +kernel, by decide +kernel⟩
def t_belief (K : PySem.W.Frag) : TS :=
    (tSeq (tIfS (tTest (tOp (rIn K true) (tVar 1) (tCall (sp_candidates K) [] E0 (tCons (tVar 0) tNil)))) (tRet (tTup (tCons (tC (.int 0)) (tCons (tC (.int 1)) tNil)))) tNext)
    (tRet (tCall (sp_lowest K) [] E0 (tCons (tOp (rIxT K) (tOp (rIxL K) (tFld K (tVar 0) "policies") (tVar 1)) (tC (.int 1))) (tCons (tCall (sp_whole_weight K) [] E0 (tCons (tVar 0) tNil)) tNil)))))
def sp_belief (K : PySem.W.Frag) : Sp := SpF (ι := Addr × Mo × Lay × Nat) (fun i vs H => vs = [.ref i.1, .int ((i.2.2.2 : Nat) : Int)] ∧ MonL K H i.1 i.2.1 i.2.2.1 ∧ GoodM i.2.1 ∧ i.2.2.2 < i.2.1.policies.length) (fun i v H => FrQ v H (Kp417.belief i.2.1 i.2.2.2))
theorem rd_belief {K : PySem.W.Frag} {mg : Str → Option Value} {h : Heap} (T : Tx K mg h) {vs : List V} {H : Hp} {Q : VK} {E : XK} (hsp : sp_belief K vs H Q E) : t_belief K { nx := fun _ H' => Q .non H', rt := Q } (start ["monitor", "policy"] vs) H := by
  obtain ⟨⟨a, m, L, i⟩, ⟨rfl, hM, G, hi⟩, k⟩ := hsp
  dsimp only at hM G hi k ⊢
  refine Sg.go (H := H) ?_ (Ex.refl H)
  refine g_when (b := !(Kp417.candidates m).contains i) (et_test (ev_notIn (by wtm_at "ev") (cr_candidates T (by wtm_at "ev") hM G))) (fun hb => ?_) (fun hb => ?_)
  · refine g_ret (er_pair ev_c ev_c) fun v H2 e2 r => k _ _ e2 ?_
    rw [belief_no fun z => by rw [List.contains_iff_mem.mpr z] at hb; cases hb]
    exact r
  · have hc : i ∈ Kp417.candidates m := List.contains_iff_mem.mp (by
      cases z : (Kp417.candidates m).contains i with
      | true => rfl
      | false =>
        rw [z] at hb
        cases hb)
    have h1 := cw_pos G hc
    have h2 := cw_le G
    refine g_ret (cr_lowest T (b := Kp417.candidateWeight m) (by wtm_at "ev") (by omega) (by omega)) fun v H2 e2 r => k _ _ e2 ?_
    rw [belief_yes hc]
    exact r
theorem ok_belief {P : Program} {w : World} {K : PySem.W.Frag} {mg : Str → Option Value} {base : Heap} {h : Heap} (T : Tx K mg h) : OkF P w K mg base 7 "belief" ["monitor", "policy"] (sp_belief K) :=
  mkOk T (st := s_belief) (N := ["monitor", "policy"]) 31 31 sc_belief (by rintro vs H Q E ⟨_, ⟨rfl, _⟩, _⟩; rfl) (fun f cdv A outer s H vs Q E hr hsp => ⟨t_belief K, (pss_cons (ps_if (pt_cmpR op_notIn_seq (pv 1) (pe_callO (ok_candidates T) (hr.mono (by decide)) rfl (pa_cons (pv 0) pa_nil)) rfl) (pss_one (ps_ret (pe_tup (pa_cons pe_int (pa_cons pe_int pa_nil))))) pss_nil)
      (pss_one (ps_ret (pe_callO (ok_lowest T) (hr.mono (by decide)) rfl (pa_cons (pe_ix ix_tup (pe_ix ix_list (pe_fld (pv 0) rfl) (pv 1) (fun _ _ => rfl)) pe_int (fun _ _ => rfl)) (pa_cons (pe_callO (ok_whole_weight T) (hr.mono (by decide)) rfl (pa_cons (pv 0) pa_nil)) pa_nil)))))), rd_belief T hsp⟩) (fun _ _ _ _ _ _ us hl => match us, hl with | [_, _], _ => rfl)
theorem cr_belief {K : PySem.W.Frag} {mg : Str → Option Value} {h : Heap} {σ : L2.St} {H : Hp} {ta : TA} (T : Tx K mg h) {a : Addr} {m : Mo} {L : Lay} {i : Nat} (ha : EvA ta σ H [.ref a, .int ((i : Nat) : Int)]) (hM : MonL K H a m L) (G : GoodM m) (hi : i < m.policies.length) : EvR (tCall (sp_belief K) [] E0 ta) σ H (fun v H => FrQ v H (Kp417.belief m i)) :=
  er_callV (R := fun (i : Addr × Mo × Lay × Nat) v H => FrQ v H (Kp417.belief i.2.1 i.2.2.2)) (a, m, L, i) ha fun H1 e => ⟨rfl, hM.mono e, G, hi⟩
abbrev s_honest_belief : Stmt := top 53
theorem sc_honest_belief : FnScope ["monitor", "index"] ["monitor"] (defScope s_honest_belief) := ⟨rfl, rfl, rfl, by decide +kernel, rfl, by decide +kernel, by decide +kernel⟩
def t_honest_belief (K : PySem.W.Frag) : TS :=
    (tSeq (tFor (iRng1 (tCons (tCB (rLenS K) (tCons (tFld K (tVar 0) "policies") tNil)) tNil)) (gName 1) (tIfS (tB (tEqI (tOp (rIxT K) (tOp (rIxL K) (tFld K (tVar 0) "policies") (tVar 1)) (tC (.int 0))) (tC (.int 0)))) (tRet (tCall (sp_belief K) [] E0 (tCons (tVar 0) (tCons (tVar 1) tNil)))) tNext))
    (tRet (tTup (tCons (tC (.int 0)) (tCons (tC (.int 1)) tNil)))))
def sp_honest_belief (K : PySem.W.Frag) : Sp := SpF (ι := Addr × Mo × Lay) (fun i vs H => vs = [.ref i.1] ∧ MonL K H i.1 i.2.1 i.2.2 ∧ GoodM i.2.1) (fun i v H => FrQ v H (hon i.2.1))
theorem rd_honest_belief {K : PySem.W.Frag} {mg : Str → Option Value} {h : Heap} (T : Tx K mg h) {vs : List V} {H : Hp} {Q : VK} {E : XK} (hsp : sp_honest_belief K vs H Q E) : t_honest_belief K { nx := fun _ H' => Q .non H', rt := Q } (start ["monitor", "index"] vs) H := by
  obtain ⟨⟨a, m, L⟩, ⟨rfl, hM, G⟩, k⟩ := hsp
  dsimp only at hM G k ⊢
  have g6 := G.p6
  refine Sg.go (H := H) ?_ (Ex.refl H)
  refine g_forR (n := m.policies.length) (by wtm_at "ev") (by omega) (fun i σ' H' => (∃ v : Option V, σ' = [some (.ref a), v]) ∧ Ex H H' ∧ ∀ j, j < i → pC m j ≠ 0) (fun H1 e => ⟨⟨none, rfl⟩, e, fun j hj => absurd hj (Nat.not_lt_zero _)⟩) ?_ ?_
  · rintro i σ' H' hi ⟨⟨v, rfl⟩, e0, hall⟩
    refine Sg.go (H := H) ?_ e0
    refine g_if1 (b := decide (((pC m i : Nat) : Int) = 0)) (by wtm_at "ev") (fun hb => ?_) (fun hb => ?_)
    · have h0 : pC m i = 0 := by
        have := of_decide_eq_true hb
        omega
      refine g_ret (cr_belief T (by wtm_at "ev") hM G hi) fun v H2 e2 r => k _ _ e2 ?_
      rw [hon_some G.nd hi h0]
      exact r
    · refine g_next fun H2 e2 => ⟨⟨_, rfl⟩, e2, fun j hj => ?_⟩
      by_cases c : j = i
      · subst c
        intro z
        have := of_decide_eq_false hb
        omega
      · exact hall j (by omega)
  · rintro σ' H' ⟨⟨v, rfl⟩, e0, hall⟩
    refine (g_ret (er_pair ev_c ev_c) fun v H2 e2 r => k _ _ e2 ?_ : Sg _ _ _ H).go e0
    rw [hon_none hall]
    exact r
theorem ok_honest_belief {P : Program} {w : World} {K : PySem.W.Frag} {mg : Str → Option Value} {base : Heap} {h : Heap} (T : Tx K mg h) : OkF P w K mg base 8 "honest_belief" ["monitor"] (sp_honest_belief K) :=
  mkOk T (st := s_honest_belief) (N := ["monitor", "index"]) 32 32 sc_honest_belief (by rintro vs H Q E ⟨_, ⟨rfl, _⟩, _⟩; rfl) (fun f cdv A outer s H vs Q E hr hsp => ⟨t_honest_belief K, (pss_cons (ps_for PassesOwn.never rfl (pi_range1 rfl (T.free 97) (pa_cons (pe_callB call_len_seq rfl (T.free 95) bt_len (pa_cons (pe_fld (pv 0) rfl) pa_nil)) pa_nil)) (pg_name (i := 1) sc_honest_belief.nd rfl (Or.inl rfl)) (pss_one (ps_if (pt_cmp (pc_eqI (pe_ix ix_tup (pe_ix ix_list (pe_fld (pv 0) rfl) (pv 1) (fun _ _ => rfl)) pe_int (fun _ _ => rfl)) pe_int)) (pss_one (ps_ret (pe_callO (ok_belief T) (hr.mono (by decide)) rfl (pa_cons (pv 0) (pa_cons (pv 1) pa_nil))))) pss_nil)))
      (pss_one (ps_ret (pe_tup (pa_cons pe_int (pa_cons pe_int pa_nil)))))), rd_honest_belief T hsp⟩) (fun _ _ _ _ _ _ us hl => match us, hl with | [_], _ => rfl)
theorem cr_honest_belief {K : PySem.W.Frag} {mg : Str → Option Value} {h : Heap} {σ : L2.St} {H : Hp} {ta : TA} (T : Tx K mg h) {a : Addr} {m : Mo} {L : Lay} (ha : EvA ta σ H [.ref a]) (hM : MonL K H a m L) (G : GoodM m) : EvR (tCall (sp_honest_belief K) [] E0 ta) σ H (fun v H => FrQ v H (hon m)) :=
  er_callV (R := fun (i : Addr × Mo × Lay) v H => FrQ v H (hon i.2.1)) (a, m, L) ha fun H1 e => ⟨rfl, hM.mono e, G⟩
theorem cv_weight_of {K : PySem.W.Frag} {mg : Str → Option Value} {h : Heap} {σ : L2.St} {H : Hp} {ta tb : TE} (T : Tx K mg h) {l : Addr} {ws : List Nat} {c : Nat} (ha : Ev ta σ H (.ref l)) (hl : H l = some (.lst (nats ws))) (hb : Ev tb σ H (.int ((c : Nat) : Int))) (hn : ws.length ≤ 5) :
    Ev (tCall (sp_weight_of K) [] E0 (tCons ta (tCons tb tNil))) σ H (.int ((setW ws c : Nat) : Int)) :=
  ev_callV (f := fun i : Addr × List Nat × Nat => V.int ((setW i.2.1 i.2.2 : Nat) : Int)) (l, ws, c) (ea_cons ha (ea_cons hb ea_nil)) fun H1 e => ⟨rfl, e _ _ hl, hn⟩
abbrev s_harm_top : Stmt := top 54
theorem sc_harm_top : FnScope ["monitor", "policy"] ["monitor", "policy"] (defScope s_harm_top) := ⟨rfl, rfl, rfl, by decide +kernel, rfl, by decide +kernel, by decide +kernel⟩
def t_harm_top (K : PySem.W.Frag) : TS :=
    (tRet (tCall (sp_weight_of K) [] E0 (tCons (tFld K (tFld K (tVar 0) "setting") "production_weights") (tCons (tOp (rIxT K) (tOp (rIxL K) (tFld K (tVar 0) "policies") (tVar 1)) (tC (.int 0))) tNil))))
def sp_harm_top (K : PySem.W.Frag) : Sp := SpF (ι := Addr × Mo × Lay × Nat) (fun i vs H => vs = [.ref i.1, .int ((i.2.2.2 : Nat) : Int)] ∧ MonL K H i.1 i.2.1 i.2.2.1 ∧ GoodM i.2.1 ∧ i.2.2.2 < i.2.1.policies.length) (fun i v H => v = .int ((hTop i.2.1 i.2.2.2 : Nat) : Int))
theorem rd_harm_top {K : PySem.W.Frag} {mg : Str → Option Value} {h : Heap} (T : Tx K mg h) {vs : List V} {H : Hp} {Q : VK} {E : XK} (hsp : sp_harm_top K vs H Q E) : t_harm_top K { nx := fun _ H' => Q .non H', rt := Q } (start ["monitor", "policy"] vs) H := by
  obtain ⟨⟨a, m, L, i⟩, ⟨rfl, hM, G, hi⟩, k⟩ := hsp
  dsimp only at hM G hi k ⊢
  have hn : (pws m.setting).length ≤ 5 := by rw [G.s.len]; exact G.s.n5
  obtain ⟨l, h1, h2⟩ := evM_pws (σ := L2.start ["monitor", "policy"] [.ref a, .int ((i : Nat) : Int)]) (ta := tVar 0) T hM (ev_var rfl)
  refine Sg.go (H := H) ?_ (Ex.refl H)
  exact g_retv (cv_weight_of T h1 h2 (by wtm_at "ev") hn) fun H2 e2 => k _ _ e2 rfl
theorem ok_harm_top {P : Program} {w : World} {K : PySem.W.Frag} {mg : Str → Option Value} {base : Heap} {h : Heap} (T : Tx K mg h) : OkF P w K mg base 4 "harm_top" ["monitor", "policy"] (sp_harm_top K) :=
  mkOk T (st := s_harm_top) (N := ["monitor", "policy"]) 33 33 sc_harm_top (by rintro vs H Q E ⟨_, ⟨rfl, _⟩, _⟩; rfl) (fun f cdv A outer s H vs Q E hr hsp => ⟨t_harm_top K, (pss_one (ps_ret (pe_callO (ok_weight_of T) (hr.mono (by decide)) rfl (pa_cons (pe_fld (pe_fld (pv 0) rfl) rfl) (pa_cons (pe_ix ix_tup (pe_ix ix_list (pe_fld (pv 0) rfl) (pv 1) (fun _ _ => rfl)) pe_int (fun _ _ => rfl)) pa_nil))))), rd_harm_top T hsp⟩) (fun _ _ _ _ _ _ us hl => match us, hl with | [_, _], _ => rfl)
theorem cv_harm_top {K : PySem.W.Frag} {mg : Str → Option Value} {h : Heap} {σ : L2.St} {H : Hp} {ta : TA} (T : Tx K mg h) {a : Addr} {m : Mo} {L : Lay} {i : Nat} (ha : EvA ta σ H [.ref a, .int ((i : Nat) : Int)]) (hM : MonL K H a m L) (G : GoodM m) (hi : i < m.policies.length) : Ev (tCall (sp_harm_top K) [] E0 ta) σ H (.int ((hTop m i : Nat) : Int)) :=
  ev_callV (f := fun i : Addr × Mo × Lay × Nat => V.int ((hTop i.2.1 i.2.2.2 : Nat) : Int)) (a, m, L, i) ha fun H1 e => ⟨rfl, hM.mono e, G, hi⟩
end Pw
local macro_rules | `(tactic| wtm_at "ca") => `(tactic| ((with_reducible refine' cv_harm_top (by assumption) ?ha ?hM ?G ?hi); (case ha => wtm_at "ev"); (case hM => wtm_at "sd"); (case G => wtm_at "sd"); (case hi => wtm_at "sd")))
namespace Pw
open PySem PySem.Spec PyProof.Rows L2 Evl
abbrev s_harm_of : Stmt := top 55
theorem sc_harm_of : FnScope ["monitor", "policy"] ["monitor", "policy"] (defScope s_harm_of) := ⟨rfl, rfl, rfl, by decide +kernel, rfl, by decide +kernel, by decide +kernel⟩
def t_harm_of (K : PySem.W.Frag) : TS :=
    (tRet (tCall (sp_lowest K) [] E0 (tCons (tCall (sp_harm_top K) [] E0 (tCons (tVar 0) (tCons (tVar 1) tNil))) (tCons (tCB (rSum K) (tCons (tFld K (tFld K (tVar 0) "setting") "production_weights") tNil)) tNil))))
def sp_harm_of (K : PySem.W.Frag) : Sp := SpF (ι := Addr × Mo × Lay × Nat) (fun i vs H => vs = [.ref i.1, .int ((i.2.2.2 : Nat) : Int)] ∧ MonL K H i.1 i.2.1 i.2.2.1 ∧ GoodM i.2.1 ∧ i.2.2.2 < i.2.1.policies.length) (fun i v H => FrQ v H (Kp417.harmOf i.2.1 i.2.2.2))
theorem rd_harm_of {K : PySem.W.Frag} {mg : Str → Option Value} {h : Heap} (T : Tx K mg h) {vs : List V} {H : Hp} {Q : VK} {E : XK} (hsp : sp_harm_of K vs H Q E) : t_harm_of K { nx := fun _ H' => Q .non H', rt := Q } (start ["monitor", "policy"] vs) H := by
  obtain ⟨⟨a, m, L, i⟩, ⟨rfl, hM, G, hi⟩, k⟩ := hsp
  dsimp only at hM G hi k ⊢
  have h1 := G.s.p1
  have h2 := G.s.p9
  refine Sg.go (H := H) ?_ (Ex.refl H)
  refine g_ret (cr_lowest T (b := (pws m.setting).sum) (by wtm_at "ev") (by omega) (by omega)) fun v H2 e2 r => k _ _ e2 ?_
  rw [harmOf_eq]
  exact r
theorem ok_harm_of {P : Program} {w : World} {K : PySem.W.Frag} {mg : Str → Option Value} {base : Heap} {h : Heap} (T : Tx K mg h) : OkF P w K mg base 5 "harm_of" ["monitor", "policy"] (sp_harm_of K) :=
  mkOk T (st := s_harm_of) (N := ["monitor", "policy"]) 34 34 sc_harm_of (by rintro vs H Q E ⟨_, ⟨rfl, _⟩, _⟩; rfl) (fun f cdv A outer s H vs Q E hr hsp => ⟨t_harm_of K, (pss_one (ps_ret (pe_callO (ok_lowest T) (hr.mono (by decide)) rfl (pa_cons (pe_callO (ok_harm_top T) (hr.mono (by decide)) rfl (pa_cons (pv 0) (pa_cons (pv 1) pa_nil))) (pa_cons (pe_callB (cr_sum rfl) rfl (T.free 96) bt_sum (pa_cons (pe_fld (pe_fld (pv 0) rfl) rfl) pa_nil)) pa_nil))))), rd_harm_of T hsp⟩) (fun _ _ _ _ _ _ us hl => match us, hl with | [_, _], _ => rfl)
theorem cr_harm_of {K : PySem.W.Frag} {mg : Str → Option Value} {h : Heap} {σ : L2.St} {H : Hp} {ta : TA} (T : Tx K mg h) {a : Addr} {m : Mo} {L : Lay} {i : Nat} (ha : EvA ta σ H [.ref a, .int ((i : Nat) : Int)]) (hM : MonL K H a m L) (G : GoodM m) (hi : i < m.policies.length) : EvR (tCall (sp_harm_of K) [] E0 ta) σ H (fun v H => FrQ v H (Kp417.harmOf m i)) :=
  er_callV (R := fun (i : Addr × Mo × Lay × Nat) v H => FrQ v H (Kp417.harmOf i.2.1 i.2.2.2)) (a, m, L, i) ha fun H1 e => ⟨rfl, hM.mono e, G, hi⟩
end Pw
namespace Pw
open PySem PySem.Spec PyProof.Rows L2 Evl
theorem nTop_le {m : Mo} (G : GoodM m) : nTop m ≤ 300000 := by
  have h1 : nTop m ≤ (Kp417.candidates m).length * (99 * 495) := sum_bd fun i hi => Nat.mul_le_mul (pW1 G (cand_lt hi)).2 (Nat.le_trans (setW_le _ _) G.s.p9)
  have h2 := cand_len G
  have h3 : (Kp417.candidates m).length * (99 * 495) ≤ 6 * (99 * 495) := Nat.mul_le_mul_right _ h2
  omega
theorem hTop_le {m : Mo} (G : GoodM m) (i : Nat) : hTop m i ≤ 495 := Nat.le_trans (setW_le _ _) G.s.p9
theorem dTop_le {m : Mo} (G : GoodM m) (i : Nat) : dTop m i ≤ (tws m.setting).sum := setW_le _ _
theorem nb_pos {m : Mo} (G : GoodM m) {i : Nat} (hi : i ∈ Kp417.candidates m) : 0 < Kp417.candidateWeight m * (pws m.setting).sum := Nat.mul_pos (cw_pos G hi) G.s.p1
theorem nb_lt {m : Mo} (G : GoodM m) : Kp417.candidateWeight m * (pws m.setting).sum ≤ 300000 := by
  have h1 : Kp417.candidateWeight m * (pws m.setting).sum ≤ 600 * 495 := Nat.mul_le_mul (cw_le G) G.s.p9
  omega
theorem smQ_next {m : Mo} (G : GoodM m) : SmQ (Kp417.nextHarm m) := by
  cases e : Kp417.candidates m with
  | nil =>
    rw [nextHarm_none e]
    exact smQ_0
  | cons c r =>
    have hc : c ∈ Kp417.candidates m := by
      rw [e]
      exact List.mem_cons_self
    have h1 := nTop_le G
    have h2 := nb_lt G
    rw [nextHarm_eq (cw_pos G hc) G.s.p1]
    exact smQ_low (nb_pos G hc) (nb_nat (by omega)) (by omega)
theorem isEmpty_t {α : Type} {l : List α} (h : l.isEmpty = true) : l = [] := List.isEmpty_iff.mp h
theorem isEmpty_f {α : Type} {l : List α} (h : l.isEmpty = false) : ∃ c r, l = c :: r := by
  cases l with
  | nil => cases h
  | cons c r => exact ⟨c, r, rfl⟩
abbrev s_next_harm : Stmt := top 56
theorem sc_next_harm : FnScope ["monitor", "some", "top", "index"] ["monitor"] (defScope s_next_harm) := ⟨rfl, rfl, rfl, by decide +kernel, rfl, by decide +kernel, by decide +kernel⟩
def t_next_harm (K : PySem.W.Frag) : TS :=
    (tSeq (tAsg (tCall (sp_candidates K) [] E0 (tCons (tVar 0) tNil)) (gName 1))
    (tSeq (tIfS (tTest (tOp (rEqD K) (tVar 1) (tLst tNil))) (tRet (tTup (tCons (tC (.int 0)) (tCons (tC (.int 1)) tNil)))) tNext)
    (tSeq (tAsg (tC (.int 0)) (gName 2))
    (tSeq (tFor (iList K (tVar 1)) (gName 3) (tAsg (tOp (rI0 fun i j => .int (i + j)) (tVar 2) (tOp (rI CMul fun i j => .int (i * j)) (tOp (rIxT K) (tOp (rIxL K) (tFld K (tVar 0) "policies") (tVar 3)) (tC (.int 1))) (tCall (sp_harm_top K) [] E0 (tCons (tVar 0) (tCons (tVar 3) tNil))))) (gName 2)))
    (tRet (tCall (sp_lowest K) [] E0 (tCons (tVar 2) (tCons (tOp (rI CMul fun i j => .int (i * j)) (tCall (sp_whole_weight K) [] E0 (tCons (tVar 0) tNil)) (tCB (rSum K) (tCons (tFld K (tFld K (tVar 0) "setting") "production_weights") tNil))) tNil))))))))
def sp_next_harm (K : PySem.W.Frag) : Sp := SpF (ι := Addr × Mo × Lay) (fun i vs H => vs = [.ref i.1] ∧ MonL K H i.1 i.2.1 i.2.2 ∧ GoodM i.2.1) (fun i v H => FrQ v H (Kp417.nextHarm i.2.1))
theorem rd_next_harm {K : PySem.W.Frag} {mg : Str → Option Value} {h : Heap} (T : Tx K mg h) {vs : List V} {H : Hp} {Q : VK} {E : XK} (hsp : sp_next_harm K vs H Q E) : t_next_harm K { nx := fun _ H' => Q .non H', rt := Q } (start ["monitor", "some", "top", "index"] vs) H := by
  obtain ⟨⟨a, m, L⟩, ⟨rfl, hM, G⟩, k⟩ := hsp
  dsimp only at hM G k ⊢
  refine Sg.go (H := H) ?_ (Ex.refl H)
  refine g_setR (cr_candidates T (by wtm_at "ev") hM G) fun sv H1 e1 hs => ?_
  have hM1 := hM.mono e1
  refine g_when (b := (Kp417.candidates m).isEmpty) (et_test (ev_nil (er_w (er_v (ev_var rfl)) fun v H2 e2 r => by rw [r]; exact hs.mono e2))) (fun hb => ?_) (fun hb => ?_)
  · refine g_ret (er_pair ev_c ev_c) fun v H2 e2 r => k _ _ (e1.trans e2) ?_
    rw [nextHarm_none (isEmpty_t hb)]
    exact r
  · obtain ⟨c, r, hcr⟩ := isEmpty_f hb
    have hc : c ∈ Kp417.candidates m := by
      rw [hcr]
      exact List.mem_cons_self
    have b1 := nb_lt G
    have b2 := cw_le G
    have b3 := G.s.p9
    refine g_set (by wtm_at "ev") ?_
    refine g_forN (l := Kp417.candidates m) (er_w (er_v (ev_var rfl)) fun v H2 e2 r => by rw [r]; exact hs.mono e2) fun H2 e2 => ⟨fun i σ' H' => ∃ v : Option V, σ' = [some (.ref a), some sv, some (.int (((((Kp417.candidates m).take i).map fun i => pW m i * hTop m i).sum : Nat) : Int)), v] ∧ Ex H2 H', fun H3 e3 => ⟨none, rfl, e3⟩, fun i σ' H' ⟨_, _, e⟩ => e, ?_, ?_⟩
    · rintro i n σ' H' hn ⟨v, rfl, e0⟩
      have hlt := cd_mem hn
      have hM2 := hM1.mono e2
      have w9 : (Kp417.policyAt m n).weight ≤ 99 := (pW1 G hlt).2
      refine Sg.go (H := H2) ?_ e0
      refine g_set1 (by wtm_at "ev") fun H3 e3 => ⟨some (.int (n : Int)), ?_, e3⟩
      rw [take_snoc hn, sumN_snoc, Int.natCast_add, Int.natCast_mul]
      rfl
    · rintro σ' H' ⟨v, rfl, e0⟩
      have hM2 := hM1.mono e2
      rw [List.take_length]
      refine (g_ret (cr_lowest' T (b := Kp417.candidateWeight m * (pws m.setting).sum) (by wtm_at "ev") (by rw [Int.natCast_mul]) (nb_pos G hc) (by omega)) fun v H3 e3 r => k _ _ ((e1.trans e2).trans e3) ?_ : Sg _ _ _ H2).go e0
      rw [nextHarm_eq (cw_pos G hc) G.s.p1]
      exact r
theorem ok_next_harm {P : Program} {w : World} {K : PySem.W.Frag} {mg : Str → Option Value} {base : Heap} {h : Heap} (T : Tx K mg h) : OkF P w K mg base 7 "next_harm" ["monitor"] (sp_next_harm K) :=
  mkOk T (st := s_next_harm) (N := ["monitor", "some", "top", "index"]) 35 35 sc_next_harm (by rintro vs H Q E ⟨_, ⟨rfl, _⟩, _⟩; rfl) (fun f cdv A outer s H vs Q E hr hsp => ⟨t_next_harm K, (pss_cons (ps_set (i := 1) sc_next_harm.nd rfl (Or.inl rfl) (pe_callO (ok_candidates T) (hr.mono (by decide)) rfl (pa_cons (pv 0) pa_nil)))
      (pss_cons (ps_if (pt_cmpR (op_eqD hr.units) (pv 1) (pe_lst pa_nil) (nomark _)) (pss_one (ps_ret (pe_tup (pa_cons pe_int (pa_cons pe_int pa_nil))))) pss_nil)
      (pss_cons (ps_set (i := 2) sc_next_harm.nd rfl (Or.inl rfl) pe_int)
      (pss_cons (ps_for PassesOwn.never rfl (pi_list (pv 1)) (pg_name (i := 3) sc_next_harm.nd rfl (Or.inl rfl)) (pss_one (ps_set (i := 2) sc_next_harm.nd rfl (Or.inl rfl) (pe_op op_add (pv 2) (pe_op op_mul (pe_ix ix_tup (pe_ix ix_list (pe_fld (pv 0) rfl) (pv 3) (fun _ _ => rfl)) pe_int (fun _ _ => rfl)) (pe_callO (ok_harm_top T) (hr.mono (by decide)) rfl (pa_cons (pv 0) (pa_cons (pv 3) pa_nil))))))))
      (pss_one (ps_ret (pe_callO (ok_lowest T) (hr.mono (by decide)) rfl (pa_cons (pv 2) (pa_cons (pe_op op_mul (pe_callO (ok_whole_weight T) (hr.mono (by decide)) rfl (pa_cons (pv 0) pa_nil)) (pe_callB (cr_sum rfl) rfl (T.free 96) bt_sum (pa_cons (pe_fld (pe_fld (pv 0) rfl) rfl) pa_nil))) pa_nil))))))))), rd_next_harm T hsp⟩) (fun _ _ _ _ _ _ us hl => match us, hl with | [_], _ => rfl)
theorem cr_next_harm {K : PySem.W.Frag} {mg : Str → Option Value} {h : Heap} {σ : L2.St} {H : Hp} {ta : TA} (T : Tx K mg h) {a : Addr} {m : Mo} {L : Lay} (ha : EvA ta σ H [.ref a]) (hM : MonL K H a m L) (G : GoodM m) : EvR (tCall (sp_next_harm K) [] E0 ta) σ H (fun v H => FrQ v H (Kp417.nextHarm m)) :=
  er_callV (R := fun (i : Addr × Mo × Lay) v H => FrQ v H (Kp417.nextHarm i.2.1)) (a, m, L) ha fun H1 e => ⟨rfl, hM.mono e, G⟩
abbrev s_worst_candidate : Stmt := top 57
theorem sc_worst_candidate : FnScope ["monitor", "some", "found", "index"] ["monitor"] (defScope s_worst_candidate) := ⟨rfl, rfl, rfl, by decide +kernel, rfl, by decide +kernel, by decide +kernel⟩
def t_worst_candidate (K : PySem.W.Frag) : TS :=
    (tSeq (tAsg (tCall (sp_candidates K) [] E0 (tCons (tVar 0) tNil)) (gName 1))
    (tSeq (tAsg (tOp (rIxL K) (tVar 1) (tC (.int 0))) (gName 2))
    (tSeq (tFor (iList K (tVar 1)) (gName 3) (tIfS (tB (tGt (tCall (sp_harm_top K) [] E0 (tCons (tVar 0) (tCons (tVar 3) tNil))) (tCall (sp_harm_top K) [] E0 (tCons (tVar 0) (tCons (tVar 2) tNil))))) (tAsg (tVar 3) (gName 2)) tNext))
    (tRet (tVar 2)))))
def sp_worst_candidate (K : PySem.W.Frag) : Sp := SpF (ι := Addr × Mo × Lay × Nat) (fun i vs H => vs = [.ref i.1] ∧ MonL K H i.1 i.2.1 i.2.2.1 ∧ GoodM i.2.1 ∧ Kp417.worstCandidate i.2.1 = some i.2.2.2) (fun i v H => v = .int ((i.2.2.2 : Nat) : Int))
theorem rd_worst_candidate {K : PySem.W.Frag} {mg : Str → Option Value} {h : Heap} (T : Tx K mg h) {vs : List V} {H : Hp} {Q : VK} {E : XK} (hsp : sp_worst_candidate K vs H Q E) : t_worst_candidate K { nx := fun _ H' => Q .non H', rt := Q } (start ["monitor", "some", "found", "index"] vs) H := by
  obtain ⟨⟨a, m, L, w⟩, ⟨rfl, hM, G, hw⟩, k⟩ := hsp
  dsimp only at hM G hw k ⊢
  have hce : ∃ c r, Kp417.candidates m = c :: r := by
    cases e : Kp417.candidates m with
    | nil =>
      rw [worst_nil e] at hw
      cases hw
    | cons c r => exact ⟨c, r, rfl⟩
  obtain ⟨c, r, hcr⟩ := hce
  rw [worst_eq G.s.p1 hcr] at hw
  have hw := Option.some.inj hw
  have hc : c ∈ Kp417.candidates m := by
    rw [hcr]
    exact List.mem_cons_self
  refine Sg.go (H := H) ?_ (Ex.refl H)
  refine g_setR (cr_candidates T (by wtm_at "ev") hM G) fun sv H1 e1 hs => ?_
  have hM1 := hM.mono e1
  obtain ⟨p, rfl, hp⟩ := hs
  have h0 : (Kp417.candidates m).getD 0 0 = c := by rw [hcr]; rfl
  refine g_set (v := .int ((c : Nat) : Int)) (ev_i (ev_ixN (i := 0) (ev_var rfl) hp ev_c (by rw [hcr]; exact Nat.succ_pos _)) (by rw [h0])) ?_
  refine g_forN (l := Kp417.candidates m) (er_w (er_v (ev_var rfl)) fun v H2 e2 r => by rw [r]; exact ⟨p, rfl, e2 _ _ hp⟩) fun H2 e2 => ⟨fun i σ' H' => (∃ v : Option V, σ' = [some (.ref a), some (.ref p), some (.int (((((Kp417.candidates m).take i).foldl (wStep m) c : Nat)) : Int)), v]) ∧ Ex H2 H', fun H3 e3 => ⟨⟨none, rfl⟩, e3⟩, fun i σ' H' ⟨_, e⟩ => e, ?_, ?_⟩
  · rintro i n σ' H' hn ⟨⟨v, rfl⟩, e0⟩
    have hlt := cd_mem hn
    have hM2 := hM1.mono e2
    have hlt2 : ((Kp417.candidates m).take i).foldl (wStep m) c < m.policies.length := cand_lt (fold_mem (S := Kp417.candidates m) _ c hc fun x hx => List.mem_of_mem_take hx)
    refine Sg.go (H := H2) ?_ e0
    have st : ((Kp417.candidates m).take (i + 1)).foldl (wStep m) c = wStep m (((Kp417.candidates m).take i).foldl (wStep m) c) n := by
      rw [take_snoc hn, List.foldl_append]
      rfl
    obtain ⟨b, hbe⟩ : ∃ b, b = ((Kp417.candidates m).take i).foldl (wStep m) c := ⟨_, rfl⟩
    rw [← hbe] at hlt2 st ⊢
    refine g_if1 (b := decide (((hTop m b : Nat) : Int) < ((hTop m n : Nat) : Int))) (by wtm_at "ev") (fun hb => ?_) (fun hb => ?_)
    · refine g_set1 (ev_var rfl) fun H3 e3 => ⟨⟨some (.int (n : Int)), ?_⟩, e3⟩
      have z : wStep m b n = n := by
        unfold wStep
        rw [if_pos (by have := of_decide_eq_true hb; omega)]
      rw [st, z]
      rfl
    · refine g_next fun H3 e3 => ⟨⟨some (.int (n : Int)), ?_⟩, e3⟩
      have z : wStep m b n = b := by
        unfold wStep
        rw [if_neg (by have := of_decide_eq_false hb; omega)]
      rw [st, z]
      rfl
  · rintro σ' H' ⟨⟨v, rfl⟩, e0⟩
    rw [List.take_length, hw]
    exact (g_retv (ev_var rfl) fun H3 e3 => k _ _ ((e1.trans e2).trans e3) rfl : Sg _ _ _ H2).go e0
theorem ok_worst_candidate {P : Program} {w : World} {K : PySem.W.Frag} {mg : Str → Option Value} {base : Heap} {h : Heap} (T : Tx K mg h) : OkF P w K mg base 6 "worst_candidate" ["monitor"] (sp_worst_candidate K) :=
  mkOk T (st := s_worst_candidate) (N := ["monitor", "some", "found", "index"]) 36 36 sc_worst_candidate (by rintro vs H Q E ⟨_, ⟨rfl, _⟩, _⟩; rfl) (fun f cdv A outer s H vs Q E hr hsp => ⟨t_worst_candidate K, (pss_cons (ps_set (i := 1) sc_worst_candidate.nd rfl (Or.inl rfl) (pe_callO (ok_candidates T) (hr.mono (by decide)) rfl (pa_cons (pv 0) pa_nil)))
      (pss_cons (ps_set (i := 2) sc_worst_candidate.nd rfl (Or.inl rfl) (pe_ix ix_list (pv 1) pe_int (fun _ _ => rfl)))
      (pss_cons (ps_for PassesOwn.never rfl (pi_list (pv 1)) (pg_name (i := 3) sc_worst_candidate.nd rfl (Or.inl rfl)) (pss_one (ps_if (pt_cmp (pc_gt (pe_callO (ok_harm_top T) (hr.mono (by decide)) rfl (pa_cons (pv 0) (pa_cons (pv 3) pa_nil))) (pe_callO (ok_harm_top T) (hr.mono (by decide)) rfl (pa_cons (pv 0) (pa_cons (pv 2) pa_nil))))) (pss_one (ps_set (i := 2) sc_worst_candidate.nd rfl (Or.inl rfl) (pv 3))) pss_nil)))
      (pss_one (ps_ret (pv 2)))))), rd_worst_candidate T hsp⟩) (fun _ _ _ _ _ _ us hl => match us, hl with | [_], _ => rfl)
theorem cv_worst_candidate {K : PySem.W.Frag} {mg : Str → Option Value} {h : Heap} {σ : L2.St} {H : Hp} {ta : TA} (T : Tx K mg h) {a : Addr} {m : Mo} {L : Lay} {w : Nat} (ha : EvA ta σ H [.ref a]) (hM : MonL K H a m L) (G : GoodM m) (hw : Kp417.worstCandidate m = some w) : Ev (tCall (sp_worst_candidate K) [] E0 ta) σ H (.int ((w : Nat) : Int)) :=
  ev_callV (f := fun i : Addr × Mo × Lay × Nat => V.int ((i.2.2.2 : Nat) : Int)) (a, m, L, w) ha fun H1 e => ⟨rfl, hM.mono e, G, hw⟩
/-! a known fraction less than one that is reckoned; the other way round -/
section
variable {K : PySem.W.Frag} {mg : Str → Option Value} {h : Heap} {σ : L2.St} {H : Hp} {ta tb : TE}
theorem cv_less_vR (T : Tx K mg h) {v1 : V} {n d : Nat} {q : Rat} (ha : Ev ta σ H v1) (h1 : FrI v1 H ((n : Nat) : Int) ((d : Nat) : Int)) (hb : EvR tb σ H (fun v H => FrQ v H q)) (hn : n < 2 ^ 200) (hd : d < 2 ^ 200) (d1 : 1 ≤ d) (s2 : SmQ q) :
    Ev (tCall (sp_is_less K) [] E0 (tCons ta (tCons tb tNil))) σ H (.bl (decide (Kp415.toRat n d < q))) :=
  ev_of (er_callX (ear_cons ha (ear_one hb)) fun vs H1 e r => by
    obtain ⟨r', rfl, v, rfl, hv⟩ := r
    refine ⟨((v1, v), (((n : Nat) : Int), ((d : Nat) : Int)), (q.num, (q.den : Int))), ⟨rfl, h1.mono e, hv, nb_nat hn, nb_nat hd, s2.1, s2.den⟩, fun v' H2 _ q' => ?_⟩
    rw [q']
    congr 1
    rw [Bool.eq_iff_iff, decide_eq_true_eq, decide_eq_true_eq]
    exact raw_less q d1)
theorem cv_less_Rv (T : Tx K mg h) {v2 : V} {n d : Nat} {q : Rat} (ha : EvR ta σ H (fun v H => FrQ v H q)) (hb : Ev tb σ H v2) (h2 : FrI v2 H ((n : Nat) : Int) ((d : Nat) : Int)) (hn : n < 2 ^ 200) (hd : d < 2 ^ 200) (d1 : 1 ≤ d) (s1 : SmQ q) :
    Ev (tCall (sp_is_less K) [] E0 (tCons ta (tCons tb tNil))) σ H (.bl (decide (q < Kp415.toRat n d))) :=
  ev_of (er_callX (ear_consR ha (fun _ _ _ e => FrI.mono e) (ea_cons hb ea_nil)) fun vs H1 e r => by
    obtain ⟨v, rfl, hv⟩ := r
    refine ⟨((v, v2), (q.num, (q.den : Int)), (((n : Nat) : Int), ((d : Nat) : Int))), ⟨rfl, hv, h2.mono e, s1.1, s1.den, nb_nat hn, nb_nat hd⟩, fun v' H2 _ q' => ?_⟩
    rw [q']
    congr 1
    rw [Bool.eq_iff_iff, decide_eq_true_eq, decide_eq_true_eq]
    exact less_raw q d1)
end
abbrev s_is_allowed : Stmt := top 58
theorem sc_is_allowed : FnScope ["monitor"] ["monitor"] (defScope s_is_allowed) := ⟨rfl, rfl, rfl, by decide +kernel, rfl, by decide +kernel, by decide +kernel⟩
def t_is_allowed (K : PySem.W.Frag) : TS :=
    (tSeq (tIfS (tOr (tB (tIsN (tFld K (tVar 0) "permit"))) (tTest (tOp (rEqD K) (tCall (sp_candidates K) [] E0 (tCons (tVar 0) tNil)) (tLst tNil)))) (tRet (tC (.bl false))) tNext)
    (tRet (tNotV (tCall (sp_is_less K) [] E0 (tCons (tFld K (tVar 0) "permit") (tCons (tCall (sp_next_harm K) [] E0 (tCons (tVar 0) tNil)) tNil))))))
def sp_is_allowed (K : PySem.W.Frag) : Sp := SpF (ι := Addr × Mo × Lay) (fun i vs H => vs = [.ref i.1] ∧ MonL K H i.1 i.2.1 i.2.2 ∧ GoodM i.2.1) (fun i v H => v = .bl (Kp417.allowed i.2.1))
theorem rd_is_allowed {K : PySem.W.Frag} {mg : Str → Option Value} {h : Heap} (T : Tx K mg h) {vs : List V} {H : Hp} {Q : VK} {E : XK} (hsp : sp_is_allowed K vs H Q E) : t_is_allowed K { nx := fun _ H' => Q .non H', rt := Q } (start ["monitor"] vs) H := by
  obtain ⟨⟨a, m, L⟩, ⟨rfl, hM, G⟩, k⟩ := hsp
  dsimp only at hM G k ⊢
  have hper := hM.per
  refine Sg.go (H := H) ?_ (Ex.refl H)
  cases hp : m.permit with
  | none =>
    rw [hp] at hper
    have hpv : L.pv = .non := hper
    refine g_when (b := true) (et_or (a := true) (b := true) (et_B (ev_b (ev_isN (evM_permit T hM (ev_var rfl))) (by rw [hpv]; rfl))) (fun z => nomatch z)) (fun _ => ?_) (fun z => nomatch z)
    refine g_retv ev_c fun H2 e2 => k _ _ e2 ?_
    unfold Kp417.allowed
    rw [hp]
  | some p =>
    rw [hp] at hper
    have hpv : FrI L.pv H ((p.num : Nat) : Int) ((p.den : Nat) : Int) := hper
    obtain ⟨b1, b2, b3⟩ := G.pe p hp
    refine g_when (b := false || (Kp417.candidates m).isEmpty) (et_or (et_B (ev_b (ev_isN (evM_permit T hM (ev_var rfl))) (by obtain ⟨_, e, _⟩ := hpv; rw [e]; rfl))) (fun _ => et_test (ev_nil (cr_candidates T (by wtm_at "ev") hM G)))) (fun hb => ?_) (fun hb => ?_)
    · rw [Bool.false_or] at hb
      refine g_retv ev_c fun H2 e2 => k _ _ e2 ?_
      unfold Kp417.allowed
      rw [hp]
      dsimp only
      rw [hb]
      rfl
    · rw [Bool.false_or] at hb
      refine g_retv (ev_notV (cv_less_vR T (n := p.num) (d := p.den) (evM_permit T hM (ev_var rfl)) hpv (cr_next_harm T (by wtm_at "ev") hM G) (by omega) (by omega) b2 (smQ_next G))) fun H2 e2 => k _ _ e2 ?_
      unfold Kp417.allowed
      rw [hp]
      dsimp only
      rw [hb]
      congr 1
      rw [Bool.not_false, Bool.true_and, Bool.eq_iff_iff, Bool.not_eq_true', decide_eq_false_iff_not, decide_eq_true_eq]
      exact Rat.not_lt
theorem ok_is_allowed {P : Program} {w : World} {K : PySem.W.Frag} {mg : Str → Option Value} {base : Heap} {h : Heap} (T : Tx K mg h) : OkF P w K mg base 8 "is_allowed" ["monitor"] (sp_is_allowed K) :=
  mkOk T (st := s_is_allowed) (N := ["monitor"]) 37 37 sc_is_allowed (by rintro vs H Q E ⟨_, ⟨rfl, _⟩, _⟩; rfl) (fun f cdv A outer s H vs Q E hr hsp => ⟨t_is_allowed K, (pss_cons (ps_if (PW.pt (pw_or (pt_cmp (pc_isN (pe_fld (pv 0) rfl))) (pw_or1 (pt_cmpR (op_eqD hr.units) (pe_callO (ok_candidates T) (hr.mono (by decide)) rfl (pa_cons (pv 0) pa_nil)) (pe_lst pa_nil) (nomark _))))) (pss_one (ps_ret pe_bl)) pss_nil)
      (pss_one (ps_ret (pe_not (pe_callO (ok_is_less T) (hr.mono (by decide)) rfl (pa_cons (pe_fld (pv 0) rfl) (pa_cons (pe_callO (ok_next_harm T) (hr.mono (by decide)) rfl (pa_cons (pv 0) pa_nil)) pa_nil))))))), rd_is_allowed T hsp⟩) (fun _ _ _ _ _ _ us hl => match us, hl with | [_], _ => rfl)
theorem cv_is_allowed {K : PySem.W.Frag} {mg : Str → Option Value} {h : Heap} {σ : L2.St} {H : Hp} {ta : TA} (T : Tx K mg h) {a : Addr} {m : Mo} {L : Lay} (ha : EvA ta σ H [.ref a]) (hM : MonL K H a m L) (G : GoodM m) : Ev (tCall (sp_is_allowed K) [] E0 ta) σ H (.bl (Kp417.allowed m)) :=
  ev_callV (f := fun i : Addr × Mo × Lay => V.bl (Kp417.allowed i.2.1)) (a, m, L) ha fun H1 e => ⟨rfl, hM.mono e, G⟩
end Pw
local macro_rules | `(tactic| wtm_at "ca") => `(tactic| ((with_reducible refine' cv_is_allowed (by assumption) ?ha ?hM ?G); (case ha => wtm_at "ev"); (case hM => wtm_at "sd"); (case G => wtm_at "sd")))
namespace Pw
open PySem PySem.Spec PyProof.Rows L2 Evl
abbrev s_detection_top : Stmt := top 59
theorem sc_detection_top : FnScope ["monitor", "policy"] ["monitor", "policy"] (defScope s_detection_top) := ⟨rfl, rfl, rfl, by decide +kernel, rfl, by decide +kernel, by decide +kernel⟩
def t_detection_top (K : PySem.W.Frag) : TS :=
    (tRet (tCall (sp_weight_of K) [] E0 (tCons (tFld K (tFld K (tVar 0) "setting") "test_weights") (tCons (tOp (rIxT K) (tOp (rIxL K) (tFld K (tVar 0) "policies") (tVar 1)) (tC (.int 0))) tNil))))
def sp_detection_top (K : PySem.W.Frag) : Sp := SpF (ι := Addr × Mo × Lay × Nat) (fun i vs H => vs = [.ref i.1, .int ((i.2.2.2 : Nat) : Int)] ∧ MonL K H i.1 i.2.1 i.2.2.1 ∧ GoodM i.2.1 ∧ i.2.2.2 < i.2.1.policies.length) (fun i v H => v = .int ((dTop i.2.1 i.2.2.2 : Nat) : Int))
theorem rd_detection_top {K : PySem.W.Frag} {mg : Str → Option Value} {h : Heap} (T : Tx K mg h) {vs : List V} {H : Hp} {Q : VK} {E : XK} (hsp : sp_detection_top K vs H Q E) : t_detection_top K { nx := fun _ H' => Q .non H', rt := Q } (start ["monitor", "policy"] vs) H := by
  obtain ⟨⟨a, m, L, i⟩, ⟨rfl, hM, G, hi⟩, k⟩ := hsp
  dsimp only at hM G hi k ⊢
  obtain ⟨l, h1, h2⟩ := evM_tws (σ := L2.start ["monitor", "policy"] [.ref a, .int ((i : Nat) : Int)]) (ta := tVar 0) T hM (ev_var rfl)
  refine Sg.go (H := H) ?_ (Ex.refl H)
  exact g_retv (cv_weight_of T h1 h2 (by wtm_at "ev") G.s.n5) fun H2 e2 => k _ _ e2 rfl
theorem ok_detection_top {P : Program} {w : World} {K : PySem.W.Frag} {mg : Str → Option Value} {base : Heap} {h : Heap} (T : Tx K mg h) : OkF P w K mg base 4 "detection_top" ["monitor", "policy"] (sp_detection_top K) :=
  mkOk T (st := s_detection_top) (N := ["monitor", "policy"]) 38 38 sc_detection_top (by rintro vs H Q E ⟨_, ⟨rfl, _⟩, _⟩; rfl) (fun f cdv A outer s H vs Q E hr hsp => ⟨t_detection_top K, (pss_one (ps_ret (pe_callO (ok_weight_of T) (hr.mono (by decide)) rfl (pa_cons (pe_fld (pe_fld (pv 0) rfl) rfl) (pa_cons (pe_ix ix_tup (pe_ix ix_list (pe_fld (pv 0) rfl) (pv 1) (fun _ _ => rfl)) pe_int (fun _ _ => rfl)) pa_nil))))), rd_detection_top T hsp⟩) (fun _ _ _ _ _ _ us hl => match us, hl with | [_, _], _ => rfl)
theorem cv_detection_top {K : PySem.W.Frag} {mg : Str → Option Value} {h : Heap} {σ : L2.St} {H : Hp} {ta : TA} (T : Tx K mg h) {a : Addr} {m : Mo} {L : Lay} {i : Nat} (ha : EvA ta σ H [.ref a, .int ((i : Nat) : Int)]) (hM : MonL K H a m L) (G : GoodM m) (hi : i < m.policies.length) : Ev (tCall (sp_detection_top K) [] E0 ta) σ H (.int ((dTop m i : Nat) : Int)) :=
  ev_callV (f := fun i : Addr × Mo × Lay × Nat => V.int ((dTop i.2.1 i.2.2.2 : Nat) : Int)) (a, m, L, i) ha fun H1 e => ⟨rfl, hM.mono e, G, hi⟩
end Pw
local macro_rules | `(tactic| wtm_at "ca") => `(tactic| ((with_reducible refine' cv_detection_top (by assumption) ?ha ?hM ?G ?hi); (case ha => wtm_at "ev"); (case hM => wtm_at "sd"); (case G => wtm_at "sd"); (case hi => wtm_at "sd")))
namespace Pw
open PySem PySem.Spec PyProof.Rows L2 Evl
theorem pow12 {w t : Nat} (h : w ≤ 495) (ht : t ≤ 12) : w ^ t < 2 ^ 130 := Nat.lt_of_lt_of_le (pow_lt (b := w) (n := t) (by omega)) (Nat.pow_le_pow_right (by decide) (by omega))
theorem smQ_det {m : Mo} (G : GoodM m) {i t : Nat} (ht : t ≤ 12) : SmQ (Kp417.detectionIn m i t) := by
  have h1 := pow12 (w := (tws m.setting).sum) G.s.t9 ht
  have h2 := pow12 (w := (tws m.setting).sum - dTop m i) (by have := G.s.t9; omega) ht
  have h3 : 0 < (tws m.setting).sum ^ t := Nat.pow_pos G.s.t1
  rw [detIn_eq G.s.t1]
  exact smQ_low h3 (by omega) (by omega)
abbrev s_detection_by : Stmt := top 60
theorem sc_detection_by : FnScope ["monitor", "policy", "tests", "whole", "missed"] ["monitor", "policy", "tests"] (defScope s_detection_by) := ⟨rfl, rfl, rfl, by decide +kernel, rfl, by decide +kernel, by decide +kernel⟩
def t_detection_by (K : PySem.W.Frag) : TS :=
    (tSeq (tAsg (tCB (rSum K) (tCons (tFld K (tFld K (tVar 0) "setting") "test_weights") tNil)) (gName 3))
    (tSeq (tAsg (tOp (rI0 fun i j => .int (i - j)) (tVar 3) (tCall (sp_detection_top K) [] E0 (tCons (tVar 0) (tCons (tVar 1) tNil)))) (gName 4))
    (tRet (tCall (sp_lowest K) [] E0 (tCons (tOp (rI0 fun i j => .int (i - j)) (tCall (sp_power K) [] E0 (tCons (tVar 3) (tCons (tVar 2) tNil))) (tCall (sp_power K) [] E0 (tCons (tVar 4) (tCons (tVar 2) tNil)))) (tCons (tCall (sp_power K) [] E0 (tCons (tVar 3) (tCons (tVar 2) tNil))) tNil))))))
def sp_detection_by (K : PySem.W.Frag) : Sp := SpF (ι := Addr × Mo × Lay × Nat × Nat) (fun i vs H => vs = [.ref i.1, .int ((i.2.2.2.1 : Nat) : Int), .int ((i.2.2.2.2 : Nat) : Int)] ∧ MonL K H i.1 i.2.1 i.2.2.1 ∧ GoodM i.2.1 ∧ i.2.2.2.1 < i.2.1.policies.length ∧ i.2.2.2.2 ≤ 12) (fun i v H => FrQ v H (Kp417.detectionIn i.2.1 i.2.2.2.1 i.2.2.2.2))
theorem rd_detection_by {K : PySem.W.Frag} {mg : Str → Option Value} {h : Heap} (T : Tx K mg h) {vs : List V} {H : Hp} {Q : VK} {E : XK} (hsp : sp_detection_by K vs H Q E) : t_detection_by K { nx := fun _ H' => Q .non H', rt := Q } (start ["monitor", "policy", "tests", "whole", "missed"] vs) H := by
  obtain ⟨⟨a, m, L, i, t⟩, ⟨rfl, hM, G, hi, ht⟩, k⟩ := hsp
  dsimp only at hM G hi ht k ⊢
  have b1 := G.s.t9
  have b2 := dTop_le G i
  have b3 := pow12 (w := (tws m.setting).sum) G.s.t9 ht
  have h3 : 0 < (tws m.setting).sum ^ t := Nat.pow_pos G.s.t1
  refine Sg.go (H := H) ?_ (Ex.refl H)
  refine g_set (by wtm_at "ev") ?_
  refine g_set (v := .int (((tws m.setting).sum - dTop m i : Nat) : Int)) (ev_i (ev_sub (ev_var rfl) (by wtm_at "ev")) (by omega)) ?_
  refine g_ret (cr_lowest T (b := (tws m.setting).sum ^ t) (by wtm_at "ev") h3 (by omega)) fun v H2 e2 r => k _ _ e2 ?_
  rw [detIn_eq G.s.t1]
  exact r
theorem ok_detection_by {P : Program} {w : World} {K : PySem.W.Frag} {mg : Str → Option Value} {base : Heap} {h : Heap} (T : Tx K mg h) : OkF P w K mg base 5 "detection_by" ["monitor", "policy", "tests"] (sp_detection_by K) :=
  mkOk T (st := s_detection_by) (N := ["monitor", "policy", "tests", "whole", "missed"]) 39 39 sc_detection_by (by rintro vs H Q E ⟨_, ⟨rfl, _⟩, _⟩; rfl) (fun f cdv A outer s H vs Q E hr hsp => ⟨t_detection_by K, (pss_cons (ps_set (i := 3) sc_detection_by.nd rfl (Or.inl rfl) (pe_callB (cr_sum rfl) rfl (T.free 96) bt_sum (pa_cons (pe_fld (pe_fld (pv 0) rfl) rfl) pa_nil)))
      (pss_cons (ps_set (i := 4) sc_detection_by.nd rfl (Or.inl rfl) (pe_op op_sub (pv 3) (pe_callO (ok_detection_top T) (hr.mono (by decide)) rfl (pa_cons (pv 0) (pa_cons (pv 1) pa_nil)))))
      (pss_one (ps_ret (pe_callO (ok_lowest T) (hr.mono (by decide)) rfl (pa_cons (pe_op op_sub (pe_callO (ok_power T) (hr.mono (by decide)) rfl (pa_cons (pv 3) (pa_cons (pv 2) pa_nil))) (pe_callO (ok_power T) (hr.mono (by decide)) rfl (pa_cons (pv 4) (pa_cons (pv 2) pa_nil)))) (pa_cons (pe_callO (ok_power T) (hr.mono (by decide)) rfl (pa_cons (pv 3) (pa_cons (pv 2) pa_nil))) pa_nil))))))), rd_detection_by T hsp⟩) (fun _ _ _ _ _ _ us hl => match us, hl with | [_, _, _], _ => rfl)
theorem cr_detection_by {K : PySem.W.Frag} {mg : Str → Option Value} {h : Heap} {σ : L2.St} {H : Hp} {ta : TA} (T : Tx K mg h) {a : Addr} {m : Mo} {L : Lay} {i t : Nat} (ha : EvA ta σ H [.ref a, .int ((i : Nat) : Int), .int ((t : Nat) : Int)]) (hM : MonL K H a m L) (G : GoodM m) (hi : i < m.policies.length) (ht : t ≤ 12) : EvR (tCall (sp_detection_by K) [] E0 ta) σ H (fun v H => FrQ v H (Kp417.detectionIn m i t)) :=
  er_callV (R := fun (i : Addr × Mo × Lay × Nat × Nat) v H => FrQ v H (Kp417.detectionIn i.2.1 i.2.2.2.1 i.2.2.2.2)) (a, m, L, i, t) ha fun H1 e => ⟨rfl, hM.mono e, G, hi, ht⟩
end Pw
namespace Pw
open PySem PySem.Spec PyProof.Rows L2 Evl
/-- whether so many tests are enough: by index -/
theorem cv_less_RR {K : PySem.W.Frag} {mg : Str → Option Value} {h : Heap} {σ : L2.St} {H : Hp} {ta tb : TE} (T : Tx K mg h) {n d : Nat} {q : Rat} (ha : EvR ta σ H (fun v H => FrQ v H q)) {v2 : V} (hb : Ev tb σ H v2) (h2 : FrI v2 H ((n : Nat) : Int) ((d : Nat) : Int)) (hn : n ≤ 99) (hd : d ≤ 99) (d1 : 1 ≤ d) (s1 : SmQ q) :
    Ev (tCall (sp_is_less K) [] E0 (tCons ta (tCons tb tNil))) σ H (.bl (decide (q < Kp415.toRat n d))) := cv_less_Rv T ha hb h2 (Nat.lt_of_le_of_lt hn (by decide)) (Nat.lt_of_le_of_lt hd (by decide)) d1 s1
abbrev s_are_enough : Stmt := top 61
theorem sc_are_enough : FnScope ["monitor", "tests", "wanted", "index"] ["monitor", "tests", "wanted"] (defScope s_are_enough) := ⟨rfl, rfl, rfl, by decide +kernel, rfl, by decide +kernel, by decide +kernel⟩
def t_are_enough (K : PySem.W.Frag) : TS :=
    (tSeq (tFor (iList K (tCall (sp_candidates K) [] E0 (tCons (tVar 0) tNil))) (gName 3) (tIfS (tAnd (tB (tNeI (tOp (rIxT K) (tOp (rIxL K) (tFld K (tVar 0) "policies") (tVar 3)) (tC (.int 0))) (tC (.int 0)))) (tB (tCall (sp_is_less K) [] E0 (tCons (tCall (sp_detection_by K) [] E0 (tCons (tVar 0) (tCons (tVar 3) (tCons (tVar 1) tNil)))) (tCons (tVar 2) tNil))))) (tRet (tC (.bl false))) tNext))
    (tRet (tC (.bl true))))
def sp_are_enough (K : PySem.W.Frag) : Sp := SpF (ι := Addr × Mo × Lay × Nat × V × Nat × Nat) (fun i vs H => vs = [.ref i.1, .int ((i.2.2.2.1 : Nat) : Int), i.2.2.2.2.1] ∧ MonL K H i.1 i.2.1 i.2.2.1 ∧ GoodM i.2.1 ∧ i.2.2.2.1 ≤ 12 ∧ FrI i.2.2.2.2.1 H ((i.2.2.2.2.2.1 : Nat) : Int) ((i.2.2.2.2.2.2 : Nat) : Int) ∧ i.2.2.2.2.2.1 ≤ 99 ∧ i.2.2.2.2.2.2 ≤ 99 ∧ 1 ≤ i.2.2.2.2.2.2) (fun i v H => v = .bl (enough i.2.1 i.2.2.2.1 (Kp415.toRat i.2.2.2.2.2.1 i.2.2.2.2.2.2)))
theorem rd_are_enough {K : PySem.W.Frag} {mg : Str → Option Value} {h : Heap} (T : Tx K mg h) {vs : List V} {H : Hp} {Q : VK} {E : XK} (hsp : sp_are_enough K vs H Q E) : t_are_enough K { nx := fun _ H' => Q .non H', rt := Q } (start ["monitor", "tests", "wanted", "index"] vs) H := by
  obtain ⟨⟨a, m, L, t, wv, n, d⟩, ⟨rfl, hM, G, ht, hw, hn, hd, d1⟩, k⟩ := hsp
  dsimp only at hM G ht hw hn hd d1 k ⊢
  let f : Nat → Bool := fun i => (Kp417.policyAt m i).cheatSet == 0 || decide (Kp415.toRat n d ≤ Kp417.detectionIn m i t)
  refine Sg.go (H := H) ?_ (Ex.refl H)
  refine g_forN (l := Kp417.candidates m) (cr_candidates T (by wtm_at "ev") hM G) fun H1 e1 => ⟨fun i σ' H' => (∃ v : Option V, σ' = [some (.ref a), some (.int ((t : Nat) : Int)), some wv, v]) ∧ Ex H1 H' ∧ ((Kp417.candidates m).take i).all f = true, fun H2 e2 => ⟨⟨none, rfl⟩, e2, rfl⟩, fun i σ' H' ⟨_, e, _⟩ => e, ?_, ?_⟩
  · rintro i c σ' H' hc ⟨⟨v, rfl⟩, e0, hall⟩
    have hlt := cd_mem hc
    have hM1 := hM.mono e1
    refine Sg.go (H := H1) ?_ e0
    refine g_if1 (b := (!decide (((pC m c : Nat) : Int) = 0)) && decide (Kp417.detectionIn m c t < Kp415.toRat n d)) (et_and (by wtm_at "ev") (fun _ => et_B (cv_less_RR T (cr_detection_by T (by wtm_at "ev") hM1 G hlt ht) (ev_var rfl) (hw.mono e1) hn hd d1 (smQ_det G ht)))) (fun hb => ?_) (fun hb => ?_)
    · refine g_retv ev_c fun H2 e2 => k _ _ (e1.trans e2) ?_
      obtain ⟨h1, h2⟩ := Bool.and_eq_true_iff.mp hb
      have hf : f c = false := by
        show ((Kp417.policyAt m c).cheatSet == 0 || decide (Kp415.toRat n d ≤ Kp417.detectionIn m c t)) = false
        rw [Bool.or_eq_false_iff]
        constructor
        · rw [Bool.eq_false_iff]
          intro z
          have z' : pC m c = 0 := beq_iff_eq.mp z
          rw [Bool.not_eq_true', decide_eq_false_iff_not] at h1
          exact h1 (by rw [z']; rfl)
        · exact decide_eq_false (fun z => (Rat.not_le.mpr (of_decide_eq_true h2)) z)
      have ha := all_no hc hf
      show V.bl false = V.bl (enough m t (Kp415.toRat n d))
      congr 1
      exact ha.symm
    · refine g_next fun H2 e2 => ⟨⟨_, rfl⟩, e2, all_more hc hall ?_⟩
      show ((Kp417.policyAt m c).cheatSet == 0 || decide (Kp415.toRat n d ≤ Kp417.detectionIn m c t)) = true
      rw [Bool.or_eq_true]
      rcases Bool.and_eq_false_iff.mp hb with z | z
      · refine .inl (beq_iff_eq.mpr ?_)
        rw [Bool.not_eq_false', decide_eq_true_eq] at z
        have z' : ((pC m c : Nat) : Int) = 0 := z
        show pC m c = 0
        omega
      · exact .inr (decide_eq_true (Rat.not_lt.mp (of_decide_eq_false z)))
  · rintro σ' H' ⟨⟨v, rfl⟩, e0, hall⟩
    rw [List.take_length] at hall
    refine (g_retv ev_c fun H2 e2 => k _ _ (e1.trans e2) ?_ : Sg _ _ _ H1).go e0
    show V.bl true = V.bl (enough m t (Kp415.toRat n d))
    congr 1
    exact hall.symm
theorem ok_are_enough {P : Program} {w : World} {K : PySem.W.Frag} {mg : Str → Option Value} {base : Heap} {h : Heap} (T : Tx K mg h) : OkF P w K mg base 6 "are_enough" ["monitor", "tests", "wanted"] (sp_are_enough K) :=
  mkOk T (st := s_are_enough) (N := ["monitor", "tests", "wanted", "index"]) 40 40 sc_are_enough (by rintro vs H Q E ⟨_, ⟨rfl, _⟩, _⟩; rfl) (fun f cdv A outer s H vs Q E hr hsp => ⟨t_are_enough K, (pss_cons (ps_for PassesOwn.never rfl (pi_list (pe_callO (ok_candidates T) (hr.mono (by decide)) rfl (pa_cons (pv 0) pa_nil))) (pg_name (i := 3) sc_are_enough.nd rfl (Or.inl rfl)) (pss_one (ps_if (PW.pt (pw_and (pt_cmp (pc_neI (pe_ix ix_tup (pe_ix ix_list (pe_fld (pv 0) rfl) (pv 3) (fun _ _ => rfl)) pe_int (fun _ _ => rfl)) pe_int)) (pw_and1 (pt_val (pe_callO (ok_is_less T) (hr.mono (by decide)) rfl (pa_cons (pe_callO (ok_detection_by T) (hr.mono (by decide)) rfl (pa_cons (pv 0) (pa_cons (pv 3) (pa_cons (pv 1) pa_nil)))) (pa_cons (pv 2) pa_nil))))))) (pss_one (ps_ret pe_bl)) pss_nil)))
      (pss_one (ps_ret pe_bl))), rd_are_enough T hsp⟩) (fun _ _ _ _ _ _ us hl => match us, hl with | [_, _, _], _ => rfl)
theorem cv_are_enough {K : PySem.W.Frag} {mg : Str → Option Value} {h : Heap} {σ : L2.St} {H : Hp} {ta tb tc : TE} (T : Tx K mg h) {a : Addr} {m : Mo} {L : Lay} {t n d : Nat} (ha : Ev ta σ H (.ref a)) (hb : Ev tb σ H (.int ((t : Nat) : Int))) (hc : EvR tc σ H (fun v H => FrI v H ((n : Nat) : Int) ((d : Nat) : Int))) (hM : MonL K H a m L) (G : GoodM m) (ht : t ≤ 12) (hn : n ≤ 99) (hd : d ≤ 99) (d1 : 1 ≤ d) :
    Ev (tCall (sp_are_enough K) [] E0 (tCons ta (tCons tb (tCons tc tNil)))) σ H (.bl (enough m t (Kp415.toRat n d))) :=
  ev_of (er_callX (ear_cons ha (ear_cons hb (ear_one hc))) fun vs H1 e r => by
    obtain ⟨r', rfl, r'', rfl, v, rfl, hv⟩ := r
    exact ⟨(a, m, L, t, v, n, d), ⟨rfl, hM.mono e, G, ht, hv, hn, hd, d1⟩, fun v' H2 _ q' => q'⟩)
abbrev s_are_distinguishable : Stmt := top 62
theorem sc_are_distinguishable : FnScope ["monitor", "first", "second", "one", "other", "signal"] ["monitor", "first", "second"] (defScope s_are_distinguishable) := ⟨rfl, rfl, rfl, by decide +kernel, rfl, by decide +kernel, by decide +kernel⟩
def t_are_distinguishable (K : PySem.W.Frag) : TS :=
    (tSeq (tAsg (tOp (rIxT K) (tOp (rIxL K) (tFld K (tVar 0) "policies") (tVar 1)) (tC (.int 0))) (gName 3))
    (tSeq (tAsg (tOp (rIxT K) (tOp (rIxL K) (tFld K (tVar 0) "policies") (tVar 2)) (tC (.int 0))) (gName 4))
    (tSeq (tFor (iRng1 (tCons (tFld K (tFld K (tVar 0) "setting") "signal_count") tNil)) (gName 5) (tIfS (tAnd (tB (tGt (tOp (rIxL K) (tFld K (tFld K (tVar 0) "setting") "test_weights") (tVar 5)) (tC (.int 0)))) (tTest (tOp rNe (tCall (sp_has_signal K) [] E0 (tCons (tVar 3) (tCons (tVar 5) tNil))) (tCall (sp_has_signal K) [] E0 (tCons (tVar 4) (tCons (tVar 5) tNil)))))) (tRet (tC (.bl true))) tNext))
    (tRet (tC (.bl false))))))
def sp_are_distinguishable (K : PySem.W.Frag) : Sp := SpF (ι := Addr × Mo × Lay × Nat × Nat) (fun i vs H => vs = [.ref i.1, .int ((i.2.2.2.1 : Nat) : Int), .int ((i.2.2.2.2 : Nat) : Int)] ∧ MonL K H i.1 i.2.1 i.2.2.1 ∧ GoodM i.2.1 ∧ i.2.2.2.1 < i.2.1.policies.length ∧ i.2.2.2.2 < i.2.1.policies.length) (fun i v H => v = .bl (Kp417.distinguishable i.2.1 i.2.2.2.1 i.2.2.2.2))
theorem any_f {f : Nat → Bool} {n : Nat} (h : ∀ i, i < n → f i = false) : (List.range n).any f = false := by
  rw [Bool.eq_false_iff]
  intro z
  obtain ⟨i, hi, hf⟩ := List.any_eq_true.mp z
  rw [h i (List.mem_range.mp hi)] at hf
  cases hf
theorem any_t {f : Nat → Bool} {n i : Nat} (hi : i < n) (h : f i = true) : (List.range n).any f = true := List.any_eq_true.mpr ⟨i, List.mem_range.mpr hi, h⟩
theorem bne_dec (a b : Bool) : (!decide (V.bl a = V.bl b)) = (a != b) := by
  cases a <;> cases b <;> rfl
theorem rd_are_distinguishable {K : PySem.W.Frag} {mg : Str → Option Value} {h : Heap} (T : Tx K mg h) {vs : List V} {H : Hp} {Q : VK} {E : XK} (hsp : sp_are_distinguishable K vs H Q E) : t_are_distinguishable K { nx := fun _ H' => Q .non H', rt := Q } (start ["monitor", "first", "second", "one", "other", "signal"] vs) H := by
  obtain ⟨⟨a, m, L, x, y⟩, ⟨rfl, hM, G, hx, hy⟩, k⟩ := hsp
  dsimp only at hM G hx hy k ⊢
  have g5 := G.s.n5
  let f : Nat → Bool := fun s => decide (0 < m.setting.model.testWeights.getD s 0) && Kp415.contains (pC m x) s != Kp415.contains (pC m y) s
  refine Sg.go (H := H) ?_ (Ex.refl H)
  refine g_set (by wtm_at "ev") (g_set (by wtm_at "ev") ?_)
  refine g_forR (n := (tws m.setting).length) (by wtm_at "ev") (by omega) (fun i σ' H' => (∃ v : Option V, σ' = [some (.ref a), some (.int ((x : Nat) : Int)), some (.int ((y : Nat) : Int)), some (.int ((pC m x : Nat) : Int)), some (.int ((pC m y : Nat) : Int)), v]) ∧ Ex H H' ∧ ∀ j, j < i → f j = false) (fun H1 e => ⟨⟨none, rfl⟩, e, fun j hj => absurd hj (Nat.not_lt_zero _)⟩) ?_ ?_
  · rintro i σ' H' hi ⟨⟨v, rfl⟩, e0, hall⟩
    refine Sg.go (H := H) ?_ e0
    refine g_if1 (b := decide ((0 : Int) < (((tws m.setting).getD i 0 : Nat) : Int)) && !decide (V.bl (Kp415.contains (pC m x) i) = V.bl (Kp415.contains (pC m y) i))) (et_and (by wtm_at "ev") (fun _ => et_test (ev_op (cv_has_signal T (by wtm_at "ev") (by omega)) (cv_has_signal T (by wtm_at "ev") (by omega)) (rv_ne rfl)))) (fun hb => ?_) (fun hb => ?_)
    · refine g_retv ev_c fun H2 e2 => k _ _ e2 ?_
      show V.bl true = V.bl ((List.range (tws m.setting).length).any f)
      rw [any_t hi]
      rw [bne_dec] at hb
      show (decide (0 < (tws m.setting).getD i 0) && Kp415.contains (pC m x) i != Kp415.contains (pC m y) i) = true
      rw [← hb]
      congr 1
      rw [Bool.eq_iff_iff, decide_eq_true_eq, decide_eq_true_eq]
      omega
    · refine g_next fun H2 e2 => ⟨⟨_, rfl⟩, e2, fun j hj => ?_⟩
      by_cases c : j = i
      · subst c
        rw [bne_dec] at hb
        show (decide (0 < (tws m.setting).getD j 0) && Kp415.contains (pC m x) j != Kp415.contains (pC m y) j) = false
        rw [← hb]
        congr 1
        rw [Bool.eq_iff_iff, decide_eq_true_eq, decide_eq_true_eq]
        omega
      · exact hall j (by omega)
  · rintro σ' H' ⟨⟨v, rfl⟩, e0, hall⟩
    refine (g_retv ev_c fun H2 e2 => k _ _ e2 ?_ : Sg _ _ _ H).go e0
    show V.bl false = V.bl ((List.range (tws m.setting).length).any f)
    rw [any_f hall]
theorem ok_are_distinguishable {P : Program} {w : World} {K : PySem.W.Frag} {mg : Str → Option Value} {base : Heap} {h : Heap} (T : Tx K mg h) : OkF P w K mg base 3 "are_distinguishable" ["monitor", "first", "second"] (sp_are_distinguishable K) :=
  mkOk T (st := s_are_distinguishable) (N := ["monitor", "first", "second", "one", "other", "signal"]) 41 41 sc_are_distinguishable (by rintro vs H Q E ⟨_, ⟨rfl, _⟩, _⟩; rfl) (fun f cdv A outer s H vs Q E hr hsp => ⟨t_are_distinguishable K, (pss_cons (ps_set (i := 3) sc_are_distinguishable.nd rfl (Or.inl rfl) (pe_ix ix_tup (pe_ix ix_list (pe_fld (pv 0) rfl) (pv 1) (fun _ _ => rfl)) pe_int (fun _ _ => rfl)))
      (pss_cons (ps_set (i := 4) sc_are_distinguishable.nd rfl (Or.inl rfl) (pe_ix ix_tup (pe_ix ix_list (pe_fld (pv 0) rfl) (pv 2) (fun _ _ => rfl)) pe_int (fun _ _ => rfl)))
      (pss_cons (ps_for PassesOwn.never rfl (pi_range1 rfl (T.free 97) (pa_cons (pe_fld (pe_fld (pv 0) rfl) rfl) pa_nil)) (pg_name (i := 5) sc_are_distinguishable.nd rfl (Or.inl rfl)) (pss_one (ps_if (PW.pt (pw_and (pt_cmp (pc_gt (pe_ix ix_list (pe_fld (pe_fld (pv 0) rfl) rfl) (pv 5) (fun _ _ => rfl)) pe_int)) (pw_and1 (pt_cmpR op_ne (pe_callO (ok_has_signal T) (hr.mono (by decide)) rfl (pa_cons (pv 3) (pa_cons (pv 5) pa_nil))) (pe_callO (ok_has_signal T) (hr.mono (by decide)) rfl (pa_cons (pv 4) (pa_cons (pv 5) pa_nil))) (nomark _))))) (pss_one (ps_ret pe_bl)) pss_nil)))
      (pss_one (ps_ret pe_bl))))), rd_are_distinguishable T hsp⟩) (fun _ _ _ _ _ _ us hl => match us, hl with | [_, _, _], _ => rfl)
theorem cv_are_distinguishable {K : PySem.W.Frag} {mg : Str → Option Value} {h : Heap} {σ : L2.St} {H : Hp} {ta : TA} (T : Tx K mg h) {a : Addr} {m : Mo} {L : Lay} {i j : Nat} (ha : EvA ta σ H [.ref a, .int ((i : Nat) : Int), .int ((j : Nat) : Int)]) (hM : MonL K H a m L) (G : GoodM m) (hi : i < m.policies.length) (hj : j < m.policies.length) :
    Ev (tCall (sp_are_distinguishable K) [] E0 ta) σ H (.bl (Kp417.distinguishable m i j)) :=
  ev_callV (f := fun i : Addr × Mo × Lay × Nat × Nat => V.bl (Kp417.distinguishable i.2.1 i.2.2.2.1 i.2.2.2.2)) (a, m, L, i, j) ha fun H1 e => ⟨rfl, hM.mono e, G, hi, hj⟩
end Pw
local macro_rules | `(tactic| wtm_at "ca") => `(tactic| ((with_reducible refine' cv_are_distinguishable (by assumption) ?ha ?hM ?G ?hi ?hj); (case ha => wtm_at "ev"); (case hM => wtm_at "sd"); (case G => wtm_at "sd"); (case hi => wtm_at "sd"); (case hj => wtm_at "sd")))
namespace Pw
open PySem PySem.Spec PyProof.Rows L2 Evl
theorem given_len_filter {α : Type} (l : List α) (p : α → Bool) (d : α) (r : Nat → V) : (given l.length (fun i => p (l.getD i d)) r).length = (l.filter p).length := by
  unfold given
  rw [List.length_map]
  have e : l = (List.range l.length).map fun i => l.getD i d := by
    apply List.ext_getElem?
    intro i
    rw [List.getElem?_map]
    by_cases c : i < l.length
    · rw [List.getElem?_range c, List.getElem?_eq_getElem c]
      show _ = some (l.getD i d)
      rw [List.getD_eq_getElem?_getD, List.getElem?_eq_getElem c]
      rfl
    · rw [List.getElem?_eq_none (by omega), List.getElem?_eq_none (by rw [List.length_range]; omega)]
      rfl
  conv => rhs; rw [e]
  rw [List.filter_map, List.length_map]
  rfl
abbrev s_log_count : Stmt := top 63
theorem sc_log_count : FnScope ["monitor", "kind", "entry"] ["monitor", "kind"] (defScope s_log_count) := ⟨rfl, rfl, rfl, by decide +kernel, rfl, by decide +kernel, by decide +kernel⟩
def t_log_count (K : PySem.W.Frag) : TS :=
    (tRet (tCB (rLenS K) (tCons (tLc (iList K (tFld K (tVar 0) "log")) (gName 2) (tB (tEqI (tOp (rIxT K) (tVar 2) (tC (.int 0))) (tVar 1))) (tVar 2) [2]) tNil)))
def sp_log_count (K : PySem.W.Frag) : Sp := SpF (ι := Addr × Mo × Lay × Nat) (fun i vs H => vs = [.ref i.1, .int ((i.2.2.2 : Nat) : Int)] ∧ MonL K H i.1 i.2.1 i.2.2.1 ∧ GoodM i.2.1) (fun i v H => v = .int ((lcount i.2.1 i.2.2.2 : Nat) : Int))
theorem ev_lenR {K : PySem.W.Frag} {σ : L2.St} {H : Hp} {ta : TE} {n : Nat} (ha : EvR ta σ H (fun v H => ∃ p xs, v = .ref p ∧ H p = some (.lst xs) ∧ xs.length = n)) : Ev (tCB (rLenS K) (tCons ta tNil)) σ H (.int (n : Int)) := fun H1 e Q q =>
  ha H1 e _ fun v H2 e2 r => by
    obtain ⟨p, xs, rfl, hp, rfl⟩ := r
    exact ⟨p, xs, rfl, .inl (SqL.of hp), q H2 e2⟩
theorem er_ref {σ : L2.St} {H : Hp} {ta : TE} {l : Addr} {xs : List V} (ha : Ev ta σ H (.ref l)) (hl : H l = some (.lst xs)) : EvR ta σ H (fun v H => v = .ref l ∧ H l = some (.lst xs)) := er_w (er_v ha) fun v H1 e r => ⟨r, e _ _ hl⟩
theorem rd_log_count {K : PySem.W.Frag} {mg : Str → Option Value} {h : Heap} (T : Tx K mg h) {vs : List V} {H : Hp} {Q : VK} {E : XK} (hsp : sp_log_count K vs H Q E) : t_log_count K { nx := fun _ H' => Q .non H', rt := Q } (start ["monitor", "kind", "entry"] vs) H := by
  obtain ⟨⟨a, m, L, kd⟩, ⟨rfl, hM, G⟩, k⟩ := hsp
  dsimp only at hM G k ⊢
  have g16 := G.l16
  obtain ⟨xs, h1, h2, h3⟩ := hM.log
  have hlen : xs.length = m.log.length := h2.trans (List.length_map ..)
  refine Sg.go (H := H) ?_ (Ex.refl H)
  refine g_retv (ev_lenR (n := lcount m kd) (el_lcR (RL := fun ys => ys.length = lcount m kd) (er_ref (evM_log T hM (ev_var rfl)) h1) fun v H1 e1 r => ?_)) fun H2 e2 => k _ _ e2 rfl
  obtain ⟨rfl, hl1⟩ := r
  refine ⟨L.ll, xs, rfl, hl1, by omega, fun i => (m.log.getD i ⟨.production, 0⟩).kind.code == kd, fun i => xs.getD i .non, fun x => rfl, fun i x hx => ?_, fun i x hx _ => ?_, ?_⟩
  · obtain ⟨e, he, hf⟩ := okE_log hx h3
    have hg : m.log.getD i ⟨.production, 0⟩ = e := by
      rw [List.getD_eq_getElem?_getD, he]
      rfl
    dsimp only
    rw [hg]
    refine et_B (ev_b (ev_cmp (ev_num (ev_var rfl) (hf.mono e1) ev_c) (ev_var rfl)) ?_)
    rw [Bool.eq_iff_iff, decide_eq_true_eq, beq_iff_eq]
    omega
  · have hg : xs.getD i .non = x := by
      rw [List.getD_eq_getElem?_getD, hx]
      rfl
    dsimp only
    rw [hg]
    exact ev_var rfl
  · rw [hlen]
    exact given_len_filter m.log (fun e => e.kind.code == kd) ⟨.production, 0⟩ _
theorem ok_log_count {P : Program} {w : World} {K : PySem.W.Frag} {mg : Str → Option Value} {base : Heap} {h : Heap} (T : Tx K mg h) : OkF P w K mg base 1 "log_count" ["monitor", "kind"] (sp_log_count K) :=
  mkOk T (st := s_log_count) (N := ["monitor", "kind", "entry"]) 42 42 sc_log_count (by rintro vs H Q E ⟨_, ⟨rfl, _⟩, _⟩; rfl) (fun f cdv A outer s H vs Q E hr hsp => ⟨t_log_count K, (pss_one (ps_ret (pe_callB call_len_seq rfl (T.free 95) bt_len (pa_cons (pe_lc (own := [("entry", 2)]) (g := gName 2) rfl sc_log_count.nd (pi_list (pe_fld (pv 0) rfl)) (blkOk_by (own := [("entry", 2)]) (N := (["monitor", "kind", "entry"] : List Str)) (sc := defScope (top 63)) (by decide +kernel)) (fun _ _ _ _ _ => pg_name (i := 2) sc_log_count.nd rfl (Or.inl rfl)) (fun _ _ _ _ _ => pts_one (pt_cmp (pc_eqI (pe_ix ix_tup (pv 2) pe_int (fun _ _ => rfl)) (pv 1)))) (fun _ _ _ _ _ => (pv 2))) pa_nil)))), rd_log_count T hsp⟩) (fun _ _ _ _ _ _ us hl => match us, hl with | [_, _], _ => rfl)
theorem cv_log_count {K : PySem.W.Frag} {mg : Str → Option Value} {h : Heap} {σ : L2.St} {H : Hp} {ta : TA} (T : Tx K mg h) {a : Addr} {m : Mo} {L : Lay} {kd : Nat} {z : Int} (ha : EvA ta σ H [.ref a, .int z]) (hz : z = ((kd : Nat) : Int)) (hM : MonL K H a m L) (G : GoodM m) : Ev (tCall (sp_log_count K) [] E0 ta) σ H (.int ((lcount m kd : Nat) : Int)) := by
  subst hz
  exact ev_callV (f := fun i : Addr × Mo × Lay × Nat => V.int ((lcount i.2.1 i.2.2.2 : Nat) : Int)) (a, m, L, kd) ha fun H1 e => ⟨rfl, hM.mono e, G⟩
/-! ## answers -/
section
variable {K : PySem.W.Frag} {mg : Str → Option Value} {h : Heap} {σ : L2.St} {H : Hp} {ta tb : TE} {D : Ends} {tz : TS} {i j : Nat}
theorem er_lstI {t : TA} {l : List Int} (ht : EvA t σ H (l.map V.int)) (hl : l.length ≤ 1000) : EvR (tLst t) σ H (fun v H => LsI v H l) := fun H1 e Q q =>
  (el_lst ht (by rw [List.length_map]; omega)) H1 e Q fun p H2 _ e2 h2 => q _ H2 e2 ⟨p, rfl, h2⟩
theorem g_err {n : Int} (k : ∀ v H2, Ex H H2 → LsI v H2 [n] → D.rt v H2) : Sg (tRet (tLst (tCons (tC (.int n)) tNil))) D σ H :=
  g_ret (er_lstI (l := [n]) (ea_cons ev_c ea_nil) (by show 1 ≤ 1000; decide)) k
theorem g_one {te : TE} {n : Int} (h : Ev te σ H (.int n)) (k : ∀ v H2, Ex H H2 → LsI v H2 [n] → D.rt v H2) : Sg (tRet (tLst (tCons te tNil))) D σ H :=
  g_ret (er_lstI (l := [n]) (ea_cons h ea_nil) (by show 1 ≤ 1000; decide)) k
/-- xs + ys -/
theorem er_cat {xs ys : List Int} (ha : EvR ta σ H (fun v H => LsI v H xs)) (hb : EvR tb σ H (fun v H => LsI v H ys)) (hl : xs.length + ys.length ≤ 1000) : EvR (tOp rCat ta tb) σ H (fun v H => LsI v H (xs ++ ys)) := fun H1 e Q q =>
  ha H1 e _ fun v H2 e2 r => hb H2 (e.trans e2) _ fun w H3 e3 r2 => by
    obtain ⟨p, rfl, hp⟩ := r
    obtain ⟨p', rfl, hp'⟩ := r2
    refine ⟨p, p', _, _, rfl, rfl, e3 _ _ hp, hp', sz_of (by rw [List.length_map, List.length_map]; omega), fun s hs => ?_⟩
    refine q _ _ ((e2.trans e3).trans (Ex.new hs)) ⟨s, rfl, ?_⟩
    rw [List.map_append]
    exact upd_same
theorem nI_map (l : List Nat) : (nI l).map V.int = nats l := by
  unfold nI nats
  rw [List.map_map]
  rfl
theorem LsN.ints {v : V} {H : Hp} {l : List Nat} (h : LsN v H l) : LsI v H (nI l) := by
  obtain ⟨p, h1, h2⟩ := h
  exact ⟨p, h1, by rw [nI_map]; exact h2⟩
end
abbrev s_listed : Stmt := top 70
theorem sc_listed : FnScope ["numbers"] ["numbers"] (defScope s_listed) := ⟨rfl, rfl, rfl, by decide +kernel, rfl, by decide +kernel, by decide +kernel⟩
def t_listed (K : PySem.W.Frag) : TS :=
    (tRet (tOp rCat (tLst (tCons (tCB (rLenS K) (tCons (tVar 0) tNil)) tNil)) (tVar 0)))
def sp_listed (K : PySem.W.Frag) : Sp := SpF (ι := V × List Nat) (fun i vs H => vs = [i.1] ∧ LsN i.1 H i.2 ∧ i.2.length ≤ 100) (fun i v H => LsI v H (lsR i.2))
theorem rd_listed {K : PySem.W.Frag} {mg : Str → Option Value} {h : Heap} (T : Tx K mg h) {vs : List V} {H : Hp} {Q : VK} {E : XK} (hsp : sp_listed K vs H Q E) : t_listed K { nx := fun _ H' => Q .non H', rt := Q } (start ["numbers"] vs) H := by
  obtain ⟨⟨nv, l⟩, ⟨rfl, hl, hn⟩, k⟩ := hsp
  dsimp only at hl hn k ⊢
  obtain ⟨p, rfl, hp⟩ := hl
  refine Sg.go (H := H) ?_ (Ex.refl H)
  refine g_ret (er_cat (xs := [((l.length : Nat) : Int)]) (ys := nI l) (er_lstI (l := [((l.length : Nat) : Int)]) (ea_cons (ev_lenL (ev_var rfl) hp (nats_len l)) ea_nil) (by show 1 ≤ 1000; decide)) (er_w (er_v (ev_var rfl)) fun v H1 e r => by rw [r]; exact LsN.ints ⟨p, rfl, e _ _ hp⟩) (by unfold nI; rw [List.length_map]; show 1 + _ ≤ 1000; omega)) fun v H2 e2 r => k _ _ e2 r
theorem ok_listed {P : Program} {w : World} {K : PySem.W.Frag} {mg : Str → Option Value} {base : Heap} {h : Heap} (T : Tx K mg h) : OkF P w K mg base 1 "listed" ["numbers"] (sp_listed K) :=
  mkOk T (st := s_listed) (N := ["numbers"]) 43 43 sc_listed (by rintro vs H Q E ⟨_, ⟨rfl, _⟩, _⟩; rfl) (fun f cdv A outer s H vs Q E hr hsp => ⟨t_listed K, (pss_one (ps_ret (pe_op op_cat (pe_lst (pa_cons (pe_callB call_len_seq rfl (T.free 95) bt_len (pa_cons (pv 0) pa_nil)) pa_nil)) (pv 0)))), rd_listed T hsp⟩) (fun _ _ _ _ _ _ us hl => match us, hl with | [_], _ => rfl)
theorem cr_listed {K : PySem.W.Frag} {mg : Str → Option Value} {h : Heap} {σ : L2.St} {H : Hp} {ta : TE} (T : Tx K mg h) {l : List Nat} (ha : EvR ta σ H (fun v H => LsN v H l)) (hn : l.length ≤ 100) : EvR (tCall (sp_listed K) [] E0 (tCons ta tNil)) σ H (fun v H => LsI v H (lsR l)) :=
  er_callX (ear_one ha) fun vs H1 e r => by
    obtain ⟨v, rfl, hv⟩ := r
    exact ⟨(v, l), ⟨rfl, hv, hn⟩, fun v' H2 _ q' => q'⟩
abbrev s_told : Stmt := top 91
theorem sc_told : FnScope ["fraction"] ["fraction"] (defScope s_told) := ⟨rfl, rfl, rfl, by decide +kernel, rfl, by decide +kernel, by decide +kernel⟩
def t_told (K : PySem.W.Frag) : TS :=
    (tRet (tLst (tCons (tC (.int 0)) (tCons (tOp (rIxT K) (tVar 0) (tC (.int 0))) (tCons (tOp (rIxT K) (tVar 0) (tC (.int 1))) tNil)))))
def sp_told (K : PySem.W.Frag) : Sp := SpF (ι := V × Rat) (fun i vs H => vs = [i.1] ∧ FrQ i.1 H i.2) (fun i v H => LsI v H (0 :: fr i.2))
theorem rd_told {K : PySem.W.Frag} {mg : Str → Option Value} {h : Heap} (T : Tx K mg h) {vs : List V} {H : Hp} {Q : VK} {E : XK} (hsp : sp_told K vs H Q E) : t_told K { nx := fun _ H' => Q .non H', rt := Q } (start ["fraction"] vs) H := by
  obtain ⟨⟨fv, q⟩, ⟨rfl, hq⟩, k⟩ := hsp
  dsimp only at hq k ⊢
  have hq' : FrI fv H q.num (q.den : Int) := hq
  refine Sg.go (H := H) ?_ (Ex.refl H)
  exact g_ret (er_lstI (l := 0 :: fr q) (ea_cons ev_c (by show EvA _ _ _ [_, _]; wtm_at "ev")) (by show 3 ≤ 1000; decide)) fun v H2 e2 r => k _ _ e2 r
theorem ok_told {P : Program} {w : World} {K : PySem.W.Frag} {mg : Str → Option Value} {base : Heap} {h : Heap} (T : Tx K mg h) : OkF P w K mg base 1 "told" ["fraction"] (sp_told K) :=
  mkOk T (st := s_told) (N := ["fraction"]) 59 59 sc_told (by rintro vs H Q E ⟨_, ⟨rfl, _⟩, _⟩; rfl) (fun f cdv A outer s H vs Q E hr hsp => ⟨t_told K, (pss_one (ps_ret (pe_lst (pa_cons pe_int (pa_cons (pe_ix ix_tup (pv 0) pe_int (fun _ _ => rfl)) (pa_cons (pe_ix ix_tup (pv 0) pe_int (fun _ _ => rfl)) pa_nil)))))), rd_told T hsp⟩) (fun _ _ _ _ _ _ us hl => match us, hl with | [_], _ => rfl)
theorem cr_told {K : PySem.W.Frag} {mg : Str → Option Value} {h : Heap} {σ : L2.St} {H : Hp} {ta : TE} (T : Tx K mg h) {q : Rat} (ha : EvR ta σ H (fun v H => FrQ v H q)) : EvR (tCall (sp_told K) [] E0 (tCons ta tNil)) σ H (fun v H => LsI v H (0 :: fr q)) :=
  er_callX (ear_one ha) fun vs H1 e r => by
    obtain ⟨v, rfl, hv⟩ := r
    exact ⟨(v, q), ⟨rfl, hv⟩, fun v' H2 _ q' => q'⟩
abbrev s_has_policy : Stmt := top 92
theorem sc_has_policy : FnScope ["monitor", "policy"] ["monitor", "policy"] (defScope s_has_policy) := ⟨rfl, rfl, rfl, by decide +kernel, rfl, by decide +kernel, by decide +kernel⟩
def t_has_policy (K : PySem.W.Frag) : TS :=
    (tRet (tLt (tVar 1) (tCB (rLenS K) (tCons (tFld K (tVar 0) "policies") tNil))))
def sp_has_policy (K : PySem.W.Frag) : Sp := SpF (ι := Addr × Mo × Lay × Nat) (fun i vs H => vs = [.ref i.1, .int ((i.2.2.2 : Nat) : Int)] ∧ MonL K H i.1 i.2.1 i.2.2.1) (fun i v H => v = .bl (decide (i.2.2.2 < i.2.1.policies.length)))
theorem rd_has_policy {K : PySem.W.Frag} {mg : Str → Option Value} {h : Heap} (T : Tx K mg h) {vs : List V} {H : Hp} {Q : VK} {E : XK} (hsp : sp_has_policy K vs H Q E) : t_has_policy K { nx := fun _ H' => Q .non H', rt := Q } (start ["monitor", "policy"] vs) H := by
  obtain ⟨⟨a, m, L, i⟩, ⟨rfl, hM⟩, k⟩ := hsp
  dsimp only at hM k ⊢
  refine Sg.go (H := H) ?_ (Ex.refl H)
  refine g_retv (ev_b (by wtm_at "ev") ?_) fun H2 e2 => k _ _ e2 rfl
  rw [Bool.eq_iff_iff, decide_eq_true_eq, decide_eq_true_eq]
  omega
theorem ok_has_policy {P : Program} {w : World} {K : PySem.W.Frag} {mg : Str → Option Value} {base : Heap} {h : Heap} (T : Tx K mg h) : OkF P w K mg base 1 "has_policy" ["monitor", "policy"] (sp_has_policy K) :=
  mkOk T (st := s_has_policy) (N := ["monitor", "policy"]) 60 60 sc_has_policy (by rintro vs H Q E ⟨_, ⟨rfl, _⟩, _⟩; rfl) (fun f cdv A outer s H vs Q E hr hsp => ⟨t_has_policy K, (pss_one (ps_ret (pe_cmp (pc_lt (pv 1) (pe_callB call_len_seq rfl (T.free 95) bt_len (pa_cons (pe_fld (pv 0) rfl) pa_nil)))))), rd_has_policy T hsp⟩) (fun _ _ _ _ _ _ us hl => match us, hl with | [_, _], _ => rfl)
theorem cv_has_policy {K : PySem.W.Frag} {mg : Str → Option Value} {h : Heap} {σ : L2.St} {H : Hp} {ta : TA} (T : Tx K mg h) {a : Addr} {m : Mo} {L : Lay} {i : Nat} (ha : EvA ta σ H [.ref a, .int ((i : Nat) : Int)]) (hM : MonL K H a m L) : Ev (tCall (sp_has_policy K) [] E0 ta) σ H (.bl (decide (i < m.policies.length))) :=
  ev_callV (f := fun i : Addr × Mo × Lay × Nat => V.bl (decide (i.2.2.2 < i.2.1.policies.length))) (a, m, L, i) ha fun H1 e => ⟨rfl, hM.mono e⟩
end Pw
local macro_rules | `(tactic| wtm_at "ca") => `(tactic| ((with_reducible refine' cv_has_policy (by assumption) ?ha ?hM); (case ha => wtm_at "ev"); (case hM => wtm_at "sd")))
namespace Pw
open PySem PySem.Spec PyProof.Rows L2 Evl
theorem perPair {o : Option Kp417.Permit} : (Kp417.permitPair o).length = 2 := by cases o <;> rfl
abbrev s_old_permit : Stmt := top 80
theorem sc_old_permit : FnScope ["monitor"] ["monitor"] (defScope s_old_permit) := ⟨rfl, rfl, rfl, by decide +kernel, rfl, by decide +kernel, by decide +kernel⟩
def t_old_permit (K : PySem.W.Frag) : TS :=
    (tSeq (tIfS (tB (tIsN (tFld K (tVar 0) "permit"))) (tRet (tLst (tCons (tC (.int 0)) (tCons (tC (.int 0)) tNil)))) tNext)
    (tRet (tLst (tCons (tOp (rIxT K) (tFld K (tVar 0) "permit") (tC (.int 0))) (tCons (tOp (rIxT K) (tFld K (tVar 0) "permit") (tC (.int 1))) tNil)))))
def sp_old_permit (K : PySem.W.Frag) : Sp := SpF (ι := Addr × Mo × Lay) (fun i vs H => vs = [.ref i.1] ∧ MonL K H i.1 i.2.1 i.2.2) (fun i v H => LsI v H (Kp417.permitPair i.2.1.permit))
theorem rd_old_permit {K : PySem.W.Frag} {mg : Str → Option Value} {h : Heap} (T : Tx K mg h) {vs : List V} {H : Hp} {Q : VK} {E : XK} (hsp : sp_old_permit K vs H Q E) : t_old_permit K { nx := fun _ H' => Q .non H', rt := Q } (start ["monitor"] vs) H := by
  obtain ⟨⟨a, m, L⟩, ⟨rfl, hM⟩, k⟩ := hsp
  dsimp only at hM k ⊢
  have hper := hM.per
  refine Sg.go (H := H) ?_ (Ex.refl H)
  cases hp : m.permit with
  | none =>
    rw [hp] at hper k
    have hpv : L.pv = .non := hper
    refine g_when (b := true) (et_B (ev_b (ev_isN (evM_permit T hM (ev_var rfl))) (by rw [hpv]; rfl))) (fun _ => ?_) (fun z => nomatch z)
    exact g_ret (er_lstI (l := [0, 0]) (ea_cons ev_c (ea_cons ev_c ea_nil)) (by decide)) fun v H2 e2 r => k _ _ e2 r
  | some p =>
    rw [hp] at hper k
    have hpv : FrI L.pv H ((p.num : Nat) : Int) ((p.den : Nat) : Int) := hper
    refine g_when (b := false) (et_B (ev_b (ev_isN (evM_permit T hM (ev_var rfl))) (by obtain ⟨_, e, _⟩ := hpv; rw [e]; rfl))) (fun z => nomatch z) (fun _ => ?_)
    exact g_ret (er_lstI (l := [((p.num : Nat) : Int), ((p.den : Nat) : Int)]) (by show EvA _ _ _ [_, _]; wtm_at "ev") (by show 2 ≤ 1000; decide)) fun v H2 e2 r => k _ _ e2 r
theorem ok_old_permit {P : Program} {w : World} {K : PySem.W.Frag} {mg : Str → Option Value} {base : Heap} {h : Heap} (T : Tx K mg h) : OkF P w K mg base 1 "old_permit" ["monitor"] (sp_old_permit K) :=
  mkOk T (st := s_old_permit) (N := ["monitor"]) 53 53 sc_old_permit (by rintro vs H Q E ⟨_, ⟨rfl, _⟩, _⟩; rfl) (fun f cdv A outer s H vs Q E hr hsp => ⟨t_old_permit K, (pss_cons (ps_if (pt_cmp (pc_isN (pe_fld (pv 0) rfl))) (pss_one (ps_ret (pe_lst (pa_cons pe_int (pa_cons pe_int pa_nil))))) pss_nil)
      (pss_one (ps_ret (pe_lst (pa_cons (pe_ix ix_tup (pe_fld (pv 0) rfl) pe_int (fun _ _ => rfl)) (pa_cons (pe_ix ix_tup (pe_fld (pv 0) rfl) pe_int (fun _ _ => rfl)) pa_nil)))))), rd_old_permit T hsp⟩) (fun _ _ _ _ _ _ us hl => match us, hl with | [_], _ => rfl)
theorem cr_old_permit {K : PySem.W.Frag} {mg : Str → Option Value} {h : Heap} {σ : L2.St} {H : Hp} {ta : TA} (T : Tx K mg h) {a : Addr} {m : Mo} {L : Lay} (ha : EvA ta σ H [.ref a]) (hM : MonL K H a m L) : EvR (tCall (sp_old_permit K) [] E0 ta) σ H (fun v H => LsI v H (Kp417.permitPair m.permit)) :=
  er_callV (R := fun (i : Addr × Mo × Lay) v H => LsI v H (Kp417.permitPair i.2.1.permit)) (a, m, L) ha fun H1 e => ⟨rfl, hM.mono e⟩
end Pw
namespace Pw
open PySem PySem.Spec PyProof.Rows L2 Evl
/-! ## queries.py -/
section
variable {K : PySem.W.Frag} {mg : Str → Option Value} {h : Heap} {σ : L2.St} {H : Hp} {ta tb tc te : TE} {D : Ends} {tz : TS} {i j : Nat}
theorem g_unpack {x : V} {a b : Int} (hv : Ev te σ H x) (hx : FrI x H a b) (k : Sg tz D ((σ.set i (some (.int a))).set j (some (.int b))) H) : Sg (tSeq (tAsg te (gTup K 2 (gCons (gName i) (gCons (gName j) gNil)))) tz) D σ H := fun H1 e =>
  hv H1 e _ fun H2 e2 => t_pair (hx.mono (e.trans e2)) (k H2 (e.trans e2))
theorem er_snocP {l : Addr} {ps : List (Int × Int)} {a b : Int} (ha : Ev ta σ H (.ref l)) (hl : PairsAt H l ps) (hb : Ev tb σ H (.int a)) (hc : Ev tc σ H (.int b)) (hz : ps.length ≤ 1000) :
    EvR (tOp rCat ta (tLst (tCons (tTup (tCons tb (tCons tc tNil))) tNil))) σ H (fun v H => ∃ p, v = .ref p ∧ PairsAt H p (ps ++ [(a, b)])) := fun H1 e Q q =>
  ha H1 e _ fun H2 e2 => (er_pair hb hc) H2 (e.trans e2) (fun x H3 => [x].length ≤ sizeLine ∧ ∀ p, H3 p = none → rCat (.ref l) (.ref p) (upd H3 p (.lst [x])) Q) fun x H3 e3 hx => ⟨sz_of (by show 1 ≤ 100000; decide), fun p hp => by
    have hl3 := hl.mono ((e.trans e2).trans e3)
    obtain ⟨xs, h1, h2, h3⟩ := hl3
    have e4 : Ex H3 (upd H3 p (.lst [x])) := Ex.new hp
    refine ⟨l, p, xs, [x], rfl, rfl, e4 _ _ h1, upd_same, sz_of (by show xs.length + 1 ≤ 100000; omega), fun s hs => ?_⟩
    have e5 : Ex (upd H3 p (.lst [x])) (upd (upd H3 p (.lst [x])) s (.lst (xs ++ [x]))) := Ex.new hs
    refine q _ _ (((e2.trans e3).trans e4).trans e5) ⟨s, rfl, xs ++ [x], upd_same, by rw [List.length_append, List.length_append, h2]; rfl, fun i y hy => ?_⟩
    by_cases c : i < xs.length
    · rw [List.getElem?_append_left c] at hy
      obtain ⟨pr, g1, g2⟩ := h3 i y hy
      exact ⟨pr, by rw [List.getElem?_append_left (by rw [← h2]; exact c)]; exact g1, g2.mono (e4.trans e5)⟩
    · rw [List.getElem?_append_right (by omega)] at hy
      have hi : i = xs.length := by
        have := (List.getElem?_eq_some_iff.mp hy).1
        simp at this
        omega
      subst hi
      rw [Nat.sub_self] at hy
      have hy' : x = y := Option.some.inj hy
      subst hy'
      exact ⟨(a, b), by rw [h2, List.getElem?_append_right (Nat.le_refl _), Nat.sub_self]; rfl, hx.mono (e4.trans e5)⟩⟩
theorem g_forG' {tl : TE} {tu : TS} {g : TG} {H0 : Hp} {a : Addr} {xs : List V} (e0 : Ex H0 H) (hv : Ev tl σ H0 (.ref a)) (hx : H0 a = some (.lst xs)) (Pv : Nat → L2.St → Hp → Prop) (h0 : ∀ H1, Ex H H1 → Pv 0 σ H1) (he : ∀ i σ' H', Pv i σ' H' → Ex H0 H')
    (hs : ∀ i x σ' H', xs[i]? = some x → Pv i σ' H' → g x σ' H' fun σ2 H2 => tu { D with nx := Pv (i + 1), ct := Pv (i + 1), bk := tz D } σ2 H2) (hd : ∀ σ' H', Pv xs.length σ' H' → tz D σ' H') : Sg (tSeq (tFor (iList K tl) g tu) tz) D σ H := fun H1 e =>
  q_forL ((hv.mono e0).mono e) (SqL.of (e _ _ (e0 _ _ hx))) Pv (fun H2 e2 => h0 H2 (e.trans e2)) (fun i σ' H' _ p => SqL.of (he i σ' H' p _ _ hx)) hs hd
end
theorem polI_len (l : List Kp417.Policy) : (polI l).length = l.length := List.length_map ..
theorem logI_len (l : List Kp417.Entry) : (logI l).length = l.length := List.length_map ..
theorem logI_snoc (l : List Kp417.Entry) (e : Kp417.Entry) : logI (l ++ [e]) = logI l ++ [((e.kind.code : Int), (e.signal : Int))] := by
  unfold logI
  rw [List.map_append]
  rfl
theorem test_code {s t : Nat} (h : ¬ 1 < t) : (Kp417.testEntry s t).kind.code = t := by
  have : t = 0 ∨ t = 1 := by omega
  rcases this with rfl | rfl <;> rfl
abbrev s_get_policy : Stmt := top 93
theorem sc_get_policy : FnScope ["monitor", "policy", "cheat_set", "weight"] ["monitor", "policy"] (defScope s_get_policy) := ⟨rfl, rfl, rfl, by decide +kernel, rfl, by decide +kernel, by decide +kernel⟩
def t_get_policy (K : PySem.W.Frag) : TS :=
    (tSeq (tIfS (tNot (tB (tCall (sp_has_policy K) [] E0 (tCons (tVar 0) (tCons (tVar 1) tNil))))) (tRet (tLst (tCons (tC (.int (-2))) tNil))) tNext)
    (tSeq (tAsg (tOp (rIxL K) (tFld K (tVar 0) "policies") (tVar 1)) (gTup K 2 (gCons (gName 2) (gCons (gName 3) gNil))))
    (tRet (tLst (tCons (tVar 2) (tCons (tVar 3) tNil))))))
def sp_get_policy (K : PySem.W.Frag) : Sp := SpF (ι := Addr × Mo × Lay × Nat) (fun i vs H => vs = [.ref i.1, .int ((i.2.2.2 : Nat) : Int)] ∧ MonL K H i.1 i.2.1 i.2.2.1 ∧ GoodM i.2.1) (fun i v H => LsI v H (aL i.2.1 (.getPolicy i.2.2.2)))
theorem rd_get_policy {K : PySem.W.Frag} {mg : Str → Option Value} {h : Heap} (T : Tx K mg h) {vs : List V} {H : Hp} {Q : VK} {E : XK} (hsp : sp_get_policy K vs H Q E) : t_get_policy K { nx := fun _ H' => Q .non H', rt := Q } (start ["monitor", "policy", "cheat_set", "weight"] vs) H := by
  obtain ⟨⟨a, m, L, i⟩, ⟨rfl, hM, G⟩, k⟩ := hsp
  dsimp only at hM G k ⊢
  refine Sg.go (H := H) ?_ (Ex.refl H)
  refine g_when (b := !decide (i < m.policies.length)) (by wtm_at "ev") (fun hb => ?_) (fun hb => ?_)
  · have c : ¬ i < m.policies.length := by simpa using hb
    exact g_err fun v H2 e2 r => k _ _ e2 (by rw [a_getPolicy_no c]; exact r)
  · have c : i < m.policies.length := by simpa using hb
    obtain ⟨x, h1, h2⟩ := evM_pol (tb := tVar 1) (σ := L2.start ["monitor", "policy", "cheat_set", "weight"] [.ref a, .int ((i : Nat) : Int)]) (ta := tVar 0) T hM (ev_var rfl) (ev_var rfl) c
    refine g_unpack h1 h2 ?_
    exact g_ret (er_lstI (l := [((pC m i : Nat) : Int), ((pW m i : Nat) : Int)]) (by show EvA _ _ _ [_, _]; wtm_at "ev") (by show 2 ≤ 1000; decide)) fun v H2 e2 r => k _ _ e2 (by rw [a_getPolicy c]; exact r)
theorem ok_get_policy {P : Program} {w : World} {K : PySem.W.Frag} {mg : Str → Option Value} {base : Heap} {h : Heap} (T : Tx K mg h) : OkF P w K mg base 2 "get_policy" ["monitor", "policy"] (sp_get_policy K) :=
  mkOk T (st := s_get_policy) (N := ["monitor", "policy", "cheat_set", "weight"]) 61 61 sc_get_policy (by rintro vs H Q E ⟨_, ⟨rfl, _⟩, _⟩; rfl) (fun f cdv A outer s H vs Q E hr hsp => ⟨t_get_policy K, (pss_cons (ps_if (pt_not (pt_val (pe_callO (ok_has_policy T) (hr.mono (by decide)) rfl (pa_cons (pv 0) (pa_cons (pv 1) pa_nil))))) (pss_one (ps_ret (pe_lst (pa_cons (pe_gint (T.int 102) rfl) pa_nil)))) pss_nil)
      (pss_cons (ps_asg (pe_ix ix_list (pe_fld (pv 0) rfl) (pv 1) (fun _ _ => rfl)) (pg_tup rfl (pgs_cons (pg_name (i := 2) sc_get_policy.nd rfl (Or.inl rfl)) (pgs_cons (pg_name (i := 3) sc_get_policy.nd rfl (Or.inl rfl)) pgs_nil))))
      (pss_one (ps_ret (pe_lst (pa_cons (pv 2) (pa_cons (pv 3) pa_nil))))))), rd_get_policy T hsp⟩) (fun _ _ _ _ _ _ us hl => match us, hl with | [_, _], _ => rfl)
abbrev s_get_log : Stmt := top 94
theorem sc_get_log : FnScope ["monitor", "answer", "kind", "signal"] ["monitor"] (defScope s_get_log) := ⟨rfl, rfl, rfl, by decide +kernel, rfl, by decide +kernel, by decide +kernel⟩
def t_get_log (K : PySem.W.Frag) : TS :=
    (tSeq (tAsg (tLst (tCons (tCB (rLenS K) (tCons (tFld K (tVar 0) "log") tNil)) tNil)) (gName 1))
    (tSeq (tFor (iList K (tFld K (tVar 0) "log")) (gTup K 2 (gCons (gName 2) (gCons (gName 3) gNil))) (tSeq (tDrop (tBM K "list" rAppend (tVar 1) (tCons (tVar 2) tNil)))
    (tDrop (tBM K "list" rAppend (tVar 1) (tCons (tVar 3) tNil)))))
    (tRet (tVar 1))))
def sp_get_log (K : PySem.W.Frag) : Sp := SpF (ι := Addr × Mo × Lay) (fun i vs H => vs = [.ref i.1] ∧ MonL K H i.1 i.2.1 i.2.2 ∧ GoodM i.2.1) (fun i v H => LsI v H (aL i.2.1 .getLog))
theorem fm_len (l : List Kp417.Entry) : (l.flatMap fun e => [(e.kind.code : Int), (e.signal : Int)]).length = 2 * l.length := by
  induction l with
  | nil => rfl
  | cons a r ih =>
    rw [List.flatMap_cons, List.length_append, ih]
    simp only [List.length_cons, List.length_nil]
    omega
theorem rd_get_log {K : PySem.W.Frag} {mg : Str → Option Value} {h : Heap} (T : Tx K mg h) {vs : List V} {H : Hp} {Q : VK} {E : XK} (hsp : sp_get_log K vs H Q E) : t_get_log K { nx := fun _ H' => Q .non H', rt := Q } (start ["monitor", "answer", "kind", "signal"] vs) H := by
  obtain ⟨⟨a, m, L⟩, ⟨rfl, hM, G⟩, k⟩ := hsp
  dsimp only at hM G k ⊢
  have g16 := G.l16
  obtain ⟨xs, hx, hlen, hxs⟩ := hM.log
  have hlen2 : xs.length = m.log.length := hlen.trans (logI_len _)
  let f : Kp417.Entry → List Int := fun e => [(e.kind.code : Int), (e.signal : Int)]
  refine Sg.go (H := H) ?_ (Ex.refl H)
  refine g_setL (el_lst (vs := [.int ((m.log.length : Nat) : Int)]) (by wtm_at "ev") (by show 1 ≤ 100000; decide)) fun p H1 e1 np hp => ?_
  refine g_forG' e1 (evM_log T hM (ev_var rfl)) hx (fun i σ' H' => ∃ v w : Option V, σ' = [some (.ref a), some (.ref p), v, w] ∧ Ex H H' ∧ H' p = some (.lst ((((m.log.length : Nat) : Int) :: (m.log.take i).flatMap f).map V.int))) (fun H2 e2 => ⟨none, none, rfl, e1.trans e2, e2 _ _ hp⟩) (fun i σ' H' ⟨_, _, _, e, _⟩ => e) ?_ ?_
  · rintro i x σ' H' hxi ⟨v, w, rfl, e0, hl⟩
    obtain ⟨e, he, hf⟩ := okE_log hxi hxs
    have hlt : i < m.log.length := (List.getElem?_eq_some_iff.mp he).1
    have hz : ((((m.log.length : Nat) : Int) :: (m.log.take i).flatMap f).map V.int).length ≤ 100 := by
      rw [List.length_map, List.length_cons, fm_len, List.length_take]
      omega
    refine t_pair (hf.mono e0) ?_
    refine q_app hl (ev_var rfl) (ev_var rfl) (by omega) fun H1' e1' => ?_
    refine s_app upd_same (ev_var rfl) (ev_var rfl) (by rw [List.length_append]; simp only [List.length_cons, List.length_nil]; omega) fun H2' e2' => ?_
    have x1 : Ex H (upd H1' p (.lst ((((m.log.length : Nat) : Int) :: (m.log.take i).flatMap f).map V.int ++ [.int (e.kind.code : Int)]))) := Ex.mut (e0.trans e1') np
    refine ⟨_, _, rfl, Ex.mut (x1.trans e2') np, ?_⟩
    rw [upd_same, take_snoc he, List.flatMap_append]
    simp only [List.map_cons, List.map_append, List.cons_append, List.append_assoc, List.flatMap_cons, List.flatMap_nil, f]
    rfl
  · rintro σ' H' ⟨v, w, rfl, e0, hl⟩
    rw [hlen2, List.take_length] at hl
    exact (g_retv (ev_var rfl) fun H2 e2 => k _ _ (e0.trans e2) ⟨p, rfl, e2 _ _ hl⟩ : Sg _ _ _ H').go (Ex.refl H')
theorem ok_get_log {P : Program} {w : World} {K : PySem.W.Frag} {mg : Str → Option Value} {base : Heap} {h : Heap} (T : Tx K mg h) : OkF P w K mg base 1 "get_log" ["monitor"] (sp_get_log K) :=
  mkOk T (st := s_get_log) (N := ["monitor", "answer", "kind", "signal"]) 62 62 sc_get_log (by rintro vs H Q E ⟨_, ⟨rfl, _⟩, _⟩; rfl) (fun f cdv A outer s H vs Q E hr hsp => ⟨t_get_log K, (pss_cons (ps_set (i := 1) sc_get_log.nd rfl (Or.inl rfl) (pe_lst (pa_cons (pe_callB call_len_seq rfl (T.free 95) bt_len (pa_cons (pe_fld (pv 0) rfl) pa_nil)) pa_nil)))
      (pss_cons (ps_for PassesOwn.never rfl (pi_list (pe_fld (pv 0) rfl)) (pg_tup rfl (pgs_cons (pg_name (i := 2) sc_get_log.nd rfl (Or.inl rfl)) (pgs_cons (pg_name (i := 3) sc_get_log.nd rfl (Or.inl rfl)) pgs_nil))) (pss_cons (ps_expr (pe_bm PySem.F.plainAttrs_list PySem.F.slot_list_append PySem.F.type_list_append mt_append (pv 1) (pa_cons (pv 2) pa_nil)))
      (pss_one (ps_expr (pe_bm PySem.F.plainAttrs_list PySem.F.slot_list_append PySem.F.type_list_append mt_append (pv 1) (pa_cons (pv 3) pa_nil))))))
      (pss_one (ps_ret (pv 1))))), rd_get_log T hsp⟩) (fun _ _ _ _ _ _ us hl => match us, hl with | [_], _ => rfl)
abbrev s_belief_in : Stmt := top 95
theorem sc_belief_in : FnScope ["monitor", "policy"] ["monitor", "policy"] (defScope s_belief_in) := ⟨rfl, rfl, rfl, by decide +kernel, rfl, by decide +kernel, by decide +kernel⟩
def t_belief_in (K : PySem.W.Frag) : TS :=
    (tSeq (tIfS (tNot (tB (tCall (sp_has_policy K) [] E0 (tCons (tVar 0) (tCons (tVar 1) tNil))))) (tRet (tLst (tCons (tC (.int (-2))) tNil))) tNext)
    (tRet (tCall (sp_told K) [] E0 (tCons (tCall (sp_belief K) [] E0 (tCons (tVar 0) (tCons (tVar 1) tNil))) tNil))))
def sp_belief_in (K : PySem.W.Frag) : Sp := SpF (ι := Addr × Mo × Lay × Nat) (fun i vs H => vs = [.ref i.1, .int ((i.2.2.2 : Nat) : Int)] ∧ MonL K H i.1 i.2.1 i.2.2.1 ∧ GoodM i.2.1) (fun i v H => LsI v H (aL i.2.1 (.belief i.2.2.2)))
theorem rd_belief_in {K : PySem.W.Frag} {mg : Str → Option Value} {h : Heap} (T : Tx K mg h) {vs : List V} {H : Hp} {Q : VK} {E : XK} (hsp : sp_belief_in K vs H Q E) : t_belief_in K { nx := fun _ H' => Q .non H', rt := Q } (start ["monitor", "policy"] vs) H := by
  obtain ⟨⟨a, m, L, i⟩, ⟨rfl, hM, G⟩, k⟩ := hsp
  dsimp only at hM G k ⊢
  refine Sg.go (H := H) ?_ (Ex.refl H)
  refine g_when (b := !decide (i < m.policies.length)) (by wtm_at "ev") (fun hb => ?_) (fun hb => ?_)
  · have c : ¬ i < m.policies.length := by simpa using hb
    exact g_err fun v H2 e2 r => k _ _ e2 (by rw [a_belief_no c]; exact r)
  · have c : i < m.policies.length := by simpa using hb
    exact g_ret (cr_told T (cr_belief T (by wtm_at "ev") hM G c)) fun v H2 e2 r => k _ _ e2 (by rw [a_belief c]; exact r)
theorem ok_belief_in {P : Program} {w : World} {K : PySem.W.Frag} {mg : Str → Option Value} {base : Heap} {h : Heap} (T : Tx K mg h) : OkF P w K mg base 8 "belief_in" ["monitor", "policy"] (sp_belief_in K) :=
  mkOk T (st := s_belief_in) (N := ["monitor", "policy"]) 63 63 sc_belief_in (by rintro vs H Q E ⟨_, ⟨rfl, _⟩, _⟩; rfl) (fun f cdv A outer s H vs Q E hr hsp => ⟨t_belief_in K, (pss_cons (ps_if (pt_not (pt_val (pe_callO (ok_has_policy T) (hr.mono (by decide)) rfl (pa_cons (pv 0) (pa_cons (pv 1) pa_nil))))) (pss_one (ps_ret (pe_lst (pa_cons (pe_gint (T.int 102) rfl) pa_nil)))) pss_nil)
      (pss_one (ps_ret (pe_callO (ok_told T) (hr.mono (by decide)) rfl (pa_cons (pe_callO (ok_belief T) (hr.mono (by decide)) rfl (pa_cons (pv 0) (pa_cons (pv 1) pa_nil))) pa_nil))))), rd_belief_in T hsp⟩) (fun _ _ _ _ _ _ us hl => match us, hl with | [_, _], _ => rfl)
abbrev s_honest : Stmt := top 96
theorem sc_honest : FnScope ["monitor"] ["monitor"] (defScope s_honest) := ⟨rfl, rfl, rfl, by decide +kernel, rfl, by decide +kernel, by decide +kernel⟩
def t_honest (K : PySem.W.Frag) : TS :=
    (tSeq (tIfS (tTest (tOp (rEqD K) (tCall (sp_candidates K) [] E0 (tCons (tVar 0) tNil)) (tLst tNil))) (tRet (tLst (tCons (tC (.int (-33))) tNil))) tNext)
    (tRet (tCall (sp_told K) [] E0 (tCons (tCall (sp_honest_belief K) [] E0 (tCons (tVar 0) tNil)) tNil))))
def sp_honest (K : PySem.W.Frag) : Sp := SpF (ι := Addr × Mo × Lay) (fun i vs H => vs = [.ref i.1] ∧ MonL K H i.1 i.2.1 i.2.2 ∧ GoodM i.2.1) (fun i v H => LsI v H (aL i.2.1 .honestBelief))
theorem rd_honest {K : PySem.W.Frag} {mg : Str → Option Value} {h : Heap} (T : Tx K mg h) {vs : List V} {H : Hp} {Q : VK} {E : XK} (hsp : sp_honest K vs H Q E) : t_honest K { nx := fun _ H' => Q .non H', rt := Q } (start ["monitor"] vs) H := by
  obtain ⟨⟨a, m, L⟩, ⟨rfl, hM, G⟩, k⟩ := hsp
  dsimp only at hM G k ⊢
  refine Sg.go (H := H) ?_ (Ex.refl H)
  refine g_when (b := (Kp417.candidates m).isEmpty) (et_test (ev_nil (cr_candidates T (by wtm_at "ev") hM G))) (fun hb => ?_) (fun hb => ?_)
  · exact g_err fun v H2 e2 r => k _ _ e2 (by rw [a_honest_no hb]; exact r)
  · exact g_ret (cr_told T (cr_honest_belief T (by wtm_at "ev") hM G)) fun v H2 e2 r => k _ _ e2 (by rw [a_honest hb]; exact r)
theorem ok_honest {P : Program} {w : World} {K : PySem.W.Frag} {mg : Str → Option Value} {base : Heap} {h : Heap} (T : Tx K mg h) : OkF P w K mg base 9 "honest" ["monitor"] (sp_honest K) :=
  mkOk T (st := s_honest) (N := ["monitor"]) 64 64 sc_honest (by rintro vs H Q E ⟨_, ⟨rfl, _⟩, _⟩; rfl) (fun f cdv A outer s H vs Q E hr hsp => ⟨t_honest K, (pss_cons (ps_if (pt_cmpR (op_eqD hr.units) (pe_callO (ok_candidates T) (hr.mono (by decide)) rfl (pa_cons (pv 0) pa_nil)) (pe_lst pa_nil) (nomark _)) (pss_one (ps_ret (pe_lst (pa_cons (pe_gint (T.int 107) rfl) pa_nil)))) pss_nil)
      (pss_one (ps_ret (pe_callO (ok_told T) (hr.mono (by decide)) rfl (pa_cons (pe_callO (ok_honest_belief T) (hr.mono (by decide)) rfl (pa_cons (pv 0) pa_nil)) pa_nil))))), rd_honest T hsp⟩) (fun _ _ _ _ _ _ us hl => match us, hl with | [_], _ => rfl)
abbrev s_suspects_at : Stmt := top 97
theorem sc_suspects_at : FnScope ["monitor", "signal"] ["monitor", "signal"] (defScope s_suspects_at) := ⟨rfl, rfl, rfl, by decide +kernel, rfl, by decide +kernel, by decide +kernel⟩
def t_suspects_at (K : PySem.W.Frag) : TS :=
    (tSeq (tIfS (tB (tGe (tVar 1) (tFld K (tFld K (tVar 0) "setting") "signal_count"))) (tRet (tLst (tCons (tC (.int (-2))) tNil))) tNext)
    (tRet (tCall (sp_listed K) [] E0 (tCons (tCall (sp_suspects K) [] E0 (tCons (tVar 0) (tCons (tVar 1) tNil))) tNil))))
def sp_suspects_at (K : PySem.W.Frag) : Sp := SpF (ι := Addr × Mo × Lay × Nat) (fun i vs H => vs = [.ref i.1, .int ((i.2.2.2 : Nat) : Int)] ∧ MonL K H i.1 i.2.1 i.2.2.1 ∧ GoodM i.2.1) (fun i v H => LsI v H (aL i.2.1 (.suspects i.2.2.2)))
theorem cr_suspects {K : PySem.W.Frag} {mg : Str → Option Value} {h : Heap} {σ : L2.St} {H : Hp} {ta : TA} (T : Tx K mg h) {a : Addr} {m : Mo} {L : Lay} {s : Nat} (ha : EvA ta σ H [.ref a, .int ((s : Nat) : Int)]) (hM : MonL K H a m L) (G : GoodM m) (hs : s ≤ 60) : EvR (tCall (sp_suspects K) [] E0 ta) σ H (fun v H => LsN v H ((Kp417.candidates m).filter fun j => Kp415.contains (Kp417.policyAt m j).cheatSet s)) :=
  er_callV (R := fun (i : Addr × Mo × Lay × Nat) v H => LsN v H ((Kp417.candidates i.2.1).filter fun j => Kp415.contains (Kp417.policyAt i.2.1 j).cheatSet i.2.2.2)) (a, m, L, s) ha fun H1 e => ⟨rfl, hM.mono e, G, hs⟩
theorem filter_le {α : Type} (p : α → Bool) {l : List α} {n : Nat} (h : l.length ≤ n) : (l.filter p).length ≤ n := Nat.le_trans (List.length_filter_le p l) h
theorem rd_suspects_at {K : PySem.W.Frag} {mg : Str → Option Value} {h : Heap} (T : Tx K mg h) {vs : List V} {H : Hp} {Q : VK} {E : XK} (hsp : sp_suspects_at K vs H Q E) : t_suspects_at K { nx := fun _ H' => Q .non H', rt := Q } (start ["monitor", "signal"] vs) H := by
  obtain ⟨⟨a, m, L, s⟩, ⟨rfl, hM, G⟩, k⟩ := hsp
  dsimp only at hM G k ⊢
  have g5 := G.s.n5
  have g6 := cand_len G
  refine Sg.go (H := H) ?_ (Ex.refl H)
  refine g_when (b := decide ((((tws m.setting).length : Nat) : Int) ≤ ((s : Nat) : Int))) (by wtm_at "ev") (fun hb => ?_) (fun hb => ?_)
  · have c : ¬ s < (tws m.setting).length := by
      have := of_decide_eq_true hb
      omega
    exact g_err fun v H2 e2 r => k _ _ e2 (by rw [a_suspects_no c]; exact r)
  · have c : s < (tws m.setting).length := by
      have := of_decide_eq_false hb
      omega
    exact g_ret (cr_listed T (cr_suspects T (by wtm_at "ev") hM G (by omega)) (filter_le _ (by omega))) fun v H2 e2 r => k _ _ e2 (by rw [a_suspects c]; exact r)
theorem ok_suspects_at {P : Program} {w : World} {K : PySem.W.Frag} {mg : Str → Option Value} {base : Heap} {h : Heap} (T : Tx K mg h) : OkF P w K mg base 7 "suspects_at" ["monitor", "signal"] (sp_suspects_at K) :=
  mkOk T (st := s_suspects_at) (N := ["monitor", "signal"]) 65 65 sc_suspects_at (by rintro vs H Q E ⟨_, ⟨rfl, _⟩, _⟩; rfl) (fun f cdv A outer s H vs Q E hr hsp => ⟨t_suspects_at K, (pss_cons (ps_if (pt_cmp (pc_ge (pv 1) (pe_fld (pe_fld (pv 0) rfl) rfl))) (pss_one (ps_ret (pe_lst (pa_cons (pe_gint (T.int 102) rfl) pa_nil)))) pss_nil)
      (pss_one (ps_ret (pe_callO (ok_listed T) (hr.mono (by decide)) rfl (pa_cons (pe_callO (ok_suspects T) (hr.mono (by decide)) rfl (pa_cons (pv 0) (pa_cons (pv 1) pa_nil))) pa_nil))))), rd_suspects_at T hsp⟩) (fun _ _ _ _ _ _ us hl => match us, hl with | [_, _], _ => rfl)
abbrev s_next_harm_probability : Stmt := top 98
theorem sc_next_harm_probability : FnScope ["monitor"] ["monitor"] (defScope s_next_harm_probability) := ⟨rfl, rfl, rfl, by decide +kernel, rfl, by decide +kernel, by decide +kernel⟩
def t_next_harm_probability (K : PySem.W.Frag) : TS :=
    (tSeq (tIfS (tTest (tOp (rEqD K) (tCall (sp_candidates K) [] E0 (tCons (tVar 0) tNil)) (tLst tNil))) (tRet (tLst (tCons (tC (.int (-33))) tNil))) tNext)
    (tRet (tCall (sp_told K) [] E0 (tCons (tCall (sp_next_harm K) [] E0 (tCons (tVar 0) tNil)) tNil))))
def sp_next_harm_probability (K : PySem.W.Frag) : Sp := SpF (ι := Addr × Mo × Lay) (fun i vs H => vs = [.ref i.1] ∧ MonL K H i.1 i.2.1 i.2.2 ∧ GoodM i.2.1) (fun i v H => LsI v H (aL i.2.1 .nextHarmProbability))
theorem rd_next_harm_probability {K : PySem.W.Frag} {mg : Str → Option Value} {h : Heap} (T : Tx K mg h) {vs : List V} {H : Hp} {Q : VK} {E : XK} (hsp : sp_next_harm_probability K vs H Q E) : t_next_harm_probability K { nx := fun _ H' => Q .non H', rt := Q } (start ["monitor"] vs) H := by
  obtain ⟨⟨a, m, L⟩, ⟨rfl, hM, G⟩, k⟩ := hsp
  dsimp only at hM G k ⊢
  refine Sg.go (H := H) ?_ (Ex.refl H)
  refine g_when (b := (Kp417.candidates m).isEmpty) (et_test (ev_nil (cr_candidates T (by wtm_at "ev") hM G))) (fun hb => ?_) (fun hb => ?_)
  · exact g_err fun v H2 e2 r => k _ _ e2 (by rw [a_next_no hb]; exact r)
  · exact g_ret (cr_told T (cr_next_harm T (by wtm_at "ev") hM G)) fun v H2 e2 r => k _ _ e2 (by rw [a_next hb]; exact r)
theorem ok_next_harm_probability {P : Program} {w : World} {K : PySem.W.Frag} {mg : Str → Option Value} {base : Heap} {h : Heap} (T : Tx K mg h) : OkF P w K mg base 8 "next_harm_probability" ["monitor"] (sp_next_harm_probability K) :=
  mkOk T (st := s_next_harm_probability) (N := ["monitor"]) 66 66 sc_next_harm_probability (by rintro vs H Q E ⟨_, ⟨rfl, _⟩, _⟩; rfl) (fun f cdv A outer s H vs Q E hr hsp => ⟨t_next_harm_probability K, (pss_cons (ps_if (pt_cmpR (op_eqD hr.units) (pe_callO (ok_candidates T) (hr.mono (by decide)) rfl (pa_cons (pv 0) pa_nil)) (pe_lst pa_nil) (nomark _)) (pss_one (ps_ret (pe_lst (pa_cons (pe_gint (T.int 107) rfl) pa_nil)))) pss_nil)
      (pss_one (ps_ret (pe_callO (ok_told T) (hr.mono (by decide)) rfl (pa_cons (pe_callO (ok_next_harm T) (hr.mono (by decide)) rfl (pa_cons (pv 0) pa_nil)) pa_nil))))), rd_next_harm_probability T hsp⟩) (fun _ _ _ _ _ _ us hl => match us, hl with | [_], _ => rfl)
abbrev s_worst : Stmt := top 99
theorem sc_worst : FnScope ["monitor", "index", "harm"] ["monitor"] (defScope s_worst) := ⟨rfl, rfl, rfl, by decide +kernel, rfl, by decide +kernel, by decide +kernel⟩
def t_worst (K : PySem.W.Frag) : TS :=
    (tSeq (tIfS (tTest (tOp (rEqD K) (tCall (sp_candidates K) [] E0 (tCons (tVar 0) tNil)) (tLst tNil))) (tRet (tLst (tCons (tC (.int (-33))) tNil))) tNext)
    (tSeq (tAsg (tCall (sp_worst_candidate K) [] E0 (tCons (tVar 0) tNil)) (gName 1))
    (tSeq (tAsg (tCall (sp_harm_of K) [] E0 (tCons (tVar 0) (tCons (tVar 1) tNil))) (gName 2))
    (tRet (tLst (tCons (tVar 1) (tCons (tOp (rIxT K) (tVar 2) (tC (.int 0))) (tCons (tOp (rIxT K) (tVar 2) (tC (.int 1))) tNil))))))))
def sp_worst (K : PySem.W.Frag) : Sp := SpF (ι := Addr × Mo × Lay) (fun i vs H => vs = [.ref i.1] ∧ MonL K H i.1 i.2.1 i.2.2 ∧ GoodM i.2.1) (fun i v H => LsI v H (aL i.2.1 .worstCandidate))
theorem rd_worst {K : PySem.W.Frag} {mg : Str → Option Value} {h : Heap} (T : Tx K mg h) {vs : List V} {H : Hp} {Q : VK} {E : XK} (hsp : sp_worst K vs H Q E) : t_worst K { nx := fun _ H' => Q .non H', rt := Q } (start ["monitor", "index", "harm"] vs) H := by
  obtain ⟨⟨a, m, L⟩, ⟨rfl, hM, G⟩, k⟩ := hsp
  dsimp only at hM G k ⊢
  refine Sg.go (H := H) ?_ (Ex.refl H)
  refine g_when (b := (Kp417.candidates m).isEmpty) (et_test (ev_nil (cr_candidates T (by wtm_at "ev") hM G))) (fun hb => ?_) (fun hb => ?_)
  · exact g_err fun v H2 e2 r => k _ _ e2 (by rw [a_worst_no hb]; exact r)
  · obtain ⟨c, r, hcr⟩ := isEmpty_f hb
    have hw := worst_eq G.s.p1 hcr
    have hc : c ∈ Kp417.candidates m := by
      rw [hcr]
      exact List.mem_cons_self
    have hlt : (Kp417.candidates m).foldl (wStep m) c < m.policies.length := cand_lt (fold_mem (S := Kp417.candidates m) _ c hc fun x hx => hx)
    generalize (Kp417.candidates m).foldl (wStep m) c = w at hw hlt
    refine g_set (cv_worst_candidate T (by wtm_at "ev") hM G hw) ?_
    refine g_setR (cr_harm_of T (by wtm_at "ev") hM G hlt) fun hv H1 e1 hq => ?_
    have hq' : FrI hv H1 (Kp417.harmOf m w).num ((Kp417.harmOf m w).den : Int) := hq
    exact g_ret (er_lstI (l := ((w : Nat) : Int) :: fr (Kp417.harmOf m w)) (by show EvA _ _ _ [_, _, _]; wtm_at "ev") (by show 3 ≤ 1000; decide)) fun v H2 e2 r => k _ _ (e1.trans e2) (by rw [a_worst hw]; exact r)
theorem ok_worst {P : Program} {w : World} {K : PySem.W.Frag} {mg : Str → Option Value} {base : Heap} {h : Heap} (T : Tx K mg h) : OkF P w K mg base 7 "worst" ["monitor"] (sp_worst K) :=
  mkOk T (st := s_worst) (N := ["monitor", "index", "harm"]) 67 67 sc_worst (by rintro vs H Q E ⟨_, ⟨rfl, _⟩, _⟩; rfl) (fun f cdv A outer s H vs Q E hr hsp => ⟨t_worst K, (pss_cons (ps_if (pt_cmpR (op_eqD hr.units) (pe_callO (ok_candidates T) (hr.mono (by decide)) rfl (pa_cons (pv 0) pa_nil)) (pe_lst pa_nil) (nomark _)) (pss_one (ps_ret (pe_lst (pa_cons (pe_gint (T.int 107) rfl) pa_nil)))) pss_nil)
      (pss_cons (ps_set (i := 1) sc_worst.nd rfl (Or.inl rfl) (pe_callO (ok_worst_candidate T) (hr.mono (by decide)) rfl (pa_cons (pv 0) pa_nil)))
      (pss_cons (ps_set (i := 2) sc_worst.nd rfl (Or.inl rfl) (pe_callO (ok_harm_of T) (hr.mono (by decide)) rfl (pa_cons (pv 0) (pa_cons (pv 1) pa_nil))))
      (pss_one (ps_ret (pe_lst (pa_cons (pv 1) (pa_cons (pe_ix ix_tup (pv 2) pe_int (fun _ _ => rfl)) (pa_cons (pe_ix ix_tup (pv 2) pe_int (fun _ _ => rfl)) pa_nil))))))))), rd_worst T hsp⟩) (fun _ _ _ _ _ _ us hl => match us, hl with | [_], _ => rfl)
abbrev s_is_detectable : Stmt := top 100
theorem sc_is_detectable : FnScope ["monitor", "policy"] ["monitor", "policy"] (defScope s_is_detectable) := ⟨rfl, rfl, rfl, by decide +kernel, rfl, by decide +kernel, by decide +kernel⟩
def t_is_detectable (K : PySem.W.Frag) : TS :=
    (tSeq (tIfS (tNot (tB (tCall (sp_has_policy K) [] E0 (tCons (tVar 0) (tCons (tVar 1) tNil))))) (tRet (tLst (tCons (tC (.int (-2))) tNil))) tNext)
    (tSeq (tIfS (tB (tGt (tCall (sp_detection_top K) [] E0 (tCons (tVar 0) (tCons (tVar 1) tNil))) (tC (.int 0)))) (tRet (tLst (tCons (tC (.int 1)) tNil))) tNext)
    (tRet (tLst (tCons (tC (.int 0)) tNil)))))
def sp_is_detectable (K : PySem.W.Frag) : Sp := SpF (ι := Addr × Mo × Lay × Nat) (fun i vs H => vs = [.ref i.1, .int ((i.2.2.2 : Nat) : Int)] ∧ MonL K H i.1 i.2.1 i.2.2.1 ∧ GoodM i.2.1) (fun i v H => LsI v H (aL i.2.1 (.isDetectable i.2.2.2)))
theorem rd_is_detectable {K : PySem.W.Frag} {mg : Str → Option Value} {h : Heap} (T : Tx K mg h) {vs : List V} {H : Hp} {Q : VK} {E : XK} (hsp : sp_is_detectable K vs H Q E) : t_is_detectable K { nx := fun _ H' => Q .non H', rt := Q } (start ["monitor", "policy"] vs) H := by
  obtain ⟨⟨a, m, L, i⟩, ⟨rfl, hM, G⟩, k⟩ := hsp
  dsimp only at hM G k ⊢
  refine Sg.go (H := H) ?_ (Ex.refl H)
  refine g_when (b := !decide (i < m.policies.length)) (by wtm_at "ev") (fun hb => ?_) (fun hb => ?_)
  · have c : ¬ i < m.policies.length := by simpa using hb
    exact g_err fun v H2 e2 r => k _ _ e2 (by rw [a_detectable_no c]; exact r)
  · have c : i < m.policies.length := by simpa using hb
    rw [a_detectable c G.s.t1] at k
    refine g_when (b := decide ((0 : Int) < ((dTop m i : Nat) : Int))) (by wtm_at "ev") (fun hb2 => ?_) (fun hb2 => ?_)
    · have z : 0 < dTop m i := by
        have := of_decide_eq_true hb2
        omega
      rw [if_pos z] at k
      exact g_err k
    · have z : ¬ 0 < dTop m i := by
        have := of_decide_eq_false hb2
        omega
      rw [if_neg z] at k
      exact g_err k
theorem ok_is_detectable {P : Program} {w : World} {K : PySem.W.Frag} {mg : Str → Option Value} {base : Heap} {h : Heap} (T : Tx K mg h) : OkF P w K mg base 5 "is_detectable" ["monitor", "policy"] (sp_is_detectable K) :=
  mkOk T (st := s_is_detectable) (N := ["monitor", "policy"]) 68 68 sc_is_detectable (by rintro vs H Q E ⟨_, ⟨rfl, _⟩, _⟩; rfl) (fun f cdv A outer s H vs Q E hr hsp => ⟨t_is_detectable K, (pss_cons (ps_if (pt_not (pt_val (pe_callO (ok_has_policy T) (hr.mono (by decide)) rfl (pa_cons (pv 0) (pa_cons (pv 1) pa_nil))))) (pss_one (ps_ret (pe_lst (pa_cons (pe_gint (T.int 102) rfl) pa_nil)))) pss_nil)
      (pss_cons (ps_if (pt_cmp (pc_gt (pe_callO (ok_detection_top T) (hr.mono (by decide)) rfl (pa_cons (pv 0) (pa_cons (pv 1) pa_nil))) pe_int)) (pss_one (ps_ret (pe_lst (pa_cons pe_int pa_nil)))) pss_nil)
      (pss_one (ps_ret (pe_lst (pa_cons pe_int pa_nil)))))), rd_is_detectable T hsp⟩) (fun _ _ _ _ _ _ us hl => match us, hl with | [_, _], _ => rfl)
abbrev s_policy_detection_probability : Stmt := top 101
theorem sc_policy_detection_probability : FnScope ["monitor", "policy", "tests"] ["monitor", "policy", "tests"] (defScope s_policy_detection_probability) := ⟨rfl, rfl, rfl, by decide +kernel, rfl, by decide +kernel, by decide +kernel⟩
def t_policy_detection_probability (K : PySem.W.Frag) : TS :=
    (tSeq (tIfS (tNot (tB (tCall (sp_has_policy K) [] E0 (tCons (tVar 0) (tCons (tVar 1) tNil))))) (tRet (tLst (tCons (tC (.int (-2))) tNil))) tNext)
    (tSeq (tIfS (tB (tGt (tVar 2) (tC (.int (12))))) (tRet (tLst (tCons (tC (.int (-22))) tNil))) tNext)
    (tRet (tCall (sp_told K) [] E0 (tCons (tCall (sp_detection_by K) [] E0 (tCons (tVar 0) (tCons (tVar 1) (tCons (tVar 2) tNil)))) tNil)))))
def sp_policy_detection_probability (K : PySem.W.Frag) : Sp := SpF (ι := Addr × Mo × Lay × Nat × Nat) (fun i vs H => vs = [.ref i.1, .int ((i.2.2.2.1 : Nat) : Int), .int ((i.2.2.2.2 : Nat) : Int)] ∧ MonL K H i.1 i.2.1 i.2.2.1 ∧ GoodM i.2.1) (fun i v H => LsI v H (aL i.2.1 (.policyDetectionProbability i.2.2.2.1 i.2.2.2.2)))
theorem rd_policy_detection_probability {K : PySem.W.Frag} {mg : Str → Option Value} {h : Heap} (T : Tx K mg h) {vs : List V} {H : Hp} {Q : VK} {E : XK} (hsp : sp_policy_detection_probability K vs H Q E) : t_policy_detection_probability K { nx := fun _ H' => Q .non H', rt := Q } (start ["monitor", "policy", "tests"] vs) H := by
  obtain ⟨⟨a, m, L, i, t⟩, ⟨rfl, hM, G⟩, k⟩ := hsp
  dsimp only at hM G k ⊢
  refine Sg.go (H := H) ?_ (Ex.refl H)
  refine g_when (b := !decide (i < m.policies.length)) (by wtm_at "ev") (fun hb => ?_) (fun hb => ?_)
  · have c : ¬ i < m.policies.length := by simpa using hb
    exact g_err fun v H2 e2 r => k _ _ e2 (by rw [a_detect_no c]; exact r)
  · have c : i < m.policies.length := by simpa using hb
    refine g_when (b := decide ((12 : Int) < ((t : Nat) : Int))) (by wtm_at "ev") (fun hb2 => ?_) (fun hb2 => ?_)
    · have z : 12 < t := by
        have := of_decide_eq_true hb2
        omega
      exact g_err fun v H2 e2 r => k _ _ e2 (by rw [a_detect_big c z]; exact r)
    · have z : ¬ 12 < t := by
        have := of_decide_eq_false hb2
        omega
      exact g_ret (cr_told T (cr_detection_by T (by wtm_at "ev") hM G c (by omega))) fun v H2 e2 r => k _ _ e2 (by rw [a_detect c z]; exact r)
theorem ok_policy_detection_probability {P : Program} {w : World} {K : PySem.W.Frag} {mg : Str → Option Value} {base : Heap} {h : Heap} (T : Tx K mg h) : OkF P w K mg base 6 "policy_detection_probability" ["monitor", "policy", "tests"] (sp_policy_detection_probability K) :=
  mkOk T (st := s_policy_detection_probability) (N := ["monitor", "policy", "tests"]) 69 69 sc_policy_detection_probability (by rintro vs H Q E ⟨_, ⟨rfl, _⟩, _⟩; rfl) (fun f cdv A outer s H vs Q E hr hsp => ⟨t_policy_detection_probability K, (pss_cons (ps_if (pt_not (pt_val (pe_callO (ok_has_policy T) (hr.mono (by decide)) rfl (pa_cons (pv 0) (pa_cons (pv 1) pa_nil))))) (pss_one (ps_ret (pe_lst (pa_cons (pe_gint (T.int 102) rfl) pa_nil)))) pss_nil)
      (pss_cons (ps_if (pt_cmp (pc_gt (pv 2) (pe_gint (T.int 115) rfl))) (pss_one (ps_ret (pe_lst (pa_cons (pe_gint (T.int 103) rfl) pa_nil)))) pss_nil)
      (pss_one (ps_ret (pe_callO (ok_told T) (hr.mono (by decide)) rfl (pa_cons (pe_callO (ok_detection_by T) (hr.mono (by decide)) rfl (pa_cons (pv 0) (pa_cons (pv 1) (pa_cons (pv 2) pa_nil)))) pa_nil)))))), rd_policy_detection_probability T hsp⟩) (fun _ _ _ _ _ _ us hl => match us, hl with | [_, _, _], _ => rfl)
end Pw
namespace Pw
open PySem PySem.Spec PyProof.Rows L2 Evl
theorem valid_bd {n d : Nat} (h : Kp415.validFraction n d = true) : n ≤ 99 ∧ d ≤ 99 ∧ 1 ≤ d ∧ n ≤ d := by
  unfold Kp415.validFraction at h
  rw [Bool.and_eq_true, Bool.and_eq_true, decide_eq_true_eq, decide_eq_true_eq, decide_eq_true_eq] at h
  omega
abbrev s_tests_needed : Stmt := top 102
theorem sc_tests_needed : FnScope ["monitor", "num", "den", "tests"] ["monitor", "num", "den"] (defScope s_tests_needed) := ⟨rfl, rfl, rfl, by decide +kernel, rfl, by decide +kernel, by decide +kernel⟩
def t_tests_needed (K : PySem.W.Frag) : TS :=
    (tSeq (tIfS (tNot (tB (tCall (sp_is_share K) [] E0 (tCons (tVar 1) (tCons (tVar 2) tNil))))) (tRet (tLst (tCons (tC (.int (-22))) tNil))) tNext)
    (tSeq (tFor (iRng1 (tCons (tOp (rI0 fun i j => .int (i + j)) (tC (.int (12))) (tC (.int 1))) tNil)) (gName 3) (tIfS (tB (tCall (sp_are_enough K) [] E0 (tCons (tVar 0) (tCons (tVar 3) (tCons (tTup (tCons (tVar 1) (tCons (tVar 2) tNil))) tNil))))) (tRet (tLst (tCons (tVar 3) tNil))) tNext))
    (tRet (tLst (tCons (tC (.int (-33))) tNil)))))
def sp_tests_needed (K : PySem.W.Frag) : Sp := SpF (ι := Addr × Mo × Lay × Nat × Nat) (fun i vs H => vs = [.ref i.1, .int ((i.2.2.2.1 : Nat) : Int), .int ((i.2.2.2.2 : Nat) : Int)] ∧ MonL K H i.1 i.2.1 i.2.2.1 ∧ GoodM i.2.1) (fun i v H => LsI v H (aL i.2.1 (.testsNeeded i.2.2.2.1 i.2.2.2.2)))
theorem rd_tests_needed {K : PySem.W.Frag} {mg : Str → Option Value} {h : Heap} (T : Tx K mg h) {vs : List V} {H : Hp} {Q : VK} {E : XK} (hsp : sp_tests_needed K vs H Q E) : t_tests_needed K { nx := fun _ H' => Q .non H', rt := Q } (start ["monitor", "num", "den", "tests"] vs) H := by
  obtain ⟨⟨a, m, L, n, d⟩, ⟨rfl, hM, G⟩, k⟩ := hsp
  dsimp only at hM G k ⊢
  refine Sg.go (H := H) ?_ (Ex.refl H)
  refine g_when (b := !Kp415.validFraction n d) (by wtm_at "ev") (fun hb => ?_) (fun hb => ?_)
  · have c : Kp415.validFraction n d = false := by simpa using hb
    exact g_err fun v H2 e2 r => k _ _ e2 (by rw [a_needed_no c]; exact r)
  · have c : Kp415.validFraction n d = true := by simpa using hb
    obtain ⟨b1, b2, b3, b4⟩ := valid_bd c
    refine g_forR (n := 13) (ea_cons (ev_i (by wtm_at "ev") (by decide)) ea_nil) (by decide) (fun i σ' H' => (∃ v : Option V, σ' = [some (.ref a), some (.int ((n : Nat) : Int)), some (.int ((d : Nat) : Int)), v]) ∧ Ex H H' ∧ ∀ j, j < i → enough m j (Kp415.toRat n d) = false) (fun H1 e => ⟨⟨none, rfl⟩, e, fun j hj => absurd hj (Nat.not_lt_zero _)⟩) ?_ ?_
    · rintro i σ' H' hi ⟨⟨v, rfl⟩, e0, hall⟩
      refine Sg.go (H := H) ?_ e0
      refine g_if1 (b := enough m i (Kp415.toRat n d)) (et_B (cv_are_enough T (by wtm_at "ev") (by wtm_at "ev") (er_pair (ev_var rfl) (ev_var rfl)) hM G (by omega) b1 b2 b3)) (fun hb2 => ?_) (fun hb2 => ?_)
      · exact g_one (ev_var rfl) fun v H2 e2 r => k _ _ e2 (by rw [a_needed c hi hall hb2]; exact r)
      · refine g_next fun H2 e2 => ⟨⟨_, rfl⟩, e2, fun j hj => ?_⟩
        by_cases cj : j = i
        · rw [cj]
          exact hb2
        · exact hall j (by omega)
    · rintro σ' H' ⟨⟨v, rfl⟩, e0, hall⟩
      exact (g_err fun v H2 e2 r => k _ _ e2 (by rw [a_needed_none c hall]; exact r) : Sg _ _ _ H).go e0
theorem ok_tests_needed {P : Program} {w : World} {K : PySem.W.Frag} {mg : Str → Option Value} {base : Heap} {h : Heap} (T : Tx K mg h) : OkF P w K mg base 7 "tests_needed" ["monitor", "num", "den"] (sp_tests_needed K) :=
  mkOk T (st := s_tests_needed) (N := ["monitor", "num", "den", "tests"]) 70 70 sc_tests_needed (by rintro vs H Q E ⟨_, ⟨rfl, _⟩, _⟩; rfl) (fun f cdv A outer s H vs Q E hr hsp => ⟨t_tests_needed K, (pss_cons (ps_if (pt_not (pt_val (pe_callO (ok_is_share T) (hr.mono (by decide)) rfl (pa_cons (pv 1) (pa_cons (pv 2) pa_nil))))) (pss_one (ps_ret (pe_lst (pa_cons (pe_gint (T.int 103) rfl) pa_nil)))) pss_nil)
      (pss_cons (ps_for PassesOwn.never rfl (pi_range1 rfl (T.free 97) (pa_cons (pe_op op_add (pe_gint (T.int 115) rfl) pe_int) pa_nil)) (pg_name (i := 3) sc_tests_needed.nd rfl (Or.inl rfl)) (pss_one (ps_if (pt_val (pe_callO (ok_are_enough T) (hr.mono (by decide)) rfl (pa_cons (pv 0) (pa_cons (pv 3) (pa_cons (pe_tup (pa_cons (pv 1) (pa_cons (pv 2) pa_nil))) pa_nil))))) (pss_one (ps_ret (pe_lst (pa_cons (pv 3) pa_nil)))) pss_nil)))
      (pss_one (ps_ret (pe_lst (pa_cons (pe_gint (T.int 107) rfl) pa_nil)))))), rd_tests_needed T hsp⟩) (fun _ _ _ _ _ _ us hl => match us, hl with | [_, _, _], _ => rfl)
abbrev s_distinguishable : Stmt := top 103
theorem sc_distinguishable : FnScope ["monitor", "first", "second"] ["monitor", "first", "second"] (defScope s_distinguishable) := ⟨rfl, rfl, rfl, by decide +kernel, rfl, by decide +kernel, by decide +kernel⟩
def t_distinguishable (K : PySem.W.Frag) : TS :=
    (tSeq (tIfS (tOr (tNot (tB (tCall (sp_has_policy K) [] E0 (tCons (tVar 0) (tCons (tVar 1) tNil))))) (tNot (tB (tCall (sp_has_policy K) [] E0 (tCons (tVar 0) (tCons (tVar 2) tNil)))))) (tRet (tLst (tCons (tC (.int (-2))) tNil))) tNext)
    (tSeq (tIfS (tB (tCall (sp_are_distinguishable K) [] E0 (tCons (tVar 0) (tCons (tVar 1) (tCons (tVar 2) tNil))))) (tRet (tLst (tCons (tC (.int 1)) tNil))) tNext)
    (tRet (tLst (tCons (tC (.int 0)) tNil)))))
def sp_distinguishable (K : PySem.W.Frag) : Sp := SpF (ι := Addr × Mo × Lay × Nat × Nat) (fun i vs H => vs = [.ref i.1, .int ((i.2.2.2.1 : Nat) : Int), .int ((i.2.2.2.2 : Nat) : Int)] ∧ MonL K H i.1 i.2.1 i.2.2.1 ∧ GoodM i.2.1) (fun i v H => LsI v H (aL i.2.1 (.areDistinguishable i.2.2.2.1 i.2.2.2.2)))
theorem rd_distinguishable {K : PySem.W.Frag} {mg : Str → Option Value} {h : Heap} (T : Tx K mg h) {vs : List V} {H : Hp} {Q : VK} {E : XK} (hsp : sp_distinguishable K vs H Q E) : t_distinguishable K { nx := fun _ H' => Q .non H', rt := Q } (start ["monitor", "first", "second"] vs) H := by
  obtain ⟨⟨a, m, L, i, j⟩, ⟨rfl, hM, G⟩, k⟩ := hsp
  dsimp only at hM G k ⊢
  refine Sg.go (H := H) ?_ (Ex.refl H)
  refine g_when (b := !decide (i < m.policies.length) || !decide (j < m.policies.length)) (by wtm_at "ev") (fun hb => ?_) (fun hb => ?_)
  · have c : ¬ (i < m.policies.length ∧ j < m.policies.length) := by
      rintro ⟨h1, h2⟩
      rw [decide_eq_true h1, decide_eq_true h2] at hb
      cases hb
    exact g_err fun v H2 e2 r => k _ _ e2 (by rw [a_dist_no c]; exact r)
  · rw [Bool.or_eq_false_iff] at hb
    have c1 : i < m.policies.length := by simpa using hb.1
    have c2 : j < m.policies.length := by simpa using hb.2
    rw [a_dist c1 c2] at k
    refine g_when (b := Kp417.distinguishable m i j) (by wtm_at "ev") (fun hb2 => ?_) (fun hb2 => ?_)
    · rw [if_pos hb2] at k
      exact g_err k
    · rw [if_neg (by rw [hb2]; exact Bool.false_ne_true)] at k
      exact g_err k
theorem ok_distinguishable {P : Program} {w : World} {K : PySem.W.Frag} {mg : Str → Option Value} {base : Heap} {h : Heap} (T : Tx K mg h) : OkF P w K mg base 4 "distinguishable" ["monitor", "first", "second"] (sp_distinguishable K) :=
  mkOk T (st := s_distinguishable) (N := ["monitor", "first", "second"]) 71 71 sc_distinguishable (by rintro vs H Q E ⟨_, ⟨rfl, _⟩, _⟩; rfl) (fun f cdv A outer s H vs Q E hr hsp => ⟨t_distinguishable K, (pss_cons (ps_if (PW.pt (pw_or (pt_not (pt_val (pe_callO (ok_has_policy T) (hr.mono (by decide)) rfl (pa_cons (pv 0) (pa_cons (pv 1) pa_nil))))) (pw_or1 (pt_not (pt_val (pe_callO (ok_has_policy T) (hr.mono (by decide)) rfl (pa_cons (pv 0) (pa_cons (pv 2) pa_nil)))))))) (pss_one (ps_ret (pe_lst (pa_cons (pe_gint (T.int 102) rfl) pa_nil)))) pss_nil)
      (pss_cons (ps_if (pt_val (pe_callO (ok_are_distinguishable T) (hr.mono (by decide)) rfl (pa_cons (pv 0) (pa_cons (pv 1) (pa_cons (pv 2) pa_nil))))) (pss_one (ps_ret (pe_lst (pa_cons pe_int pa_nil)))) pss_nil)
      (pss_one (ps_ret (pe_lst (pa_cons pe_int pa_nil)))))), rd_distinguishable T hsp⟩) (fun _ _ _ _ _ _ us hl => match us, hl with | [_, _, _], _ => rfl)
abbrev s_permit_status : Stmt := top 104
theorem sc_permit_status : FnScope ["monitor"] ["monitor"] (defScope s_permit_status) := ⟨rfl, rfl, rfl, by decide +kernel, rfl, by decide +kernel, by decide +kernel⟩
def t_permit_status (K : PySem.W.Frag) : TS :=
    (tSeq (tIfS (tB (tCall (sp_is_allowed K) [] E0 (tCons (tVar 0) tNil))) (tRet (tOp rCat (tLst (tCons (tC (.int 1)) tNil)) (tCall (sp_old_permit K) [] E0 (tCons (tVar 0) tNil)))) tNext)
    (tRet (tOp rCat (tLst (tCons (tC (.int 0)) tNil)) (tCall (sp_old_permit K) [] E0 (tCons (tVar 0) tNil)))))
def sp_permit_status (K : PySem.W.Frag) : Sp := SpF (ι := Addr × Mo × Lay) (fun i vs H => vs = [.ref i.1] ∧ MonL K H i.1 i.2.1 i.2.2 ∧ GoodM i.2.1) (fun i v H => LsI v H (aL i.2.1 .permitStatus))
theorem rd_permit_status {K : PySem.W.Frag} {mg : Str → Option Value} {h : Heap} (T : Tx K mg h) {vs : List V} {H : Hp} {Q : VK} {E : XK} (hsp : sp_permit_status K vs H Q E) : t_permit_status K { nx := fun _ H' => Q .non H', rt := Q } (start ["monitor"] vs) H := by
  obtain ⟨⟨a, m, L⟩, ⟨rfl, hM, G⟩, k⟩ := hsp
  dsimp only at hM G k ⊢
  rw [a_status] at k
  have hl := perPair (o := m.permit)
  refine Sg.go (H := H) ?_ (Ex.refl H)
  refine g_when (b := Kp417.allowed m) (by wtm_at "ev") (fun hb => ?_) (fun hb => ?_)
  · rw [if_pos hb] at k
    exact g_ret (er_cat (xs := [1]) (er_lstI (l := [1]) (ea_cons ev_c ea_nil) (by decide)) (cr_old_permit T (by wtm_at "ev") hM) (by rw [hl]; decide)) fun v H2 e2 r => k _ _ e2 r
  · rw [if_neg (by rw [hb]; exact Bool.false_ne_true)] at k
    exact g_ret (er_cat (xs := [0]) (er_lstI (l := [0]) (ea_cons ev_c ea_nil) (by decide)) (cr_old_permit T (by wtm_at "ev") hM) (by rw [hl]; decide)) fun v H2 e2 r => k _ _ e2 r
theorem ok_permit_status {P : Program} {w : World} {K : PySem.W.Frag} {mg : Str → Option Value} {base : Heap} {h : Heap} (T : Tx K mg h) : OkF P w K mg base 9 "permit_status" ["monitor"] (sp_permit_status K) :=
  mkOk T (st := s_permit_status) (N := ["monitor"]) 72 72 sc_permit_status (by rintro vs H Q E ⟨_, ⟨rfl, _⟩, _⟩; rfl) (fun f cdv A outer s H vs Q E hr hsp => ⟨t_permit_status K, (pss_cons (ps_if (pt_val (pe_callO (ok_is_allowed T) (hr.mono (by decide)) rfl (pa_cons (pv 0) pa_nil))) (pss_one (ps_ret (pe_op op_cat (pe_lst (pa_cons pe_int pa_nil)) (pe_callO (ok_old_permit T) (hr.mono (by decide)) rfl (pa_cons (pv 0) pa_nil))))) pss_nil)
      (pss_one (ps_ret (pe_op op_cat (pe_lst (pa_cons pe_int pa_nil)) (pe_callO (ok_old_permit T) (hr.mono (by decide)) rfl (pa_cons (pv 0) pa_nil)))))), rd_permit_status T hsp⟩) (fun _ _ _ _ _ _ us hl => match us, hl with | [_], _ => rfl)
abbrev s_candidates_after_test : Stmt := top 105
theorem sc_candidates_after_test : FnScope ["monitor", "signal", "cheated"] ["monitor", "signal", "cheated"] (defScope s_candidates_after_test) := ⟨rfl, rfl, rfl, by decide +kernel, rfl, by decide +kernel, by decide +kernel⟩
def t_candidates_after_test (K : PySem.W.Frag) : TS :=
    (tSeq (tIfS (tB (tGe (tVar 1) (tFld K (tFld K (tVar 0) "setting") "signal_count"))) (tRet (tLst (tCons (tC (.int (-2))) tNil))) tNext)
    (tSeq (tIfS (tOr (tB (tGt (tVar 2) (tC (.int 1)))) (tB (tEqI (tOp (rIxL K) (tFld K (tFld K (tVar 0) "setting") "test_weights") (tVar 1)) (tC (.int 0))))) (tRet (tLst (tCons (tC (.int (-22))) tNil))) tNext)
    (tRet (tCall (sp_listed K) [] E0 (tCons (tCall (sp_candidates_by K) [] E0 (tCons (tVar 0) (tCons (tOp rCat (tFld K (tVar 0) "log") (tLst (tCons (tTup (tCons (tVar 2) (tCons (tVar 1) tNil))) tNil))) tNil))) tNil)))))
def sp_candidates_after_test (K : PySem.W.Frag) : Sp := SpF (ι := Addr × Mo × Lay × Nat × Nat) (fun i vs H => vs = [.ref i.1, .int ((i.2.2.2.1 : Nat) : Int), .int ((i.2.2.2.2 : Nat) : Int)] ∧ MonL K H i.1 i.2.1 i.2.2.1 ∧ GoodM i.2.1) (fun i v H => LsI v H (aL i.2.1 (.candidatesAfterTest i.2.2.2.1 i.2.2.2.2)))
theorem sig_snoc {m : Mo} (G : GoodM m) {e : Kp417.Entry} (he : e.signal ≤ 60) : ∀ x ∈ m.log ++ [e], x.signal ≤ 60 := fun x hx => by
  rcases List.mem_append.mp hx with h | h
  · exact G.s60 x h
  · rw [List.mem_singleton.mp h]
    exact he
theorem candBy_len {m : Mo} (G : GoodM m) (lg : List Kp417.Entry) : (candBy m lg).length ≤ 6 := Nat.le_trans (filt_len _ _) G.p6
theorem bad_iff {m : Mo} {s t : Nat} : (decide ((1 : Int) < ((t : Nat) : Int)) || decide ((((tws m.setting).getD s 0 : Nat) : Int) = 0)) = true ↔ 1 < t ∨ (tws m.setting).getD s 0 = 0 := by
  rw [Bool.or_eq_true, decide_eq_true_eq, decide_eq_true_eq]
  omega
theorem rd_candidates_after_test {K : PySem.W.Frag} {mg : Str → Option Value} {h : Heap} (T : Tx K mg h) {vs : List V} {H : Hp} {Q : VK} {E : XK} (hsp : sp_candidates_after_test K vs H Q E) : t_candidates_after_test K { nx := fun _ H' => Q .non H', rt := Q } (start ["monitor", "signal", "cheated"] vs) H := by
  obtain ⟨⟨a, m, L, s, t⟩, ⟨rfl, hM, G⟩, k⟩ := hsp
  dsimp only at hM G k ⊢
  have g5 := G.s.n5
  have g16 := G.l16
  have hset := hM.set
  refine Sg.go (H := H) ?_ (Ex.refl H)
  refine g_when (b := decide ((((tws m.setting).length : Nat) : Int) ≤ ((s : Nat) : Int))) (by wtm_at "ev") (fun hb => ?_) (fun hb => ?_)
  · have c : ¬ s < (tws m.setting).length := by
      have := of_decide_eq_true hb
      omega
    exact g_err fun v H2 e2 r => k _ _ e2 (by rw [a_after_no c]; exact r)
  · have c : s < (tws m.setting).length := by
      have := of_decide_eq_false hb
      omega
    refine g_when (b := decide ((1 : Int) < ((t : Nat) : Int)) || decide ((((tws m.setting).getD s 0 : Nat) : Int) = 0)) (by wtm_at "ev") (fun hb2 => ?_) (fun hb2 => ?_)
    · exact g_err fun v H2 e2 r => k _ _ e2 (by rw [a_after_bad c (bad_iff.mp hb2)]; exact r)
    · have z : ¬ (1 < t ∨ (tws m.setting).getD s 0 = 0) := fun w => by
        rw [bad_iff.mpr w] at hb2
        cases hb2
      have ht : ¬ 1 < t := fun w => z (.inl w)
      have hE : logI (m.log ++ [Kp417.testEntry s t]) = logI m.log ++ [(((t : Nat) : Int), ((s : Nat) : Int))] := by
        rw [logI_snoc, test_code ht]
        rfl
      refine g_ret (cr_listed T (l := candBy m (m.log ++ [Kp417.testEntry s t])) (er_callX (ear_cons (ev_var rfl) (ear_one (er_snocP (evM_log T hM (ev_var rfl)) hM.log (ev_var rfl) (ev_var rfl) (by rw [logI_len]; omega)))) fun vs H1 e r => ?_) (Nat.le_trans (candBy_len G _) (by decide))) fun v H2 e2 r => k _ _ e2 (by rw [a_after c z]; exact r)
      obtain ⟨r', rfl, v, rfl, p, rfl, hp⟩ := r
      exact ⟨(a, m, L, p, m.log ++ [Kp417.testEntry s t]), ⟨rfl, hM.mono e, G, by rw [hE]; exact hp, sig_snoc G (by show s ≤ 60; omega)⟩, fun v' H2 _ q => q⟩
theorem ok_candidates_after_test {P : Program} {w : World} {K : PySem.W.Frag} {mg : Str → Option Value} {base : Heap} {h : Heap} (T : Tx K mg h) : OkF P w K mg base 5 "candidates_after_test" ["monitor", "signal", "cheated"] (sp_candidates_after_test K) :=
  mkOk T (st := s_candidates_after_test) (N := ["monitor", "signal", "cheated"]) 73 73 sc_candidates_after_test (by rintro vs H Q E ⟨_, ⟨rfl, _⟩, _⟩; rfl) (fun f cdv A outer s H vs Q E hr hsp => ⟨t_candidates_after_test K, (pss_cons (ps_if (pt_cmp (pc_ge (pv 1) (pe_fld (pe_fld (pv 0) rfl) rfl))) (pss_one (ps_ret (pe_lst (pa_cons (pe_gint (T.int 102) rfl) pa_nil)))) pss_nil)
      (pss_cons (ps_if (PW.pt (pw_or (pt_cmp (pc_gt (pv 2) pe_int)) (pw_or1 (pt_cmp (pc_eqI (pe_ix ix_list (pe_fld (pe_fld (pv 0) rfl) rfl) (pv 1) (fun _ _ => rfl)) pe_int))))) (pss_one (ps_ret (pe_lst (pa_cons (pe_gint (T.int 103) rfl) pa_nil)))) pss_nil)
      (pss_one (ps_ret (pe_callO (ok_listed T) (hr.mono (by decide)) rfl (pa_cons (pe_callO (ok_candidates_by T) (hr.mono (by decide)) rfl (pa_cons (pv 0) (pa_cons (pe_op op_cat (pe_fld (pv 0) rfl) (pe_lst (pa_cons (pe_tup (pa_cons (pv 2) (pa_cons (pv 1) pa_nil))) pa_nil))) pa_nil))) pa_nil)))))), rd_candidates_after_test T hsp⟩) (fun _ _ _ _ _ _ us hl => match us, hl with | [_, _, _], _ => rfl)
abbrev s_counts : Stmt := top 106
theorem sc_counts : FnScope ["monitor", "cheated"] ["monitor"] (defScope s_counts) := ⟨rfl, rfl, rfl, by decide +kernel, rfl, by decide +kernel, by decide +kernel⟩
def t_counts (K : PySem.W.Frag) : TS :=
    (tSeq (tAsg (tCall (sp_log_count K) [] E0 (tCons (tVar 0) (tCons (tC (.int 1)) tNil))) (gName 1))
    (tRet (tLst (tCons (tCB (rLenS K) (tCons (tFld K (tVar 0) "policies") tNil)) (tCons (tOp (rI0 fun i j => .int (i + j)) (tCall (sp_log_count K) [] E0 (tCons (tVar 0) (tCons (tC (.int 0)) tNil))) (tVar 1)) (tCons (tVar 1) (tCons (tCall (sp_log_count K) [] E0 (tCons (tVar 0) (tCons (tC (.int 2)) tNil))) tNil)))))))
def sp_counts (K : PySem.W.Frag) : Sp := SpF (ι := Addr × Mo × Lay) (fun i vs H => vs = [.ref i.1] ∧ MonL K H i.1 i.2.1 i.2.2 ∧ GoodM i.2.1) (fun i v H => LsI v H (aL i.2.1 .counts))
theorem rd_counts {K : PySem.W.Frag} {mg : Str → Option Value} {h : Heap} (T : Tx K mg h) {vs : List V} {H : Hp} {Q : VK} {E : XK} (hsp : sp_counts K vs H Q E) : t_counts K { nx := fun _ H' => Q .non H', rt := Q } (start ["monitor", "cheated"] vs) H := by
  obtain ⟨⟨a, m, L⟩, ⟨rfl, hM, G⟩, k⟩ := hsp
  dsimp only at hM G k ⊢
  rw [a_counts] at k
  refine Sg.go (H := H) ?_ (Ex.refl H)
  refine g_set (cv_log_count T (kd := 1) (by wtm_at "ev") rfl hM G) ?_
  exact g_ret (er_lstI (l := [((m.policies.length : Nat) : Int), ((lcount m 0 : Nat) : Int) + ((lcount m 1 : Nat) : Int), ((lcount m 1 : Nat) : Int), ((lcount m 2 : Nat) : Int)]) (ea_cons (by wtm_at "ev") (ea_cons (ev_add (cv_log_count T (kd := 0) (by wtm_at "ev") rfl hM G) (ev_var rfl)) (ea_cons (ev_var rfl) (ea_cons (cv_log_count T (kd := 2) (by wtm_at "ev") rfl hM G) ea_nil)))) (by show 4 ≤ 1000; decide)) fun v H2 e2 r => k _ _ e2 r
theorem ok_counts {P : Program} {w : World} {K : PySem.W.Frag} {mg : Str → Option Value} {base : Heap} {h : Heap} (T : Tx K mg h) : OkF P w K mg base 2 "counts" ["monitor"] (sp_counts K) :=
  mkOk T (st := s_counts) (N := ["monitor", "cheated"]) 74 74 sc_counts (by rintro vs H Q E ⟨_, ⟨rfl, _⟩, _⟩; rfl) (fun f cdv A outer s H vs Q E hr hsp => ⟨t_counts K, (pss_cons (ps_set (i := 1) sc_counts.nd rfl (Or.inl rfl) (pe_callO (ok_log_count T) (hr.mono (by decide)) rfl (pa_cons (pv 0) (pa_cons pe_int pa_nil))))
      (pss_one (ps_ret (pe_lst (pa_cons (pe_callB call_len_seq rfl (T.free 95) bt_len (pa_cons (pe_fld (pv 0) rfl) pa_nil)) (pa_cons (pe_op op_add (pe_callO (ok_log_count T) (hr.mono (by decide)) rfl (pa_cons (pv 0) (pa_cons pe_int pa_nil))) (pv 1)) (pa_cons (pv 1) (pa_cons (pe_callO (ok_log_count T) (hr.mono (by decide)) rfl (pa_cons (pv 0) (pa_cons pe_int pa_nil))) pa_nil)))))))), rd_counts T hsp⟩) (fun _ _ _ _ _ _ us hl => match us, hl with | [_], _ => rfl)
abbrev s_value_at : Stmt := top 107
theorem sc_value_at : FnScope ["monitor", "signal"] ["monitor", "signal"] (defScope s_value_at) := ⟨rfl, rfl, rfl, by decide +kernel, rfl, by decide +kernel, by decide +kernel⟩
def t_value_at (K : PySem.W.Frag) : TS :=
    (tSeq (tIfS (tB (tGe (tVar 1) (tFld K (tFld K (tVar 0) "setting") "signal_count"))) (tRet (tLst (tCons (tC (.int (-2))) tNil))) tNext)
    (tRet (tCall (sp_told K) [] E0 (tCons (tCall (sp_cheating_value K) [] E0 (tCons (tFld K (tVar 0) "setting") (tCons (tVar 1) tNil))) tNil))))
def sp_value_at (K : PySem.W.Frag) : Sp := SpF (ι := Addr × Mo × Lay × Nat) (fun i vs H => vs = [.ref i.1, .int ((i.2.2.2 : Nat) : Int)] ∧ MonL K H i.1 i.2.1 i.2.2.1 ∧ GoodM i.2.1) (fun i v H => LsI v H (aL i.2.1 (.cheatingValue i.2.2.2)))
theorem cr_cheating_value {K : PySem.W.Frag} {mg : Str → Option Value} {h : Heap} {σ : L2.St} {H : Hp} {ta : TA} (T : Tx K mg h) {a : Addr} {s : St} {i : Nat} (ha : EvA ta σ H [.ref a, .int ((i : Nat) : Int)]) (hs : SetAt K H a s) (G : GoodS s) (hi : i < (tws s).length) : EvR (tCall (sp_cheating_value K) [] E0 ta) σ H (fun v H => FrQ v H (Kp416.cheatingValue s i)) :=
  er_callV (R := fun (i : Addr × St × Nat) v H => FrQ v H (Kp416.cheatingValue i.2.1 i.2.2)) (a, s, i) ha fun H1 e => ⟨rfl, hs.mono e, G, hi⟩
theorem rd_value_at {K : PySem.W.Frag} {mg : Str → Option Value} {h : Heap} (T : Tx K mg h) {vs : List V} {H : Hp} {Q : VK} {E : XK} (hsp : sp_value_at K vs H Q E) : t_value_at K { nx := fun _ H' => Q .non H', rt := Q } (start ["monitor", "signal"] vs) H := by
  obtain ⟨⟨a, m, L, s⟩, ⟨rfl, hM, G⟩, k⟩ := hsp
  dsimp only at hM G k ⊢
  refine Sg.go (H := H) ?_ (Ex.refl H)
  refine g_when (b := decide ((((tws m.setting).length : Nat) : Int) ≤ ((s : Nat) : Int))) (by wtm_at "ev") (fun hb => ?_) (fun hb => ?_)
  · have c : ¬ s < (tws m.setting).length := by
      have := of_decide_eq_true hb
      omega
    exact g_err fun v H2 e2 r => k _ _ e2 (by rw [a_value_no c]; exact r)
  · have c : s < (tws m.setting).length := by
      have := of_decide_eq_false hb
      omega
    exact g_ret (cr_told T (cr_cheating_value T (by wtm_at "ev") hM.set G.s c)) fun v H2 e2 r => k _ _ e2 (by rw [a_value c]; exact r)
theorem ok_value_at {P : Program} {w : World} {K : PySem.W.Frag} {mg : Str → Option Value} {base : Heap} {h : Heap} (T : Tx K mg h) : OkF P w K mg base 4 "value_at" ["monitor", "signal"] (sp_value_at K) :=
  mkOk T (st := s_value_at) (N := ["monitor", "signal"]) 75 75 sc_value_at (by rintro vs H Q E ⟨_, ⟨rfl, _⟩, _⟩; rfl) (fun f cdv A outer s H vs Q E hr hsp => ⟨t_value_at K, (pss_cons (ps_if (pt_cmp (pc_ge (pv 1) (pe_fld (pe_fld (pv 0) rfl) rfl))) (pss_one (ps_ret (pe_lst (pa_cons (pe_gint (T.int 102) rfl) pa_nil)))) pss_nil)
      (pss_one (ps_ret (pe_callO (ok_told T) (hr.mono (by decide)) rfl (pa_cons (pe_callO (ok_cheating_value T) (hr.mono (by decide)) rfl (pa_cons (pe_fld (pv 0) rfl) (pa_cons (pv 1) pa_nil))) pa_nil))))), rd_value_at T hsp⟩) (fun _ _ _ _ _ _ us hl => match us, hl with | [_, _], _ => rfl)
/-- the answer with a deterrent prior, or the refusal -/
theorem opt_case {o : Option Rat} {v : V} {H : Hp} (h : OptQ v H o) : (v = .non ∧ optA o = [-33]) ∨ ∃ q, FrQ v H q ∧ optA o = 0 :: fr q := by
  cases o with
  | none => exact .inl ⟨h, rfl⟩
  | some q => exact .inr ⟨q, h, rfl⟩
abbrev s_deterrent_prior_at : Stmt := top 108
theorem sc_deterrent_prior_at : FnScope ["monitor", "signal", "prior"] ["monitor", "signal"] (defScope s_deterrent_prior_at) := ⟨rfl, rfl, rfl, by decide +kernel, rfl, by decide +kernel, by decide +kernel⟩
def t_deterrent_prior_at (K : PySem.W.Frag) : TS :=
    (tSeq (tIfS (tB (tGe (tVar 1) (tFld K (tFld K (tVar 0) "setting") "signal_count"))) (tRet (tLst (tCons (tC (.int (-2))) tNil))) tNext)
    (tSeq (tAsg (tCall (sp_deterrent_at K) [] E0 (tCons (tFld K (tVar 0) "setting") (tCons (tVar 1) tNil))) (gName 2))
    (tSeq (tIfS (tB (tIsN (tVar 2))) (tRet (tLst (tCons (tC (.int (-33))) tNil))) tNext)
    (tRet (tCall (sp_told K) [] E0 (tCons (tVar 2) tNil))))))
def sp_deterrent_prior_at (K : PySem.W.Frag) : Sp := SpF (ι := Addr × Mo × Lay × Nat) (fun i vs H => vs = [.ref i.1, .int ((i.2.2.2 : Nat) : Int)] ∧ MonL K H i.1 i.2.1 i.2.2.1 ∧ GoodM i.2.1) (fun i v H => LsI v H (aL i.2.1 (.deterrentPriorAt i.2.2.2)))
theorem rd_deterrent_prior_at {K : PySem.W.Frag} {mg : Str → Option Value} {h : Heap} (T : Tx K mg h) {vs : List V} {H : Hp} {Q : VK} {E : XK} (hsp : sp_deterrent_prior_at K vs H Q E) : t_deterrent_prior_at K { nx := fun _ H' => Q .non H', rt := Q } (start ["monitor", "signal", "prior"] vs) H := by
  obtain ⟨⟨a, m, L, s⟩, ⟨rfl, hM, G⟩, k⟩ := hsp
  dsimp only at hM G k ⊢
  refine Sg.go (H := H) ?_ (Ex.refl H)
  refine g_when (b := decide ((((tws m.setting).length : Nat) : Int) ≤ ((s : Nat) : Int))) (by wtm_at "ev") (fun hb => ?_) (fun hb => ?_)
  · have c : ¬ s < (tws m.setting).length := by
      have := of_decide_eq_true hb
      omega
    exact g_err fun v H2 e2 r => k _ _ e2 (by rw [a_detat_no c]; exact r)
  · have c : s < (tws m.setting).length := by
      have := of_decide_eq_false hb
      omega
    rw [a_detat c] at k
    refine g_setR (cr_deterrent_at T (by wtm_at "ev") hM.set G.s c) fun pv H1 e1 hp => ?_
    rcases opt_case hp with ⟨rfl, ho⟩ | ⟨q, hq, ho⟩
    · rw [ho] at k
      refine g_when (b := true) (et_B (ev_b (ev_isN (ev_var rfl)) rfl)) (fun _ => ?_) (fun z => nomatch z)
      exact g_err fun v H2 e2 r => k _ _ (e1.trans e2) r
    · rw [ho] at k
      refine g_when (b := false) (et_B (ev_b (ev_isN (ev_var rfl)) (optq_ne hq))) (fun z => nomatch z) (fun _ => ?_)
      exact g_ret (cr_told T (er_w (er_v (ev_var rfl)) fun v H2 e2 r => by rw [r]; exact FrI.mono e2 hq)) fun v H2 e2 r => k _ _ (e1.trans e2) r
theorem ok_deterrent_prior_at {P : Program} {w : World} {K : PySem.W.Frag} {mg : Str → Option Value} {base : Heap} {h : Heap} (T : Tx K mg h) : OkF P w K mg base 4 "deterrent_prior_at" ["monitor", "signal"] (sp_deterrent_prior_at K) :=
  mkOk T (st := s_deterrent_prior_at) (N := ["monitor", "signal", "prior"]) 76 76 sc_deterrent_prior_at (by rintro vs H Q E ⟨_, ⟨rfl, _⟩, _⟩; rfl) (fun f cdv A outer s H vs Q E hr hsp => ⟨t_deterrent_prior_at K, (pss_cons (ps_if (pt_cmp (pc_ge (pv 1) (pe_fld (pe_fld (pv 0) rfl) rfl))) (pss_one (ps_ret (pe_lst (pa_cons (pe_gint (T.int 102) rfl) pa_nil)))) pss_nil)
      (pss_cons (ps_set (i := 2) sc_deterrent_prior_at.nd rfl (Or.inl rfl) (pe_callO (ok_deterrent_at T) (hr.mono (by decide)) rfl (pa_cons (pe_fld (pv 0) rfl) (pa_cons (pv 1) pa_nil))))
      (pss_cons (ps_if (pt_cmp (pc_isN (pv 2))) (pss_one (ps_ret (pe_lst (pa_cons (pe_gint (T.int 107) rfl) pa_nil)))) pss_nil)
      (pss_one (ps_ret (pe_callO (ok_told T) (hr.mono (by decide)) rfl (pa_cons (pv 2) pa_nil))))))), rd_deterrent_prior_at T hsp⟩) (fun _ _ _ _ _ _ us hl => match us, hl with | [_, _], _ => rfl)
abbrev s_whole_deterrent_prior : Stmt := top 109
theorem sc_whole_deterrent_prior : FnScope ["monitor", "prior"] ["monitor"] (defScope s_whole_deterrent_prior) := ⟨rfl, rfl, rfl, by decide +kernel, rfl, by decide +kernel, by decide +kernel⟩
def t_whole_deterrent_prior (K : PySem.W.Frag) : TS :=
    (tSeq (tAsg (tCall (sp_deterrent_prior K) [] E0 (tCons (tFld K (tVar 0) "setting") tNil)) (gName 1))
    (tSeq (tIfS (tB (tIsN (tVar 1))) (tRet (tLst (tCons (tC (.int (-33))) tNil))) tNext)
    (tRet (tCall (sp_told K) [] E0 (tCons (tVar 1) tNil)))))
def sp_whole_deterrent_prior (K : PySem.W.Frag) : Sp := SpF (ι := Addr × Mo × Lay) (fun i vs H => vs = [.ref i.1] ∧ MonL K H i.1 i.2.1 i.2.2 ∧ GoodM i.2.1) (fun i v H => LsI v H (aL i.2.1 .deterrentPrior))
theorem cr_deterrent_prior {K : PySem.W.Frag} {mg : Str → Option Value} {h : Heap} {σ : L2.St} {H : Hp} {ta : TA} (T : Tx K mg h) {a : Addr} {s : St} (ha : EvA ta σ H [.ref a]) (hs : SetAt K H a s) (G : GoodS s) : EvR (tCall (sp_deterrent_prior K) [] E0 ta) σ H (fun v H => OptQ v H (Kp416.deterrentPrior s)) :=
  er_callV (R := fun (i : Addr × St) v H => OptQ v H (Kp416.deterrentPrior i.2)) (a, s) ha fun H1 e => ⟨rfl, hs.mono e, G⟩
theorem rd_whole_deterrent_prior {K : PySem.W.Frag} {mg : Str → Option Value} {h : Heap} (T : Tx K mg h) {vs : List V} {H : Hp} {Q : VK} {E : XK} (hsp : sp_whole_deterrent_prior K vs H Q E) : t_whole_deterrent_prior K { nx := fun _ H' => Q .non H', rt := Q } (start ["monitor", "prior"] vs) H := by
  obtain ⟨⟨a, m, L⟩, ⟨rfl, hM, G⟩, k⟩ := hsp
  dsimp only at hM G k ⊢
  rw [a_det] at k
  refine Sg.go (H := H) ?_ (Ex.refl H)
  refine g_setR (cr_deterrent_prior T (by wtm_at "ev") hM.set G.s) fun pv H1 e1 hp => ?_
  rcases opt_case hp with ⟨rfl, ho⟩ | ⟨q, hq, ho⟩
  · rw [ho] at k
    refine g_when (b := true) (et_B (ev_b (ev_isN (ev_var rfl)) rfl)) (fun _ => ?_) (fun z => nomatch z)
    exact g_err fun v H2 e2 r => k _ _ (e1.trans e2) r
  · rw [ho] at k
    refine g_when (b := false) (et_B (ev_b (ev_isN (ev_var rfl)) (optq_ne hq))) (fun z => nomatch z) (fun _ => ?_)
    exact g_ret (cr_told T (er_w (er_v (ev_var rfl)) fun v H2 e2 r => by rw [r]; exact FrI.mono e2 hq)) fun v H2 e2 r => k _ _ (e1.trans e2) r
theorem ok_whole_deterrent_prior {P : Program} {w : World} {K : PySem.W.Frag} {mg : Str → Option Value} {base : Heap} {h : Heap} (T : Tx K mg h) : OkF P w K mg base 5 "whole_deterrent_prior" ["monitor"] (sp_whole_deterrent_prior K) :=
  mkOk T (st := s_whole_deterrent_prior) (N := ["monitor", "prior"]) 77 77 sc_whole_deterrent_prior (by rintro vs H Q E ⟨_, ⟨rfl, _⟩, _⟩; rfl) (fun f cdv A outer s H vs Q E hr hsp => ⟨t_whole_deterrent_prior K, (pss_cons (ps_set (i := 1) sc_whole_deterrent_prior.nd rfl (Or.inl rfl) (pe_callO (ok_deterrent_prior T) (hr.mono (by decide)) rfl (pa_cons (pe_fld (pv 0) rfl) pa_nil)))
      (pss_cons (ps_if (pt_cmp (pc_isN (pv 1))) (pss_one (ps_ret (pe_lst (pa_cons (pe_gint (T.int 107) rfl) pa_nil)))) pss_nil)
      (pss_one (ps_ret (pe_callO (ok_told T) (hr.mono (by decide)) rfl (pa_cons (pv 1) pa_nil)))))), rd_whole_deterrent_prior T hsp⟩) (fun _ _ _ _ _ _ us hl => match us, hl with | [_], _ => rfl)
/-- the target (a, b) of a tuple of two -/
theorem g_unpackR {K : PySem.W.Frag} {σ : L2.St} {H : Hp} {te : TE} {D : Ends} {tz : TS} {i j : Nat} {R : V → Hp → Prop} (hv : EvR te σ H R) (k : ∀ v H1, Ex H H1 → R v H1 → ∃ p x y, v = .ref p ∧ H1 p = some (.tup [x, y]) ∧ Sg tz D ((σ.set i (some x)).set j (some y)) H1) : Sg (tSeq (tAsg te (gTup K 2 (gCons (gName i) (gCons (gName j) gNil)))) tz) D σ H := fun H1 e =>
  hv H1 e _ fun v H2 e2 r => by
    obtain ⟨p, x, y, rfl, hp, hk⟩ := k v H2 (e.trans e2) r
    exact ⟨p, _, rfl, SqT.of hp, rfl, _, _, rfl, _, _, rfl, rfl, hk H2 (Ex.refl H2)⟩
abbrev s_cheapest : Stmt := top 111
theorem sc_cheapest : FnScope ["monitor", "prior", "cost"] ["monitor"] (defScope s_cheapest) := ⟨rfl, rfl, rfl, by decide +kernel, rfl, by decide +kernel, by decide +kernel⟩
def t_cheapest (K : PySem.W.Frag) : TS :=
    (tSeq (tAsg (tCall (sp_cheapest_prior K) [] E0 (tCons (tFld K (tVar 0) "setting") tNil)) (gTup K 2 (gCons (gName 1) (gCons (gName 2) gNil))))
    (tRet (tLst (tCons (tC (.int 0)) (tCons (tOp (rIxT K) (tVar 1) (tC (.int 0))) (tCons (tOp (rIxT K) (tVar 1) (tC (.int 1))) (tCons (tOp (rIxT K) (tVar 2) (tC (.int 0))) (tCons (tOp (rIxT K) (tVar 2) (tC (.int 1))) tNil))))))))
def sp_cheapest (K : PySem.W.Frag) : Sp := SpF (ι := Addr × Mo × Lay) (fun i vs H => vs = [.ref i.1] ∧ MonL K H i.1 i.2.1 i.2.2 ∧ GoodM i.2.1) (fun i v H => LsI v H (aL i.2.1 .cheapestPrior))
theorem rd_cheapest {K : PySem.W.Frag} {mg : Str → Option Value} {h : Heap} (T : Tx K mg h) {vs : List V} {H : Hp} {Q : VK} {E : XK} (hsp : sp_cheapest K vs H Q E) : t_cheapest K { nx := fun _ H' => Q .non H', rt := Q } (start ["monitor", "prior", "cost"] vs) H := by
  obtain ⟨⟨a, m, L⟩, ⟨rfl, hM, G⟩, k⟩ := hsp
  dsimp only at hM G k ⊢
  rw [a_cheapest] at k
  refine Sg.go (H := H) ?_ (Ex.refl H)
  refine g_unpackR (er_callV (R := fun (i : Addr × St) v H => Fr2 v H (Kp416.cheapestPrior i.2) (Kp416.totalCost (Kp416.withPrior i.2 (Kp416.cheapestPrior i.2)))) (L.sa, m.setting) (by wtm_at "ev") fun H1 e => ⟨rfl, hM.set.mono e, G.s⟩) fun v H1 e1 r => ?_
  obtain ⟨t, x, y, rfl, ht, hx, hy⟩ := r
  refine ⟨t, x, y, rfl, ht, ?_⟩
  dsimp only at hx hy
  have hx' : FrI x H1 _ _ := hx
  have hy' : FrI y H1 _ _ := hy
  exact g_ret (er_lstI (l := 0 :: (fr (Kp416.cheapestPrior m.setting) ++ fr (Kp416.totalCost (Kp416.withPrior m.setting (Kp416.cheapestPrior m.setting))))) (ea_cons ev_c (ea_cons (ev_num (ev_var rfl) hx' ev_c) (ea_cons (ev_den (ev_var rfl) hx' ev_c) (ea_cons (ev_num (ev_var rfl) hy' ev_c) (ea_cons (ev_den (ev_var rfl) hy' ev_c) ea_nil))))) (by show 5 ≤ 1000; decide)) fun v H2 e2 r => k _ _ (e1.trans e2) r
theorem ok_cheapest {P : Program} {w : World} {K : PySem.W.Frag} {mg : Str → Option Value} {base : Heap} {h : Heap} (T : Tx K mg h) : OkF P w K mg base 7 "cheapest" ["monitor"] (sp_cheapest K) :=
  mkOk T (st := s_cheapest) (N := ["monitor", "prior", "cost"]) 78 78 sc_cheapest (by rintro vs H Q E ⟨_, ⟨rfl, _⟩, _⟩; rfl) (fun f cdv A outer s H vs Q E hr hsp => ⟨t_cheapest K, (pss_cons (ps_asg (pe_callO (ok_cheapest_prior T) (hr.mono (by decide)) rfl (pa_cons (pe_fld (pv 0) rfl) pa_nil)) (pg_tup rfl (pgs_cons (pg_name (i := 1) sc_cheapest.nd rfl (Or.inl rfl)) (pgs_cons (pg_name (i := 2) sc_cheapest.nd rfl (Or.inl rfl)) pgs_nil))))
      (pss_one (ps_ret (pe_lst (pa_cons pe_int (pa_cons (pe_ix ix_tup (pv 1) pe_int (fun _ _ => rfl)) (pa_cons (pe_ix ix_tup (pv 1) pe_int (fun _ _ => rfl)) (pa_cons (pe_ix ix_tup (pv 2) pe_int (fun _ _ => rfl)) (pa_cons (pe_ix ix_tup (pv 2) pe_int (fun _ _ => rfl)) pa_nil))))))))), rd_cheapest T hsp⟩) (fun _ _ _ _ _ _ us hl => match us, hl with | [_], _ => rfl)
theorem good_setP {s : St} (G : GoodS s) {n d : Nat} (h : Kp415.validFraction n d = true) : GoodS (setPrior s n d) := by
  obtain ⟨b1, b2, b3, b4⟩ := valid_bd h
  exact ⟨G.n1, G.n5, G.len, G.t1, G.p1, G.t9, G.p9, b3, b4, by show d < 2 ^ 40; omega, G.g9, G.l9, G.h9, G.c9⟩
theorem good_setS {s : St} (G : GoodS s) {g l : Nat} (h : ¬ (999 < g ∨ 999 < l)) : GoodS (setStakes s g l) :=
  ⟨G.n1, G.n5, G.len, G.t1, G.p1, G.t9, G.p9, G.d1, G.pd, G.dB, by show g ≤ 999; omega, by show l ≤ 999; omega, G.h9, G.c9⟩
/-- the signals at which cheating pays in a setting that a call makes -/
theorem cr_signalsX {K : PySem.W.Frag} {mg : Str → Option Value} {h : Heap} {σ : L2.St} {H : Hp} {ta : TE} (T : Tx K mg h) {s : St} (ha : EvR ta σ H (fun v H => ∃ p, v = .ref p ∧ SetAt K H p s)) (G : GoodS s) : EvR (tCall (sp_cheating_signals K) [] E0 (tCons ta tNil)) σ H (fun v H => LsN v H (Kp416.cheatingSignals s)) :=
  er_callX (ear_one ha) fun vs H1 e r => by
    obtain ⟨v, rfl, p, rfl, hp⟩ := r
    exact ⟨(p, s), ⟨rfl, hp, G⟩, fun v' H2 _ q => q⟩
abbrev s_signals_for_prior : Stmt := top 112
theorem sc_signals_for_prior : FnScope ["monitor", "num", "den"] ["monitor", "num", "den"] (defScope s_signals_for_prior) := ⟨rfl, rfl, rfl, by decide +kernel, rfl, by decide +kernel, by decide +kernel⟩
def t_signals_for_prior (K : PySem.W.Frag) : TS :=
    (tSeq (tIfS (tNot (tB (tCall (sp_is_share K) [] E0 (tCons (tVar 1) (tCons (tVar 2) tNil))))) (tRet (tLst (tCons (tC (.int (-22))) tNil))) tNext)
    (tRet (tCall (sp_listed K) [] E0 (tCons (tCall (sp_cheating_signals K) [] E0 (tCons (tCall (sp_with_prior K) [] E0 (tCons (tFld K (tVar 0) "setting") (tCons (tVar 1) (tCons (tVar 2) tNil)))) tNil)) tNil))))
def sp_signals_for_prior (K : PySem.W.Frag) : Sp := SpF (ι := Addr × Mo × Lay × Nat × Nat) (fun i vs H => vs = [.ref i.1, .int ((i.2.2.2.1 : Nat) : Int), .int ((i.2.2.2.2 : Nat) : Int)] ∧ MonL K H i.1 i.2.1 i.2.2.1 ∧ GoodM i.2.1) (fun i v H => LsI v H (aL i.2.1 (.cheatingSignalsForPrior i.2.2.2.1 i.2.2.2.2)))
theorem rd_signals_for_prior {K : PySem.W.Frag} {mg : Str → Option Value} {h : Heap} (T : Tx K mg h) {vs : List V} {H : Hp} {Q : VK} {E : XK} (hsp : sp_signals_for_prior K vs H Q E) : t_signals_for_prior K { nx := fun _ H' => Q .non H', rt := Q } (start ["monitor", "num", "den"] vs) H := by
  obtain ⟨⟨a, m, L, n, d⟩, ⟨rfl, hM, G⟩, k⟩ := hsp
  dsimp only at hM G k ⊢
  refine Sg.go (H := H) ?_ (Ex.refl H)
  refine g_when (b := !Kp415.validFraction n d) (by wtm_at "ev") (fun hb => ?_) (fun hb => ?_)
  · have c : Kp415.validFraction n d = false := by simpa using hb
    exact g_err fun v H2 e2 r => k _ _ e2 (by rw [a_forPrior_no c]; exact r)
  · have c : Kp415.validFraction n d = true := by simpa using hb
    have G' := good_setP G.s c
    exact g_ret (cr_listed T (cr_signalsX T (er_callV (R := fun (i : Addr × St × Nat × Nat) v H => ∃ p, v = .ref p ∧ SetAt K H p (setPrior i.2.1 i.2.2.1 i.2.2.2)) (L.sa, m.setting, n, d) (by wtm_at "ev") fun H1 e => ⟨rfl, hM.set.mono e, G.s.n5⟩) G') (Nat.le_trans (ch_len G') (by decide))) fun v H2 e2 r => k _ _ e2 (by rw [a_forPrior c]; exact r)
theorem ok_signals_for_prior {P : Program} {w : World} {K : PySem.W.Frag} {mg : Str → Option Value} {base : Heap} {h : Heap} (T : Tx K mg h) : OkF P w K mg base 5 "signals_for_prior" ["monitor", "num", "den"] (sp_signals_for_prior K) :=
  mkOk T (st := s_signals_for_prior) (N := ["monitor", "num", "den"]) 79 79 sc_signals_for_prior (by rintro vs H Q E ⟨_, ⟨rfl, _⟩, _⟩; rfl) (fun f cdv A outer s H vs Q E hr hsp => ⟨t_signals_for_prior K, (pss_cons (ps_if (pt_not (pt_val (pe_callO (ok_is_share T) (hr.mono (by decide)) rfl (pa_cons (pv 1) (pa_cons (pv 2) pa_nil))))) (pss_one (ps_ret (pe_lst (pa_cons (pe_gint (T.int 103) rfl) pa_nil)))) pss_nil)
      (pss_one (ps_ret (pe_callO (ok_listed T) (hr.mono (by decide)) rfl (pa_cons (pe_callO (ok_cheating_signals T) (hr.mono (by decide)) rfl (pa_cons (pe_callO (ok_with_prior T) (hr.mono (by decide)) rfl (pa_cons (pe_fld (pv 0) rfl) (pa_cons (pv 1) (pa_cons (pv 2) pa_nil)))) pa_nil)) pa_nil))))), rd_signals_for_prior T hsp⟩) (fun _ _ _ _ _ _ us hl => match us, hl with | [_, _, _], _ => rfl)
theorem stk_iff {n d : Nat} : (decide ((999 : Int) < ((n : Nat) : Int)) || decide ((999 : Int) < ((d : Nat) : Int))) = true ↔ 999 < n ∨ 999 < d := by
  rw [Bool.or_eq_true, decide_eq_true_eq, decide_eq_true_eq]
  omega
abbrev s_signals_for_stakes : Stmt := top 113
theorem sc_signals_for_stakes : FnScope ["monitor", "gain", "loss"] ["monitor", "gain", "loss"] (defScope s_signals_for_stakes) := ⟨rfl, rfl, rfl, by decide +kernel, rfl, by decide +kernel, by decide +kernel⟩
def t_signals_for_stakes (K : PySem.W.Frag) : TS :=
    (tSeq (tIfS (tOr (tB (tGt (tVar 1) (tC (.int (999))))) (tB (tGt (tVar 2) (tC (.int (999)))))) (tRet (tLst (tCons (tC (.int (-22))) tNil))) tNext)
    (tRet (tCall (sp_listed K) [] E0 (tCons (tCall (sp_cheating_signals K) [] E0 (tCons (tCall (sp_with_stakes K) [] E0 (tCons (tFld K (tVar 0) "setting") (tCons (tVar 1) (tCons (tVar 2) tNil)))) tNil)) tNil))))
def sp_signals_for_stakes (K : PySem.W.Frag) : Sp := SpF (ι := Addr × Mo × Lay × Nat × Nat) (fun i vs H => vs = [.ref i.1, .int ((i.2.2.2.1 : Nat) : Int), .int ((i.2.2.2.2 : Nat) : Int)] ∧ MonL K H i.1 i.2.1 i.2.2.1 ∧ GoodM i.2.1) (fun i v H => LsI v H (aL i.2.1 (.cheatingSignalsForStakes i.2.2.2.1 i.2.2.2.2)))
theorem rd_signals_for_stakes {K : PySem.W.Frag} {mg : Str → Option Value} {h : Heap} (T : Tx K mg h) {vs : List V} {H : Hp} {Q : VK} {E : XK} (hsp : sp_signals_for_stakes K vs H Q E) : t_signals_for_stakes K { nx := fun _ H' => Q .non H', rt := Q } (start ["monitor", "gain", "loss"] vs) H := by
  obtain ⟨⟨a, m, L, n, d⟩, ⟨rfl, hM, G⟩, k⟩ := hsp
  dsimp only at hM G k ⊢
  refine Sg.go (H := H) ?_ (Ex.refl H)
  refine g_when (b := decide ((999 : Int) < ((n : Nat) : Int)) || decide ((999 : Int) < ((d : Nat) : Int))) (by wtm_at "ev") (fun hb => ?_) (fun hb => ?_)
  · exact g_err fun v H2 e2 r => k _ _ e2 (by rw [a_forStakes_no (stk_iff.mp hb)]; exact r)
  · have c : ¬ (999 < n ∨ 999 < d) := fun w => by
      rw [stk_iff.mpr w] at hb
      cases hb
    have G' := good_setS G.s c
    exact g_ret (cr_listed T (cr_signalsX T (er_callV (R := fun (i : Addr × St × Nat × Nat) v H => ∃ p, v = .ref p ∧ SetAt K H p (setStakes i.2.1 i.2.2.1 i.2.2.2)) (L.sa, m.setting, n, d) (by wtm_at "ev") fun H1 e => ⟨rfl, hM.set.mono e, G.s.n5⟩) G') (Nat.le_trans (ch_len G') (by decide))) fun v H2 e2 r => k _ _ e2 (by rw [a_forStakes c]; exact r)
theorem ok_signals_for_stakes {P : Program} {w : World} {K : PySem.W.Frag} {mg : Str → Option Value} {base : Heap} {h : Heap} (T : Tx K mg h) : OkF P w K mg base 5 "signals_for_stakes" ["monitor", "gain", "loss"] (sp_signals_for_stakes K) :=
  mkOk T (st := s_signals_for_stakes) (N := ["monitor", "gain", "loss"]) 80 80 sc_signals_for_stakes (by rintro vs H Q E ⟨_, ⟨rfl, _⟩, _⟩; rfl) (fun f cdv A outer s H vs Q E hr hsp => ⟨t_signals_for_stakes K, (pss_cons (ps_if (PW.pt (pw_or (pt_cmp (pc_gt (pv 1) (pe_gint (T.int 114) rfl))) (pw_or1 (pt_cmp (pc_gt (pv 2) (pe_gint (T.int 114) rfl)))))) (pss_one (ps_ret (pe_lst (pa_cons (pe_gint (T.int 103) rfl) pa_nil)))) pss_nil)
      (pss_one (ps_ret (pe_callO (ok_listed T) (hr.mono (by decide)) rfl (pa_cons (pe_callO (ok_cheating_signals T) (hr.mono (by decide)) rfl (pa_cons (pe_callO (ok_with_stakes T) (hr.mono (by decide)) rfl (pa_cons (pe_fld (pv 0) rfl) (pa_cons (pv 1) (pa_cons (pv 2) pa_nil)))) pa_nil)) pa_nil))))), rd_signals_for_stakes T hsp⟩) (fun _ _ _ _ _ _ us hl => match us, hl with | [_, _, _], _ => rfl)
abbrev s_agent_answer : Stmt := top 114
theorem sc_agent_answer : FnScope ["monitor", "number", "setting"] ["monitor", "number"] (defScope s_agent_answer) := ⟨rfl, rfl, rfl, by decide +kernel, rfl, by decide +kernel, by decide +kernel⟩
def t_agent_answer (K : PySem.W.Frag) : TS :=
    (tSeq (tAsg (tFld K (tVar 0) "setting") (gName 2))
    (tSeq (tIfS (tB (tEqI (tVar 1) (tC (.int 31)))) (tRet (tCall (sp_listed K) [] E0 (tCons (tCall (sp_cheating_signals K) [] E0 (tCons (tVar 2) tNil)) tNil))) tNext)
    (tSeq (tIfS (tB (tEqI (tVar 1) (tC (.int 32)))) (tRet (tCall (sp_told K) [] E0 (tCons (tCall (sp_expected_profit K) [] E0 (tCons (tVar 2) tNil)) tNil))) tNext)
    (tSeq (tIfS (tB (tEqI (tVar 1) (tC (.int 33)))) (tRet (tCall (sp_told K) [] E0 (tCons (tCall (sp_detection_probability K) [] E0 (tCons (tVar 2) tNil)) tNil))) tNext)
    (tSeq (tIfS (tB (tEqI (tVar 1) (tC (.int 34)))) (tRet (tCall (sp_told K) [] E0 (tCons (tCall (sp_harm_probability K) [] E0 (tCons (tVar 2) tNil)) tNil))) tNext)
    (tRet (tCall (sp_told K) [] E0 (tCons (tCall (sp_total_cost K) [] E0 (tCons (tVar 2) tNil)) tNil))))))))
def agL (m : Mo) (n : Nat) : List Int := if n = 31 then aL m .cheatingSignals else if n = 32 then aL m .expectedProfit else if n = 33 then aL m .detectionProbability else if n = 34 then aL m .harmProbability else aL m .totalCost
def sp_agent_answer (K : PySem.W.Frag) : Sp := SpF (ι := Addr × Mo × Lay × Nat) (fun i vs H => vs = [.ref i.1, .int ((i.2.2.2 : Nat) : Int)] ∧ MonL K H i.1 i.2.1 i.2.2.1 ∧ GoodM i.2.1) (fun i v H => LsI v H (agL i.2.1 i.2.2.2))
theorem num_iff {n k : Nat} : decide (((n : Nat) : Int) = (k : Int)) = true ↔ n = k := by
  rw [decide_eq_true_eq]
  omega
theorem rd_agent_answer {K : PySem.W.Frag} {mg : Str → Option Value} {h : Heap} (T : Tx K mg h) {vs : List V} {H : Hp} {Q : VK} {E : XK} (hsp : sp_agent_answer K vs H Q E) : t_agent_answer K { nx := fun _ H' => Q .non H', rt := Q } (start ["monitor", "number", "setting"] vs) H := by
  obtain ⟨⟨a, m, L, n⟩, ⟨rfl, hM, G⟩, k⟩ := hsp
  dsimp only at hM G k ⊢
  have hs := hM.set
  unfold agL at k
  have pos : ∀ {j : Nat}, decide (((n : Nat) : Int) = (j : Int)) = true → n = j := fun z => num_iff.mp z
  have neg : ∀ {j : Nat}, decide (((n : Nat) : Int) = (j : Int)) = false → ¬ n = j := fun z w => by
    rw [num_iff.mpr w] at z
    cases z
  refine Sg.go (H := H) ?_ (Ex.refl H)
  refine g_set (by wtm_at "ev") ?_
  refine g_when (b := decide (((n : Nat) : Int) = ((31 : Nat) : Int))) (by wtm_at "ev") (fun hb => ?_) (fun hb => ?_)
  · rw [if_pos (pos hb), a_signals] at k
    exact g_ret (cr_listed T (cr_cheating_signals T (by wtm_at "ev") hs G.s) (Nat.le_trans (ch_len G.s) (by decide))) fun v H2 e2 r => k _ _ e2 r
  rw [if_neg (neg hb)] at k
  refine g_when (b := decide (((n : Nat) : Int) = ((32 : Nat) : Int))) (by wtm_at "ev") (fun hb => ?_) (fun hb => ?_)
  · rw [if_pos (pos hb), a_profit] at k
    exact g_ret (cr_told T (er_callV (R := fun (i : Addr × St) v H => FrQ v H (Kp416.expectedProfit i.2)) (L.sa, m.setting) (by wtm_at "ev") fun H1 e => ⟨rfl, hs.mono e, G.s⟩)) fun v H2 e2 r => k _ _ e2 r
  rw [if_neg (neg hb)] at k
  refine g_when (b := decide (((n : Nat) : Int) = ((33 : Nat) : Int))) (by wtm_at "ev") (fun hb => ?_) (fun hb => ?_)
  · rw [if_pos (pos hb), a_detprob] at k
    exact g_ret (cr_told T (er_callV (R := fun (i : Addr × St) v H => FrQ v H (Kp416.detectionProbability i.2)) (L.sa, m.setting) (by wtm_at "ev") fun H1 e => ⟨rfl, hs.mono e, G.s⟩)) fun v H2 e2 r => k _ _ e2 r
  rw [if_neg (neg hb)] at k
  refine g_when (b := decide (((n : Nat) : Int) = ((34 : Nat) : Int))) (by wtm_at "ev") (fun hb => ?_) (fun hb => ?_)
  · rw [if_pos (pos hb), a_harmprob] at k
    exact g_ret (cr_told T (cr_harm_probability T (by wtm_at "ev") hs G.s)) fun v H2 e2 r => k _ _ e2 r
  rw [if_neg (neg hb), a_cost] at k
  exact g_ret (cr_told T (cr_total_cost T (by wtm_at "ev") hs G.s)) fun v H2 e2 r => k _ _ e2 r
theorem ok_agent_answer {P : Program} {w : World} {K : PySem.W.Frag} {mg : Str → Option Value} {base : Heap} {h : Heap} (T : Tx K mg h) : OkF P w K mg base 5 "agent_answer" ["monitor", "number"] (sp_agent_answer K) :=
  mkOk T (st := s_agent_answer) (N := ["monitor", "number", "setting"]) 81 81 sc_agent_answer (by rintro vs H Q E ⟨_, ⟨rfl, _⟩, _⟩; rfl) (fun f cdv A outer s H vs Q E hr hsp => ⟨t_agent_answer K, (pss_cons (ps_set (i := 2) sc_agent_answer.nd rfl (Or.inl rfl) (pe_fld (pv 0) rfl))
      (pss_cons (ps_if (pt_cmp (pc_eqI (pv 1) pe_int)) (pss_one (ps_ret (pe_callO (ok_listed T) (hr.mono (by decide)) rfl (pa_cons (pe_callO (ok_cheating_signals T) (hr.mono (by decide)) rfl (pa_cons (pv 2) pa_nil)) pa_nil)))) pss_nil)
      (pss_cons (ps_if (pt_cmp (pc_eqI (pv 1) pe_int)) (pss_one (ps_ret (pe_callO (ok_told T) (hr.mono (by decide)) rfl (pa_cons (pe_callO (ok_expected_profit T) (hr.mono (by decide)) rfl (pa_cons (pv 2) pa_nil)) pa_nil)))) pss_nil)
      (pss_cons (ps_if (pt_cmp (pc_eqI (pv 1) pe_int)) (pss_one (ps_ret (pe_callO (ok_told T) (hr.mono (by decide)) rfl (pa_cons (pe_callO (ok_detection_probability T) (hr.mono (by decide)) rfl (pa_cons (pv 2) pa_nil)) pa_nil)))) pss_nil)
      (pss_cons (ps_if (pt_cmp (pc_eqI (pv 1) pe_int)) (pss_one (ps_ret (pe_callO (ok_told T) (hr.mono (by decide)) rfl (pa_cons (pe_callO (ok_harm_probability T) (hr.mono (by decide)) rfl (pa_cons (pv 2) pa_nil)) pa_nil)))) pss_nil)
      (pss_one (ps_ret (pe_callO (ok_told T) (hr.mono (by decide)) rfl (pa_cons (pe_callO (ok_total_cost T) (hr.mono (by decide)) rfl (pa_cons (pv 2) pa_nil)) pa_nil))))))))), rd_agent_answer T hsp⟩) (fun _ _ _ _ _ _ us hl => match us, hl with | [_, _], _ => rfl)
abbrev s_get_settings : Stmt := top 115
theorem sc_get_settings : FnScope ["monitor", "setting", "answer"] ["monitor"] (defScope s_get_settings) := ⟨rfl, rfl, rfl, by decide +kernel, rfl, by decide +kernel, by decide +kernel⟩
def t_get_settings (K : PySem.W.Frag) : TS :=
    (tSeq (tAsg (tFld K (tVar 0) "setting") (gName 1))
    (tSeq (tAsg (tLst (tCons (tFld K (tVar 1) "signal_count") (tCons (tFld K (tVar 1) "prior_num") (tCons (tFld K (tVar 1) "prior_den") (tCons (tFld K (tVar 1) "gain") (tCons (tFld K (tVar 1) "loss") tNil)))))) (gName 2))
    (tSeq (tAsg (tOp rCat (tVar 2) (tLst (tCons (tFld K (tVar 1) "harm_price") (tCons (tFld K (tVar 1) "test_price") tNil)))) (gName 2))
    (tRet (tOp rCat (tOp rCat (tVar 2) (tFld K (tVar 1) "test_weights")) (tFld K (tVar 1) "production_weights"))))))
def sp_get_settings (K : PySem.W.Frag) : Sp := SpF (ι := Addr × Mo × Lay) (fun i vs H => vs = [.ref i.1] ∧ MonL K H i.1 i.2.1 i.2.2 ∧ GoodM i.2.1) (fun i v H => LsI v H (aL i.2.1 .getSettings))
theorem nI_len (l : List Nat) : (nI l).length = l.length := List.length_map ..
theorem rd_get_settings {K : PySem.W.Frag} {mg : Str → Option Value} {h : Heap} (T : Tx K mg h) {vs : List V} {H : Hp} {Q : VK} {E : XK} (hsp : sp_get_settings K vs H Q E) : t_get_settings K { nx := fun _ H' => Q .non H', rt := Q } (start ["monitor", "setting", "answer"] vs) H := by
  obtain ⟨⟨a, m, L⟩, ⟨rfl, hM, G⟩, k⟩ := hsp
  dsimp only at hM G k ⊢
  have hs := hM.set
  have g5 := G.s.n5
  have gl := G.s.len
  rw [a_settings] at k
  refine Sg.go (H := H) ?_ (Ex.refl H)
  refine g_set (by wtm_at "ev") ?_
  refine g_setR (er_lstI (l := [((tws m.setting).length : Int), (m.setting.model.priorNum : Int), (m.setting.model.priorDen : Int), (m.setting.gain : Int), (m.setting.loss : Int)]) (by show EvA _ _ _ [_, _, _, _, _]; wtm_at "ev") (by show 5 ≤ 1000; decide)) fun v1 H1 e1 r1 => ?_
  have hs1 := hs.mono e1
  refine g_setR (er_cat (xs := [((tws m.setting).length : Int), (m.setting.model.priorNum : Int), (m.setting.model.priorDen : Int), (m.setting.gain : Int), (m.setting.loss : Int)]) (ys := [(m.setting.harmPrice : Int), (m.setting.testPrice : Int)]) (er_w (er_v (ev_var rfl)) fun v H2 e2 r => by rw [r]; exact r1.mono e2) (er_lstI (l := [(m.setting.harmPrice : Int), (m.setting.testPrice : Int)]) (by show EvA _ _ _ [_, _]; wtm_at "ev") (by show 2 ≤ 1000; decide)) (by show 5 + 2 ≤ 1000; decide)) fun v2 H2 e2 r2 => ?_
  have hs2 := hs1.mono e2
  obtain ⟨tl, ht1, ht2⟩ := evS_test_weights (σ := [some (.ref a), some (.ref L.sa), some v2]) (ta := tVar 1) T hs2 (ev_var rfl)
  obtain ⟨pl, hp1, hp2⟩ := evS_production_weights (σ := [some (.ref a), some (.ref L.sa), some v2]) (ta := tVar 1) T hs2 (ev_var rfl)
  refine g_ret (er_cat (xs := ([((tws m.setting).length : Int), (m.setting.model.priorNum : Int), (m.setting.model.priorDen : Int), (m.setting.gain : Int), (m.setting.loss : Int)] ++ [(m.setting.harmPrice : Int), (m.setting.testPrice : Int)]) ++ nI (tws m.setting)) (ys := nI (pws m.setting)) (er_cat (ys := nI (tws m.setting)) (er_w (er_v (ev_var rfl)) fun v H3 e3 r => by rw [r]; exact r2.mono e3) (er_w (er_v ht1) fun v H3 e3 r => by rw [r]; exact LsN.ints ⟨tl, rfl, e3 _ _ ht2⟩) (by rw [nI_len]; show 7 + _ ≤ 1000; omega)) (er_w (er_v hp1) fun v H3 e3 r => by rw [r]; exact LsN.ints ⟨pl, rfl, e3 _ _ hp2⟩) (by rw [List.length_append, nI_len, nI_len, gl]; show 7 + _ + _ ≤ 1000; omega)) fun v H3 e3 r => k _ _ ((e1.trans e2).trans e3) ?_
  have e : nI (tws m.setting ++ pws m.setting) = nI (tws m.setting) ++ nI (pws m.setting) := List.map_append
  rw [e]
  rw [List.append_assoc] at r
  exact r
theorem ok_get_settings {P : Program} {w : World} {K : PySem.W.Frag} {mg : Str → Option Value} {base : Heap} {h : Heap} (T : Tx K mg h) : OkF P w K mg base 1 "get_settings" ["monitor"] (sp_get_settings K) :=
  mkOk T (st := s_get_settings) (N := ["monitor", "setting", "answer"]) 82 82 sc_get_settings (by rintro vs H Q E ⟨_, ⟨rfl, _⟩, _⟩; rfl) (fun f cdv A outer s H vs Q E hr hsp => ⟨t_get_settings K, (pss_cons (ps_set (i := 1) sc_get_settings.nd rfl (Or.inl rfl) (pe_fld (pv 0) rfl))
      (pss_cons (ps_set (i := 2) sc_get_settings.nd rfl (Or.inl rfl) (pe_lst (pa_cons (pe_fld (pv 1) rfl) (pa_cons (pe_fld (pv 1) rfl) (pa_cons (pe_fld (pv 1) rfl) (pa_cons (pe_fld (pv 1) rfl) (pa_cons (pe_fld (pv 1) rfl) pa_nil)))))))
      (pss_cons (ps_set (i := 2) sc_get_settings.nd rfl (Or.inl rfl) (pe_op op_cat (pv 2) (pe_lst (pa_cons (pe_fld (pv 1) rfl) (pa_cons (pe_fld (pv 1) rfl) pa_nil)))))
      (pss_one (ps_ret (pe_op op_cat (pe_op op_cat (pv 2) (pe_fld (pv 1) rfl)) (pe_fld (pv 1) rfl))))))), rd_get_settings T hsp⟩) (fun _ _ _ _ _ _ us hl => match us, hl with | [_], _ => rfl)
end Pw
namespace Pw
open PySem PySem.Spec PyProof.Rows L2 Evl
/-! ## changes.py -/
/-- all but the monitor at a and its setting at s stands -/
def KY (a s : Addr) (H H' : Hp) : Prop := ∀ b o, H b = some o → b ≠ a → b ≠ s → H' b = some o
theorem KY.of_ex {a s : Addr} {H H' : Hp} (e : Ex H H') : KY a s H H' := fun b o h _ _ => e b o h
theorem KY.of_a {a s : Addr} {H H' : Hp} (x : KX a H H') : KY a s H H' := fun b o h n _ => x b o h n
theorem KY.of_s {a s : Addr} {H H' : Hp} (x : KX s H H') : KY a s H H' := fun b o h _ n => x b o h n
theorem KY.trans {a s : Addr} {H H1 H2 : Hp} (x : KY a s H H1) (y : KY a s H1 H2) : KY a s H H2 := fun b o h n1 n2 => y b o (x b o h n1 n2) n1 n2
section
variable {K : PySem.W.Frag} {H H' : Hp} {a C dx : Addr} {fs : List (Str × V)}
theorem FrI.kx {v : V} {x y : Int} (k : KX a H H') (ha : H a = some (.ins C dx fs)) : FrI v H x y → FrI v H' x y := fun ⟨p, h1, h2⟩ => ⟨p, h1, k.tup ha h2⟩
theorem PairsAt.kx {l : Addr} {ps : List (Int × Int)} (k : KX a H H') (ha : H a = some (.ins C dx fs)) : PairsAt H l ps → PairsAt H' l ps := fun ⟨xs, h1, h2, h3⟩ =>
  ⟨xs, k.lst ha h1, h2, fun i x hx => let ⟨p, h4, h5⟩ := h3 i x hx; ⟨p, h4, h5.kx k ha⟩⟩
theorem PerAt.kx {v : V} : ∀ {o : Option Kp417.Permit}, KX a H H' → H a = some (.ins C dx fs) → PerAt H v o → PerAt H' v o
  | none, _, _, h => h
  | some _, k, ha, h => FrI.kx k ha h
theorem LsI.kx {v : V} {l : List Int} (k : KX a H H') (ha : H a = some (.ins C dx fs)) : LsI v H l → LsI v H' l := fun ⟨p, h1, h2⟩ => ⟨p, h1, k.lst ha h2⟩
theorem len_ne {C1 d1 C2 d2 : Addr} {f1 f2 : List (Str × V)} (h : f1.length ≠ f2.length) : HO.ins C1 d1 f1 ≠ HO.ins C2 d2 f2 := fun z => by
  injection z with _ _ z3
  exact h (congrArg List.length z3)
/-- a setting is no monitor -/
theorem SetAt.kx {sa : Addr} {s : St} {sv : V} {pl ll : Addr} {pv : V} (k : KX a H H') (ha : H a = some (.ins C dx (mF sv pl ll pv))) : SetAt K H sa s → SetAt K H' sa s := fun ⟨d, tl, pl', h1, h2, h3⟩ =>
  ⟨d, tl, pl', k _ _ h1 (ne_of h1 ha (len_ne (by show 9 ≠ 4; decide))), k.lst ha h2, k.lst ha h3⟩
end
theorem pMset {sv v : V} {pl ll : Addr} {pv : V} : putF "setting" v (mF sv pl ll pv) = mF v pl ll pv := put_here
theorem pMpol {sv : V} {pl ll p : Addr} {pv : V} : putF "policies" (.ref p) (mF sv pl ll pv) = mF sv p ll pv := (put_past (by decide +kernel)).trans (congrArg _ put_here)
theorem pMlog {sv : V} {pl ll p : Addr} {pv : V} : putF "log" (.ref p) (mF sv pl ll pv) = mF sv pl p pv := (put_past (by decide +kernel)).trans (congrArg _ ((put_past (by decide +kernel)).trans (congrArg _ put_here)))
theorem pMper {sv : V} {pl ll : Addr} {pv v : V} : putF "permit" v (mF sv pl ll pv) = mF sv pl ll v := (put_past (by decide +kernel)).trans (congrArg _ ((put_past (by decide +kernel)).trans (congrArg _ ((put_past (by decide +kernel)).trans (congrArg _ put_here)))))
/-- what a change of a monitor hands back -/
structure PostM (K : PySem.W.Frag) (H : Hp) (a : Addr) (m : Mo) (L : Lay) (o : Kp417.Outcome) (v : V) (H2 : Hp) : Prop where
  ans : LsI v H2 (oA o)
  mon : ∃ L', MonL K H2 a (oM m o) L'
  keep : KY a L.sa H H2
/-- a promise of a change -/
def SpC {ι : Type} (K : PySem.W.Frag) (A : ι → List V → Hp → Prop) (P : ι → Addr × Mo × Lay × Kp417.Outcome) : Sp := fun vs H Q _ => ∃ i, A i vs H ∧ ∀ v H2, PostM K H (P i).1 (P i).2.1 (P i).2.2.1 (P i).2.2.2 v H2 → Q v H2
section
variable {K : PySem.W.Frag} {H : Hp} {a : Addr} {m : Mo} {L : Lay} {o : Kp417.Outcome} {D : Ends} {σ : L2.St}
/-- a refusal leaves all as it was -/
theorem post_q {n : Int} {v : V} {H2 : Hp} (hM : MonL K H a m L) (e : Ex H H2) (r : LsI v H2 [n]) (ho : o = Kp417.query ⟨n, []⟩) : PostM K H a m L o v H2 := by
  subst ho
  exact ⟨r, ⟨L, hM.mono e⟩, KY.of_ex e⟩
theorem g_bad {n : Int} (hM : MonL K H a m L) (ho : o = Kp417.query ⟨n, []⟩) (k : ∀ v H2, PostM K H a m L o v H2 → D.rt v H2) : Sg (tRet (tLst (tCons (tC (.int n)) tNil))) D σ H :=
  g_err fun v H2 e2 r => k v H2 (post_q hM e2 r ho)
end
abbrev s_is_weight : Stmt := top 73
theorem sc_is_weight : FnScope ["weight"] ["weight"] (defScope s_is_weight) := ⟨rfl, rfl, rfl, by decide +kernel, rfl, by decide +kernel, by decide +kernel⟩
def t_is_weight (K : PySem.W.Frag) : TS :=
    (tRet (tAndV (tLe (tC (.int 1)) (tVar 0)) (tLe (tVar 0) (tC (.int (99))))))
def sp_is_weight (K : PySem.W.Frag) : Sp := SpF (ι := Nat) (fun i vs _ => vs = [.int ((i : Nat) : Int)] ∧ True) (fun i v _ => v = .bl (Kp417.validWeight i))
theorem weight_eq (n : Nat) : (decide ((1 : Int) ≤ (n : Int)) && decide ((n : Int) ≤ 99)) = Kp417.validWeight n := by
  unfold Kp417.validWeight
  rw [Bool.eq_iff_iff]
  simp only [Bool.and_eq_true, decide_eq_true_eq]
  omega
theorem rd_is_weight {K : PySem.W.Frag} {mg : Str → Option Value} {h : Heap} (T : Tx K mg h) {vs : List V} {H : Hp} {Q : VK} {E : XK} (hsp : sp_is_weight K vs H Q E) : t_is_weight K { nx := fun _ H' => Q .non H', rt := Q } (start ["weight"] vs) H := by
  obtain ⟨n, ⟨rfl, -⟩, k⟩ := hsp
  refine Sg.go (H := H) ?_ (Ex.refl H)
  exact g_retv (ev_b (by wtm_at "ev") (weight_eq n)) fun H2 e2 => k _ _ e2 rfl
theorem ok_is_weight {P : Program} {w : World} {K : PySem.W.Frag} {mg : Str → Option Value} {base : Heap} {h : Heap} (T : Tx K mg h) : OkF P w K mg base 1 "is_weight" ["weight"] (sp_is_weight K) :=
  mkOk T (st := s_is_weight) (N := ["weight"]) 46 46 sc_is_weight (by rintro vs H Q E ⟨_, ⟨rfl, _⟩, _⟩; rfl) (fun f cdv A outer s H vs Q E hr hsp => ⟨t_is_weight K, (pss_one (ps_ret (pe_and (pe_cmp (pc_le pe_int (pv 0))) (pe_one (pe_cmp (pc_le (pv 0) (pe_gint (T.int 112) rfl))))))), rd_is_weight T hsp⟩) (fun _ _ _ _ _ _ us hl => match us, hl with | [_], _ => rfl)
theorem cv_is_weight {K : PySem.W.Frag} {mg : Str → Option Value} {h : Heap} {σ : L2.St} {H : Hp} {ta : TA} (T : Tx K mg h) {n : Nat} (ha : EvA ta σ H [.int ((n : Nat) : Int)]) : Ev (tCall (sp_is_weight K) [] E0 ta) σ H (.bl (Kp417.validWeight n)) :=
  ev_callV (f := fun i : Nat => V.bl (Kp417.validWeight i)) n ha fun H1 _ => ⟨rfl, trivial⟩
end Pw
local macro_rules | `(tactic| wtm_at "ca") => `(tactic| ((with_reducible refine' cv_is_weight (by assumption) ?ha); (case ha => wtm_at "ev")))
namespace Pw
open PySem PySem.Spec PyProof.Rows L2 Evl
end Pw
local macro_rules | `(tactic| wtm_at "ca") => `(tactic| ((with_reducible refine' ev_log_ne (by assumption) ?hM ?ha); (case ha => wtm_at "ev"); (case hM => wtm_at "sd")))
namespace Pw
open PySem PySem.Spec PyProof.Rows L2 Evl
end Pw
local macro_rules | `(tactic| wtm_at "ca") => `(tactic| ((with_reducible refine' ev_log_eq (by assumption) ?hM ?ha); (case ha => wtm_at "ev"); (case hM => wtm_at "sd")))
namespace Pw
open PySem PySem.Spec PyProof.Rows L2 Evl
abbrev s_add_checked : Stmt := top 72
theorem sc_add_checked : FnScope ["monitor", "cheat_set", "weight", "policy"] ["monitor", "cheat_set", "weight"] (defScope s_add_checked) := ⟨rfl, rfl, rfl, by decide +kernel, rfl, by decide +kernel, by decide +kernel⟩
def t_add_checked (K : PySem.W.Frag) : TS :=
    (tSeq (tIfS (tTest (tOp (rNeD K) (tFld K (tVar 0) "log") (tLst tNil))) (tRet (tLst (tCons (tC (.int (-16))) tNil))) tNext)
    (tSeq (tFor (iList K (tFld K (tVar 0) "policies")) (gName 3) (tIfS (tB (tEqI (tOp (rIxT K) (tVar 3) (tC (.int 0))) (tVar 1))) (tRet (tLst (tCons (tC (.int (-17))) tNil))) tNext))
    (tSeq (tIfS (tB (tGe (tCB (rLenS K) (tCons (tFld K (tVar 0) "policies") tNil)) (tC (.int (6))))) (tRet (tLst (tCons (tC (.int (-28))) tNil))) tNext)
    (tSeq (sFld K (tVar 0) (tOp rCat (tFld K (tVar 0) "policies") (tLst (tCons (tTup (tCons (tVar 1) (tCons (tVar 2) tNil))) tNil))) "policies")
    (tRet (tLst (tCons (tOp (rI0 fun i j => .int (i - j)) (tCB (rLenS K) (tCons (tFld K (tVar 0) "policies") tNil)) (tC (.int 1))) tNil)))))))
def sp_add_checked (K : PySem.W.Frag) : Sp := SpC (ι := Addr × Mo × Lay × Nat × Nat) K (fun i vs H => vs = [.ref i.1, .int ((i.2.2.2.1 : Nat) : Int), .int ((i.2.2.2.2 : Nat) : Int)] ∧ MonL K H i.1 i.2.1 i.2.2.1 ∧ GoodM i.2.1) (fun i => (i.1, i.2.1, i.2.2.1, Kp417.addPolicy i.2.1 ⟨i.2.2.2.1, i.2.2.2.2⟩))
theorem pol_at {l : List Kp417.Policy} {i : Nat} {x : V} {H : Hp} {xs : List V} (hx : xs[i]? = some x) (h : ∀ (i : Nat) (x : V), xs[i]? = some x → ∃ p, (polI l)[i]? = some p ∧ FrI x H p.1 p.2) : ∃ p, l[i]? = some p ∧ FrI x H (p.cheatSet : Int) (p.weight : Int) := by
  obtain ⟨p, h1, h2⟩ := h i x hx
  unfold polI at h1
  rw [List.getElem?_map] at h1
  cases q : l[i]? with
  | none =>
    rw [q] at h1
    cases h1
  | some e =>
    rw [q] at h1
    have h3 := Option.some.inj h1
    rw [← h3] at h2
    exact ⟨e, rfl, h2⟩
theorem any_no {α : Type} {f : α → Bool} {l : List α} {i : Nat} {x : α} (h : l[i]? = some x) (h1 : (l.take i).any f = false) (hf : f x = false) : (l.take (i + 1)).any f = false := by
  rw [take_snoc h, List.any_append, h1]
  simp [hf]
theorem any_yes {α : Type} {f : α → Bool} {l : List α} {i : Nat} {x : α} (h : l[i]? = some x) (hf : f x = true) : l.any f = true := List.any_eq_true.mpr ⟨x, List.mem_of_getElem? h, hf⟩
theorem polI_snoc (l : List Kp417.Policy) (p : Kp417.Policy) : polI (l ++ [p]) = polI l ++ [((p.cheatSet : Int), (p.weight : Int))] := by
  unfold polI
  rw [List.map_append]
  rfl
theorem rd_add_checked {K : PySem.W.Frag} {mg : Str → Option Value} {h : Heap} (T : Tx K mg h) {vs : List V} {H : Hp} {Q : VK} {E : XK} (hsp : sp_add_checked K vs H Q E) : t_add_checked K { nx := fun _ H' => Q .non H', rt := Q } (start ["monitor", "cheat_set", "weight", "policy"] vs) H := by
  obtain ⟨⟨a, m, L, c, w⟩, ⟨rfl, hM, G⟩, k⟩ := hsp
  dsimp only at hM G k ⊢
  have g6 := G.p6
  refine Sg.go (H := H) ?_ (Ex.refl H)
  refine g_when (b := !m.log.isEmpty) (by wtm_at "ev") (fun hb => ?_) (fun hb => ?_)
  · exact g_bad hM (add_log (by simpa using hb)) k
  have hl : m.log.isEmpty = true := by simpa using hb
  let f : Kp417.Policy → Bool := fun q => q.cheatSet == c
  obtain ⟨xs, hx, hlen, hxs⟩ := hM.pol
  have hlen2 : xs.length = m.policies.length := hlen.trans (polI_len _)
  refine g_forG (evM_policies T hM (ev_var rfl)) hx (fun i σ' H' => (∃ v : Option V, σ' = [some (.ref a), some (.int ((c : Nat) : Int)), some (.int ((w : Nat) : Int)), v]) ∧ Ex H H' ∧ (m.policies.take i).any f = false) (fun H1 e => ⟨⟨none, rfl⟩, e, rfl⟩) (fun i σ' H' ⟨_, e, _⟩ => e) ?_ ?_
  · rintro i x σ' H' hxi ⟨⟨v, rfl⟩, e0, hall⟩
    obtain ⟨p, hp, hf⟩ := pol_at hxi hxs
    show tIfS _ _ _ _ _ _
    refine Sg.go (H := H) ?_ e0
    refine g_if1 (b := decide (((p.cheatSet : Nat) : Int) = ((c : Nat) : Int))) (et_B (ev_cmp (ev_num (ev_var rfl) hf ev_c) (ev_var rfl))) (fun hb2 => ?_) (fun hb2 => ?_)
    · have z : p.cheatSet = c := by
        have := of_decide_eq_true hb2
        omega
      exact g_bad hM (add_dup hl (any_yes (f := f) hp (beq_iff_eq.mpr z))) k
    · have z : ¬ p.cheatSet = c := by
        have := of_decide_eq_false hb2
        omega
      exact g_next fun H2 e2 => ⟨⟨_, rfl⟩, e2, any_no (f := f) hp hall (by rw [Bool.eq_false_iff]; exact fun y => z (beq_iff_eq.mp y))⟩
  · rintro σ' H' ⟨⟨v, rfl⟩, e0, hall⟩
    rw [hlen2, List.take_length] at hall
    refine Sg.go (H := H) ?_ e0
    refine g_when (b := decide ((6 : Int) ≤ ((m.policies.length : Nat) : Int))) (by wtm_at "ev") (fun hb2 => ?_) (fun hb2 => ?_)
    · exact g_bad hM (add_full hl hall (by have := of_decide_eq_true hb2; omega)) k
    · have hfull : ¬ 6 ≤ m.policies.length := by
        have := of_decide_eq_false hb2
        omega
      rw [add_ok hl hall hfull] at k
      refine w_fldR (T.cls 127) (T.noat 130) (er_snocP (a := ((c : Nat) : Int)) (b := ((w : Nat) : Int)) (evM_policies T hM (ev_var rfl)) hM.pol (ev_var rfl) (ev_var rfl) (by rw [polI_len]; omega)) (ev_var rfl) hM.ob (by show 4 < 1000; decide) fun y H2 e2 r H3 x3 h3 => ?_
      obtain ⟨p, rfl, hp⟩ := r
      have hM2 := hM.mono e2
      rw [pMpol] at h3
      have hM3 : MonL K H3 a { m with policies := m.policies ++ [⟨c, w⟩] } ⟨L.dx, L.sa, p, L.ll, L.pv⟩ := ⟨h3, hM2.set.kx x3 hM2.ob, by show PairsAt H3 p (polI (m.policies ++ [⟨c, w⟩])); rw [polI_snoc]; exact hp.kx x3 hM2.ob, hM2.log.kx x3 hM2.ob, hM2.per.kx x3 hM2.ob⟩
      refine g_one (n := ((m.policies.length : Nat) : Int)) (ev_i (ev_sub (evM_len_policies T hM3 (ev_var rfl)) ev_c) ?_) fun v H4 e4 r => k v H4 ⟨r, ⟨_, hM3.mono e4⟩, (KY.of_ex e2).trans ((KY.of_a x3).trans (KY.of_ex e4))⟩
      show (((m.policies ++ [(⟨c, w⟩ : Kp417.Policy)]).length : Nat) : Int) - 1 = _
      rw [List.length_append]
      show (((m.policies.length + 1 : Nat)) : Int) - 1 = _
      omega
theorem ok_add_checked {P : Program} {w : World} {K : PySem.W.Frag} {mg : Str → Option Value} {base : Heap} {h : Heap} (T : Tx K mg h) : OkF P w K mg base 1 "add_checked" ["monitor", "cheat_set", "weight"] (sp_add_checked K) :=
  mkOk T (st := s_add_checked) (N := ["monitor", "cheat_set", "weight", "policy"]) 45 45 sc_add_checked (by rintro vs H Q E ⟨_, ⟨rfl, _⟩, _⟩; rfl) (fun f cdv A outer s H vs Q E hr hsp => ⟨t_add_checked K, (pss_cons (ps_if (pt_cmpR (op_neD hr.units) (pe_fld (pv 0) rfl) (pe_lst pa_nil) (nomark _)) (pss_one (ps_ret (pe_lst (pa_cons (pe_gint (T.int 104) rfl) pa_nil)))) pss_nil)
      (pss_cons (ps_for PassesOwn.never rfl (pi_list (pe_fld (pv 0) rfl)) (pg_name (i := 3) sc_add_checked.nd rfl (Or.inl rfl)) (pss_one (ps_if (pt_cmp (pc_eqI (pe_ix ix_tup (pv 3) pe_int (fun _ _ => rfl)) (pv 1))) (pss_one (ps_ret (pe_lst (pa_cons (pe_gint (T.int 105) rfl) pa_nil)))) pss_nil)))
      (pss_cons (ps_if (pt_cmp (pc_ge (pe_callB call_len_seq rfl (T.free 95) bt_len (pa_cons (pe_fld (pv 0) rfl) pa_nil)) (pe_gint (T.int 111) rfl))) (pss_one (ps_ret (pe_lst (pa_cons (pe_gint (T.int 106) rfl) pa_nil)))) pss_nil)
      (pss_cons (ps_fld (pv 0) (pe_op op_cat (pe_fld (pv 0) rfl) (pe_lst (pa_cons (pe_tup (pa_cons (pv 1) (pa_cons (pv 2) pa_nil))) pa_nil))) rfl)
      (pss_one (ps_ret (pe_lst (pa_cons (pe_op op_sub (pe_callB call_len_seq rfl (T.free 95) bt_len (pa_cons (pe_fld (pv 0) rfl) pa_nil)) pe_int) pa_nil)))))))), rd_add_checked T hsp⟩) (fun _ _ _ _ _ _ us hl => match us, hl with | [_, _, _], _ => rfl)
/-- a call that changes the monitor, handed on -/
theorem g_retC {K : PySem.W.Frag} {σ : L2.St} {H : Hp} {D : Ends} {ι : Type} {A : ι → List V → Hp → Prop} {P : ι → Addr × Mo × Lay × Kp417.Outcome} (i : ι) {ta : TA} {vs : List V} (h : EvA ta σ H vs) (ha : ∀ H1, Ex H H1 → A i vs H1)
    (k : ∀ v H2, PostM K H (P i).1 (P i).2.1 (P i).2.2.1 (P i).2.2.2 v H2 → D.rt v H2) : Sg (tRet (tCall (SpC K A P) [] E0 ta)) D σ H := fun H1 e =>
  h H1 e _ fun H2 e2 => ⟨i, by rw [List.append_nil]; exact ha H2 (e.trans e2), fun v H3 post => k v H3 ⟨post.ans, post.mon, (KY.of_ex (e.trans e2)).trans post.keep⟩⟩
abbrev s_add_policy : Stmt := top 74
theorem sc_add_policy : FnScope ["monitor", "cheat_set", "weight"] ["monitor", "cheat_set", "weight"] (defScope s_add_policy) := ⟨rfl, rfl, rfl, by decide +kernel, rfl, by decide +kernel, by decide +kernel⟩
def t_add_policy (K : PySem.W.Frag) : TS :=
    (tSeq (tIfS (tOr (tB (tGe (tVar 1) (tCall (sp_power K) [] E0 (tCons (tC (.int 2)) (tCons (tFld K (tFld K (tVar 0) "setting") "signal_count") tNil))))) (tNot (tB (tCall (sp_is_weight K) [] E0 (tCons (tVar 2) tNil))))) (tRet (tLst (tCons (tC (.int (-22))) tNil))) tNext)
    (tRet (tCall (sp_add_checked K) [] E0 (tCons (tVar 0) (tCons (tVar 1) (tCons (tVar 2) tNil))))))
def sp_add_policy (K : PySem.W.Frag) : Sp := SpC (ι := Addr × Mo × Lay × Nat × Nat) K (fun i vs H => vs = [.ref i.1, .int ((i.2.2.2.1 : Nat) : Int), .int ((i.2.2.2.2 : Nat) : Int)] ∧ MonL K H i.1 i.2.1 i.2.2.1 ∧ GoodM i.2.1) (fun i => (i.1, i.2.1, i.2.2.1, Kp417.run i.2.1 (.addPolicy i.2.2.2.1 i.2.2.2.2)))
theorem rd_add_policy {K : PySem.W.Frag} {mg : Str → Option Value} {h : Heap} (T : Tx K mg h) {vs : List V} {H : Hp} {Q : VK} {E : XK} (hsp : sp_add_policy K vs H Q E) : t_add_policy K { nx := fun _ H' => Q .non H', rt := Q } (start ["monitor", "cheat_set", "weight"] vs) H := by
  obtain ⟨⟨a, m, L, c, w⟩, ⟨rfl, hM, G⟩, k⟩ := hsp
  dsimp only at hM G k ⊢
  have g5 := G.s.n5
  refine Sg.go (H := H) ?_ (Ex.refl H)
  refine g_when (b := decide (((2 ^ (tws m.setting).length : Nat) : Int) ≤ ((c : Nat) : Int)) || !Kp417.validWeight w) (et_or (et_B (ev_cmp (ev_var rfl) (cv_power T (b := 2) (n := (tws m.setting).length) (by wtm_at "ev") (by omega) (by omega)))) (fun _ => by wtm_at "ev")) (fun hb => ?_) (fun hb => ?_)
  · refine g_bad hM (r_addPolicy_bad ?_) k
    rw [Bool.or_eq_true, decide_eq_true_eq, Bool.not_eq_true'] at hb
    rcases hb with z | z
    · exact .inl (by omega)
    · exact .inr z
  · rw [Bool.or_eq_false_iff, decide_eq_false_iff_not, Bool.not_eq_false'] at hb
    rw [r_addPolicy (by
      rintro (z | z)
      · exact hb.1 (by omega)
      · rw [hb.2] at z
        cases z)] at k
    exact g_retC (K := K) (a, m, L, c, w) (by wtm_at "ev") (fun H1 e => ⟨rfl, hM.mono e, G⟩) k
theorem ok_add_policy {P : Program} {w : World} {K : PySem.W.Frag} {mg : Str → Option Value} {base : Heap} {h : Heap} (T : Tx K mg h) : OkF P w K mg base 2 "add_policy" ["monitor", "cheat_set", "weight"] (sp_add_policy K) :=
  mkOk T (st := s_add_policy) (N := ["monitor", "cheat_set", "weight"]) 47 47 sc_add_policy (by rintro vs H Q E ⟨_, ⟨rfl, _⟩, _⟩; rfl) (fun f cdv A outer s H vs Q E hr hsp => ⟨t_add_policy K, (pss_cons (ps_if (PW.pt (pw_or (pt_cmp (pc_ge (pv 1) (pe_callO (ok_power T) (hr.mono (by decide)) rfl (pa_cons pe_int (pa_cons (pe_fld (pe_fld (pv 0) rfl) rfl) pa_nil))))) (pw_or1 (pt_not (pt_val (pe_callO (ok_is_weight T) (hr.mono (by decide)) rfl (pa_cons (pv 2) pa_nil))))))) (pss_one (ps_ret (pe_lst (pa_cons (pe_gint (T.int 103) rfl) pa_nil)))) pss_nil)
      (pss_one (ps_ret (pe_callO (ok_add_checked T) (hr.mono (by decide)) rfl (pa_cons (pv 0) (pa_cons (pv 1) (pa_cons (pv 2) pa_nil))))))), rd_add_policy T hsp⟩) (fun _ _ _ _ _ _ us hl => match us, hl with | [_, _, _], _ => rfl)
abbrev s_add_rational_policy : Stmt := top 75
theorem sc_add_rational_policy : FnScope ["monitor", "weight"] ["monitor", "weight"] (defScope s_add_rational_policy) := ⟨rfl, rfl, rfl, by decide +kernel, rfl, by decide +kernel, by decide +kernel⟩
def t_add_rational_policy (K : PySem.W.Frag) : TS :=
    (tSeq (tIfS (tNot (tB (tCall (sp_is_weight K) [] E0 (tCons (tVar 1) tNil)))) (tRet (tLst (tCons (tC (.int (-22))) tNil))) tNext)
    (tRet (tCall (sp_add_checked K) [] E0 (tCons (tVar 0) (tCons (tCall (sp_rational_set K) [] E0 (tCons (tFld K (tVar 0) "setting") tNil)) (tCons (tVar 1) tNil))))))
def sp_add_rational_policy (K : PySem.W.Frag) : Sp := SpC (ι := Addr × Mo × Lay × Nat) K (fun i vs H => vs = [.ref i.1, .int ((i.2.2.2 : Nat) : Int)] ∧ MonL K H i.1 i.2.1 i.2.2.1 ∧ GoodM i.2.1) (fun i => (i.1, i.2.1, i.2.2.1, Kp417.run i.2.1 (.addRationalPolicy i.2.2.2)))
theorem rd_add_rational_policy {K : PySem.W.Frag} {mg : Str → Option Value} {h : Heap} (T : Tx K mg h) {vs : List V} {H : Hp} {Q : VK} {E : XK} (hsp : sp_add_rational_policy K vs H Q E) : t_add_rational_policy K { nx := fun _ H' => Q .non H', rt := Q } (start ["monitor", "weight"] vs) H := by
  obtain ⟨⟨a, m, L, w⟩, ⟨rfl, hM, G⟩, k⟩ := hsp
  dsimp only at hM G k ⊢
  have hs := hM.set
  have gs := G.s
  refine Sg.go (H := H) ?_ (Ex.refl H)
  refine g_when (b := !Kp417.validWeight w) (by wtm_at "ev") (fun hb => ?_) (fun hb => ?_)
  · exact g_bad hM (r_addRational_bad (by simpa using hb)) k
  · rw [r_addRational (by simpa using hb)] at k
    exact g_retC (K := K) (a, m, L, Kp417.maskOf (Kp416.cheatingSignals m.setting), w) (by wtm_at "ev") (fun H1 e => ⟨rfl, hM.mono e, G⟩) k
theorem ok_add_rational_policy {P : Program} {w : World} {K : PySem.W.Frag} {mg : Str → Option Value} {base : Heap} {h : Heap} (T : Tx K mg h) : OkF P w K mg base 4 "add_rational_policy" ["monitor", "weight"] (sp_add_rational_policy K) :=
  mkOk T (st := s_add_rational_policy) (N := ["monitor", "weight"]) 48 48 sc_add_rational_policy (by rintro vs H Q E ⟨_, ⟨rfl, _⟩, _⟩; rfl) (fun f cdv A outer s H vs Q E hr hsp => ⟨t_add_rational_policy K, (pss_cons (ps_if (pt_not (pt_val (pe_callO (ok_is_weight T) (hr.mono (by decide)) rfl (pa_cons (pv 1) pa_nil)))) (pss_one (ps_ret (pe_lst (pa_cons (pe_gint (T.int 103) rfl) pa_nil)))) pss_nil)
      (pss_one (ps_ret (pe_callO (ok_add_checked T) (hr.mono (by decide)) rfl (pa_cons (pv 0) (pa_cons (pe_callO (ok_rational_set T) (hr.mono (by decide)) rfl (pa_cons (pe_fld (pv 0) rfl) pa_nil)) (pa_cons (pv 1) pa_nil))))))), rd_add_rational_policy T hsp⟩) (fun _ _ _ _ _ _ us hl => match us, hl with | [_, _], _ => rfl)
end Pw
namespace Pw
open PySem PySem.Spec PyProof.Rows L2 Evl
theorem cut_take (xs : List V) (i : Nat) : cutV xs none (some ((i : Nat) : Int)) = xs.take i := by
  unfold cutV
  rw [HT.sIx_none, HT.sIx_nat, List.drop_zero, Nat.sub_zero]
  by_cases c : i ≤ xs.length
  · rw [Nat.min_eq_left c]
  · rw [Nat.min_eq_right (by omega), List.take_of_length_le (Nat.le_refl _), List.take_of_length_le (by omega)]
theorem cut_drop (xs : List V) (i : Nat) : cutV xs (some ((i : Nat) : Int)) none = xs.drop i := by
  unfold cutV
  rw [HT.sIx_none, HT.sIx_nat]
  by_cases c : i ≤ xs.length
  · rw [Nat.min_eq_left c]
    exact List.take_of_length_le (by rw [List.length_drop]; omega)
  · rw [Nat.min_eq_right (by omega), List.drop_of_length_le (Nat.le_refl _), List.drop_of_length_le (by omega), List.take_nil]
theorem sIx_last (n d : Nat) : HT.sIx n d (some (-1)) = n - 1 := by
  show (if (-1 : Int) < 0 then ((-1 : Int) + (n : Int)).toNat else min (-1 : Int).toNat n) = n - 1
  rw [if_pos (by decide)]
  omega
theorem cut_last (xs : List V) : cutV xs none (some (-1)) = xs.dropLast := by
  unfold cutV
  rw [HT.sIx_none, List.drop_zero, Nat.sub_zero, List.dropLast_eq_take, sIx_last]
theorem er_catL {σ : L2.St} {H : Hp} {ta tb : TE} {xs ys : List V} (ha : EvL ta σ H xs) (hb : EvL tb σ H ys) (hz : xs.length + ys.length ≤ 1000) : EvR (tOp rCat ta tb) σ H (fun v H => ∃ p, v = .ref p ∧ H p = some (.lst (xs ++ ys))) := fun H1 e Q q =>
  ha H1 e _ fun p H2 _ e2 h2 => hb H2 (e.trans e2) _ fun p' H3 _ e3 h3 => ⟨p, p', xs, ys, rfl, rfl, e3 _ _ h2, h3, sz_of (by omega), fun s hs => q _ _ ((e2.trans e3).trans (Ex.new hs)) ⟨s, rfl, upd_same⟩⟩
/-- pairs without the i-th one -/
theorem pairs_erase {H : Hp} {p : Addr} {xs : List V} {ps : List (Int × Int)} {i : Nat} (hp : H p = some (.lst (xs.eraseIdx i))) (hl : xs.length = ps.length) (hh : ∀ (i : Nat) (x : V), xs[i]? = some x → ∃ p, ps[i]? = some p ∧ FrI x H p.1 p.2) : PairsAt H p (ps.eraseIdx i) := by
  refine ⟨_, hp, by rw [List.length_eraseIdx, List.length_eraseIdx, hl], fun j x hx => ?_⟩
  rw [List.getElem?_eraseIdx] at hx ⊢
  split at hx
  · rename_i c
    rw [if_pos c]
    exact hh j x hx
  · rename_i c
    rw [if_neg c]
    exact hh (j + 1) x hx
theorem pairs_last {H : Hp} {p : Addr} {xs : List V} {ps : List (Int × Int)} (hp : H p = some (.lst xs.dropLast)) (hl : xs.length = ps.length) (hh : ∀ (i : Nat) (x : V), xs[i]? = some x → ∃ p, ps[i]? = some p ∧ FrI x H p.1 p.2) : PairsAt H p ps.dropLast := by
  refine ⟨_, hp, by rw [List.length_dropLast, List.length_dropLast, hl], fun j x hx => ?_⟩
  rw [List.getElem?_dropLast] at hx ⊢
  split at hx
  · rename_i c
    rw [if_pos (by rw [← hl]; exact c)]
    exact hh j x hx
  · cases hx
theorem polI_erase (l : List Kp417.Policy) (i : Nat) : polI (l.eraseIdx i) = (polI l).eraseIdx i := by
  unfold polI
  rw [List.eraseIdx_eq_take_drop_succ, List.eraseIdx_eq_take_drop_succ, List.map_append, List.map_take, List.map_drop]
theorem logI_last (l : List Kp417.Entry) : logI l.dropLast = (logI l).dropLast := by
  unfold logI
  rw [List.map_dropLast]
abbrev s_remove_policy : Stmt := top 76
theorem sc_remove_policy : FnScope ["monitor", "policy"] ["monitor", "policy"] (defScope s_remove_policy) := ⟨rfl, rfl, rfl, by decide +kernel, rfl, by decide +kernel, by decide +kernel⟩
def t_remove_policy (K : PySem.W.Frag) : TS :=
    (tSeq (tIfS (tB (tGe (tVar 1) (tCB (rLenS K) (tCons (tFld K (tVar 0) "policies") tNil)))) (tRet (tLst (tCons (tC (.int (-2))) tNil))) tNext)
    (tSeq (tIfS (tTest (tOp (rNeD K) (tFld K (tVar 0) "log") (tLst tNil))) (tRet (tLst (tCons (tC (.int (-16))) tNil))) tNext)
    (tSeq (sFld K (tVar 0) (tOp rCat (tSl (rSlL K) (tFld K (tVar 0) "policies") tNoPart (tPart (tVar 1))) (tSl (rSlL K) (tFld K (tVar 0) "policies") (tPart (tOp (rI0 fun i j => .int (i + j)) (tVar 1) (tC (.int 1)))) tNoPart)) "policies")
    (tRet (tLst (tCons (tCB (rLenS K) (tCons (tFld K (tVar 0) "policies") tNil)) tNil))))))
def sp_remove_policy (K : PySem.W.Frag) : Sp := SpC (ι := Addr × Mo × Lay × Nat) K (fun i vs H => vs = [.ref i.1, .int ((i.2.2.2 : Nat) : Int)] ∧ MonL K H i.1 i.2.1 i.2.2.1 ∧ GoodM i.2.1) (fun i => (i.1, i.2.1, i.2.2.1, Kp417.run i.2.1 (.removePolicy i.2.2.2)))
theorem rd_remove_policy {K : PySem.W.Frag} {mg : Str → Option Value} {h : Heap} (T : Tx K mg h) {vs : List V} {H : Hp} {Q : VK} {E : XK} (hsp : sp_remove_policy K vs H Q E) : t_remove_policy K { nx := fun _ H' => Q .non H', rt := Q } (start ["monitor", "policy"] vs) H := by
  obtain ⟨⟨a, m, L, i⟩, ⟨rfl, hM, G⟩, k⟩ := hsp
  dsimp only at hM G k ⊢
  have g6 := G.p6
  refine Sg.go (H := H) ?_ (Ex.refl H)
  refine g_when (b := decide (((m.policies.length : Nat) : Int) ≤ ((i : Nat) : Int))) (by wtm_at "ev") (fun hb => ?_) (fun hb => ?_)
  · exact g_bad hM (r_remove_no (by have := of_decide_eq_true hb; omega)) k
  have hi : i < m.policies.length := by
    have := of_decide_eq_false hb
    omega
  refine g_when (b := !m.log.isEmpty) (by wtm_at "ev") (fun hb => ?_) (fun hb => ?_)
  · exact g_bad hM (r_remove_log hi (by simpa using hb)) k
  rw [r_remove hi (by simpa using hb)] at k
  obtain ⟨xs, hx, hlen, hxs⟩ := hM.pol
  have hlen2 : xs.length = m.policies.length := hlen.trans (polI_len _)
  have hE : xs.take i ++ xs.drop (i + 1) = xs.eraseIdx i := (List.eraseIdx_eq_take_drop_succ ..).symm
  refine w_fldR (T.cls 127) (T.noat 130) (er_catL (xs := xs.take i) (ys := xs.drop (i + 1)) (by
      rw [← cut_take]
      exact el_sl (evM_policies T hM (ev_var rfl)) eo_none (eo_some (ev_var rfl)) (SqL.of hx)) (by
      rw [← cut_drop]
      exact el_sl (evM_policies T hM (ev_var rfl)) (eo_some (ev_i (ev_add (ev_var rfl) ev_c) (by omega))) eo_none (SqL.of hx)) (by rw [List.length_take, List.length_drop]; omega)) (ev_var rfl) hM.ob (by show 4 < 1000; decide) fun y H2 e2 r H3 x3 h3 => ?_
  obtain ⟨p, rfl, hp⟩ := r
  rw [hE] at hp
  have hM2 := hM.mono e2
  rw [pMpol] at h3
  have hM3 : MonL K H3 a { m with policies := m.policies.eraseIdx i } ⟨L.dx, L.sa, p, L.ll, L.pv⟩ := ⟨h3, hM2.set.kx x3 hM2.ob, by
    show PairsAt H3 p (polI (m.policies.eraseIdx i))
    rw [polI_erase]
    refine PairsAt.kx x3 hM2.ob (pairs_erase hp hlen fun j x hj => ?_)
    obtain ⟨q, q1, q2⟩ := hxs j x hj
    exact ⟨q, q1, q2.mono e2⟩, hM2.log.kx x3 hM2.ob, hM2.per.kx x3 hM2.ob⟩
  refine g_one (n := ((m.policies.length - 1 : Nat) : Int)) (ev_i (evM_len_policies T hM3 (ev_var rfl)) ?_) fun v H4 e4 r => k v H4 ⟨r, ⟨_, hM3.mono e4⟩, (KY.of_ex e2).trans ((KY.of_a x3).trans (KY.of_ex e4))⟩
  show (((m.policies.eraseIdx i).length : Nat) : Int) = _
  rw [List.length_eraseIdx, if_pos hi]
theorem ok_remove_policy {P : Program} {w : World} {K : PySem.W.Frag} {mg : Str → Option Value} {base : Heap} {h : Heap} (T : Tx K mg h) : OkF P w K mg base 1 "remove_policy" ["monitor", "policy"] (sp_remove_policy K) :=
  mkOk T (st := s_remove_policy) (N := ["monitor", "policy"]) 49 49 sc_remove_policy (by rintro vs H Q E ⟨_, ⟨rfl, _⟩, _⟩; rfl) (fun f cdv A outer s H vs Q E hr hsp => ⟨t_remove_policy K, (pss_cons (ps_if (pt_cmp (pc_ge (pv 1) (pe_callB call_len_seq rfl (T.free 95) bt_len (pa_cons (pe_fld (pv 0) rfl) pa_nil)))) (pss_one (ps_ret (pe_lst (pa_cons (pe_gint (T.int 102) rfl) pa_nil)))) pss_nil)
      (pss_cons (ps_if (pt_cmpR (op_neD hr.units) (pe_fld (pv 0) rfl) (pe_lst pa_nil) (nomark _)) (pss_one (ps_ret (pe_lst (pa_cons (pe_gint (T.int 104) rfl) pa_nil)))) pss_nil)
      (pss_cons (ps_fld (pv 0) (pe_op op_cat (pe_slice sl_list (pe_fld (pv 0) rfl) po_none (po_some (pv 1))) (pe_slice sl_list (pe_fld (pv 0) rfl) (po_some (pe_op op_add (pv 1) pe_int)) po_none)) rfl)
      (pss_one (ps_ret (pe_lst (pa_cons (pe_callB call_len_seq rfl (T.free 95) bt_len (pa_cons (pe_fld (pv 0) rfl) pa_nil)) pa_nil))))))), rd_remove_policy T hsp⟩) (fun _ _ _ _ _ _ us hl => match us, hl with | [_, _], _ => rfl)
theorem good_entry {m : Mo} (G : GoodM m) {e : Kp417.Entry} (he : e.signal < (tws m.setting).length) (h : ¬ 16 ≤ m.log.length) : GoodM (Kp417.withEntry m e) :=
  ⟨G.s, G.p6, G.pc, G.pw1, G.pw9, G.nd, by show (m.log ++ [e]).length ≤ 16; rw [List.length_append]; show m.log.length + 1 ≤ 16; omega, fun x hx => by
    rcases List.mem_append.mp (show x ∈ m.log ++ [e] from hx) with z | z
    · exact G.ls x z
    · rw [List.mem_singleton.mp z]
      exact he, G.pe⟩
theorem ev_lenN' {K : PySem.W.Frag} {σ : L2.St} {H : Hp} {ta : TE} {l : List Nat} (ha : EvR ta σ H (fun v H => LsN v H l)) : Ev (tCB (rLenS K) (tCons ta tNil)) σ H (.int ((l.length : Nat) : Int)) := ev_lenR (er_w ha fun v H1 _ r => by
  obtain ⟨p, rfl, hp⟩ := r
  exact ⟨p, _, rfl, hp, nats_len l⟩)
abbrev s_record_test : Stmt := top 77
theorem sc_record_test : FnScope ["monitor", "signal", "cheated", "log", "some"] ["monitor", "signal", "cheated"] (defScope s_record_test) := ⟨rfl, rfl, rfl, by decide +kernel, rfl, by decide +kernel, by decide +kernel⟩
def t_record_test (K : PySem.W.Frag) : TS :=
    (tSeq (tIfS (tB (tGe (tVar 1) (tFld K (tFld K (tVar 0) "setting") "signal_count"))) (tRet (tLst (tCons (tC (.int (-2))) tNil))) tNext)
    (tSeq (tIfS (tOr (tB (tGt (tVar 2) (tC (.int 1)))) (tB (tEqI (tOp (rIxL K) (tFld K (tFld K (tVar 0) "setting") "test_weights") (tVar 1)) (tC (.int 0))))) (tRet (tLst (tCons (tC (.int (-22))) tNil))) tNext)
    (tSeq (tIfS (tB (tGe (tCB (rLenS K) (tCons (tFld K (tVar 0) "log") tNil)) (tC (.int (16))))) (tRet (tLst (tCons (tC (.int (-28))) tNil))) tNext)
    (tSeq (tAsg (tOp rCat (tFld K (tVar 0) "log") (tLst (tCons (tTup (tCons (tVar 2) (tCons (tVar 1) tNil))) tNil))) (gName 3))
    (tSeq (tAsg (tCall (sp_candidates_by K) [] E0 (tCons (tVar 0) (tCons (tVar 3) tNil))) (gName 4))
    (tSeq (tIfS (tTest (tOp (rEqD K) (tVar 4) (tLst tNil))) (tRet (tLst (tCons (tC (.int (-33))) tNil))) tNext)
    (tSeq (sFld K (tVar 0) (tVar 3) "log")
    (tRet (tLst (tCons (tCB (rLenS K) (tCons (tVar 4) tNil)) tNil))))))))))
def sp_record_test (K : PySem.W.Frag) : Sp := SpC (ι := Addr × Mo × Lay × Nat × Nat) K (fun i vs H => vs = [.ref i.1, .int ((i.2.2.2.1 : Nat) : Int), .int ((i.2.2.2.2 : Nat) : Int)] ∧ MonL K H i.1 i.2.1 i.2.2.1 ∧ GoodM i.2.1) (fun i => (i.1, i.2.1, i.2.2.1, Kp417.run i.2.1 (.recordTest i.2.2.2.1 i.2.2.2.2)))
theorem rd_record_test {K : PySem.W.Frag} {mg : Str → Option Value} {h : Heap} (T : Tx K mg h) {vs : List V} {H : Hp} {Q : VK} {E : XK} (hsp : sp_record_test K vs H Q E) : t_record_test K { nx := fun _ H' => Q .non H', rt := Q } (start ["monitor", "signal", "cheated", "log", "some"] vs) H := by
  obtain ⟨⟨a, m, L, s, t⟩, ⟨rfl, hM, G⟩, k⟩ := hsp
  dsimp only at hM G k ⊢
  have g5 := G.s.n5
  have g16 := G.l16
  have hset := hM.set
  refine Sg.go (H := H) ?_ (Ex.refl H)
  refine g_when (b := decide ((((tws m.setting).length : Nat) : Int) ≤ ((s : Nat) : Int))) (by wtm_at "ev") (fun hb => ?_) (fun hb => ?_)
  · exact g_bad hM (r_test_no (by have := of_decide_eq_true hb; omega)) k
  have c : s < (tws m.setting).length := by
    have := of_decide_eq_false hb
    omega
  refine g_when (b := decide ((1 : Int) < ((t : Nat) : Int)) || decide ((((tws m.setting).getD s 0 : Nat) : Int) = 0)) (by wtm_at "ev") (fun hb2 => ?_) (fun hb2 => ?_)
  · exact g_bad hM (r_test_bad c (bad_iff.mp hb2)) k
  have z : ¬ (1 < t ∨ (tws m.setting).getD s 0 = 0) := fun w => by
    rw [bad_iff.mpr w] at hb2
    cases hb2
  refine g_when (b := decide ((16 : Int) ≤ ((m.log.length : Nat) : Int))) (by wtm_at "ev") (fun hb3 => ?_) (fun hb3 => ?_)
  · exact g_bad hM (r_test_full c z (by have := of_decide_eq_true hb3; omega)) k
  have c3 : ¬ 16 ≤ m.log.length := by
    have := of_decide_eq_false hb3
    omega
  have hE : logI (m.log ++ [Kp417.testEntry s t]) = logI m.log ++ [(((t : Nat) : Int), ((s : Nat) : Int))] := by
    rw [logI_snoc, test_code (fun w => z (.inl w))]
    rfl
  refine g_setR (er_snocP (a := ((t : Nat) : Int)) (b := ((s : Nat) : Int)) (evM_log T hM (ev_var rfl)) hM.log (ev_var rfl) (ev_var rfl) (by rw [logI_len]; omega)) fun y H2 e2 r => ?_
  obtain ⟨p, rfl, hp⟩ := r
  have hM2 := hM.mono e2
  have hp' : PairsAt H2 p (logI (m.log ++ [Kp417.testEntry s t])) := by
    rw [hE]
    exact hp
  refine g_setR (cr_candidates_by T (lv := p) (lg := m.log ++ [Kp417.testEntry s t]) (by wtm_at "ev") hM2 G hp' (sig_snoc G (by show s ≤ 60; omega))) fun sv H3 e3 hs => ?_
  have hM3 := hM2.mono e3
  have hp3 := hp'.mono e3
  have e23 := e2.trans e3
  refine g_when (b := (candBy m (m.log ++ [Kp417.testEntry s t])).isEmpty) (et_test (ev_nil (er_w (er_v (ev_var rfl)) fun v H4 e4 r => by rw [r]; exact LsN.mono e4 hs))) (fun hb4 => ?_) (fun hb4 => ?_)
  · refine g_bad hM3 rfl fun v H4 post => k v H4 ?_
    rw [r_test_none c z c3 hb4]
    exact ⟨post.ans, post.mon, (KY.of_ex e23).trans post.keep⟩
  rw [r_test c z c3 hb4] at k
  refine w_fld (T.cls 127) (T.noat 131) (ev_var rfl) (ev_var rfl) hM3.ob (by show 4 < 1000; decide) pMlog fun H4 x4 h4 => ?_
  have hM4 : MonL K H4 a (withT m s t) ⟨L.dx, L.sa, L.pl, p, L.pv⟩ := ⟨h4, hM3.set.kx x4 hM3.ob, hM3.pol.kx x4 hM3.ob, hp3.kx x4 hM3.ob, hM3.per.kx x4 hM3.ob⟩
  obtain ⟨sp, rfl, hsp⟩ := hs
  have hs4 := x4.lst hM3.ob hsp
  exact g_one (ev_lenL (ev_var rfl) hs4 (nats_len _)) fun v H5 e5 r => k v H5 ⟨r, ⟨_, hM4.mono e5⟩, (KY.of_ex e23).trans ((KY.of_a x4).trans (KY.of_ex e5))⟩
theorem ok_record_test {P : Program} {w : World} {K : PySem.W.Frag} {mg : Str → Option Value} {base : Heap} {h : Heap} (T : Tx K mg h) : OkF P w K mg base 5 "record_test" ["monitor", "signal", "cheated"] (sp_record_test K) :=
  mkOk T (st := s_record_test) (N := ["monitor", "signal", "cheated", "log", "some"]) 50 50 sc_record_test (by rintro vs H Q E ⟨_, ⟨rfl, _⟩, _⟩; rfl) (fun f cdv A outer s H vs Q E hr hsp => ⟨t_record_test K, (pss_cons (ps_if (pt_cmp (pc_ge (pv 1) (pe_fld (pe_fld (pv 0) rfl) rfl))) (pss_one (ps_ret (pe_lst (pa_cons (pe_gint (T.int 102) rfl) pa_nil)))) pss_nil)
      (pss_cons (ps_if (PW.pt (pw_or (pt_cmp (pc_gt (pv 2) pe_int)) (pw_or1 (pt_cmp (pc_eqI (pe_ix ix_list (pe_fld (pe_fld (pv 0) rfl) rfl) (pv 1) (fun _ _ => rfl)) pe_int))))) (pss_one (ps_ret (pe_lst (pa_cons (pe_gint (T.int 103) rfl) pa_nil)))) pss_nil)
      (pss_cons (ps_if (pt_cmp (pc_ge (pe_callB call_len_seq rfl (T.free 95) bt_len (pa_cons (pe_fld (pv 0) rfl) pa_nil)) (pe_gint (T.int 113) rfl))) (pss_one (ps_ret (pe_lst (pa_cons (pe_gint (T.int 106) rfl) pa_nil)))) pss_nil)
      (pss_cons (ps_set (i := 3) sc_record_test.nd rfl (Or.inl rfl) (pe_op op_cat (pe_fld (pv 0) rfl) (pe_lst (pa_cons (pe_tup (pa_cons (pv 2) (pa_cons (pv 1) pa_nil))) pa_nil))))
      (pss_cons (ps_set (i := 4) sc_record_test.nd rfl (Or.inl rfl) (pe_callO (ok_candidates_by T) (hr.mono (by decide)) rfl (pa_cons (pv 0) (pa_cons (pv 3) pa_nil))))
      (pss_cons (ps_if (pt_cmpR (op_eqD hr.units) (pv 4) (pe_lst pa_nil) (nomark _)) (pss_one (ps_ret (pe_lst (pa_cons (pe_gint (T.int 107) rfl) pa_nil)))) pss_nil)
      (pss_cons (ps_fld (pv 0) (pv 3) rfl)
      (pss_one (ps_ret (pe_lst (pa_cons (pe_callB call_len_seq rfl (T.free 95) bt_len (pa_cons (pv 4) pa_nil)) pa_nil))))))))))), rd_record_test T hsp⟩) (fun _ _ _ _ _ _ us hl => match us, hl with | [_, _, _], _ => rfl)
abbrev s_record_production : Stmt := top 78
theorem sc_record_production : FnScope ["monitor", "signal"] ["monitor", "signal"] (defScope s_record_production) := ⟨rfl, rfl, rfl, by decide +kernel, rfl, by decide +kernel, by decide +kernel⟩
def t_record_production (K : PySem.W.Frag) : TS :=
    (tSeq (tIfS (tB (tGe (tVar 1) (tFld K (tFld K (tVar 0) "setting") "signal_count"))) (tRet (tLst (tCons (tC (.int (-2))) tNil))) tNext)
    (tSeq (tIfS (tB (tEqI (tOp (rIxL K) (tFld K (tFld K (tVar 0) "setting") "production_weights") (tVar 1)) (tC (.int 0)))) (tRet (tLst (tCons (tC (.int (-22))) tNil))) tNext)
    (tSeq (tIfS (tB (tGe (tCB (rLenS K) (tCons (tFld K (tVar 0) "log") tNil)) (tC (.int (16))))) (tRet (tLst (tCons (tC (.int (-28))) tNil))) tNext)
    (tSeq (tIfS (tTest (tOp (rEqD K) (tCall (sp_candidates K) [] E0 (tCons (tVar 0) tNil)) (tLst tNil))) (tRet (tLst (tCons (tC (.int (-33))) tNil))) tNext)
    (tSeq (tIfS (tNot (tB (tCall (sp_is_allowed K) [] E0 (tCons (tVar 0) tNil)))) (tRet (tLst (tCons (tC (.int (-30))) tNil))) tNext)
    (tSeq (sFld K (tVar 0) (tOp rCat (tFld K (tVar 0) "log") (tLst (tCons (tTup (tCons (tC (.int 2)) (tCons (tVar 1) tNil))) tNil))) "log")
    (tRet (tLst (tCons (tCB (rLenS K) (tCons (tCall (sp_suspects K) [] E0 (tCons (tVar 0) (tCons (tVar 1) tNil))) tNil)) tNil)))))))))
def sp_record_production (K : PySem.W.Frag) : Sp := SpC (ι := Addr × Mo × Lay × Nat) K (fun i vs H => vs = [.ref i.1, .int ((i.2.2.2 : Nat) : Int)] ∧ MonL K H i.1 i.2.1 i.2.2.1 ∧ GoodM i.2.1) (fun i => (i.1, i.2.1, i.2.2.1, Kp417.run i.2.1 (.recordProduction i.2.2.2)))
theorem rd_record_production {K : PySem.W.Frag} {mg : Str → Option Value} {h : Heap} (T : Tx K mg h) {vs : List V} {H : Hp} {Q : VK} {E : XK} (hsp : sp_record_production K vs H Q E) : t_record_production K { nx := fun _ H' => Q .non H', rt := Q } (start ["monitor", "signal"] vs) H := by
  obtain ⟨⟨a, m, L, s⟩, ⟨rfl, hM, G⟩, k⟩ := hsp
  dsimp only at hM G k ⊢
  have g5 := G.s.n5
  have g16 := G.l16
  have hset := hM.set
  have gl := G.s.len
  refine Sg.go (H := H) ?_ (Ex.refl H)
  refine g_when (b := decide ((((tws m.setting).length : Nat) : Int) ≤ ((s : Nat) : Int))) (by wtm_at "ev") (fun hb => ?_) (fun hb => ?_)
  · exact g_bad hM (r_prod_no (by have := of_decide_eq_true hb; omega)) k
  have c : s < (tws m.setting).length := by
    have := of_decide_eq_false hb
    omega
  refine g_when (b := decide ((((pws m.setting).getD s 0 : Nat) : Int) = 0)) (by wtm_at "ev") (fun hb2 => ?_) (fun hb2 => ?_)
  · exact g_bad hM (r_prod_bad c (by have := of_decide_eq_true hb2; omega)) k
  have z : ¬ (pws m.setting).getD s 0 = 0 := by
    have := of_decide_eq_false hb2
    omega
  refine g_when (b := decide ((16 : Int) ≤ ((m.log.length : Nat) : Int))) (by wtm_at "ev") (fun hb3 => ?_) (fun hb3 => ?_)
  · exact g_bad hM (r_prod_full c z (by have := of_decide_eq_true hb3; omega)) k
  have c3 : ¬ 16 ≤ m.log.length := by
    have := of_decide_eq_false hb3
    omega
  refine g_when (b := (Kp417.candidates m).isEmpty) (et_test (ev_nil (cr_candidates T (by wtm_at "ev") hM G))) (fun hb4 => ?_) (fun hb4 => ?_)
  · exact g_bad hM (r_prod_none c z c3 hb4) k
  refine g_when (b := !Kp417.allowed m) (by wtm_at "ev") (fun hb5 => ?_) (fun hb5 => ?_)
  · exact g_bad hM (r_prod_ban c z c3 hb4 (by simpa using hb5)) k
  rw [r_prod c z c3 hb4 (by simpa using hb5)] at k
  refine w_fldR (T.cls 127) (T.noat 131) (er_snocP (a := 2) (b := ((s : Nat) : Int)) (evM_log T hM (ev_var rfl)) hM.log ev_c (ev_var rfl) (by rw [logI_len]; omega)) (ev_var rfl) hM.ob (by show 4 < 1000; decide) fun y H2 e2 r H3 x3 h3 => ?_
  obtain ⟨p, rfl, hp⟩ := r
  have hM2 := hM.mono e2
  rw [pMlog] at h3
  have hM3 : MonL K H3 a (withP m s) ⟨L.dx, L.sa, L.pl, p, L.pv⟩ := ⟨h3, hM2.set.kx x3 hM2.ob, hM2.pol.kx x3 hM2.ob, by
    show PairsAt H3 p (logI (m.log ++ [⟨.production, s⟩]))
    rw [logI_snoc]
    exact hp.kx x3 hM2.ob, hM2.per.kx x3 hM2.ob⟩
  have G3 : GoodM (withP m s) := good_entry G c c3
  refine g_one (n := (((susp m s).length : Nat) : Int)) (ev_i (ev_lenN' (cr_suspects T (by wtm_at "ev") hM3 G3 (by omega))) ?_) fun v H5 e5 r => k v H5 ⟨r, ⟨_, hM3.mono e5⟩, (KY.of_ex e2).trans ((KY.of_a x3).trans (KY.of_ex e5))⟩
  have h := susp_prod m s s
  unfold susp at h
  rw [h]
  rfl
theorem ok_record_production {P : Program} {w : World} {K : PySem.W.Frag} {mg : Str → Option Value} {base : Heap} {h : Heap} (T : Tx K mg h) : OkF P w K mg base 9 "record_production" ["monitor", "signal"] (sp_record_production K) :=
  mkOk T (st := s_record_production) (N := ["monitor", "signal"]) 51 51 sc_record_production (by rintro vs H Q E ⟨_, ⟨rfl, _⟩, _⟩; rfl) (fun f cdv A outer s H vs Q E hr hsp => ⟨t_record_production K, (pss_cons (ps_if (pt_cmp (pc_ge (pv 1) (pe_fld (pe_fld (pv 0) rfl) rfl))) (pss_one (ps_ret (pe_lst (pa_cons (pe_gint (T.int 102) rfl) pa_nil)))) pss_nil)
      (pss_cons (ps_if (pt_cmp (pc_eqI (pe_ix ix_list (pe_fld (pe_fld (pv 0) rfl) rfl) (pv 1) (fun _ _ => rfl)) pe_int)) (pss_one (ps_ret (pe_lst (pa_cons (pe_gint (T.int 103) rfl) pa_nil)))) pss_nil)
      (pss_cons (ps_if (pt_cmp (pc_ge (pe_callB call_len_seq rfl (T.free 95) bt_len (pa_cons (pe_fld (pv 0) rfl) pa_nil)) (pe_gint (T.int 113) rfl))) (pss_one (ps_ret (pe_lst (pa_cons (pe_gint (T.int 106) rfl) pa_nil)))) pss_nil)
      (pss_cons (ps_if (pt_cmpR (op_eqD hr.units) (pe_callO (ok_candidates T) (hr.mono (by decide)) rfl (pa_cons (pv 0) pa_nil)) (pe_lst pa_nil) (nomark _)) (pss_one (ps_ret (pe_lst (pa_cons (pe_gint (T.int 107) rfl) pa_nil)))) pss_nil)
      (pss_cons (ps_if (pt_not (pt_val (pe_callO (ok_is_allowed T) (hr.mono (by decide)) rfl (pa_cons (pv 0) pa_nil)))) (pss_one (ps_ret (pe_lst (pa_cons (pe_gint (T.int 108) rfl) pa_nil)))) pss_nil)
      (pss_cons (ps_fld (pv 0) (pe_op op_cat (pe_fld (pv 0) rfl) (pe_lst (pa_cons (pe_tup (pa_cons pe_int (pa_cons (pv 1) pa_nil))) pa_nil))) rfl)
      (pss_one (ps_ret (pe_lst (pa_cons (pe_callB call_len_seq rfl (T.free 95) bt_len (pa_cons (pe_callO (ok_suspects T) (hr.mono (by decide)) rfl (pa_cons (pv 0) (pa_cons (pv 1) pa_nil))) pa_nil)) pa_nil)))))))))), rd_record_production T hsp⟩) (fun _ _ _ _ _ _ us hl => match us, hl with | [_, _], _ => rfl)
abbrev s_undo_record : Stmt := top 79
theorem sc_undo_record : FnScope ["monitor", "kind", "signal"] ["monitor"] (defScope s_undo_record) := ⟨rfl, rfl, rfl, by decide +kernel, rfl, by decide +kernel, by decide +kernel⟩
def t_undo_record (K : PySem.W.Frag) : TS :=
    (tSeq (tIfS (tTest (tOp (rEqD K) (tFld K (tVar 0) "log") (tLst tNil))) (tRet (tLst (tCons (tC (.int (-6))) tNil))) tNext)
    (tSeq (tAsg (tOp (rIxL K) (tFld K (tVar 0) "log") (tUn (rU fun i => .int (-i)) (tC (.int 1)))) (gTup K 2 (gCons (gName 1) (gCons (gName 2) gNil))))
    (tSeq (sFld K (tVar 0) (tSl (rSlL K) (tFld K (tVar 0) "log") tNoPart (tPart (tUn (rU fun i => .int (-i)) (tC (.int 1))))) "log")
    (tRet (tLst (tCons (tVar 1) (tCons (tVar 2) tNil)))))))
def sp_undo_record (K : PySem.W.Frag) : Sp := SpC (ι := Addr × Mo × Lay) K (fun i vs H => vs = [.ref i.1] ∧ MonL K H i.1 i.2.1 i.2.2 ∧ GoodM i.2.1) (fun i => (i.1, i.2.1, i.2.2, Kp417.run i.2.1 .undoRecord))
theorem rd_undo_record {K : PySem.W.Frag} {mg : Str → Option Value} {h : Heap} (T : Tx K mg h) {vs : List V} {H : Hp} {Q : VK} {E : XK} (hsp : sp_undo_record K vs H Q E) : t_undo_record K { nx := fun _ H' => Q .non H', rt := Q } (start ["monitor", "kind", "signal"] vs) H := by
  obtain ⟨⟨a, m, L⟩, ⟨rfl, hM, G⟩, k⟩ := hsp
  dsimp only at hM G k ⊢
  refine Sg.go (H := H) ?_ (Ex.refl H)
  refine g_when (b := m.log.isEmpty) (by wtm_at "ev") (fun hb => ?_) (fun hb => ?_)
  · exact g_bad hM (r_undo_no (List.isEmpty_iff.mp hb)) k
  have hne : m.log ≠ [] := fun z => by
    rw [z] at hb
    cases hb
  have hlast := List.getLast?_eq_some_getLast hne
  generalize m.log.getLast hne = e at hlast
  rw [r_undo hlast] at k
  obtain ⟨xs, hx, hlen, hxs⟩ := hM.log
  have hlen2 : xs.length = m.log.length := hlen.trans (logI_len _)
  have hpos : 0 < m.log.length := List.length_pos_iff.mpr hne
  obtain ⟨x, hxl⟩ : ∃ x, xs[xs.length - 1]? = some x := ⟨xs[xs.length - 1]'(by omega), List.getElem?_eq_getElem (by omega)⟩
  obtain ⟨e', he', hf⟩ := okE_log hxl hxs
  have hee : e' = e := by
    rw [List.getLast?_eq_getElem?, ← hlen2] at hlast
    rw [hlast] at he'
    exact (Option.some.inj he').symm
  rw [hee] at hf
  have hat : atI xs (-1) = some x := by
    have h1 : xs.dropLast ++ [x] = xs := by
      have hne' : xs ≠ [] := fun w => by
        rw [w] at hlen2
        simp at hlen2
        omega
      have h2 := List.getLast?_eq_some_getLast hne'
      rw [List.getLast?_eq_getElem?, hxl] at h2
      have h3 := List.dropLast_concat_getLast hne'
      rw [← Option.some.inj h2] at h3
      exact h3
    have h4 := atI_last xs.dropLast x
    rw [h1] at h4
    exact h4
  refine g_unpack (x := x) (ev_op (evM_log T hM (ev_var rfl)) (ev_un (x := .int 1) ev_c ru_neg) (rv_ixL (SqL.of hx) hat)) hf ?_
  refine w_fldL (g := fun l => mF (.ref L.sa) L.pl l L.pv) (xs := xs.dropLast) (T.cls 127) (T.noat 131) (by
    rw [← cut_last]
    exact el_sl (evM_log T hM (ev_var rfl)) eo_none (eo_some (ev_un (x := .int 1) ev_c ru_neg)) (SqL.of hx)) (ev_var rfl) hM.ob (by show 4 < 1000; decide) (fun l => pMlog) fun p H3 x3 h3 hp => ?_
  have hM3 : MonL K H3 a { m with log := m.log.dropLast } ⟨L.dx, L.sa, L.pl, p, L.pv⟩ := ⟨h3, hM.set.kx x3 hM.ob, hM.pol.kx x3 hM.ob, by
    show PairsAt H3 p (logI m.log.dropLast)
    rw [logI_last]
    refine pairs_last hp hlen fun j y hj => ?_
    obtain ⟨q, q1, q2⟩ := hxs j y hj
    exact ⟨q, q1, q2.kx x3 hM.ob⟩, hM.per.kx x3 hM.ob⟩
  exact g_ret (er_lstI (l := [(e.kind.code : Int), (e.signal : Int)]) (by show EvA _ _ _ [_, _]; wtm_at "ev") (by show 2 ≤ 1000; decide)) fun v H5 e5 r => k v H5 ⟨r, ⟨_, hM3.mono e5⟩, (KY.of_a x3).trans (KY.of_ex e5)⟩
theorem ok_undo_record {P : Program} {w : World} {K : PySem.W.Frag} {mg : Str → Option Value} {base : Heap} {h : Heap} (T : Tx K mg h) : OkF P w K mg base 1 "undo_record" ["monitor"] (sp_undo_record K) :=
  mkOk T (st := s_undo_record) (N := ["monitor", "kind", "signal"]) 52 52 sc_undo_record (by rintro vs H Q E ⟨_, ⟨rfl, _⟩, _⟩; rfl) (fun f cdv A outer s H vs Q E hr hsp => ⟨t_undo_record K, (pss_cons (ps_if (pt_cmpR (op_eqD hr.units) (pe_fld (pv 0) rfl) (pe_lst pa_nil) (nomark _)) (pss_one (ps_ret (pe_lst (pa_cons (pe_gint (T.int 109) rfl) pa_nil)))) pss_nil)
      (pss_cons (ps_asg (pe_ix ix_list (pe_fld (pv 0) rfl) (pe_un un_neg pe_int) (fun _ _ => rfl)) (pg_tup rfl (pgs_cons (pg_name (i := 1) sc_undo_record.nd rfl (Or.inl rfl)) (pgs_cons (pg_name (i := 2) sc_undo_record.nd rfl (Or.inl rfl)) pgs_nil))))
      (pss_cons (ps_fld (pv 0) (pe_slice sl_list (pe_fld (pv 0) rfl) po_none (po_some (pe_un un_neg pe_int))) rfl)
      (pss_one (ps_ret (pe_lst (pa_cons (pv 1) (pa_cons (pv 2) pa_nil)))))))), rd_undo_record T hsp⟩) (fun _ _ _ _ _ _ us hl => match us, hl with | [_], _ => rfl)
end Pw
namespace Pw
open PySem PySem.Spec PyProof.Rows L2 Evl
theorem ear_consRR {σ : L2.St} {H : Hp} {ta : TE} {tr : TA} {R : V → Hp → Prop} {RA : List V → Hp → Prop} (h : EvR ta σ H R) (hm : ∀ v H1 H2, Ex H1 H2 → R v H1 → R v H2) (hr : EvAR tr σ H RA) : EvAR (tCons ta tr) σ H (fun xs H2 => ∃ v r, xs = v :: r ∧ R v H2 ∧ RA r H2) := fun H1 e Q q =>
  h H1 e _ fun v H2 e2 hR => hr H2 (e.trans e2) _ fun r H3 e3 hA => q _ H3 (e2.trans e3) ⟨v, r, rfl, hm _ _ _ e3 hR, hA⟩
abbrev s_give_permit : Stmt := top 81
theorem sc_give_permit : FnScope ["monitor", "num", "den", "answer"] ["monitor", "num", "den"] (defScope s_give_permit) := ⟨rfl, rfl, rfl, by decide +kernel, rfl, by decide +kernel, by decide +kernel⟩
def t_give_permit (K : PySem.W.Frag) : TS :=
    (tSeq (tIfS (tNot (tB (tCall (sp_is_share K) [] E0 (tCons (tVar 1) (tCons (tVar 2) tNil))))) (tRet (tLst (tCons (tC (.int (-22))) tNil))) tNext)
    (tSeq (tIfS (tTest (tOp (rEqD K) (tCall (sp_candidates K) [] E0 (tCons (tVar 0) tNil)) (tLst tNil))) (tRet (tLst (tCons (tC (.int (-33))) tNil))) tNext)
    (tSeq (tIfS (tB (tCall (sp_is_less K) [] E0 (tCons (tTup (tCons (tVar 1) (tCons (tVar 2) tNil))) (tCons (tCall (sp_next_harm K) [] E0 (tCons (tVar 0) tNil)) tNil)))) (tRet (tLst (tCons (tC (.int (-30))) tNil))) tNext)
    (tSeq (tAsg (tOp rCat (tLst (tCons (tC (.int 0)) tNil)) (tCall (sp_old_permit K) [] E0 (tCons (tVar 0) tNil))) (gName 3))
    (tSeq (sFld K (tVar 0) (tTup (tCons (tVar 1) (tCons (tVar 2) tNil))) "permit")
    (tRet (tVar 3)))))))
def sp_give_permit (K : PySem.W.Frag) : Sp := SpC (ι := Addr × Mo × Lay × Nat × Nat) K (fun i vs H => vs = [.ref i.1, .int ((i.2.2.2.1 : Nat) : Int), .int ((i.2.2.2.2 : Nat) : Int)] ∧ MonL K H i.1 i.2.1 i.2.2.1 ∧ GoodM i.2.1) (fun i => (i.1, i.2.1, i.2.2.1, Kp417.run i.2.1 (.permit i.2.2.2.1 i.2.2.2.2)))
theorem rd_give_permit {K : PySem.W.Frag} {mg : Str → Option Value} {h : Heap} (T : Tx K mg h) {vs : List V} {H : Hp} {Q : VK} {E : XK} (hsp : sp_give_permit K vs H Q E) : t_give_permit K { nx := fun _ H' => Q .non H', rt := Q } (start ["monitor", "num", "den", "answer"] vs) H := by
  obtain ⟨⟨a, m, L, n, d⟩, ⟨rfl, hM, G⟩, k⟩ := hsp
  dsimp only at hM G k ⊢
  refine Sg.go (H := H) ?_ (Ex.refl H)
  refine g_when (b := !Kp415.validFraction n d) (by wtm_at "ev") (fun hb => ?_) (fun hb => ?_)
  · exact g_bad hM (r_permit_bad (by simpa using hb)) k
  have c : Kp415.validFraction n d = true := by simpa using hb
  obtain ⟨b1, b2, b3, b4⟩ := valid_bd c
  refine g_when (b := (Kp417.candidates m).isEmpty) (et_test (ev_nil (cr_candidates T (by wtm_at "ev") hM G))) (fun hb2 => ?_) (fun hb2 => ?_)
  · exact g_bad hM (r_permit_none c hb2) k
  refine g_when (b := decide (Kp415.toRat n d < Kp417.nextHarm m)) (et_B (ev_of (er_callX (ear_consRR (er_pair (ev_var rfl) (ev_var rfl)) (fun _ _ _ e => FrI.mono e) (ear_one (cr_next_harm T (by wtm_at "ev") hM G))) fun vs H1 e r => ?_))) (fun hb3 => ?_) (fun hb3 => ?_)
  · obtain ⟨v1, r', rfl, h1, v2, rfl, h2⟩ := r
    have s2 := smQ_next G
    refine ⟨((v1, v2), (((n : Nat) : Int), ((d : Nat) : Int)), ((Kp417.nextHarm m).num, ((Kp417.nextHarm m).den : Int))), ⟨rfl, h1, h2, nb_nat (Nat.lt_of_le_of_lt b1 (by decide)), nb_nat (Nat.lt_of_le_of_lt b2 (by decide)), s2.1, s2.den⟩, fun v' H2 _ q' => ?_⟩
    rw [q']
    congr 1
    rw [Bool.eq_iff_iff, decide_eq_true_eq, decide_eq_true_eq]
    exact raw_less _ b3
  · exact g_bad hM (r_permit_ban c hb2 (of_decide_eq_true hb3)) k
  rw [r_permit c hb2 (of_decide_eq_false hb3)] at k
  refine g_setR (er_cat (xs := [0]) (er_lstI (l := [0]) (ea_cons ev_c ea_nil) (by decide)) (cr_old_permit T (by wtm_at "ev") hM) (by rw [perPair]; decide)) fun av H1 e1 hav => ?_
  have hM1 := hM.mono e1
  refine w_fldR (T.cls 127) (T.noat 132) (er_pair (ev_var rfl) (ev_var rfl)) (ev_var rfl) hM1.ob (by show 4 < 1000; decide) fun y H2 e2 r H3 x3 h3 => ?_
  have hM2 := hM1.mono e2
  rw [pMper] at h3
  have hM3 : MonL K H3 a { m with permit := some ⟨n, d⟩ } ⟨L.dx, L.sa, L.pl, L.ll, y⟩ := ⟨h3, hM2.set.kx x3 hM2.ob, hM2.pol.kx x3 hM2.ob, hM2.log.kx x3 hM2.ob, FrI.kx x3 hM2.ob r⟩
  exact g_retv (ev_var rfl) fun H4 e4 => k av H4 ⟨LsI.mono e4 (LsI.kx x3 hM2.ob (hav.mono e2)), ⟨_, hM3.mono e4⟩, (KY.of_ex (e1.trans e2)).trans ((KY.of_a x3).trans (KY.of_ex e4))⟩
theorem ok_give_permit {P : Program} {w : World} {K : PySem.W.Frag} {mg : Str → Option Value} {base : Heap} {h : Heap} (T : Tx K mg h) : OkF P w K mg base 8 "give_permit" ["monitor", "num", "den"] (sp_give_permit K) :=
  mkOk T (st := s_give_permit) (N := ["monitor", "num", "den", "answer"]) 54 54 sc_give_permit (by rintro vs H Q E ⟨_, ⟨rfl, _⟩, _⟩; rfl) (fun f cdv A outer s H vs Q E hr hsp => ⟨t_give_permit K, (pss_cons (ps_if (pt_not (pt_val (pe_callO (ok_is_share T) (hr.mono (by decide)) rfl (pa_cons (pv 1) (pa_cons (pv 2) pa_nil))))) (pss_one (ps_ret (pe_lst (pa_cons (pe_gint (T.int 103) rfl) pa_nil)))) pss_nil)
      (pss_cons (ps_if (pt_cmpR (op_eqD hr.units) (pe_callO (ok_candidates T) (hr.mono (by decide)) rfl (pa_cons (pv 0) pa_nil)) (pe_lst pa_nil) (nomark _)) (pss_one (ps_ret (pe_lst (pa_cons (pe_gint (T.int 107) rfl) pa_nil)))) pss_nil)
      (pss_cons (ps_if (pt_val (pe_callO (ok_is_less T) (hr.mono (by decide)) rfl (pa_cons (pe_tup (pa_cons (pv 1) (pa_cons (pv 2) pa_nil))) (pa_cons (pe_callO (ok_next_harm T) (hr.mono (by decide)) rfl (pa_cons (pv 0) pa_nil)) pa_nil)))) (pss_one (ps_ret (pe_lst (pa_cons (pe_gint (T.int 108) rfl) pa_nil)))) pss_nil)
      (pss_cons (ps_set (i := 3) sc_give_permit.nd rfl (Or.inl rfl) (pe_op op_cat (pe_lst (pa_cons pe_int pa_nil)) (pe_callO (ok_old_permit T) (hr.mono (by decide)) rfl (pa_cons (pv 0) pa_nil))))
      (pss_cons (ps_fld (pv 0) (pe_tup (pa_cons (pv 1) (pa_cons (pv 2) pa_nil))) rfl)
      (pss_one (ps_ret (pv 3)))))))), rd_give_permit T hsp⟩) (fun _ _ _ _ _ _ us hl => match us, hl with | [_, _, _], _ => rfl)
abbrev s_revoke_permit : Stmt := top 82
theorem sc_revoke_permit : FnScope ["monitor", "answer"] ["monitor"] (defScope s_revoke_permit) := ⟨rfl, rfl, rfl, by decide +kernel, rfl, by decide +kernel, by decide +kernel⟩
def t_revoke_permit (K : PySem.W.Frag) : TS :=
    (tSeq (tIfS (tB (tIsN (tFld K (tVar 0) "permit"))) (tRet (tLst (tCons (tC (.int (-6))) tNil))) tNext)
    (tSeq (tAsg (tOp rCat (tLst (tCons (tC (.int 0)) tNil)) (tCall (sp_old_permit K) [] E0 (tCons (tVar 0) tNil))) (gName 1))
    (tSeq (sFld K (tVar 0) (tC .non) "permit")
    (tRet (tVar 1)))))
def sp_revoke_permit (K : PySem.W.Frag) : Sp := SpC (ι := Addr × Mo × Lay) K (fun i vs H => vs = [.ref i.1] ∧ MonL K H i.1 i.2.1 i.2.2 ∧ GoodM i.2.1) (fun i => (i.1, i.2.1, i.2.2, Kp417.run i.2.1 .revokePermit))
theorem rd_revoke_permit {K : PySem.W.Frag} {mg : Str → Option Value} {h : Heap} (T : Tx K mg h) {vs : List V} {H : Hp} {Q : VK} {E : XK} (hsp : sp_revoke_permit K vs H Q E) : t_revoke_permit K { nx := fun _ H' => Q .non H', rt := Q } (start ["monitor", "answer"] vs) H := by
  obtain ⟨⟨a, m, L⟩, ⟨rfl, hM, G⟩, k⟩ := hsp
  dsimp only at hM G k ⊢
  have hper := hM.per
  refine Sg.go (H := H) ?_ (Ex.refl H)
  cases hp : m.permit with
  | none =>
    rw [hp] at hper
    have hpv : L.pv = .non := hper
    refine g_when (b := true) (et_B (ev_b (ev_isN (evM_permit T hM (ev_var rfl))) (by rw [hpv]; rfl))) (fun _ => ?_) (fun z => nomatch z)
    exact g_bad hM (r_revoke_no hp) k
  | some p =>
    rw [hp] at hper
    have hpv : FrI L.pv H ((p.num : Nat) : Int) ((p.den : Nat) : Int) := hper
    refine g_when (b := false) (et_B (ev_b (ev_isN (evM_permit T hM (ev_var rfl))) (by obtain ⟨_, e, _⟩ := hpv; rw [e]; rfl))) (fun z => nomatch z) (fun _ => ?_)
    rw [r_revoke hp] at k
    refine g_setR (er_cat (xs := [0]) (er_lstI (l := [0]) (ea_cons ev_c ea_nil) (by decide)) (cr_old_permit T (by wtm_at "ev") hM) (by rw [perPair]; decide)) fun av H1 e1 hav => ?_
    have hM1 := hM.mono e1
    refine w_fld (T.cls 127) (T.noat 132) ev_c (ev_var rfl) hM1.ob (by show 4 < 1000; decide) pMper fun H3 x3 h3 => ?_
    have hM3 : MonL K H3 a { m with permit := none } ⟨L.dx, L.sa, L.pl, L.ll, .non⟩ := ⟨h3, hM1.set.kx x3 hM1.ob, hM1.pol.kx x3 hM1.ob, hM1.log.kx x3 hM1.ob, rfl⟩
    exact g_retv (ev_var rfl) fun H4 e4 => k av H4 ⟨LsI.mono e4 (LsI.kx x3 hM1.ob hav), ⟨_, hM3.mono e4⟩, (KY.of_ex e1).trans ((KY.of_a x3).trans (KY.of_ex e4))⟩
theorem ok_revoke_permit {P : Program} {w : World} {K : PySem.W.Frag} {mg : Str → Option Value} {base : Heap} {h : Heap} (T : Tx K mg h) : OkF P w K mg base 2 "revoke_permit" ["monitor"] (sp_revoke_permit K) :=
  mkOk T (st := s_revoke_permit) (N := ["monitor", "answer"]) 55 55 sc_revoke_permit (by rintro vs H Q E ⟨_, ⟨rfl, _⟩, _⟩; rfl) (fun f cdv A outer s H vs Q E hr hsp => ⟨t_revoke_permit K, (pss_cons (ps_if (pt_cmp (pc_isN (pe_fld (pv 0) rfl))) (pss_one (ps_ret (pe_lst (pa_cons (pe_gint (T.int 109) rfl) pa_nil)))) pss_nil)
      (pss_cons (ps_set (i := 1) sc_revoke_permit.nd rfl (Or.inl rfl) (pe_op op_cat (pe_lst (pa_cons pe_int pa_nil)) (pe_callO (ok_old_permit T) (hr.mono (by decide)) rfl (pa_cons (pv 0) pa_nil))))
      (pss_cons (ps_fld (pv 0) pe_non rfl)
      (pss_one (ps_ret (pv 1)))))), rd_revoke_permit T hsp⟩) (fun _ _ _ _ _ _ us hl => match us, hl with | [_], _ => rfl)
/-- a monitor behind a change of its setting's object -/
theorem MonL.chg {K : PySem.W.Frag} {H H' : Hp} {a : Addr} {m : Mo} {L : Lay} {s : St} (h : MonL K H a m L) (k : KX L.sa H H') (hs : SetAt K H' L.sa s) : MonL K H' a { m with setting := s } L := by
  obtain ⟨dx, tl, pl, h1, _, _⟩ := h.set
  exact ⟨k _ _ h.ob (ne_of h.ob h1 (len_ne (by show 4 ≠ 9; decide))), hs, h.pol.kx k h1, h.log.kx k h1, h.per.kx k h1⟩
abbrev s_set_prior : Stmt := top 85
theorem sc_set_prior : FnScope ["monitor", "num", "den", "setting", "answer"] ["monitor", "num", "den"] (defScope s_set_prior) := ⟨rfl, rfl, rfl, by decide +kernel, rfl, by decide +kernel, by decide +kernel⟩
def t_set_prior (K : PySem.W.Frag) : TS :=
    (tSeq (tIfS (tNot (tB (tCall (sp_is_share K) [] E0 (tCons (tVar 1) (tCons (tVar 2) tNil))))) (tRet (tLst (tCons (tC (.int (-22))) tNil))) tNext)
    (tSeq (tAsg (tFld K (tVar 0) "setting") (gName 3))
    (tSeq (tAsg (tLst (tCons (tC (.int 0)) (tCons (tFld K (tVar 3) "prior_num") (tCons (tFld K (tVar 3) "prior_den") tNil)))) (gName 4))
    (tSeq (sFld K (tVar 3) (tVar 1) "prior_num")
    (tSeq (sFld K (tVar 3) (tVar 2) "prior_den")
    (tRet (tVar 4)))))))
def sp_set_prior (K : PySem.W.Frag) : Sp := SpC (ι := Addr × Mo × Lay × Nat × Nat) K (fun i vs H => vs = [.ref i.1, .int ((i.2.2.2.1 : Nat) : Int), .int ((i.2.2.2.2 : Nat) : Int)] ∧ MonL K H i.1 i.2.1 i.2.2.1 ∧ GoodM i.2.1) (fun i => (i.1, i.2.1, i.2.2.1, Kp417.run i.2.1 (.setPrior i.2.2.2.1 i.2.2.2.2)))
theorem rd_set_prior {K : PySem.W.Frag} {mg : Str → Option Value} {h : Heap} (T : Tx K mg h) {vs : List V} {H : Hp} {Q : VK} {E : XK} (hsp : sp_set_prior K vs H Q E) : t_set_prior K { nx := fun _ H' => Q .non H', rt := Q } (start ["monitor", "num", "den", "setting", "answer"] vs) H := by
  obtain ⟨⟨a, m, L, n, d⟩, ⟨rfl, hM, G⟩, k⟩ := hsp
  dsimp only at hM G k ⊢
  have hs := hM.set
  refine Sg.go (H := H) ?_ (Ex.refl H)
  refine g_when (b := !Kp415.validFraction n d) (by wtm_at "ev") (fun hb => ?_) (fun hb => ?_)
  · exact g_bad hM (r_prior_bad (by simpa using hb)) k
  rw [r_prior (by simpa using hb)] at k
  refine g_set (by wtm_at "ev") ?_
  refine g_setR (er_lstI (l := [0, (m.setting.model.priorNum : Int), (m.setting.model.priorDen : Int)]) (by show EvA _ _ _ [_, _, _]; wtm_at "ev") (by show 3 ≤ 1000; decide)) fun av H1 e1 hav => ?_
  have hM1 := hM.mono e1
  obtain ⟨dx, tl, pl, h1, l1, l2⟩ := hM1.set
  rw [sF_sG] at h1
  refine w_fld (T.cls 116) (T.noat 121) (ev_var rfl) (ev_var rfl) h1 (by show 9 < 1000; decide) pS_prior_num fun H2 x2 h2 => ?_
  refine w_fld (T.cls 116) (T.noat 122) (ev_var rfl) (ev_var rfl) h2 (by show 9 < 1000; decide) pS_prior_den fun H3 x3 h3 => ?_
  have x := x2.trans x3
  have hM3 := hM1.chg (s := { m.setting with model := { m.setting.model with priorNum := n, priorDen := d } }) x ⟨dx, tl, pl, by rw [h3, sF_sG], x.lst h1 l1, x.lst h1 l2⟩
  exact g_retv (ev_var rfl) fun H4 e4 => k av H4 ⟨LsI.mono e4 (LsI.kx x h1 hav), ⟨_, hM3.mono e4⟩, (KY.of_ex e1).trans ((KY.of_s x).trans (KY.of_ex e4))⟩
theorem ok_set_prior {P : Program} {w : World} {K : PySem.W.Frag} {mg : Str → Option Value} {base : Heap} {h : Heap} (T : Tx K mg h) : OkF P w K mg base 2 "set_prior" ["monitor", "num", "den"] (sp_set_prior K) :=
  mkOk T (st := s_set_prior) (N := ["monitor", "num", "den", "setting", "answer"]) 56 56 sc_set_prior (by rintro vs H Q E ⟨_, ⟨rfl, _⟩, _⟩; rfl) (fun f cdv A outer s H vs Q E hr hsp => ⟨t_set_prior K, (pss_cons (ps_if (pt_not (pt_val (pe_callO (ok_is_share T) (hr.mono (by decide)) rfl (pa_cons (pv 1) (pa_cons (pv 2) pa_nil))))) (pss_one (ps_ret (pe_lst (pa_cons (pe_gint (T.int 103) rfl) pa_nil)))) pss_nil)
      (pss_cons (ps_set (i := 3) sc_set_prior.nd rfl (Or.inl rfl) (pe_fld (pv 0) rfl))
      (pss_cons (ps_set (i := 4) sc_set_prior.nd rfl (Or.inl rfl) (pe_lst (pa_cons pe_int (pa_cons (pe_fld (pv 3) rfl) (pa_cons (pe_fld (pv 3) rfl) pa_nil)))))
      (pss_cons (ps_fld (pv 3) (pv 1) rfl)
      (pss_cons (ps_fld (pv 3) (pv 2) rfl)
      (pss_one (ps_ret (pv 4)))))))), rd_set_prior T hsp⟩) (fun _ _ _ _ _ _ us hl => match us, hl with | [_, _, _], _ => rfl)
abbrev s_set_stakes : Stmt := top 86
theorem sc_set_stakes : FnScope ["monitor", "gain", "loss", "setting", "answer"] ["monitor", "gain", "loss"] (defScope s_set_stakes) := ⟨rfl, rfl, rfl, by decide +kernel, rfl, by decide +kernel, by decide +kernel⟩
def t_set_stakes (K : PySem.W.Frag) : TS :=
    (tSeq (tIfS (tOr (tB (tGt (tVar 1) (tC (.int (999))))) (tB (tGt (tVar 2) (tC (.int (999)))))) (tRet (tLst (tCons (tC (.int (-22))) tNil))) tNext)
    (tSeq (tAsg (tFld K (tVar 0) "setting") (gName 3))
    (tSeq (tAsg (tLst (tCons (tC (.int 0)) (tCons (tFld K (tVar 3) "gain") (tCons (tFld K (tVar 3) "loss") tNil)))) (gName 4))
    (tSeq (sFld K (tVar 3) (tVar 1) "gain")
    (tSeq (sFld K (tVar 3) (tVar 2) "loss")
    (tRet (tVar 4)))))))
def sp_set_stakes (K : PySem.W.Frag) : Sp := SpC (ι := Addr × Mo × Lay × Nat × Nat) K (fun i vs H => vs = [.ref i.1, .int ((i.2.2.2.1 : Nat) : Int), .int ((i.2.2.2.2 : Nat) : Int)] ∧ MonL K H i.1 i.2.1 i.2.2.1 ∧ GoodM i.2.1) (fun i => (i.1, i.2.1, i.2.2.1, Kp417.run i.2.1 (.setStakes i.2.2.2.1 i.2.2.2.2)))
theorem rd_set_stakes {K : PySem.W.Frag} {mg : Str → Option Value} {h : Heap} (T : Tx K mg h) {vs : List V} {H : Hp} {Q : VK} {E : XK} (hsp : sp_set_stakes K vs H Q E) : t_set_stakes K { nx := fun _ H' => Q .non H', rt := Q } (start ["monitor", "gain", "loss", "setting", "answer"] vs) H := by
  obtain ⟨⟨a, m, L, n, d⟩, ⟨rfl, hM, G⟩, k⟩ := hsp
  dsimp only at hM G k ⊢
  have hs := hM.set
  refine Sg.go (H := H) ?_ (Ex.refl H)
  refine g_when (b := decide ((999 : Int) < ((n : Nat) : Int)) || decide ((999 : Int) < ((d : Nat) : Int))) (by wtm_at "ev") (fun hb => ?_) (fun hb => ?_)
  · exact g_bad hM (r_stakes_bad (stk_iff.mp hb)) k
  rw [r_stakes (fun w => by rw [stk_iff.mpr w] at hb; cases hb)] at k
  refine g_set (by wtm_at "ev") ?_
  refine g_setR (er_lstI (l := [0, (m.setting.gain : Int), (m.setting.loss : Int)]) (by show EvA _ _ _ [_, _, _]; wtm_at "ev") (by show 3 ≤ 1000; decide)) fun av H1 e1 hav => ?_
  have hM1 := hM.mono e1
  obtain ⟨dx, tl, pl, h1, l1, l2⟩ := hM1.set
  rw [sF_sG] at h1
  refine w_fld (T.cls 116) (T.noat 123) (ev_var rfl) (ev_var rfl) h1 (by show 9 < 1000; decide) pS_gain fun H2 x2 h2 => ?_
  refine w_fld (T.cls 116) (T.noat 124) (ev_var rfl) (ev_var rfl) h2 (by show 9 < 1000; decide) pS_loss fun H3 x3 h3 => ?_
  have x := x2.trans x3
  have hM3 := hM1.chg (s := { m.setting with gain := n, loss := d }) x ⟨dx, tl, pl, by rw [h3, sF_sG], x.lst h1 l1, x.lst h1 l2⟩
  exact g_retv (ev_var rfl) fun H4 e4 => k av H4 ⟨LsI.mono e4 (LsI.kx x h1 hav), ⟨_, hM3.mono e4⟩, (KY.of_ex e1).trans ((KY.of_s x).trans (KY.of_ex e4))⟩
theorem ok_set_stakes {P : Program} {w : World} {K : PySem.W.Frag} {mg : Str → Option Value} {base : Heap} {h : Heap} (T : Tx K mg h) : OkF P w K mg base 1 "set_stakes" ["monitor", "gain", "loss"] (sp_set_stakes K) :=
  mkOk T (st := s_set_stakes) (N := ["monitor", "gain", "loss", "setting", "answer"]) 57 57 sc_set_stakes (by rintro vs H Q E ⟨_, ⟨rfl, _⟩, _⟩; rfl) (fun f cdv A outer s H vs Q E hr hsp => ⟨t_set_stakes K, (pss_cons (ps_if (PW.pt (pw_or (pt_cmp (pc_gt (pv 1) (pe_gint (T.int 114) rfl))) (pw_or1 (pt_cmp (pc_gt (pv 2) (pe_gint (T.int 114) rfl)))))) (pss_one (ps_ret (pe_lst (pa_cons (pe_gint (T.int 103) rfl) pa_nil)))) pss_nil)
      (pss_cons (ps_set (i := 3) sc_set_stakes.nd rfl (Or.inl rfl) (pe_fld (pv 0) rfl))
      (pss_cons (ps_set (i := 4) sc_set_stakes.nd rfl (Or.inl rfl) (pe_lst (pa_cons pe_int (pa_cons (pe_fld (pv 3) rfl) (pa_cons (pe_fld (pv 3) rfl) pa_nil)))))
      (pss_cons (ps_fld (pv 3) (pv 1) rfl)
      (pss_cons (ps_fld (pv 3) (pv 2) rfl)
      (pss_one (ps_ret (pv 4)))))))), rd_set_stakes T hsp⟩) (fun _ _ _ _ _ _ us hl => match us, hl with | [_, _, _], _ => rfl)
abbrev s_set_prices : Stmt := top 87
theorem sc_set_prices : FnScope ["monitor", "harm_price", "test_price", "setting", "answer"] ["monitor", "harm_price", "test_price"] (defScope s_set_prices) := ⟨rfl, rfl, rfl, by decide +kernel, rfl, by decide +kernel, by decide +kernel⟩
def t_set_prices (K : PySem.W.Frag) : TS :=
    (tSeq (tIfS (tOr (tB (tGt (tVar 1) (tC (.int (999))))) (tB (tGt (tVar 2) (tC (.int (999)))))) (tRet (tLst (tCons (tC (.int (-22))) tNil))) tNext)
    (tSeq (tAsg (tFld K (tVar 0) "setting") (gName 3))
    (tSeq (tAsg (tLst (tCons (tC (.int 0)) (tCons (tFld K (tVar 3) "harm_price") (tCons (tFld K (tVar 3) "test_price") tNil)))) (gName 4))
    (tSeq (sFld K (tVar 3) (tVar 1) "harm_price")
    (tSeq (sFld K (tVar 3) (tVar 2) "test_price")
    (tRet (tVar 4)))))))
def sp_set_prices (K : PySem.W.Frag) : Sp := SpC (ι := Addr × Mo × Lay × Nat × Nat) K (fun i vs H => vs = [.ref i.1, .int ((i.2.2.2.1 : Nat) : Int), .int ((i.2.2.2.2 : Nat) : Int)] ∧ MonL K H i.1 i.2.1 i.2.2.1 ∧ GoodM i.2.1) (fun i => (i.1, i.2.1, i.2.2.1, Kp417.run i.2.1 (.setPrices i.2.2.2.1 i.2.2.2.2)))
theorem rd_set_prices {K : PySem.W.Frag} {mg : Str → Option Value} {h : Heap} (T : Tx K mg h) {vs : List V} {H : Hp} {Q : VK} {E : XK} (hsp : sp_set_prices K vs H Q E) : t_set_prices K { nx := fun _ H' => Q .non H', rt := Q } (start ["monitor", "harm_price", "test_price", "setting", "answer"] vs) H := by
  obtain ⟨⟨a, m, L, n, d⟩, ⟨rfl, hM, G⟩, k⟩ := hsp
  dsimp only at hM G k ⊢
  have hs := hM.set
  refine Sg.go (H := H) ?_ (Ex.refl H)
  refine g_when (b := decide ((999 : Int) < ((n : Nat) : Int)) || decide ((999 : Int) < ((d : Nat) : Int))) (by wtm_at "ev") (fun hb => ?_) (fun hb => ?_)
  · exact g_bad hM (r_prices_bad (stk_iff.mp hb)) k
  rw [r_prices (fun w => by rw [stk_iff.mpr w] at hb; cases hb)] at k
  refine g_set (by wtm_at "ev") ?_
  refine g_setR (er_lstI (l := [0, (m.setting.harmPrice : Int), (m.setting.testPrice : Int)]) (by show EvA _ _ _ [_, _, _]; wtm_at "ev") (by show 3 ≤ 1000; decide)) fun av H1 e1 hav => ?_
  have hM1 := hM.mono e1
  obtain ⟨dx, tl, pl, h1, l1, l2⟩ := hM1.set
  rw [sF_sG] at h1
  refine w_fld (T.cls 116) (T.noat 125) (ev_var rfl) (ev_var rfl) h1 (by show 9 < 1000; decide) pS_harm_price fun H2 x2 h2 => ?_
  refine w_fld (T.cls 116) (T.noat 126) (ev_var rfl) (ev_var rfl) h2 (by show 9 < 1000; decide) pS_test_price fun H3 x3 h3 => ?_
  have x := x2.trans x3
  have hM3 := hM1.chg (s := { m.setting with harmPrice := n, testPrice := d }) x ⟨dx, tl, pl, by rw [h3, sF_sG], x.lst h1 l1, x.lst h1 l2⟩
  exact g_retv (ev_var rfl) fun H4 e4 => k av H4 ⟨LsI.mono e4 (LsI.kx x h1 hav), ⟨_, hM3.mono e4⟩, (KY.of_ex e1).trans ((KY.of_s x).trans (KY.of_ex e4))⟩
theorem ok_set_prices {P : Program} {w : World} {K : PySem.W.Frag} {mg : Str → Option Value} {base : Heap} {h : Heap} (T : Tx K mg h) : OkF P w K mg base 1 "set_prices" ["monitor", "harm_price", "test_price"] (sp_set_prices K) :=
  mkOk T (st := s_set_prices) (N := ["monitor", "harm_price", "test_price", "setting", "answer"]) 58 58 sc_set_prices (by rintro vs H Q E ⟨_, ⟨rfl, _⟩, _⟩; rfl) (fun f cdv A outer s H vs Q E hr hsp => ⟨t_set_prices K, (pss_cons (ps_if (PW.pt (pw_or (pt_cmp (pc_gt (pv 1) (pe_gint (T.int 114) rfl))) (pw_or1 (pt_cmp (pc_gt (pv 2) (pe_gint (T.int 114) rfl)))))) (pss_one (ps_ret (pe_lst (pa_cons (pe_gint (T.int 103) rfl) pa_nil)))) pss_nil)
      (pss_cons (ps_set (i := 3) sc_set_prices.nd rfl (Or.inl rfl) (pe_fld (pv 0) rfl))
      (pss_cons (ps_set (i := 4) sc_set_prices.nd rfl (Or.inl rfl) (pe_lst (pa_cons pe_int (pa_cons (pe_fld (pv 3) rfl) (pa_cons (pe_fld (pv 3) rfl) pa_nil)))))
      (pss_cons (ps_fld (pv 3) (pv 1) rfl)
      (pss_cons (ps_fld (pv 3) (pv 2) rfl)
      (pss_one (ps_ret (pv 4)))))))), rd_set_prices T hsp⟩) (fun _ _ _ _ _ _ us hl => match us, hl with | [_, _, _], _ => rfl)
/-! ## the desk's monitor: with a setting or without -/
/-- lists, what is locked, and the desk stand -/
structure KT (H H' : Hp) : Prop where
  lst : ∀ b xs, H b = some (.lst xs) → H' b = some (.lst xs)
  frz : ∀ b o u, H b = some (.frz o u) → H' b = some (.frz o u)
  one : ∀ b C dx fs, fs.length = 1 → H b = some (.ins C dx fs) → H' b = some (.ins C dx fs)
theorem KT.of_ex {H H' : Hp} (e : Ex H H') : KT H H' := ⟨fun b xs h => e _ _ h, fun b o u h => e _ _ h, fun b C dx fs _ h => e _ _ h⟩
theorem KT.trans {H H1 H2 : Hp} (x : KT H H1) (y : KT H1 H2) : KT H H2 := ⟨fun b xs h => y.lst _ _ (x.lst _ _ h), fun b o u h => y.frz _ _ _ (x.frz _ _ _ h), fun b C dx fs l h => y.one _ _ _ _ l (x.one _ _ _ _ l h)⟩
theorem KT.of_ky {K : PySem.W.Frag} {H H' : Hp} {a : Addr} {m : Mo} {L : Lay} (hM : MonL K H a m L) (k : KY a L.sa H H') : KT H H' := by
  obtain ⟨dx, tl, pl, h1, _, _⟩ := hM.set
  refine ⟨fun b xs h => k _ _ h (ne_of h hM.ob (by intro z; cases z)) (ne_of h h1 (by intro z; cases z)), fun b o u h => k _ _ h (ne_of h hM.ob (by intro z; cases z)) (ne_of h h1 (by intro z; cases z)), fun b C d fs l h => k _ _ h (ne_of h hM.ob (len_ne ?_)) (ne_of h h1 (len_ne ?_))⟩
  · rw [l]
    show 1 ≠ 4
    decide
  · rw [l]
    show 1 ≠ 9
    decide
def GoodO : Option Mo → Prop
  | none => True
  | some m => GoodM m
/-- what a step on the desk's monitor hands back -/
structure PostO (K : PySem.W.Frag) (H : Hp) (a : Addr) (o' : Option Mo) (ans : List Int) (v : V) (H2 : Hp) : Prop where
  ans : LsI v H2 ans
  mon : MonO K H2 a o'
  keep : KT H H2
abbrev s_create_setting : Stmt := top 71
theorem sc_create_setting : FnScope ["monitor", "signal_count"] ["monitor", "signal_count"] (defScope s_create_setting) := ⟨rfl, rfl, rfl, by decide +kernel, rfl, by decide +kernel, by decide +kernel⟩
def t_create_setting (K : PySem.W.Frag) : TS :=
    (tSeq (tIfS (tB (tNotN (tFld K (tVar 0) "setting"))) (tRet (tLst (tCons (tC (.int (-13))) tNil))) tNext)
    (tSeq (tIfS (tOr (tB (tLt (tVar 1) (tC (.int 1)))) (tB (tGt (tVar 1) (tC (.int (5)))))) (tRet (tLst (tCons (tC (.int (-22))) tNil))) tNext)
    (tSeq (sFld K (tVar 0) (tMake (He.ga K "Setting") (sp_Setting K) [] E0 (tCons (tVar 1) tNil)) "setting")
    (tRet (tLst (tCons (tC (.int 0)) tNil))))))
def crO (o : Option Mo) (n : Nat) : Option Mo × List Int := match o with
  | some m => (some m, [-13])
  | none => if 1 ≤ n ∧ n ≤ 5 then (some ⟨fresh n, [], [], none⟩, [0]) else (none, [-22])
def sp_create_setting (K : PySem.W.Frag) : Sp := fun vs H Q _ => ∃ i : Addr × Option Mo × Nat, (vs = [.ref i.1, .int ((i.2.2 : Nat) : Int)] ∧ MonO K H i.1 i.2.1) ∧ ∀ v H2, PostO K H i.1 (crO i.2.1 i.2.2).1 (crO i.2.1 i.2.2).2 v H2 → Q v H2
theorem pairs_nil {H : Hp} {l : Addr} (h : H l = some (.lst [])) : PairsAt H l [] := ⟨[], h, rfl, fun i x hx => nomatch hx⟩
theorem rd_create_setting {K : PySem.W.Frag} {mg : Str → Option Value} {h : Heap} (T : Tx K mg h) {vs : List V} {H : Hp} {Q : VK} {E : XK} (hsp : sp_create_setting K vs H Q E) : t_create_setting K { nx := fun _ H' => Q .non H', rt := Q } (start ["monitor", "signal_count"] vs) H := by
  obtain ⟨⟨a, o, n⟩, ⟨rfl, hO⟩, k⟩ := hsp
  dsimp only at hO k ⊢
  refine Sg.go (H := H) ?_ (Ex.refl H)
  cases o with
  | some m =>
    obtain ⟨L, hM⟩ := hO
    refine g_when (b := true) (et_B (ev_b (ev_notN (evM_setting T hM (ev_var rfl))) rfl)) (fun _ => ?_) (fun z => nomatch z)
    exact g_err fun v H2 e2 r => k v H2 ⟨r, ⟨L, hM.mono e2⟩, KT.of_ex e2⟩
  | none =>
    obtain ⟨dx, pl, ll, h1, h2, h3⟩ := hO
    refine g_when (b := false) (et_B (ev_b (ev_notN (ev_fld (T.cls 127) (T.noat 129) (ev_var rfl) h1 mF_setting)) rfl)) (fun z => nomatch z) (fun _ => ?_)
    refine g_when (b := decide (((n : Nat) : Int) < 1) || decide ((5 : Int) < ((n : Nat) : Int))) (by wtm_at "ev") (fun hb => ?_) (fun hb => ?_)
    · have c : ¬ (1 ≤ n ∧ n ≤ 5) := by
        rw [Bool.or_eq_true, decide_eq_true_eq, decide_eq_true_eq] at hb
        omega
      have e : crO none n = (none, [-22]) := if_neg c
      rw [e] at k
      exact g_err fun v H2 e2 r => k v H2 ⟨r, ⟨dx, pl, ll, e2 _ _ h1, e2 _ _ h2, e2 _ _ h3⟩, KT.of_ex e2⟩
    · have c : 1 ≤ n ∧ n ≤ 5 := by
        rw [Bool.or_eq_false_iff, decide_eq_false_iff_not, decide_eq_false_iff_not] at hb
        omega
      have e : crO none n = (some ⟨fresh n, [], [], none⟩, [0]) := if_pos c
      rw [e] at k
      refine w_fldR (R := fun v H2 => ∃ p, v = .ref p ∧ SetAt K H2 p (fresh n)) (T.cls 127) (T.noat 129) (fun H1 e1 Q q => ?_) (ev_var rfl) h1 (by show 4 < 1000; decide) fun y H2 e2 r H3 x3 h3' => ?_
      · refine (ea_cons (ev_var (v := .int ((n : Nat) : Int)) rfl) ea_nil : EvA _ _ H _) H1 e1 _ fun H2 e2 x d hx hd hne => ?_
        exact ⟨(x, d, n), ⟨rfl, upd_same, c.2⟩, fun H3 k3 hf => ⟨rfl, q _ H3 (e2.trans (made_ex hx hd k3)) ⟨x, rfl, hf⟩⟩⟩
      · obtain ⟨p, rfl, hp⟩ := r
        rw [pMset] at h3'
        have h1' := e2 _ _ h1
        have hM3 : MonL K H3 a ⟨fresh n, [], [], none⟩ ⟨dx, p, pl, ll, .non⟩ := ⟨h3', hp.kx x3 h1', pairs_nil (x3.lst h1' (e2 _ _ h2)), pairs_nil (x3.lst h1' (e2 _ _ h3)), rfl⟩
        have kt : KT H2 H3 := ⟨fun b xs h => x3.lst h1' h, fun b o u h => x3 _ _ h (ne_of h h1' (by intro z; cases z)), fun b C d fs l h => x3 _ _ h (ne_of h h1' (len_ne (by rw [l]; show 1 ≠ 4; decide)))⟩
        exact g_err fun v H4 e4 r => k v H4 ⟨r, ⟨_, hM3.mono e4⟩, (KT.of_ex e2).trans (kt.trans (KT.of_ex e4))⟩
theorem ok_create_setting {P : Program} {w : World} {K : PySem.W.Frag} {mg : Str → Option Value} {base : Heap} {h : Heap} (T : Tx K mg h) : OkF P w K mg base 3 "create_setting" ["monitor", "signal_count"] (sp_create_setting K) :=
  mkOk T (st := s_create_setting) (N := ["monitor", "signal_count"]) 44 44 sc_create_setting (by rintro vs H Q E ⟨_, ⟨rfl, _⟩, _⟩; rfl) (fun f cdv A outer s H vs Q E hr hsp => ⟨t_create_setting K, (pss_cons (ps_if (pt_cmp (pc_notN (pe_fld (pv 0) rfl))) (pss_one (ps_ret (pe_lst (pa_cons (pe_gint (T.int 101) rfl) pa_nil)))) pss_nil)
      (pss_cons (ps_if (PW.pt (pw_or (pt_cmp (pc_lt (pv 1) pe_int)) (pw_or1 (pt_cmp (pc_gt (pv 1) (pe_gint (T.int 110) rfl)))))) (pss_one (ps_ret (pe_lst (pa_cons (pe_gint (T.int 103) rfl) pa_nil)))) pss_nil)
      (pss_cons (ps_fld (pv 0) (pe_makeO (ok_Setting T) (hr.mono (by decide)) rfl (pa_cons (pv 1) pa_nil)) rfl)
      (pss_one (ps_ret (pe_lst (pa_cons pe_int pa_nil))))))), rd_create_setting T hsp⟩) (fun _ _ _ _ _ _ us hl => match us, hl with | [_, _], _ => rfl)
end Pw
namespace Pw
open PySem PySem.Spec PyProof.Rows L2 Evl
/-! ## the calls -/
/-! ## what a call leaves is well again -/
theorem mask_lt (p : Nat → Bool) : ∀ n, Kp417.maskOf ((List.range n).filter p) < 2 ^ n
  | 0 => Nat.one_pos
  | n + 1 => by
    have ih := mask_lt p n
    have h2 : 2 ^ (n + 1) = 2 ^ n + 2 ^ n := by rw [Nat.pow_succ]; omega
    cases h : p n with
    | true =>
      rw [fI_yes h]
      unfold Kp417.maskOf at ih ⊢
      rw [List.map_append, List.sum_append]
      simp only [List.map_cons, List.map_nil, List.sum_cons, List.sum_nil]
      omega
    | false =>
      rw [fI_no h]
      omega
theorem good_add {m : Mo} (G : GoodM m) {c w : Nat} (hc : c < 2 ^ (tws m.setting).length) (hw : Kp417.validWeight w = true) : GoodM (oM m (Kp417.addPolicy m ⟨c, w⟩)) := by
  have hw' : 1 ≤ w ∧ w ≤ 99 := by
    unfold Kp417.validWeight at hw
    rw [Bool.and_eq_true, decide_eq_true_eq, decide_eq_true_eq] at hw
    exact hw
  cases hl : m.log.isEmpty with
  | false =>
    rw [add_log hl]
    exact G
  | true =>
    cases hd : m.policies.any (fun q => q.cheatSet == c) with
    | true =>
      rw [add_dup hl hd]
      exact G
    | false =>
      by_cases hf : 6 ≤ m.policies.length
      · rw [add_full hl hd hf]
        exact G
      · rw [add_ok hl hd hf]
        have mem : ∀ p ∈ m.policies ++ [(⟨c, w⟩ : Kp417.Policy)], p ∈ m.policies ∨ p = ⟨c, w⟩ := fun p hp => (List.mem_append.mp hp).imp id List.mem_singleton.mp
        refine ⟨G.s, ?_, fun p hp => ?_, fun p hp => ?_, fun p hp => ?_, ?_, G.l16, G.ls, G.pe⟩
        · show (m.policies ++ [_]).length ≤ 6
          rw [List.length_append]
          show m.policies.length + 1 ≤ 6
          omega
        · rcases mem p hp with z | rfl
          · exact G.pc p z
          · exact hc
        · rcases mem p hp with z | rfl
          · exact G.pw1 p z
          · exact hw'.1
        · rcases mem p hp with z | rfl
          · exact G.pw9 p z
          · exact hw'.2
        · show ((m.policies ++ [(⟨c, w⟩ : Kp417.Policy)]).map (·.cheatSet)).Nodup
          rw [List.map_append]
          refine List.nodup_append.mpr ⟨G.nd, by simp, fun x hx y hy => ?_⟩
          obtain ⟨p, hp, rfl⟩ := List.mem_map.mp hx
          have hy' : y = c := by simpa using hy
          rw [hy']
          intro z
          have := List.any_eq_false.mp hd p hp
          exact this (beq_iff_eq.mpr z)
theorem good_nx {m : Mo} (G : GoodM m) {n : Nat} {args : List Nat} {c : Kp417.Call} (hD : Dec n args c) : GoodM (nx m c) := by
  cases hD
  all_goals first | (rw [nx_q m rfl]; exact G) | skip
  case c1 a b =>
    show GoodM (oM m (Kp417.run m (.addPolicy a b)))
    by_cases h : 2 ^ (tws m.setting).length ≤ a ∨ Kp417.validWeight b = false
    · rw [r_addPolicy_bad h]
      exact G
    · rw [r_addPolicy h]
      refine good_add G (by have := fun z => h (.inl z); omega) ?_
      cases z : Kp417.validWeight b with
      | true => rfl
      | false => exact absurd (.inr z) h
  case c2 a =>
    show GoodM (oM m (Kp417.run m (.addRationalPolicy a)))
    cases h : Kp417.validWeight a with
    | false =>
      rw [r_addRational_bad h]
      exact G
    | true =>
      rw [r_addRational h]
      exact good_add G (mask_lt _ _) h
  case c3 a =>
    show GoodM (oM m (Kp417.run m (.removePolicy a)))
    by_cases h : a < m.policies.length
    · cases hl : m.log.isEmpty with
      | false =>
        rw [r_remove_log h hl]
        exact G
      | true =>
        rw [r_remove h hl]
        have mem : ∀ p ∈ m.policies.eraseIdx a, p ∈ m.policies := fun p hp => List.mem_of_mem_eraseIdx hp
        refine ⟨G.s, ?_, fun p hp => G.pc p (mem p hp), fun p hp => G.pw1 p (mem p hp), fun p hp => G.pw9 p (mem p hp), ?_, G.l16, G.ls, G.pe⟩
        · show (m.policies.eraseIdx a).length ≤ 6
          have := G.p6
          rw [List.length_eraseIdx]
          split <;> omega
        · show ((m.policies.eraseIdx a).map (·.cheatSet)).Nodup
          have e : (m.policies.eraseIdx a).map (·.cheatSet) = (m.policies.map (·.cheatSet)).eraseIdx a := by
            rw [List.eraseIdx_eq_take_drop_succ, List.eraseIdx_eq_take_drop_succ, List.map_append, List.map_take, List.map_drop]
          rw [e]
          exact G.nd.sublist (List.eraseIdx_sublist ..)
    · rw [r_remove_no h]
      exact G
  case c5 a b =>
    show GoodM (oM m (Kp417.run m (.recordTest a b)))
    by_cases h : a < (tws m.setting).length
    · by_cases h2 : 1 < b ∨ (tws m.setting).getD a 0 = 0
      · rw [r_test_bad h h2]
        exact G
      · by_cases h3 : 16 ≤ m.log.length
        · rw [r_test_full h h2 h3]
          exact G
        · cases h4 : (candBy m (m.log ++ [Kp417.testEntry a b])).isEmpty with
          | true =>
            rw [r_test_none h h2 h3 h4]
            exact G
          | false =>
            rw [r_test h h2 h3 h4]
            exact good_entry G h h3
    · rw [r_test_no h]
      exact G
  case c6 a =>
    show GoodM (oM m (Kp417.run m (.recordProduction a)))
    by_cases h : a < (tws m.setting).length
    · by_cases h2 : (pws m.setting).getD a 0 = 0
      · rw [r_prod_bad h h2]
        exact G
      · by_cases h3 : 16 ≤ m.log.length
        · rw [r_prod_full h h2 h3]
          exact G
        · cases h4 : (Kp417.candidates m).isEmpty with
          | true =>
            rw [r_prod_none h h2 h3 h4]
            exact G
          | false =>
            cases h5 : Kp417.allowed m with
            | false =>
              rw [r_prod_ban h h2 h3 h4 h5]
              exact G
            | true =>
              rw [r_prod h h2 h3 h4 h5]
              exact good_entry G h h3
    · rw [r_prod_no h]
      exact G
  case c7 =>
    show GoodM (oM m (Kp417.run m .undoRecord))
    cases h : m.log.getLast? with
    | none =>
      rw [r_undo_no (List.getLast?_eq_none_iff.mp h)]
      exact G
    | some e =>
      rw [r_undo h]
      refine ⟨G.s, G.p6, G.pc, G.pw1, G.pw9, G.nd, ?_, fun x hx => G.ls x ((List.dropLast_sublist _).subset hx), G.pe⟩
      show m.log.dropLast.length ≤ 16
      have := G.l16
      rw [List.length_dropLast]
      omega
  case c19 a b =>
    show GoodM (oM m (Kp417.run m (.permit a b)))
    cases h : Kp415.validFraction a b with
    | false =>
      rw [r_permit_bad h]
      exact G
    | true =>
      cases h2 : (Kp417.candidates m).isEmpty with
      | true =>
        rw [r_permit_none h h2]
        exact G
      | false =>
        by_cases h3 : Kp415.toRat a b < Kp417.nextHarm m
        · rw [r_permit_ban h h2 h3]
          exact G
        · rw [r_permit h h2 h3]
          refine ⟨G.s, G.p6, G.pc, G.pw1, G.pw9, G.nd, G.l16, G.ls, fun p hp => ?_⟩
          obtain ⟨b1, b2, b3, b4⟩ := valid_bd h
          have hp' : (⟨a, b⟩ : Kp417.Permit) = p := Option.some.inj hp
          rw [← hp']
          exact ⟨b4, b3, b2⟩
  case c20 =>
    show GoodM (oM m (Kp417.run m .revokePermit))
    cases h : m.permit with
    | none =>
      rw [r_revoke_no h]
      exact G
    | some p =>
      rw [r_revoke h]
      exact ⟨G.s, G.p6, G.pc, G.pw1, G.pw9, G.nd, G.l16, G.ls, fun p hp => nomatch hp⟩
  case c24 a => exact G
  case c27 a b =>
    show GoodM (oM m (Kp417.run m (.setPrior a b)))
    cases h : Kp415.validFraction a b with
    | false =>
      rw [r_prior_bad h]
      exact G
    | true =>
      rw [r_prior h]
      exact ⟨good_setP G.s h, G.p6, G.pc, G.pw1, G.pw9, G.nd, G.l16, G.ls, G.pe⟩
  case c28 a b =>
    show GoodM (oM m (Kp417.run m (.setStakes a b)))
    by_cases h : 999 < a ∨ 999 < b
    · rw [r_stakes_bad h]
      exact G
    · rw [r_stakes h]
      exact ⟨good_setS G.s h, G.p6, G.pc, G.pw1, G.pw9, G.nd, G.l16, G.ls, G.pe⟩
  case c29 a b =>
    show GoodM (oM m (Kp417.run m (.setPrices a b)))
    by_cases h : 999 < a ∨ 999 < b
    · rw [r_prices_bad h]
      exact G
    · rw [r_prices h]
      exact ⟨⟨G.s.n1, G.s.n5, G.s.len, G.s.t1, G.s.p1, G.s.t9, G.s.p9, G.s.d1, G.s.pd, G.s.dB, G.s.g9, G.s.l9, by show a ≤ 999; omega, by show b ≤ 999; omega⟩, G.p6, G.pc, G.pw1, G.pw9, G.nd, G.l16, G.ls, G.pe⟩
theorem sum_rep : ∀ n : Nat, (List.replicate n 1).sum = n
  | 0 => rfl
  | n + 1 => by
    rw [List.replicate_succ, List.sum_cons, sum_rep n]
    omega
theorem good_fresh {n : Nat} (h : 1 ≤ n ∧ n ≤ 5) : GoodM ⟨fresh n, [], [], none⟩ := by
  have l : (List.replicate n 1).length = n := List.length_replicate
  have s := sum_rep n
  refine ⟨⟨?_, ?_, ?_, ?_, ?_, ?_, ?_, ?_, ?_, ?_, ?_, ?_, ?_, ?_⟩, Nat.zero_le _, (fun p hp => by cases hp), (fun p hp => by cases hp), (fun p hp => by cases hp), List.nodup_nil, Nat.zero_le _, (fun e he => by cases he), (fun p hp => by cases hp)⟩ <;>
    first | (simp only [tws, pws, fresh]; omega) | (simp only [tws, pws, fresh]; done)
/-- a call on the desk's monitor -/
def stO (o : Option Mo) (c : Kp417.Call) : Option Mo × List Int := match o with
  | some m => (some (nx m c), aL m c)
  | none => (match c with
    | .createSetting n => crO none n
    | _ => (none, [-11]))
theorem good_st {o : Option Mo} (G : GoodO o) {n : Nat} {args : List Nat} {c : Kp417.Call} (hD : Dec n args c) : GoodO (stO o c).1 := by
  cases o with
  | some m => exact good_nx G hD
  | none =>
    cases hD
    case c24 a =>
      show GoodO (crO none a).1
      unfold crO
      dsimp only
      split
      · rename_i h
        exact good_fresh h
      · exact trivial
    all_goals exact trivial
theorem step_st (o : Option Mo) {n : Nat} {args : List Nat} {c : Kp417.Call} (hD : Dec n args c) : (Kp417.step (some o) c).1 = some (stO o c).1 ∧ (Kp417.step (some o) c).2.num :: (Kp417.step (some o) c).2.nums = (stO o c).2 := by
  cases o with
  | some m =>
    cases hD <;>
      (simp only [Kp417.step, stO, nx, oM, aL]
       generalize Kp417.run m _ = r
       rcases r with ⟨_ | e, a⟩ <;> exact ⟨rfl, rfl⟩)
  | none =>
    cases hD
    case c24 a =>
      by_cases h : 1 ≤ a ∧ a ≤ 5
      · have h' : ¬ (a < 1 ∨ Kp415.maxSignals < a) := by
          show ¬ (a < 1 ∨ 5 < a)
          omega
        simp only [Kp417.step, Kp416.step, if_neg h', stO, crO, if_pos h]
        first | exact ⟨rfl, rfl⟩ | exact ⟨trivial, rfl⟩ | exact ⟨rfl, trivial⟩ | trivial
      · have h' : a < 1 ∨ Kp415.maxSignals < a := by
          show a < 1 ∨ 5 < a
          omega
        simp only [Kp417.step, Kp416.step, if_pos h', stO, crO, if_neg h]
        first | exact ⟨rfl, rfl⟩ | exact ⟨trivial, rfl⟩ | exact ⟨rfl, trivial⟩ | trivial
    all_goals first | exact ⟨rfl, rfl⟩ | (simp only [Kp417.step, Kp416.step, stO]; first | exact ⟨rfl, rfl⟩ | exact ⟨trivial, rfl⟩)
theorem MonO.mono {K : PySem.W.Frag} {H H' : Hp} {a : Addr} : ∀ {o : Option Mo}, MonO K H a o → Ex H H' → MonO K H' a o
  | none, ⟨dx, pl, ll, h1, h2, h3⟩, e => ⟨dx, pl, ll, e _ _ h1, e _ _ h2, e _ _ h3⟩
  | some _, ⟨L, hM⟩, e => ⟨L, hM.mono e⟩
/-! ## the dispatch -/
section
variable {K : PySem.W.Frag} {mg : Str → Option Value} {h : Heap} {σ : L2.St} {H : Hp} {D : Ends}
theorem g_retQ {ι : Type} {A : ι → List V → Hp → Prop} {R : ι → V → Hp → Prop} {mo : Addr} {m : Mo} {L : Lay} {c : Kp417.Call} (i : ι) {ta : TA} {vs : List V} (hv : EvA ta σ H vs) (ha : ∀ H1, Ex H H1 → A i vs H1) (hR : ∀ v H2, R i v H2 → LsI v H2 (aL m c)) (hq : isQ c = true) (hM : MonL K H mo m L)
    (k : ∀ v H2, PostM K H mo m L (Kp417.run m c) v H2 → D.rt v H2) : Sg (tRet (tCall (SpF A R) [] E0 ta)) D σ H :=
  g_ret (er_callV i hv ha) fun v H2 e2 r => k v H2 ⟨hR v H2 r, ⟨L, by rw [show oM m (Kp417.run m c) = m from nx_q m hq]; exact hM.mono e2⟩, KY.of_ex e2⟩
theorem ev_g0 (T : Tx K mg h) {ta : TE} {gl : Addr} {a : Nat} {r : List Nat} (ha : Ev ta σ H (.ref gl)) (hg : H gl = some (.lst (nats (a :: r)))) : Ev (tOp (rIxL K) ta (tC (.int 0))) σ H (.int ((a : Nat) : Int)) := ev_ixN (i := 0) ha hg ev_c (Nat.succ_pos _)
theorem ev_g1 (T : Tx K mg h) {ta : TE} {gl : Addr} {a b : Nat} {r : List Nat} (ha : Ev ta σ H (.ref gl)) (hg : H gl = some (.lst (nats (a :: b :: r)))) : Ev (tOp (rIxL K) ta (tC (.int 1))) σ H (.int ((b : Nat) : Int)) := ev_ixN (i := 1) ha hg ev_c (by show 1 < r.length + 1 + 1; omega)
end
end Pw
local macro_rules | `(tactic| wtm_at "ca") => `(tactic| ((with_reducible refine' ev_g0 (by assumption) ?ha ?hg); (case ha => wtm_at "ev"); (case hg => wtm_at "sd")))
namespace Pw
open PySem PySem.Spec PyProof.Rows L2 Evl
end Pw
local macro_rules | `(tactic| wtm_at "ca") => `(tactic| ((with_reducible refine' ev_g1 (by assumption) ?ha ?hg); (case ha => wtm_at "ev"); (case hg => wtm_at "sd")))
namespace Pw
open PySem PySem.Spec PyProof.Rows L2 Evl
end Pw
local macro_rules | `(tactic| wtm_at "no") => `(tactic| refine g_when (b := false) (et_B (ev_b (ev_cmp (ev_var rfl) ev_c) (by decide))) (fun z => nomatch z) (fun _ => ?_))
local macro_rules | `(tactic| wtm_at "yes") => `(tactic| refine g_when (b := true) (et_B (ev_b (ev_cmp (ev_var rfl) ev_c) (by decide))) (fun _ => ?_) (fun z => nomatch z))
local macro_rules | `(tactic| wtm_at "nol") => `(tactic| refine g_when (b := false) (et_B (ev_b (ev_cmp (ev_var rfl) ev_c) (by decide))) (fun z => nomatch z) (fun _ => ?_))
local macro_rules | `(tactic| wtm_at "yesl") => `(tactic| refine g_when (b := true) (et_B (ev_b (ev_cmp (ev_var rfl) ev_c) (by decide))) (fun _ => ?_) (fun z => nomatch z))
local macro_rules | `(tactic| wtm_at "nov") => `(tactic| refine g_when (b := false) (et_B (ev_b (ev_cmp (ev_var rfl) ev_c) (by decide))) (fun z => nomatch z) (fun _ => ?_))
namespace Pw
open PySem PySem.Spec PyProof.Rows L2 Evl
abbrev s_change_policies : Stmt := top 120
theorem sc_change_policies : FnScope ["monitor", "number", "given"] ["monitor", "number", "given"] (defScope s_change_policies) := ⟨rfl, rfl, rfl, by decide +kernel, rfl, by decide +kernel, by decide +kernel⟩
def t_change_policies (K : PySem.W.Frag) : TS :=
    (tSeq (tIfS (tB (tEqI (tVar 1) (tC (.int 1)))) (tRet (tCall (sp_add_policy K) [] E0 (tCons (tVar 0) (tCons (tOp (rIxL K) (tVar 2) (tC (.int 0))) (tCons (tOp (rIxL K) (tVar 2) (tC (.int 1))) tNil))))) tNext)
    (tSeq (tIfS (tB (tEqI (tVar 1) (tC (.int 2)))) (tRet (tCall (sp_add_rational_policy K) [] E0 (tCons (tVar 0) (tCons (tOp (rIxL K) (tVar 2) (tC (.int 0))) tNil)))) tNext)
    (tSeq (tIfS (tB (tEqI (tVar 1) (tC (.int 3)))) (tRet (tCall (sp_remove_policy K) [] E0 (tCons (tVar 0) (tCons (tOp (rIxL K) (tVar 2) (tC (.int 0))) tNil)))) tNext)
    (tSeq (tIfS (tB (tEqI (tVar 1) (tC (.int 4)))) (tRet (tCall (sp_get_policy K) [] E0 (tCons (tVar 0) (tCons (tOp (rIxL K) (tVar 2) (tC (.int 0))) tNil)))) tNext)
    (tSeq (tIfS (tB (tEqI (tVar 1) (tC (.int 5)))) (tRet (tCall (sp_record_test K) [] E0 (tCons (tVar 0) (tCons (tOp (rIxL K) (tVar 2) (tC (.int 0))) (tCons (tOp (rIxL K) (tVar 2) (tC (.int 1))) tNil))))) tNext)
    (tSeq (tIfS (tB (tEqI (tVar 1) (tC (.int 6)))) (tRet (tCall (sp_record_production K) [] E0 (tCons (tVar 0) (tCons (tOp (rIxL K) (tVar 2) (tC (.int 0))) tNil)))) tNext)
    (tRet (tCall (sp_undo_record K) [] E0 (tCons (tVar 0) tNil)))))))))
def sp_change_policies (K : PySem.W.Frag) : Sp := SpC (ι := Addr × Mo × Lay × Nat × Addr × List Nat × Kp417.Call) K (fun i vs H => vs = [.ref i.1, .int ((i.2.2.2.1 : Nat) : Int), .ref i.2.2.2.2.1] ∧ MonL K H i.1 i.2.1 i.2.2.1 ∧ GoodM i.2.1 ∧ H i.2.2.2.2.1 = some (.lst (nats i.2.2.2.2.2.1)) ∧ Dec i.2.2.2.1 i.2.2.2.2.2.1 i.2.2.2.2.2.2 ∧ 1 ≤ i.2.2.2.1 ∧ i.2.2.2.1 ≤ 7) (fun i => (i.1, i.2.1, i.2.2.1, Kp417.run i.2.1 i.2.2.2.2.2.2))
theorem rd_change_policies {K : PySem.W.Frag} {mg : Str → Option Value} {h : Heap} (T : Tx K mg h) {vs : List V} {H : Hp} {Q : VK} {E : XK} (hsp : sp_change_policies K vs H Q E) : t_change_policies K { nx := fun _ H' => Q .non H', rt := Q } (start ["monitor", "number", "given"] vs) H := by
  obtain ⟨⟨mo, m, L, n, gl, args, c⟩, ⟨rfl, hM, G, hg, hD, h1, h2⟩, k⟩ := hsp
  dsimp only at hM G hg hD h1 h2 k ⊢
  refine Sg.go (H := H) ?_ (Ex.refl H)
  cases hD
  all_goals first | (exfalso; revert h1 h2; decide) | skip
  case c1 a b =>
    wtm_at "yes"
    exact g_retC (K := K) (mo, m, L, a, b) (by wtm_at "ev") (fun H1 e => ⟨rfl, hM.mono e, G⟩) k
  case c2 a =>
    wtm_at "no"
    wtm_at "yes"
    exact g_retC (K := K) (mo, m, L, a) (by wtm_at "ev") (fun H1 e => ⟨rfl, hM.mono e, G⟩) k
  case c3 a =>
    wtm_at "no"
    wtm_at "no"
    wtm_at "yes"
    exact g_retC (K := K) (mo, m, L, a) (by wtm_at "ev") (fun H1 e => ⟨rfl, hM.mono e, G⟩) k
  case c4 a =>
    wtm_at "no"
    wtm_at "no"
    wtm_at "no"
    wtm_at "yes"
    exact g_retQ (mo, m, L, a) (by wtm_at "ev") (fun H1 e => ⟨rfl, hM.mono e, G⟩) (fun v H2 r => r) rfl hM k
  case c5 a b =>
    wtm_at "no"
    wtm_at "no"
    wtm_at "no"
    wtm_at "no"
    wtm_at "yes"
    exact g_retC (K := K) (mo, m, L, a, b) (by wtm_at "ev") (fun H1 e => ⟨rfl, hM.mono e, G⟩) k
  case c6 a =>
    wtm_at "no"
    wtm_at "no"
    wtm_at "no"
    wtm_at "no"
    wtm_at "no"
    wtm_at "yes"
    exact g_retC (K := K) (mo, m, L, a) (by wtm_at "ev") (fun H1 e => ⟨rfl, hM.mono e, G⟩) k
  case c7 =>
    wtm_at "no"
    wtm_at "no"
    wtm_at "no"
    wtm_at "no"
    wtm_at "no"
    wtm_at "no"
    exact g_retC (K := K) (mo, m, L) (by wtm_at "ev") (fun H1 e => ⟨rfl, hM.mono e, G⟩) k
theorem ok_change_policies {P : Program} {w : World} {K : PySem.W.Frag} {mg : Str → Option Value} {base : Heap} {h : Heap} (T : Tx K mg h) : OkF P w K mg base 10 "change_policies" ["monitor", "number", "given"] (sp_change_policies K) :=
  mkOk T (st := s_change_policies) (N := ["monitor", "number", "given"]) 84 84 sc_change_policies (by rintro vs H Q E ⟨_, ⟨rfl, _⟩, _⟩; rfl) (fun f cdv A outer s H vs Q E hr hsp => ⟨t_change_policies K, (pss_cons (ps_if (pt_cmp (pc_eqI (pv 1) pe_int)) (pss_one (ps_ret (pe_callO (ok_add_policy T) (hr.mono (by decide)) rfl (pa_cons (pv 0) (pa_cons (pe_ix ix_list (pv 2) pe_int (fun _ _ => rfl)) (pa_cons (pe_ix ix_list (pv 2) pe_int (fun _ _ => rfl)) pa_nil)))))) pss_nil)
      (pss_cons (ps_if (pt_cmp (pc_eqI (pv 1) pe_int)) (pss_one (ps_ret (pe_callO (ok_add_rational_policy T) (hr.mono (by decide)) rfl (pa_cons (pv 0) (pa_cons (pe_ix ix_list (pv 2) pe_int (fun _ _ => rfl)) pa_nil))))) pss_nil)
      (pss_cons (ps_if (pt_cmp (pc_eqI (pv 1) pe_int)) (pss_one (ps_ret (pe_callO (ok_remove_policy T) (hr.mono (by decide)) rfl (pa_cons (pv 0) (pa_cons (pe_ix ix_list (pv 2) pe_int (fun _ _ => rfl)) pa_nil))))) pss_nil)
      (pss_cons (ps_if (pt_cmp (pc_eqI (pv 1) pe_int)) (pss_one (ps_ret (pe_callO (ok_get_policy T) (hr.mono (by decide)) rfl (pa_cons (pv 0) (pa_cons (pe_ix ix_list (pv 2) pe_int (fun _ _ => rfl)) pa_nil))))) pss_nil)
      (pss_cons (ps_if (pt_cmp (pc_eqI (pv 1) pe_int)) (pss_one (ps_ret (pe_callO (ok_record_test T) (hr.mono (by decide)) rfl (pa_cons (pv 0) (pa_cons (pe_ix ix_list (pv 2) pe_int (fun _ _ => rfl)) (pa_cons (pe_ix ix_list (pv 2) pe_int (fun _ _ => rfl)) pa_nil)))))) pss_nil)
      (pss_cons (ps_if (pt_cmp (pc_eqI (pv 1) pe_int)) (pss_one (ps_ret (pe_callO (ok_record_production T) (hr.mono (by decide)) rfl (pa_cons (pv 0) (pa_cons (pe_ix ix_list (pv 2) pe_int (fun _ _ => rfl)) pa_nil))))) pss_nil)
      (pss_one (ps_ret (pe_callO (ok_undo_record T) (hr.mono (by decide)) rfl (pa_cons (pv 0) pa_nil)))))))))), rd_change_policies T hsp⟩) (fun _ _ _ _ _ _ us hl => match us, hl with | [_, _, _], _ => rfl)
abbrev s_ask_beliefs : Stmt := top 121
theorem sc_ask_beliefs : FnScope ["monitor", "number", "given"] ["monitor", "number", "given"] (defScope s_ask_beliefs) := ⟨rfl, rfl, rfl, by decide +kernel, rfl, by decide +kernel, by decide +kernel⟩
def t_ask_beliefs (K : PySem.W.Frag) : TS :=
    (tSeq (tIfS (tB (tEqI (tVar 1) (tC (.int 8)))) (tRet (tCall (sp_get_log K) [] E0 (tCons (tVar 0) tNil))) tNext)
    (tSeq (tIfS (tB (tEqI (tVar 1) (tC (.int 9)))) (tRet (tCall (sp_listed K) [] E0 (tCons (tCall (sp_candidates K) [] E0 (tCons (tVar 0) tNil)) tNil))) tNext)
    (tSeq (tIfS (tB (tEqI (tVar 1) (tC (.int 10)))) (tRet (tCall (sp_belief_in K) [] E0 (tCons (tVar 0) (tCons (tOp (rIxL K) (tVar 2) (tC (.int 0))) tNil)))) tNext)
    (tSeq (tIfS (tB (tEqI (tVar 1) (tC (.int 11)))) (tRet (tCall (sp_honest K) [] E0 (tCons (tVar 0) tNil))) tNext)
    (tSeq (tIfS (tB (tEqI (tVar 1) (tC (.int 12)))) (tRet (tCall (sp_suspects_at K) [] E0 (tCons (tVar 0) (tCons (tOp (rIxL K) (tVar 2) (tC (.int 0))) tNil)))) tNext)
    (tSeq (tIfS (tB (tEqI (tVar 1) (tC (.int 13)))) (tRet (tCall (sp_next_harm_probability K) [] E0 (tCons (tVar 0) tNil))) tNext)
    (tSeq (tIfS (tB (tEqI (tVar 1) (tC (.int 14)))) (tRet (tCall (sp_worst K) [] E0 (tCons (tVar 0) tNil))) tNext)
    (tRet (tCall (sp_is_detectable K) [] E0 (tCons (tVar 0) (tCons (tOp (rIxL K) (tVar 2) (tC (.int 0))) tNil)))))))))))
def sp_ask_beliefs (K : PySem.W.Frag) : Sp := SpC (ι := Addr × Mo × Lay × Nat × Addr × List Nat × Kp417.Call) K (fun i vs H => vs = [.ref i.1, .int ((i.2.2.2.1 : Nat) : Int), .ref i.2.2.2.2.1] ∧ MonL K H i.1 i.2.1 i.2.2.1 ∧ GoodM i.2.1 ∧ H i.2.2.2.2.1 = some (.lst (nats i.2.2.2.2.2.1)) ∧ Dec i.2.2.2.1 i.2.2.2.2.2.1 i.2.2.2.2.2.2 ∧ 8 ≤ i.2.2.2.1 ∧ i.2.2.2.1 ≤ 15) (fun i => (i.1, i.2.1, i.2.2.1, Kp417.run i.2.1 i.2.2.2.2.2.2))
theorem rd_ask_beliefs {K : PySem.W.Frag} {mg : Str → Option Value} {h : Heap} (T : Tx K mg h) {vs : List V} {H : Hp} {Q : VK} {E : XK} (hsp : sp_ask_beliefs K vs H Q E) : t_ask_beliefs K { nx := fun _ H' => Q .non H', rt := Q } (start ["monitor", "number", "given"] vs) H := by
  obtain ⟨⟨mo, m, L, n, gl, args, c⟩, ⟨rfl, hM, G, hg, hD, h1, h2⟩, k⟩ := hsp
  dsimp only at hM G hg hD h1 h2 k ⊢
  refine Sg.go (H := H) ?_ (Ex.refl H)
  cases hD
  all_goals first | (exfalso; revert h1 h2; decide) | skip
  case c8 =>
    wtm_at "yes"
    exact g_retQ (mo, m, L) (by wtm_at "ev") (fun H1 e => ⟨rfl, hM.mono e, G⟩) (fun v H2 r => r) rfl hM k
  case c9 =>
    wtm_at "no"
    wtm_at "yes"
    exact g_ret (cr_listed T (cr_candidates T (by wtm_at "ev") hM G) (Nat.le_trans (cand_len G) (by decide))) fun v H2 e2 r => k v H2 ⟨r, ⟨L, hM.mono e2⟩, KY.of_ex e2⟩
  case c10 a =>
    wtm_at "no"
    wtm_at "no"
    wtm_at "yes"
    exact g_retQ (mo, m, L, a) (by wtm_at "ev") (fun H1 e => ⟨rfl, hM.mono e, G⟩) (fun v H2 r => r) rfl hM k
  case c11 =>
    wtm_at "no"
    wtm_at "no"
    wtm_at "no"
    wtm_at "yes"
    exact g_retQ (mo, m, L) (by wtm_at "ev") (fun H1 e => ⟨rfl, hM.mono e, G⟩) (fun v H2 r => r) rfl hM k
  case c12 a =>
    wtm_at "no"
    wtm_at "no"
    wtm_at "no"
    wtm_at "no"
    wtm_at "yes"
    exact g_retQ (mo, m, L, a) (by wtm_at "ev") (fun H1 e => ⟨rfl, hM.mono e, G⟩) (fun v H2 r => r) rfl hM k
  case c13 =>
    wtm_at "no"
    wtm_at "no"
    wtm_at "no"
    wtm_at "no"
    wtm_at "no"
    wtm_at "yes"
    exact g_retQ (mo, m, L) (by wtm_at "ev") (fun H1 e => ⟨rfl, hM.mono e, G⟩) (fun v H2 r => r) rfl hM k
  case c14 =>
    wtm_at "no"
    wtm_at "no"
    wtm_at "no"
    wtm_at "no"
    wtm_at "no"
    wtm_at "no"
    wtm_at "yes"
    exact g_retQ (mo, m, L) (by wtm_at "ev") (fun H1 e => ⟨rfl, hM.mono e, G⟩) (fun v H2 r => r) rfl hM k
  case c15 a =>
    wtm_at "no"
    wtm_at "no"
    wtm_at "no"
    wtm_at "no"
    wtm_at "no"
    wtm_at "no"
    wtm_at "no"
    exact g_retQ (mo, m, L, a) (by wtm_at "ev") (fun H1 e => ⟨rfl, hM.mono e, G⟩) (fun v H2 r => r) rfl hM k
theorem ok_ask_beliefs {P : Program} {w : World} {K : PySem.W.Frag} {mg : Str → Option Value} {base : Heap} {h : Heap} (T : Tx K mg h) : OkF P w K mg base 10 "ask_beliefs" ["monitor", "number", "given"] (sp_ask_beliefs K) :=
  mkOk T (st := s_ask_beliefs) (N := ["monitor", "number", "given"]) 85 85 sc_ask_beliefs (by rintro vs H Q E ⟨_, ⟨rfl, _⟩, _⟩; rfl) (fun f cdv A outer s H vs Q E hr hsp => ⟨t_ask_beliefs K, (pss_cons (ps_if (pt_cmp (pc_eqI (pv 1) pe_int)) (pss_one (ps_ret (pe_callO (ok_get_log T) (hr.mono (by decide)) rfl (pa_cons (pv 0) pa_nil)))) pss_nil)
      (pss_cons (ps_if (pt_cmp (pc_eqI (pv 1) pe_int)) (pss_one (ps_ret (pe_callO (ok_listed T) (hr.mono (by decide)) rfl (pa_cons (pe_callO (ok_candidates T) (hr.mono (by decide)) rfl (pa_cons (pv 0) pa_nil)) pa_nil)))) pss_nil)
      (pss_cons (ps_if (pt_cmp (pc_eqI (pv 1) pe_int)) (pss_one (ps_ret (pe_callO (ok_belief_in T) (hr.mono (by decide)) rfl (pa_cons (pv 0) (pa_cons (pe_ix ix_list (pv 2) pe_int (fun _ _ => rfl)) pa_nil))))) pss_nil)
      (pss_cons (ps_if (pt_cmp (pc_eqI (pv 1) pe_int)) (pss_one (ps_ret (pe_callO (ok_honest T) (hr.mono (by decide)) rfl (pa_cons (pv 0) pa_nil)))) pss_nil)
      (pss_cons (ps_if (pt_cmp (pc_eqI (pv 1) pe_int)) (pss_one (ps_ret (pe_callO (ok_suspects_at T) (hr.mono (by decide)) rfl (pa_cons (pv 0) (pa_cons (pe_ix ix_list (pv 2) pe_int (fun _ _ => rfl)) pa_nil))))) pss_nil)
      (pss_cons (ps_if (pt_cmp (pc_eqI (pv 1) pe_int)) (pss_one (ps_ret (pe_callO (ok_next_harm_probability T) (hr.mono (by decide)) rfl (pa_cons (pv 0) pa_nil)))) pss_nil)
      (pss_cons (ps_if (pt_cmp (pc_eqI (pv 1) pe_int)) (pss_one (ps_ret (pe_callO (ok_worst T) (hr.mono (by decide)) rfl (pa_cons (pv 0) pa_nil)))) pss_nil)
      (pss_one (ps_ret (pe_callO (ok_is_detectable T) (hr.mono (by decide)) rfl (pa_cons (pv 0) (pa_cons (pe_ix ix_list (pv 2) pe_int (fun _ _ => rfl)) pa_nil)))))))))))), rd_ask_beliefs T hsp⟩) (fun _ _ _ _ _ _ us hl => match us, hl with | [_, _, _], _ => rfl)
abbrev s_ask_tests : Stmt := top 122
theorem sc_ask_tests : FnScope ["monitor", "number", "given"] ["monitor", "number", "given"] (defScope s_ask_tests) := ⟨rfl, rfl, rfl, by decide +kernel, rfl, by decide +kernel, by decide +kernel⟩
def t_ask_tests (K : PySem.W.Frag) : TS :=
    (tSeq (tIfS (tB (tEqI (tVar 1) (tC (.int 16)))) (tRet (tCall (sp_policy_detection_probability K) [] E0 (tCons (tVar 0) (tCons (tOp (rIxL K) (tVar 2) (tC (.int 0))) (tCons (tOp (rIxL K) (tVar 2) (tC (.int 1))) tNil))))) tNext)
    (tSeq (tIfS (tB (tEqI (tVar 1) (tC (.int 17)))) (tRet (tCall (sp_tests_needed K) [] E0 (tCons (tVar 0) (tCons (tOp (rIxL K) (tVar 2) (tC (.int 0))) (tCons (tOp (rIxL K) (tVar 2) (tC (.int 1))) tNil))))) tNext)
    (tSeq (tIfS (tB (tEqI (tVar 1) (tC (.int 18)))) (tRet (tCall (sp_distinguishable K) [] E0 (tCons (tVar 0) (tCons (tOp (rIxL K) (tVar 2) (tC (.int 0))) (tCons (tOp (rIxL K) (tVar 2) (tC (.int 1))) tNil))))) tNext)
    (tSeq (tIfS (tB (tEqI (tVar 1) (tC (.int 19)))) (tRet (tCall (sp_give_permit K) [] E0 (tCons (tVar 0) (tCons (tOp (rIxL K) (tVar 2) (tC (.int 0))) (tCons (tOp (rIxL K) (tVar 2) (tC (.int 1))) tNil))))) tNext)
    (tSeq (tIfS (tB (tEqI (tVar 1) (tC (.int 20)))) (tRet (tCall (sp_revoke_permit K) [] E0 (tCons (tVar 0) tNil))) tNext)
    (tSeq (tIfS (tB (tEqI (tVar 1) (tC (.int 21)))) (tRet (tCall (sp_permit_status K) [] E0 (tCons (tVar 0) tNil))) tNext)
    (tSeq (tIfS (tB (tEqI (tVar 1) (tC (.int 22)))) (tRet (tCall (sp_candidates_after_test K) [] E0 (tCons (tVar 0) (tCons (tOp (rIxL K) (tVar 2) (tC (.int 0))) (tCons (tOp (rIxL K) (tVar 2) (tC (.int 1))) tNil))))) tNext)
    (tRet (tCall (sp_counts K) [] E0 (tCons (tVar 0) tNil))))))))))
def sp_ask_tests (K : PySem.W.Frag) : Sp := SpC (ι := Addr × Mo × Lay × Nat × Addr × List Nat × Kp417.Call) K (fun i vs H => vs = [.ref i.1, .int ((i.2.2.2.1 : Nat) : Int), .ref i.2.2.2.2.1] ∧ MonL K H i.1 i.2.1 i.2.2.1 ∧ GoodM i.2.1 ∧ H i.2.2.2.2.1 = some (.lst (nats i.2.2.2.2.2.1)) ∧ Dec i.2.2.2.1 i.2.2.2.2.2.1 i.2.2.2.2.2.2 ∧ 16 ≤ i.2.2.2.1 ∧ i.2.2.2.1 ≤ 23) (fun i => (i.1, i.2.1, i.2.2.1, Kp417.run i.2.1 i.2.2.2.2.2.2))
theorem rd_ask_tests {K : PySem.W.Frag} {mg : Str → Option Value} {h : Heap} (T : Tx K mg h) {vs : List V} {H : Hp} {Q : VK} {E : XK} (hsp : sp_ask_tests K vs H Q E) : t_ask_tests K { nx := fun _ H' => Q .non H', rt := Q } (start ["monitor", "number", "given"] vs) H := by
  obtain ⟨⟨mo, m, L, n, gl, args, c⟩, ⟨rfl, hM, G, hg, hD, h1, h2⟩, k⟩ := hsp
  dsimp only at hM G hg hD h1 h2 k ⊢
  refine Sg.go (H := H) ?_ (Ex.refl H)
  cases hD
  all_goals first | (exfalso; revert h1 h2; decide) | skip
  case c16 a b =>
    wtm_at "yes"
    exact g_retQ (mo, m, L, a, b) (by wtm_at "ev") (fun H1 e => ⟨rfl, hM.mono e, G⟩) (fun v H2 r => r) rfl hM k
  case c17 a b =>
    wtm_at "no"
    wtm_at "yes"
    exact g_retQ (mo, m, L, a, b) (by wtm_at "ev") (fun H1 e => ⟨rfl, hM.mono e, G⟩) (fun v H2 r => r) rfl hM k
  case c18 a b =>
    wtm_at "no"
    wtm_at "no"
    wtm_at "yes"
    exact g_retQ (mo, m, L, a, b) (by wtm_at "ev") (fun H1 e => ⟨rfl, hM.mono e, G⟩) (fun v H2 r => r) rfl hM k
  case c19 a b =>
    wtm_at "no"
    wtm_at "no"
    wtm_at "no"
    wtm_at "yes"
    exact g_retC (K := K) (mo, m, L, a, b) (by wtm_at "ev") (fun H1 e => ⟨rfl, hM.mono e, G⟩) k
  case c20 =>
    wtm_at "no"
    wtm_at "no"
    wtm_at "no"
    wtm_at "no"
    wtm_at "yes"
    exact g_retC (K := K) (mo, m, L) (by wtm_at "ev") (fun H1 e => ⟨rfl, hM.mono e, G⟩) k
  case c21 =>
    wtm_at "no"
    wtm_at "no"
    wtm_at "no"
    wtm_at "no"
    wtm_at "no"
    wtm_at "yes"
    exact g_retQ (mo, m, L) (by wtm_at "ev") (fun H1 e => ⟨rfl, hM.mono e, G⟩) (fun v H2 r => r) rfl hM k
  case c22 a b =>
    wtm_at "no"
    wtm_at "no"
    wtm_at "no"
    wtm_at "no"
    wtm_at "no"
    wtm_at "no"
    wtm_at "yes"
    exact g_retQ (mo, m, L, a, b) (by wtm_at "ev") (fun H1 e => ⟨rfl, hM.mono e, G⟩) (fun v H2 r => r) rfl hM k
  case c23 =>
    wtm_at "no"
    wtm_at "no"
    wtm_at "no"
    wtm_at "no"
    wtm_at "no"
    wtm_at "no"
    wtm_at "no"
    exact g_retQ (mo, m, L) (by wtm_at "ev") (fun H1 e => ⟨rfl, hM.mono e, G⟩) (fun v H2 r => r) rfl hM k
theorem ok_ask_tests {P : Program} {w : World} {K : PySem.W.Frag} {mg : Str → Option Value} {base : Heap} {h : Heap} (T : Tx K mg h) : OkF P w K mg base 10 "ask_tests" ["monitor", "number", "given"] (sp_ask_tests K) :=
  mkOk T (st := s_ask_tests) (N := ["monitor", "number", "given"]) 86 86 sc_ask_tests (by rintro vs H Q E ⟨_, ⟨rfl, _⟩, _⟩; rfl) (fun f cdv A outer s H vs Q E hr hsp => ⟨t_ask_tests K, (pss_cons (ps_if (pt_cmp (pc_eqI (pv 1) pe_int)) (pss_one (ps_ret (pe_callO (ok_policy_detection_probability T) (hr.mono (by decide)) rfl (pa_cons (pv 0) (pa_cons (pe_ix ix_list (pv 2) pe_int (fun _ _ => rfl)) (pa_cons (pe_ix ix_list (pv 2) pe_int (fun _ _ => rfl)) pa_nil)))))) pss_nil)
      (pss_cons (ps_if (pt_cmp (pc_eqI (pv 1) pe_int)) (pss_one (ps_ret (pe_callO (ok_tests_needed T) (hr.mono (by decide)) rfl (pa_cons (pv 0) (pa_cons (pe_ix ix_list (pv 2) pe_int (fun _ _ => rfl)) (pa_cons (pe_ix ix_list (pv 2) pe_int (fun _ _ => rfl)) pa_nil)))))) pss_nil)
      (pss_cons (ps_if (pt_cmp (pc_eqI (pv 1) pe_int)) (pss_one (ps_ret (pe_callO (ok_distinguishable T) (hr.mono (by decide)) rfl (pa_cons (pv 0) (pa_cons (pe_ix ix_list (pv 2) pe_int (fun _ _ => rfl)) (pa_cons (pe_ix ix_list (pv 2) pe_int (fun _ _ => rfl)) pa_nil)))))) pss_nil)
      (pss_cons (ps_if (pt_cmp (pc_eqI (pv 1) pe_int)) (pss_one (ps_ret (pe_callO (ok_give_permit T) (hr.mono (by decide)) rfl (pa_cons (pv 0) (pa_cons (pe_ix ix_list (pv 2) pe_int (fun _ _ => rfl)) (pa_cons (pe_ix ix_list (pv 2) pe_int (fun _ _ => rfl)) pa_nil)))))) pss_nil)
      (pss_cons (ps_if (pt_cmp (pc_eqI (pv 1) pe_int)) (pss_one (ps_ret (pe_callO (ok_revoke_permit T) (hr.mono (by decide)) rfl (pa_cons (pv 0) pa_nil)))) pss_nil)
      (pss_cons (ps_if (pt_cmp (pc_eqI (pv 1) pe_int)) (pss_one (ps_ret (pe_callO (ok_permit_status T) (hr.mono (by decide)) rfl (pa_cons (pv 0) pa_nil)))) pss_nil)
      (pss_cons (ps_if (pt_cmp (pc_eqI (pv 1) pe_int)) (pss_one (ps_ret (pe_callO (ok_candidates_after_test T) (hr.mono (by decide)) rfl (pa_cons (pv 0) (pa_cons (pe_ix ix_list (pv 2) pe_int (fun _ _ => rfl)) (pa_cons (pe_ix ix_list (pv 2) pe_int (fun _ _ => rfl)) pa_nil)))))) pss_nil)
      (pss_one (ps_ret (pe_callO (ok_counts T) (hr.mono (by decide)) rfl (pa_cons (pv 0) pa_nil))))))))))), rd_ask_tests T hsp⟩) (fun _ _ _ _ _ _ us hl => match us, hl with | [_, _, _], _ => rfl)
theorem agL_q (m : Mo) : agL m 31 = aL m .cheatingSignals ∧ agL m 32 = aL m .expectedProfit ∧ agL m 33 = aL m .detectionProbability ∧ agL m 34 = aL m .harmProbability ∧ agL m 35 = aL m .totalCost := ⟨rfl, rfl, rfl, rfl, rfl⟩
abbrev s_ask_setting : Stmt := top 124
theorem sc_ask_setting : FnScope ["monitor", "number", "given"] ["monitor", "number", "given"] (defScope s_ask_setting) := ⟨rfl, rfl, rfl, by decide +kernel, rfl, by decide +kernel, by decide +kernel⟩
def t_ask_setting (K : PySem.W.Frag) : TS :=
    (tSeq (tIfS (tB (tEqI (tVar 1) (tC (.int 30)))) (tRet (tCall (sp_value_at K) [] E0 (tCons (tVar 0) (tCons (tOp (rIxL K) (tVar 2) (tC (.int 0))) tNil)))) tNext)
    (tSeq (tIfS (tB (tLe (tVar 1) (tC (.int 35)))) (tRet (tCall (sp_agent_answer K) [] E0 (tCons (tVar 0) (tCons (tVar 1) tNil)))) tNext)
    (tSeq (tIfS (tB (tEqI (tVar 1) (tC (.int 36)))) (tRet (tCall (sp_deterrent_prior_at K) [] E0 (tCons (tVar 0) (tCons (tOp (rIxL K) (tVar 2) (tC (.int 0))) tNil)))) tNext)
    (tSeq (tIfS (tB (tEqI (tVar 1) (tC (.int 37)))) (tRet (tCall (sp_whole_deterrent_prior K) [] E0 (tCons (tVar 0) tNil))) tNext)
    (tSeq (tIfS (tB (tEqI (tVar 1) (tC (.int 38)))) tNever tNext)
    (tSeq (tIfS (tB (tEqI (tVar 1) (tC (.int 39)))) tNever tNext)
    (tSeq (tIfS (tB (tEqI (tVar 1) (tC (.int 40)))) (tRet (tCall (sp_cheapest K) [] E0 (tCons (tVar 0) tNil))) tNext)
    (tSeq (tIfS (tB (tEqI (tVar 1) (tC (.int 41)))) (tRet (tCall (sp_signals_for_prior K) [] E0 (tCons (tVar 0) (tCons (tOp (rIxL K) (tVar 2) (tC (.int 0))) (tCons (tOp (rIxL K) (tVar 2) (tC (.int 1))) tNil))))) tNext)
    (tSeq (tIfS (tB (tEqI (tVar 1) (tC (.int 42)))) (tRet (tCall (sp_signals_for_stakes K) [] E0 (tCons (tVar 0) (tCons (tOp (rIxL K) (tVar 2) (tC (.int 0))) (tCons (tOp (rIxL K) (tVar 2) (tC (.int 1))) tNil))))) tNext)
    (tRet (tCall (sp_get_settings K) [] E0 (tCons (tVar 0) tNil))))))))))))
def sp_ask_setting (K : PySem.W.Frag) : Sp := SpC (ι := Addr × Mo × Lay × Nat × Addr × List Nat × Kp417.Call) K (fun i vs H => vs = [.ref i.1, .int ((i.2.2.2.1 : Nat) : Int), .ref i.2.2.2.2.1] ∧ MonL K H i.1 i.2.1 i.2.2.1 ∧ GoodM i.2.1 ∧ H i.2.2.2.2.1 = some (.lst (nats i.2.2.2.2.2.1)) ∧ Dec i.2.2.2.1 i.2.2.2.2.2.1 i.2.2.2.2.2.2 ∧ 30 ≤ i.2.2.2.1 ∧ i.2.2.2.1 ≤ 43) (fun i => (i.1, i.2.1, i.2.2.1, Kp417.run i.2.1 i.2.2.2.2.2.2))
theorem rd_ask_setting {K : PySem.W.Frag} {mg : Str → Option Value} {h : Heap} (T : Tx K mg h) {vs : List V} {H : Hp} {Q : VK} {E : XK} (hsp : sp_ask_setting K vs H Q E) : t_ask_setting K { nx := fun _ H' => Q .non H', rt := Q } (start ["monitor", "number", "given"] vs) H := by
  obtain ⟨⟨mo, m, L, n, gl, args, c⟩, ⟨rfl, hM, G, hg, hD, h1, h2⟩, k⟩ := hsp
  dsimp only at hM G hg hD h1 h2 k ⊢
  refine Sg.go (H := H) ?_ (Ex.refl H)
  cases hD
  all_goals first | (exfalso; revert h1 h2; decide) | skip
  case c30 a =>
    wtm_at "yes"
    exact g_retQ (mo, m, L, a) (by wtm_at "ev") (fun H1 e => ⟨rfl, hM.mono e, G⟩) (fun v H2 r => r) rfl hM k
  case c31 =>
    wtm_at "no"
    wtm_at "yesl"
    exact g_retQ (mo, m, L, 31) (by wtm_at "ev") (fun H1 e => ⟨rfl, hM.mono e, G⟩) (fun v H2 r => r) rfl hM k
  case c32 =>
    wtm_at "no"
    wtm_at "yesl"
    exact g_retQ (mo, m, L, 32) (by wtm_at "ev") (fun H1 e => ⟨rfl, hM.mono e, G⟩) (fun v H2 r => r) rfl hM k
  case c33 =>
    wtm_at "no"
    wtm_at "yesl"
    exact g_retQ (mo, m, L, 33) (by wtm_at "ev") (fun H1 e => ⟨rfl, hM.mono e, G⟩) (fun v H2 r => r) rfl hM k
  case c34 =>
    wtm_at "no"
    wtm_at "yesl"
    exact g_retQ (mo, m, L, 34) (by wtm_at "ev") (fun H1 e => ⟨rfl, hM.mono e, G⟩) (fun v H2 r => r) rfl hM k
  case c35 =>
    wtm_at "no"
    wtm_at "yesl"
    exact g_retQ (mo, m, L, 35) (by wtm_at "ev") (fun H1 e => ⟨rfl, hM.mono e, G⟩) (fun v H2 r => r) rfl hM k
  case c36 a =>
    wtm_at "no"
    wtm_at "nol"
    wtm_at "yes"
    exact g_retQ (mo, m, L, a) (by wtm_at "ev") (fun H1 e => ⟨rfl, hM.mono e, G⟩) (fun v H2 r => r) rfl hM k
  case c37 =>
    wtm_at "no"
    wtm_at "nol"
    wtm_at "no"
    wtm_at "yes"
    exact g_retQ (mo, m, L) (by wtm_at "ev") (fun H1 e => ⟨rfl, hM.mono e, G⟩) (fun v H2 r => r) rfl hM k
  case c40 =>
    wtm_at "no"
    wtm_at "nol"
    wtm_at "no"
    wtm_at "no"
    wtm_at "nov"
    wtm_at "nov"
    wtm_at "yes"
    exact g_retQ (mo, m, L) (by wtm_at "ev") (fun H1 e => ⟨rfl, hM.mono e, G⟩) (fun v H2 r => r) rfl hM k
  case c41 a b =>
    wtm_at "no"
    wtm_at "nol"
    wtm_at "no"
    wtm_at "no"
    wtm_at "nov"
    wtm_at "nov"
    wtm_at "no"
    wtm_at "yes"
    exact g_retQ (mo, m, L, a, b) (by wtm_at "ev") (fun H1 e => ⟨rfl, hM.mono e, G⟩) (fun v H2 r => r) rfl hM k
  case c42 a b =>
    wtm_at "no"
    wtm_at "nol"
    wtm_at "no"
    wtm_at "no"
    wtm_at "nov"
    wtm_at "nov"
    wtm_at "no"
    wtm_at "no"
    wtm_at "yes"
    exact g_retQ (mo, m, L, a, b) (by wtm_at "ev") (fun H1 e => ⟨rfl, hM.mono e, G⟩) (fun v H2 r => r) rfl hM k
  case c43 =>
    wtm_at "no"
    wtm_at "nol"
    wtm_at "no"
    wtm_at "no"
    wtm_at "nov"
    wtm_at "nov"
    wtm_at "no"
    wtm_at "no"
    wtm_at "no"
    exact g_retQ (mo, m, L) (by wtm_at "ev") (fun H1 e => ⟨rfl, hM.mono e, G⟩) (fun v H2 r => r) rfl hM k
theorem ok_ask_setting {P : Program} {w : World} {K : PySem.W.Frag} {mg : Str → Option Value} {base : Heap} {h : Heap} (T : Tx K mg h) : OkF P w K mg base 8 "ask_setting" ["monitor", "number", "given"] (sp_ask_setting K) :=
  mkOk T (st := s_ask_setting) (N := ["monitor", "number", "given"]) 88 88 sc_ask_setting (by rintro vs H Q E ⟨_, ⟨rfl, _⟩, _⟩; rfl) (fun f cdv A outer s H vs Q E hr hsp => ⟨t_ask_setting K, (pss_cons (ps_if (pt_cmp (pc_eqI (pv 1) pe_int)) (pss_one (ps_ret (pe_callO (ok_value_at T) (hr.mono (by decide)) rfl (pa_cons (pv 0) (pa_cons (pe_ix ix_list (pv 2) pe_int (fun _ _ => rfl)) pa_nil))))) pss_nil)
      (pss_cons (ps_if (pt_cmp (pc_le (pv 1) pe_int)) (pss_one (ps_ret (pe_callO (ok_agent_answer T) (hr.mono (by decide)) rfl (pa_cons (pv 0) (pa_cons (pv 1) pa_nil))))) pss_nil)
      (pss_cons (ps_if (pt_cmp (pc_eqI (pv 1) pe_int)) (pss_one (ps_ret (pe_callO (ok_deterrent_prior_at T) (hr.mono (by decide)) rfl (pa_cons (pv 0) (pa_cons (pe_ix ix_list (pv 2) pe_int (fun _ _ => rfl)) pa_nil))))) pss_nil)
      (pss_cons (ps_if (pt_cmp (pc_eqI (pv 1) pe_int)) (pss_one (ps_ret (pe_callO (ok_whole_deterrent_prior T) (hr.mono (by decide)) rfl (pa_cons (pv 0) pa_nil)))) pss_nil)
      (pss_cons (ps_if (pt_cmp (pc_eqI (pv 1) pe_int)) pss_never pss_nil)
      (pss_cons (ps_if (pt_cmp (pc_eqI (pv 1) pe_int)) pss_never pss_nil)
      (pss_cons (ps_if (pt_cmp (pc_eqI (pv 1) pe_int)) (pss_one (ps_ret (pe_callO (ok_cheapest T) (hr.mono (by decide)) rfl (pa_cons (pv 0) pa_nil)))) pss_nil)
      (pss_cons (ps_if (pt_cmp (pc_eqI (pv 1) pe_int)) (pss_one (ps_ret (pe_callO (ok_signals_for_prior T) (hr.mono (by decide)) rfl (pa_cons (pv 0) (pa_cons (pe_ix ix_list (pv 2) pe_int (fun _ _ => rfl)) (pa_cons (pe_ix ix_list (pv 2) pe_int (fun _ _ => rfl)) pa_nil)))))) pss_nil)
      (pss_cons (ps_if (pt_cmp (pc_eqI (pv 1) pe_int)) (pss_one (ps_ret (pe_callO (ok_signals_for_stakes T) (hr.mono (by decide)) rfl (pa_cons (pv 0) (pa_cons (pe_ix ix_list (pv 2) pe_int (fun _ _ => rfl)) (pa_cons (pe_ix ix_list (pv 2) pe_int (fun _ _ => rfl)) pa_nil)))))) pss_nil)
      (pss_one (ps_ret (pe_callO (ok_get_settings T) (hr.mono (by decide)) rfl (pa_cons (pv 0) pa_nil))))))))))))), rd_ask_setting T hsp⟩) (fun _ _ _ _ _ _ us hl => match us, hl with | [_, _, _], _ => rfl)
abbrev s_change_setting : Stmt := top 123
theorem sc_change_setting : FnScope ["monitor", "number", "given"] ["monitor", "number", "given"] (defScope s_change_setting) := ⟨rfl, rfl, rfl, by decide +kernel, rfl, by decide +kernel, by decide +kernel⟩
def t_change_setting (K : PySem.W.Frag) : TS :=
    (tSeq (tIfS (tB (tEqI (tVar 1) (tC (.int 24)))) (tRet (tCall (sp_create_setting K) [] E0 (tCons (tVar 0) (tCons (tOp (rIxL K) (tVar 2) (tC (.int 0))) tNil)))) tNext)
    (tSeq (tIfS (tB (tEqI (tVar 1) (tC (.int 25)))) tNever tNext)
    (tSeq (tIfS (tB (tEqI (tVar 1) (tC (.int 26)))) tNever tNext)
    (tSeq (tIfS (tB (tEqI (tVar 1) (tC (.int 27)))) (tRet (tCall (sp_set_prior K) [] E0 (tCons (tVar 0) (tCons (tOp (rIxL K) (tVar 2) (tC (.int 0))) (tCons (tOp (rIxL K) (tVar 2) (tC (.int 1))) tNil))))) tNext)
    (tSeq (tIfS (tB (tEqI (tVar 1) (tC (.int 28)))) (tRet (tCall (sp_set_stakes K) [] E0 (tCons (tVar 0) (tCons (tOp (rIxL K) (tVar 2) (tC (.int 0))) (tCons (tOp (rIxL K) (tVar 2) (tC (.int 1))) tNil))))) tNext)
    (tRet (tCall (sp_set_prices K) [] E0 (tCons (tVar 0) (tCons (tOp (rIxL K) (tVar 2) (tC (.int 0))) (tCons (tOp (rIxL K) (tVar 2) (tC (.int 1))) tNil))))))))))
def sp_change_setting (K : PySem.W.Frag) : Sp := fun vs H Q _ => ∃ i : Addr × Option Mo × Nat × Addr × List Nat × Kp417.Call, (vs = [.ref i.1, .int ((i.2.2.1 : Nat) : Int), .ref i.2.2.2.1] ∧ MonO K H i.1 i.2.1 ∧ GoodO i.2.1 ∧ H i.2.2.2.1 = some (.lst (nats i.2.2.2.2.1)) ∧ Dec i.2.2.1 i.2.2.2.2.1 i.2.2.2.2.2 ∧ 24 ≤ i.2.2.1 ∧ i.2.2.1 ≤ 29 ∧ (i.2.2.1 ≠ 24 → i.2.1 ≠ none)) ∧ ∀ v H2, PostO K H i.1 (stO i.2.1 i.2.2.2.2.2).1 (stO i.2.1 i.2.2.2.2.2).2 v H2 → Q v H2
theorem rd_change_setting {K : PySem.W.Frag} {mg : Str → Option Value} {h : Heap} (T : Tx K mg h) {vs : List V} {H : Hp} {Q : VK} {E : XK} (hsp : sp_change_setting K vs H Q E) : t_change_setting K { nx := fun _ H' => Q .non H', rt := Q } (start ["monitor", "number", "given"] vs) H := by
  obtain ⟨⟨mo, o, n, gl, args, c⟩, ⟨rfl, hO, G, hg, hD, h1, h2, hne⟩, k⟩ := hsp
  dsimp only at hO G hg hD h1 h2 hne k ⊢
  refine Sg.go (H := H) ?_ (Ex.refl H)
  cases hD
  all_goals first | (exfalso; revert h1 h2; decide) | skip
  case c24 a =>
    wtm_at "yes"
    intro H1 e
    refine (show EvA _ _ H [.ref mo, .int ((a : Nat) : Int)] from by wtm_at "ev") H1 e _ fun H2 e2 => ?_
    refine ⟨(mo, o, a), ⟨rfl, hO.mono (e.trans e2)⟩, fun v H3 post => k v H3 ?_⟩
    have z : stO o (.createSetting a) = crO o a := by
      cases o <;> rfl
    rw [z]
    exact ⟨post.ans, post.mon, (KT.of_ex (e.trans e2)).trans post.keep⟩
  case c27 a b =>
    cases o with
    | none => exact absurd rfl (hne (by decide))
    | some m =>
    obtain ⟨L, hM⟩ := hO
    replace k : ∀ v H2, PostM K H mo m L (Kp417.run m _) v H2 → Q v H2 := fun v H2 post => k v H2 ⟨post.ans, post.mon, KT.of_ky hM post.keep⟩
    wtm_at "no"
    wtm_at "nov"
    wtm_at "nov"
    wtm_at "yes"
    exact g_retC (K := K) (mo, m, L, a, b) (by wtm_at "ev") (fun H1 e => ⟨rfl, hM.mono e, G⟩) k
  case c28 a b =>
    cases o with
    | none => exact absurd rfl (hne (by decide))
    | some m =>
    obtain ⟨L, hM⟩ := hO
    replace k : ∀ v H2, PostM K H mo m L (Kp417.run m _) v H2 → Q v H2 := fun v H2 post => k v H2 ⟨post.ans, post.mon, KT.of_ky hM post.keep⟩
    wtm_at "no"
    wtm_at "nov"
    wtm_at "nov"
    wtm_at "no"
    wtm_at "yes"
    exact g_retC (K := K) (mo, m, L, a, b) (by wtm_at "ev") (fun H1 e => ⟨rfl, hM.mono e, G⟩) k
  case c29 a b =>
    cases o with
    | none => exact absurd rfl (hne (by decide))
    | some m =>
    obtain ⟨L, hM⟩ := hO
    replace k : ∀ v H2, PostM K H mo m L (Kp417.run m _) v H2 → Q v H2 := fun v H2 post => k v H2 ⟨post.ans, post.mon, KT.of_ky hM post.keep⟩
    wtm_at "no"
    wtm_at "nov"
    wtm_at "nov"
    wtm_at "no"
    wtm_at "no"
    exact g_retC (K := K) (mo, m, L, a, b) (by wtm_at "ev") (fun H1 e => ⟨rfl, hM.mono e, G⟩) k
theorem ok_change_setting {P : Program} {w : World} {K : PySem.W.Frag} {mg : Str → Option Value} {base : Heap} {h : Heap} (T : Tx K mg h) : OkF P w K mg base 4 "change_setting" ["monitor", "number", "given"] (sp_change_setting K) :=
  mkOk T (st := s_change_setting) (N := ["monitor", "number", "given"]) 87 87 sc_change_setting (by rintro vs H Q E ⟨_, ⟨rfl, _⟩, _⟩; rfl) (fun f cdv A outer s H vs Q E hr hsp => ⟨t_change_setting K, (pss_cons (ps_if (pt_cmp (pc_eqI (pv 1) pe_int)) (pss_one (ps_ret (pe_callO (ok_create_setting T) (hr.mono (by decide)) rfl (pa_cons (pv 0) (pa_cons (pe_ix ix_list (pv 2) pe_int (fun _ _ => rfl)) pa_nil))))) pss_nil)
      (pss_cons (ps_if (pt_cmp (pc_eqI (pv 1) pe_int)) pss_never pss_nil)
      (pss_cons (ps_if (pt_cmp (pc_eqI (pv 1) pe_int)) pss_never pss_nil)
      (pss_cons (ps_if (pt_cmp (pc_eqI (pv 1) pe_int)) (pss_one (ps_ret (pe_callO (ok_set_prior T) (hr.mono (by decide)) rfl (pa_cons (pv 0) (pa_cons (pe_ix ix_list (pv 2) pe_int (fun _ _ => rfl)) (pa_cons (pe_ix ix_list (pv 2) pe_int (fun _ _ => rfl)) pa_nil)))))) pss_nil)
      (pss_cons (ps_if (pt_cmp (pc_eqI (pv 1) pe_int)) (pss_one (ps_ret (pe_callO (ok_set_stakes T) (hr.mono (by decide)) rfl (pa_cons (pv 0) (pa_cons (pe_ix ix_list (pv 2) pe_int (fun _ _ => rfl)) (pa_cons (pe_ix ix_list (pv 2) pe_int (fun _ _ => rfl)) pa_nil)))))) pss_nil)
      (pss_one (ps_ret (pe_callO (ok_set_prices T) (hr.mono (by decide)) rfl (pa_cons (pv 0) (pa_cons (pe_ix ix_list (pv 2) pe_int (fun _ _ => rfl)) (pa_cons (pe_ix ix_list (pv 2) pe_int (fun _ _ => rfl)) pa_nil))))))))))), rd_change_setting T hsp⟩) (fun _ _ _ _ _ _ us hl => match us, hl with | [_, _, _], _ => rfl)
end Pw
namespace Pw
open PySem PySem.Spec PyProof.Rows L2 Evl
/-! ## one list held still while an expression runs -/
section
variable {X : Cx} {pins : List (Addr × Obj)} {σ : L2.St} {H : Hp} {s : Shared} {f : Addr}
theorem inv_hold {xs : List V} (I : Inv X pins σ H s) (hf : H f = some (.lst xs)) : ∃ o, Inv X pins σ (upd H f (.frz o (.lst xs))) s := by
  obtain ⟨z, its, n, r, e⟩ := (show ObjOk X.prog X.w H s.heap f (.lst xs) from I.hok f _ hf)
  exact ⟨_, I.write (x := f) (e := f) (t' := s.toks) (by rw [hf]; exact trivial) (.inl rfl) (fun b u _ q => q) ⟨_, e⟩ ⟨e, z, its, n, r, e⟩⟩
theorem inv_free {o : Obj} {xs : List V} (I : Inv X pins σ H s) (hf : H f = some (.frz o (.lst xs))) (h0 : ∀ o u, X.H_0 f ≠ some (.frz o u)) : Inv X pins σ (upd H f (.lst xs)) s := by
  have nn : ∀ {b : Addr}, H b = none → b ≠ f := fun {b} h z => by
    rw [z, hf] at h
    cases h
  have nt : ∀ {b : Addr} {ys : List V}, H b = some (.tup ys) → b ≠ f := fun {b ys} h z => by
    rw [z, hf] at h
    cases h
  have nb : ∀ {b : Addr} {ys}, H b = some (.tbl ys) → b ≠ f := fun {b ys} h z => by
    rw [z, hf] at h
    cases h
  have no : ∀ {b c : Addr}, H b = some (.own c) → b ≠ f := fun {b c} h z => by
    rw [z, hf] at h
    cases h
  refine ⟨I.ok, I.os, I.bare, ⟨I.base.keep, I.base.slot, fun b o q n hx => ?_, I.base.there, fun b ys q => ?_, fun b o u q => ?_, fun b ps q => ?_⟩, I.loc, I.cell, ?_, fun x c e => ?_, fun p hp => ?_, fun b u q => ?_, I.len⟩
  · have := I.base.free b o q n hx
    rw [upd_ne (nn this)]
    exact this
  · have := I.base.tups b ys q
    rw [upd_ne (nt this)]
    exact this
  · have := I.base.frzs b o u q
    rw [upd_ne (fun z => h0 o u (by rw [← z]; exact q))]
    exact this
  · obtain ⟨m, hm⟩ := I.base.tbls b ps q
    exact ⟨m, by rw [upd_ne (nb hm)]; exact hm⟩
  · rw [upd_ne (nn I.free)]
    exact I.free
  · rw [upd_ne (nn (I.freeC x c e))]
    exact I.freeC x c e
  · obtain ⟨h1, h2, h3⟩ := I.pin p hp
    exact ⟨h1, by rw [upd_ne (nn h2)]; exact h2, h3⟩
  · have st : ∀ {b : Addr} {u : HO}, ObjOk X.prog X.w H s.heap b u → ObjOk X.prog X.w (upd H f (.lst xs)) s.heap b u := fun {b u} x =>
      x.stay (fun c v _ r => r) (fun c r => by rw [upd_ne (no r)]; exact r) fun c ys r => by rw [upd_ne (nt r)]; exact r
    by_cases hb : b = f
    · subst hb
      rw [upd_same] at q
      cases q
      obtain ⟨_, w⟩ := (show ObjOk X.prog X.w H s.heap b (.frz o (.lst xs)) from I.hok b _ hf)
      exact st w
    · rw [upd_ne hb] at q
      exact st (I.hok b u q)
end
/-- te runs, the list at some place held still -/
def tHold (te : TE) : TE := fun σ H Q => ∃ f xs, H f = some (.lst xs) ∧ ∀ o, te σ (upd H f (.frz o (.lst xs))) fun v H1 => H1 f = some (.frz o (.lst xs)) ∧ Q v (upd H1 f (.lst xs))
theorem pe_hold {X : Cx} {e : Expr} {te : TE} (h : PE X e te) : PE X e (tHold te) := by
  refine ⟨fun pins s σ H Q I ht => ?_⟩
  obtain ⟨f, xs, hf, k⟩ := ht
  have h0 : ∀ o u, X.H_0 f ≠ some (.frz o u) := fun o u z => by
    have := I.base.frzs f o u z
    rw [hf] at this
    cases this
  obtain ⟨o, J⟩ := inv_hold I hf
  refine thn (h.run pins s σ _ _ J (k o)) fun u s' ⟨v, H1, J1, r, q1, q2⟩ => ?_
  exact ⟨v, _, inv_free J1 q1 h0, r, q2⟩
/-! ## the heap without one address -/
def hid (f : Addr) (H : Hp) : Hp := fun b => if b = f then none else H b
section
variable {f : Addr} {H H' H0 : Hp}
theorem hid_back {b : Addr} {o : HO} (h : hid f H b = some o) : b ≠ f ∧ H b = some o := by
  unfold hid at h
  split at h
  · cases h
  · rename_i n
    exact ⟨n, h⟩
theorem hid_ne {b : Addr} (n : b ≠ f) : hid f H b = H b := if_neg n
theorem hid_ex : Ex (hid f H) H := fun b o h => (hid_back h).2
theorem hid_upd {o : HO} : Ex (hid f H) (upd H f o) := fun b u h => by
  rw [upd_ne (hid_back h).1]
  exact (hid_back h).2
theorem hid_eq {o : HO} : hid f (upd H f o) = hid f H := by
  funext b
  unfold hid
  split
  · rfl
  · rename_i n
    exact upd_ne n
theorem hid_mono (e : Ex H H') : Ex (hid f H) (hid f H') := fun b o h => by
  rw [hid_ne (hid_back h).1]
  exact e b o (hid_back h).2
theorem hid_new (n : H0 f = none) (e : Ex H0 H) : Ex H0 (hid f H) := fun b o h => by
  rw [hid_ne (ne_of_none h n)]
  exact e b o h
end
/-! ## the desk -/
section
variable {K : PySem.W.Frag} {f a : Addr} {H H' : Hp} {o : Obj} {u : HO}
theorem hid_of {b : Addr} {x : HO} (hf : H f = some (.frz o u)) (h : H b = some x) (n : ∀ o u, x ≠ .frz o u) : hid f H b = some x := by
  rw [hid_ne (ne_of h hf (n o u))]
  exact h
theorem FrI.hd {v : V} {x y : Int} (hf : H f = some (.frz o u)) : FrI v H x y → FrI v (hid f H) x y := fun ⟨p, h1, h2⟩ => ⟨p, h1, hid_of hf h2 (fun _ _ z => nomatch z)⟩
theorem PairsAt.hd {l : Addr} {ps : List (Int × Int)} (hf : H f = some (.frz o u)) : PairsAt H l ps → PairsAt (hid f H) l ps := fun ⟨xs, h1, h2, h3⟩ =>
  ⟨xs, hid_of hf h1 (fun _ _ z => nomatch z), h2, fun i x hx => let ⟨p, e1, e2⟩ := h3 i x hx; ⟨p, e1, e2.hd hf⟩⟩
theorem PerAt.hd {v : V} (hf : H f = some (.frz o u)) : ∀ {p : Option Kp417.Permit}, PerAt H v p → PerAt (hid f H) v p
  | none, h => h
  | some _, h => FrI.hd hf h
theorem SetAt.hd {sa : Addr} {s : St} (hf : H f = some (.frz o u)) : SetAt K H sa s → SetAt K (hid f H) sa s := fun ⟨d, tl, pl, h1, h2, h3⟩ =>
  ⟨d, tl, pl, hid_of hf h1 (fun _ _ z => nomatch z), hid_of hf h2 (fun _ _ z => nomatch z), hid_of hf h3 (fun _ _ z => nomatch z)⟩
theorem MonL.hd {m : Mo} {L : Lay} (hf : H f = some (.frz o u)) (h : MonL K H a m L) : MonL K (hid f H) a m L :=
  ⟨hid_of hf h.ob (fun _ _ z => nomatch z), h.set.hd hf, h.pol.hd hf, h.log.hd hf, h.per.hd hf⟩
theorem MonO.hd (hf : H f = some (.frz o u)) : ∀ {m : Option Mo}, MonO K H a m → MonO K (hid f H) a m
  | none, ⟨dx, pl, ll, h1, h2, h3⟩ => ⟨dx, pl, ll, hid_of hf h1 (fun _ _ z => nomatch z), hid_of hf h2 (fun _ _ z => nomatch z), hid_of hf h3 (fun _ _ z => nomatch z)⟩
  | some _, ⟨L, hM⟩ => ⟨L, hM.hd hf⟩
end
def DeskAt (K : PySem.W.Frag) (H : Hp) (d : Addr) : Kp417.State → Prop
  | none => ∃ dx, H d = some (.ins (He.ga K "Desk") dx [("monitor", .non)])
  | some o => ∃ dx a, H d = some (.ins (He.ga K "Desk") dx [("monitor", .ref a)]) ∧ MonO K H a o
theorem DeskAt.mono {K : PySem.W.Frag} {H H' : Hp} {d : Addr} : ∀ {s : Kp417.State}, DeskAt K H d s → Ex H H' → DeskAt K H' d s
  | none, ⟨dx, h⟩, e => ⟨dx, e _ _ h⟩
  | some _, ⟨dx, a, h, hM⟩, e => ⟨dx, a, e _ _ h, hM.mono e⟩
theorem DeskAt.hd {K : PySem.W.Frag} {H : Hp} {d f : Addr} {ob : Obj} {u : HO} (hf : H f = some (.frz ob u)) : ∀ {s : Kp417.State}, DeskAt K H d s → DeskAt K (hid f H) d s
  | none, ⟨dx, h⟩ => ⟨dx, hid_of hf h (fun _ _ z => nomatch z)⟩
  | some _, ⟨dx, a, h, hM⟩ => ⟨dx, a, hid_of hf h (fun _ _ z => nomatch z), hM.hd hf⟩
def GoodD : Kp417.State → Prop
  | none => True
  | some o => GoodO o
theorem anD_reset (s : Kp417.State) : anD s .reset = (some none, [0]) := rfl
theorem anD_none {n : Nat} {args : List Nat} {c : Kp417.Call} (h : Dec n args c) : anD none c = (none, [-11]) := by
  cases h <;> rfl
theorem anD_some (o : Option Mo) {n : Nat} {args : List Nat} {c : Kp417.Call} (h : Dec n args c) : anD (some o) c = (some (stO o c).1, (stO o c).2) := Prod.ext (step_st o h).1 (step_st o h).2
theorem good_d {s : Kp417.State} (G : GoodD s) {n : Nat} {args : List Nat} {c : Kp417.Call} (h : DecR n args c) : GoodD (anD s c).1 := by
  rcases h with ⟨-, -, rfl⟩ | h
  · exact trivial
  · cases s with
    | none =>
      rw [anD_none h]
      exact trivial
    | some o =>
      rw [anD_some o h]
      exact good_st G h
theorem dec_pos {n : Nat} {args : List Nat} {c : Kp417.Call} (h : Dec n args c) : 1 ≤ n ∧ n ≤ 43 := by
  cases h <;> exact ⟨by decide, by decide⟩
theorem dec_not {n : Nat} {args : List Nat} {c : Kp417.Call} (h : Dec n args c) (hn : n ≠ 24) : stO none c = (none, [-11]) := by
  cases h <;> first | rfl | exact absurd rfl hn
theorem dec_size {n : Nat} {args : List Nat} {c : Kp417.Call} (h : DecR n args c) : atI (sizes.map V.int) ((n : Nat) : Int) = some (.int ((args.length : Nat) : Int)) ∧ inV (.int ((n : Nat) : Int)) (withList.map V.int) = false := by
  rcases h with ⟨rfl, rfl, -⟩ | h
  · exact ⟨rfl, rfl⟩
  · cases h <;> exact ⟨rfl, rfl⟩
abbrev s_many_behind : Stmt := top 119
theorem sc_many_behind : FnScope ["calls", "place", "number"] ["calls", "place"] (defScope s_many_behind) := ⟨rfl, rfl, rfl, by decide +kernel, rfl, by decide +kernel, by decide +kernel⟩
def t_many_behind (K : PySem.W.Frag) : TS :=
    (tSeq (tAsg (tOp (rIxL K) (tVar 0) (tVar 1)) (gName 2))
    (tSeq (tIfS (tTest (tOp (rIn K false) (tVar 2) (tC (.ref (He.ga K "WITH_LIST"))))) tNever tNext)
    (tRet (tOp (rIxT K) (tC (.ref (He.ga K "SIZES"))) (tVar 2)))))
def sp_many_behind (K : PySem.W.Frag) : Sp := SpF (ι := Addr × List Nat × Nat × Nat × Nat) (fun i vs H => vs = [.ref i.1, .int ((i.2.2.1 : Nat) : Int)] ∧ SqL K H i.1 (nats i.2.1) ∧ i.2.1[i.2.2.1]? = some i.2.2.2.1 ∧ atI (sizes.map V.int) ((i.2.2.2.1 : Nat) : Int) = some (.int ((i.2.2.2.2 : Nat) : Int)) ∧ inV (.int ((i.2.2.2.1 : Nat) : Int)) (withList.map V.int) = false)
  (fun i v _ => v = .int ((i.2.2.2.2 : Nat) : Int))
theorem nats_get' {l : List Nat} {i n : Nat} (h : l[i]? = some n) : atI (nats l) ((i : Nat) : Int) = some (.int ((n : Nat) : Int)) := atI_nat (by
  unfold nats
  rw [List.getElem?_map, h]
  rfl)
theorem rd_many_behind {K : PySem.W.Frag} {mg : Str → Option Value} {h : Heap} (T : Tx K mg h) {vs : List V} {H : Hp} {Q : VK} {E : XK} (hsp : sp_many_behind K vs H Q E) : t_many_behind K { nx := fun _ H' => Q .non H', rt := Q } (start ["calls", "place", "number"] vs) H := by
  obtain ⟨⟨a, l, i, n, s⟩, ⟨rfl, hq, hi, hs, hw⟩, k⟩ := hsp
  dsimp only at hq hi hs hw k ⊢
  refine Sg.go (H := H) ?_ (Ex.refl H)
  refine g_set (v := .int ((n : Nat) : Int)) (ev_op (ev_var rfl) (ev_var rfl) (rv_ixL hq (nats_get' hi))) ?_
  refine g_when (b := false) (et_test (ev_b (ev_op (ev_var rfl) ev_c (rv_inT (T.tw _) rfl rfl)) hw)) (fun z => nomatch z) (fun _ => ?_)
  exact g_retv (ev_op ev_c (ev_var rfl) (rv_ixT (T.ts _) hs)) fun H2 e2 => k _ _ e2 rfl
theorem ok_many_behind {P : Program} {w : World} {K : PySem.W.Frag} {mg : Str → Option Value} {base : Heap} {h : Heap} (T : Tx K mg h) : OkF P w K mg base 1 "many_behind" ["calls", "place"] (sp_many_behind K) :=
  mkOk T (st := s_many_behind) (N := ["calls", "place", "number"]) 83 83 sc_many_behind (by rintro vs H Q E ⟨_, ⟨rfl, _⟩, _⟩; rfl) (fun f cdv A outer s H vs Q E hr hsp => ⟨t_many_behind K, (pss_cons (ps_set (i := 2) sc_many_behind.nd rfl (Or.inl rfl) (pe_ix ix_list (pv 0) (pv 1) (fun _ _ => rfl)))
      (pss_cons (ps_if (pt_cmpR op_in_seq (pv 2) (pe_glob rfl (T.glo 136) rfl) rfl) pss_never pss_nil)
      (pss_one (ps_ret (pe_ix ix_tup (pe_glob rfl (T.glo 137) rfl) (pv 2) (fun _ _ => rfl)))))), rd_many_behind T hsp⟩) (fun _ _ _ _ _ _ us hl => match us, hl with | [_, _], _ => rfl)
theorem cv_many {K : PySem.W.Frag} {mg : Str → Option Value} {h : Heap} {σ : L2.St} {H : Hp} {ta : TA} (T : Tx K mg h) {a : Addr} {l : List Nat} {i n s : Nat} (ha : EvA ta σ H [.ref a, .int ((i : Nat) : Int)]) (hq : SqL K H a (nats l)) (hi : l[i]? = some n)
    (hs : atI (sizes.map V.int) ((n : Nat) : Int) = some (.int ((s : Nat) : Int))) (hw : inV (.int ((n : Nat) : Int)) (withList.map V.int) = false) : Ev (tCall (sp_many_behind K) [] E0 ta) σ H (.int ((s : Nat) : Int)) :=
  ev_callV (f := fun i : Addr × List Nat × Nat × Nat × Nat => V.int ((i.2.2.2.2 : Nat) : Int)) (a, l, i, n, s) ha fun H1 e => ⟨rfl, ex_l e hq, hi, hs, hw⟩
abbrev s_monitor_answer : Stmt := top 125
theorem sc_monitor_answer : FnScope ["monitor", "number", "given"] ["monitor", "number", "given"] (defScope s_monitor_answer) := ⟨rfl, rfl, rfl, by decide +kernel, rfl, by decide +kernel, by decide +kernel⟩
def t_monitor_answer (K : PySem.W.Frag) : TS :=
    (tSeq (tIfS (tAnd (tB (tNeI (tVar 1) (tC (.int 24)))) (tB (tIsN (tFld K (tVar 0) "setting")))) (tRet (tLst (tCons (tC (.int (-11))) tNil))) tNext)
    (tSeq (tIfS (tB (tLe (tVar 1) (tC (.int 7)))) (tRet (tCall (sp_change_policies K) [] E0 (tCons (tVar 0) (tCons (tVar 1) (tCons (tVar 2) tNil))))) tNext)
    (tSeq (tIfS (tB (tLe (tVar 1) (tC (.int 15)))) (tRet (tCall (sp_ask_beliefs K) [] E0 (tCons (tVar 0) (tCons (tVar 1) (tCons (tVar 2) tNil))))) tNext)
    (tSeq (tIfS (tB (tLe (tVar 1) (tC (.int 23)))) (tRet (tCall (sp_ask_tests K) [] E0 (tCons (tVar 0) (tCons (tVar 1) (tCons (tVar 2) tNil))))) tNext)
    (tSeq (tIfS (tB (tLe (tVar 1) (tC (.int 29)))) (tRet (tCall (sp_change_setting K) [] E0 (tCons (tVar 0) (tCons (tVar 1) (tCons (tVar 2) tNil))))) tNext)
    (tRet (tCall (sp_ask_setting K) [] E0 (tCons (tVar 0) (tCons (tVar 1) (tCons (tVar 2) tNil))))))))))
def sp_monitor_answer (K : PySem.W.Frag) : Sp := fun vs H Q _ => ∃ i : Addr × Option Mo × Nat × Addr × List Nat × Kp417.Call, (vs = [.ref i.1, .int ((i.2.2.1 : Nat) : Int), .ref i.2.2.2.1] ∧ MonO K H i.1 i.2.1 ∧ GoodO i.2.1 ∧ H i.2.2.2.1 = some (.lst (nats i.2.2.2.2.1)) ∧ Dec i.2.2.1 i.2.2.2.2.1 i.2.2.2.2.2) ∧ ∀ v H2, PostO K H i.1 (stO i.2.1 i.2.2.2.2.2).1 (stO i.2.1 i.2.2.2.2.2).2 v H2 → Q v H2
theorem rd_monitor_answer {K : PySem.W.Frag} {mg : Str → Option Value} {h : Heap} (T : Tx K mg h) {vs : List V} {H : Hp} {Q : VK} {E : XK} (hsp : sp_monitor_answer K vs H Q E) : t_monitor_answer K { nx := fun _ H' => Q .non H', rt := Q } (start ["monitor", "number", "given"] vs) H := by
  obtain ⟨⟨mo, o, n, gl, args, c⟩, ⟨rfl, hO, G, hg, hD⟩, k⟩ := hsp
  dsimp only at hO G hg hD k ⊢
  refine Sg.go (H := H) ?_ (Ex.refl H)
  obtain ⟨p1, p43⟩ := dec_pos hD
  have hs : ∃ v, Ev (tFld K (tVar 0) "setting") (start ["monitor", "number", "given"] [.ref mo, .int ((n : Nat) : Int), .ref gl]) H v ∧ (v = .non ↔ o = none) := by
    cases o with
    | none =>
      obtain ⟨dx, pl, ll, h1, h2, h3⟩ := hO
      exact ⟨_, ev_fld (T.cls 127) (T.noat 129) (ev_var rfl) h1 mF_setting, fun _ => rfl, fun _ => rfl⟩
    | some m =>
      obtain ⟨L, hM⟩ := hO
      exact ⟨_, evM_setting T hM (ev_var rfl), (fun z => nomatch z), (fun z => nomatch z)⟩
  obtain ⟨v, hv, hvo⟩ := hs
  refine g_when (et_and (et_B (ev_cmp (ev_var rfl) ev_c)) fun _ => et_B (ev_isN hv)) (fun hb => ?_) (fun hb => ?_)
  · rw [Bool.and_eq_true] at hb
    have h1 : n ≠ 24 := fun z => by
      rw [z] at hb
      exact absurd hb.1 (by decide)
    have h2 : o = none := hvo.mp (of_decide_eq_true hb.2)
    subst h2
    rw [dec_not hD h1] at k
    exact g_err fun v H2 e2 r => k v H2 ⟨r, hO.mono e2, KT.of_ex e2⟩
  · have hne : n ≠ 24 → o ≠ none := fun h1 h2 => by
      rw [Bool.and_eq_false_iff] at hb
      rcases hb with hb | hb
      · have : (((n : Nat) : Int)) = 24 := by simpa using hb
        omega
      · exact absurd (hvo.mpr h2) (of_decide_eq_false hb)
    refine g_when (b := decide (((n : Nat) : Int) ≤ 7)) (by wtm_at "ev") (fun hb => ?_) (fun hb => ?_)
    · have h7 : n ≤ 7 := by
        have := of_decide_eq_true hb
        omega
      cases o with
      | none => exact absurd rfl (hne (by omega))
      | some m =>
        obtain ⟨L, hM⟩ := hO
        exact g_retC (K := K) (mo, m, L, n, gl, args, c) (by wtm_at "ev") (fun H1 e => ⟨rfl, hM.mono e, G, e _ _ hg, hD, p1, h7⟩) fun v H2 post => k v H2 ⟨post.ans, post.mon, KT.of_ky hM post.keep⟩
    have n7 : ¬ n ≤ 7 := fun z => of_decide_eq_false hb (by omega)
    refine g_when (b := decide (((n : Nat) : Int) ≤ 15)) (by wtm_at "ev") (fun hb => ?_) (fun hb => ?_)
    · have h7 : n ≤ 15 := by
        have := of_decide_eq_true hb
        omega
      cases o with
      | none => exact absurd rfl (hne (by omega))
      | some m =>
        obtain ⟨L, hM⟩ := hO
        exact g_retC (K := K) (mo, m, L, n, gl, args, c) (by wtm_at "ev") (fun H1 e => ⟨rfl, hM.mono e, G, e _ _ hg, hD, (by show 8 ≤ n; omega), h7⟩) fun v H2 post => k v H2 ⟨post.ans, post.mon, KT.of_ky hM post.keep⟩
    have n15 : ¬ n ≤ 15 := fun z => of_decide_eq_false hb (by omega)
    refine g_when (b := decide (((n : Nat) : Int) ≤ 23)) (by wtm_at "ev") (fun hb => ?_) (fun hb => ?_)
    · have h7 : n ≤ 23 := by
        have := of_decide_eq_true hb
        omega
      cases o with
      | none => exact absurd rfl (hne (by omega))
      | some m =>
        obtain ⟨L, hM⟩ := hO
        exact g_retC (K := K) (mo, m, L, n, gl, args, c) (by wtm_at "ev") (fun H1 e => ⟨rfl, hM.mono e, G, e _ _ hg, hD, (by show 16 ≤ n; omega), h7⟩) fun v H2 post => k v H2 ⟨post.ans, post.mon, KT.of_ky hM post.keep⟩
    have n23 : ¬ n ≤ 23 := fun z => of_decide_eq_false hb (by omega)
    refine g_when (b := decide (((n : Nat) : Int) ≤ 29)) (by wtm_at "ev") (fun hb => ?_) (fun hb => ?_)
    · have h7 : n ≤ 29 := by
        have := of_decide_eq_true hb
        omega
      intro H1 e
      refine (show EvA _ _ H [.ref mo, .int ((n : Nat) : Int), .ref gl] from by wtm_at "ev") H1 e _ fun H2 e2 => ?_
      exact ⟨(mo, o, n, gl, args, c), ⟨rfl, hO.mono (e.trans e2), G, (e.trans e2) _ _ hg, hD, (by show 24 ≤ n; omega), h7, hne⟩, fun v H3 post => k v H3 ⟨post.ans, post.mon, (KT.of_ex (e.trans e2)).trans post.keep⟩⟩
    have n29 : ¬ n ≤ 29 := fun z => of_decide_eq_false hb (by omega)
    cases o with
    | none => exact absurd rfl (hne (by omega))
    | some m =>
      obtain ⟨L, hM⟩ := hO
      exact g_retC (K := K) (mo, m, L, n, gl, args, c) (by wtm_at "ev") (fun H1 e => ⟨rfl, hM.mono e, G, e _ _ hg, hD, (by show 30 ≤ n; omega), p43⟩) fun v H2 post => k v H2 ⟨post.ans, post.mon, KT.of_ky hM post.keep⟩
theorem ok_monitor_answer {P : Program} {w : World} {K : PySem.W.Frag} {mg : Str → Option Value} {base : Heap} {h : Heap} (T : Tx K mg h) : OkF P w K mg base 11 "monitor_answer" ["monitor", "number", "given"] (sp_monitor_answer K) :=
  mkOk T (st := s_monitor_answer) (N := ["monitor", "number", "given"]) 89 89 sc_monitor_answer (by rintro vs H Q E ⟨_, ⟨rfl, _⟩, _⟩; rfl) (fun f cdv A outer s H vs Q E hr hsp => ⟨t_monitor_answer K, (pss_cons (ps_if (PW.pt (pw_and (pt_cmp (pc_neI (pv 1) pe_int)) (pw_and1 (pt_cmp (pc_isN (pe_fld (pv 0) rfl)))))) (pss_one (ps_ret (pe_lst (pa_cons (pe_gint (T.int 100) rfl) pa_nil)))) pss_nil)
      (pss_cons (ps_if (pt_cmp (pc_le (pv 1) pe_int)) (pss_one (ps_ret (pe_callO (ok_change_policies T) (hr.mono (by decide)) rfl (pa_cons (pv 0) (pa_cons (pv 1) (pa_cons (pv 2) pa_nil)))))) pss_nil)
      (pss_cons (ps_if (pt_cmp (pc_le (pv 1) pe_int)) (pss_one (ps_ret (pe_callO (ok_ask_beliefs T) (hr.mono (by decide)) rfl (pa_cons (pv 0) (pa_cons (pv 1) (pa_cons (pv 2) pa_nil)))))) pss_nil)
      (pss_cons (ps_if (pt_cmp (pc_le (pv 1) pe_int)) (pss_one (ps_ret (pe_callO (ok_ask_tests T) (hr.mono (by decide)) rfl (pa_cons (pv 0) (pa_cons (pv 1) (pa_cons (pv 2) pa_nil)))))) pss_nil)
      (pss_cons (ps_if (pt_cmp (pc_le (pv 1) pe_int)) (pss_one (ps_ret (pe_callO (ok_change_setting T) (hr.mono (by decide)) rfl (pa_cons (pv 0) (pa_cons (pv 1) (pa_cons (pv 2) pa_nil)))))) pss_nil)
      (pss_one (ps_ret (pe_callO (ok_ask_setting T) (hr.mono (by decide)) rfl (pa_cons (pv 0) (pa_cons (pv 1) (pa_cons (pv 2) pa_nil))))))))))), rd_monitor_answer T hsp⟩) (fun _ _ _ _ _ _ us hl => match us, hl with | [_, _, _], _ => rfl)
/-- lists, and what is locked, stand -/
structure KL (H H' : Hp) : Prop where
  lst : ∀ b xs, H b = some (.lst xs) → H' b = some (.lst xs)
  frz : ∀ b o u, H b = some (.frz o u) → H' b = some (.frz o u)
structure PostD (K : PySem.W.Frag) (H : Hp) (d : Addr) (s' : Kp417.State) (ans : List Int) (v : V) (H2 : Hp) : Prop where
  ans : LsI v H2 ans
  desk : DeskAt K H2 d s'
  keep : KL H H2
theorem DeskAt.fld {K : PySem.W.Frag} {H : Hp} {d : Addr} : ∀ {s : Kp417.State}, DeskAt K H d s → ∃ dx v, H d = some (.ins (He.ga K "Desk") dx [("monitor", v)]) ∧ (v = .non ↔ s = none)
  | none, ⟨dx, h⟩ => ⟨dx, _, h, fun _ => rfl, fun _ => rfl⟩
  | some _, ⟨dx, a, h, _⟩ => ⟨dx, _, h, (fun z => nomatch z), (fun z => nomatch z)⟩
theorem g_retS {sp : Sp} {ta : TA} {vs : List V} {σ : L2.St} {H : Hp} {D : Ends} (h : EvA ta σ H vs) (k : ∀ H2, Ex H H2 → sp vs H2 D.rt E0) : Sg (tRet (tCall sp [] E0 ta)) D σ H := fun H1 e => h H1 e _ fun H2 e2 => by
  rw [List.append_nil]
  exact k H2 (e.trans e2)
abbrev s_answer : Stmt := top 126
theorem sc_answer : FnScope ["desk", "number", "given"] ["desk", "number", "given"] (defScope s_answer) := ⟨rfl, rfl, rfl, by decide +kernel, rfl, by decide +kernel, by decide +kernel⟩
def t_answer (K : PySem.W.Frag) : TS :=
    (tSeq (tIfS (tB (tEqI (tVar 1) (tC (.int 0)))) (tSeq (sFld K (tVar 0) (tMake (He.ga K "Monitor") (sp_Monitor K) [] E0 tNil) "monitor")
    (tRet (tLst (tCons (tC (.int 0)) tNil)))) tNext)
    (tSeq (tIfS (tB (tIsN (tFld K (tVar 0) "monitor"))) (tRet (tLst (tCons (tC (.int (-11))) tNil))) tNext)
    (tRet (tCall (sp_monitor_answer K) [] E0 (tCons (tFld K (tVar 0) "monitor") (tCons (tVar 1) (tCons (tVar 2) tNil)))))))
def sp_answer (K : PySem.W.Frag) : Sp := fun vs H Q _ => ∃ i : Addr × Kp417.State × Nat × Addr × List Nat × Kp417.Call, (vs = [.ref i.1, .int ((i.2.2.1 : Nat) : Int), .ref i.2.2.2.1] ∧ DeskAt K H i.1 i.2.1 ∧ GoodD i.2.1 ∧ H i.2.2.2.1 = some (.lst (nats i.2.2.2.2.1)) ∧ DecR i.2.2.1 i.2.2.2.2.1 i.2.2.2.2.2) ∧ ∀ v H2, PostD K H i.1 (anD i.2.1 i.2.2.2.2.2).1 (anD i.2.1 i.2.2.2.2.2).2 v H2 → Q v H2
theorem rd_answer {K : PySem.W.Frag} {mg : Str → Option Value} {h : Heap} (T : Tx K mg h) {vs : List V} {H : Hp} {Q : VK} {E : XK} (hsp : sp_answer K vs H Q E) : t_answer K { nx := fun _ H' => Q .non H', rt := Q } (start ["desk", "number", "given"] vs) H := by
  obtain ⟨⟨d, s, n, gl, args, c⟩, ⟨rfl, hd, G, hg, hD⟩, k⟩ := hsp
  dsimp only at hd G hg hD k ⊢
  refine Sg.go (H := H) ?_ (Ex.refl H)
  obtain ⟨dx, w, h1, hw⟩ := hd.fld
  rcases hD with ⟨rfl, rfl, rfl⟩ | hD
  · refine g_when (b := true) (et_B (ev_b (ev_cmp (ev_var rfl) ev_c) (by decide))) (fun _ => ?_) (fun z => nomatch z)
    rw [anD_reset] at k
    refine w_fldR (R := fun v H2 => ∃ p, v = .ref p ∧ MonO K H2 p none) (T.cls 133) (T.noat 135) (fun H1 e1 Q q => ?_) (ev_var rfl) h1 (by show 1 < 1000; decide) fun y H2 e2 r H3 x3 h3' => ?_
    · refine (ea_nil : EvA tNil _ H _) H1 e1 _ fun H2 e2 x d hx hd hne => ?_
      exact ⟨(x, d), ⟨rfl, upd_same⟩, fun H3 k3 hf => ⟨rfl, q _ H3 (e2.trans (made_ex hx hd k3)) ⟨x, rfl, hf⟩⟩⟩
    · obtain ⟨p, rfl, dx', pl, ll, q1, q2, q3⟩ := r
      have h1' := e2 _ _ h1
      have hp : putF "monitor" (.ref p) ([("monitor", w)] : List (Str × V)) = ([("monitor", .ref p)] : List (Str × V)) := put_here
      rw [hp] at h3'
      have kt : KL H2 H3 := ⟨fun b xs h => x3.lst h1' h, fun b o u h => x3 _ _ h (ne_of h h1' (by intro z; cases z))⟩
      have kx : KL H H2 := ⟨fun b xs h => e2 _ _ h, fun b o u h => e2 _ _ h⟩
      refine g_err fun v H4 e4 r => k v H4 ⟨r, ⟨dx, p, e4 _ _ h3', dx', pl, ll, e4 _ _ (x3 _ _ q1 (ne_of q1 h1' (len_ne (by show 4 ≠ 1; decide)))), e4 _ _ (x3.lst h1' q2), e4 _ _ (x3.lst h1' q3)⟩, fun b xs h => e4 _ _ (kt.lst _ _ (kx.lst _ _ h)), fun b o u h => e4 _ _ (kt.frz _ _ _ (kx.frz _ _ _ h))⟩
  · obtain ⟨p1, p43⟩ := dec_pos hD
    refine g_when (b := decide (((n : Nat) : Int) = 0)) (by wtm_at "ev") (fun hb => ?_) (fun _ => ?_)
    · have := of_decide_eq_true hb
      omega
    have hv : Ev (tFld K (tVar 0) "monitor") (start ["desk", "number", "given"] [.ref d, .int ((n : Nat) : Int), .ref gl]) H w := ev_fld (T.cls 133) (T.noat 135) (ev_var rfl) h1 lk_here
    refine g_when (et_B (ev_isN hv)) (fun hb => ?_) (fun hb => ?_)
    · have e : s = none := hw.mp (of_decide_eq_true hb)
      subst e
      rw [anD_none hD] at k
      exact g_err fun v H2 e2 r => k v H2 ⟨r, hd.mono e2, fun b xs h => e2 _ _ h, fun b o u h => e2 _ _ h⟩
    · cases s with
      | none => exact absurd (hw.mpr rfl) (of_decide_eq_false hb)
      | some o =>
        rw [anD_some o hD] at k
        obtain ⟨dx2, a, h2, hM⟩ := hd
        have ew : w = .ref a := by
          rw [h1] at h2
          cases h2
          rfl
        subst ew
        refine g_retS (vs := [.ref a, .int ((n : Nat) : Int), .ref gl]) (ea_cons hv (ea_cons (ev_var rfl) (ea_cons (ev_var rfl) ea_nil))) fun H2 e' => ?_
        exact ⟨(a, o, n, gl, args, c), ⟨rfl, hM.mono e', G, e' _ _ hg, hD⟩, fun v H3 post => k v H3 ⟨post.ans, ⟨dx2, a, post.keep.one _ _ _ _ rfl (e' _ _ h2), post.mon⟩, fun b xs h => post.keep.lst _ _ (e' _ _ h), fun b o u h => post.keep.frz _ _ _ (e' _ _ h)⟩⟩
theorem ok_answer {P : Program} {w : World} {K : PySem.W.Frag} {mg : Str → Option Value} {base : Heap} {h : Heap} (T : Tx K mg h) : OkF P w K mg base 12 "answer" ["desk", "number", "given"] (sp_answer K) :=
  mkOk T (st := s_answer) (N := ["desk", "number", "given"]) 90 90 sc_answer (by rintro vs H Q E ⟨_, ⟨rfl, _⟩, _⟩; rfl) (fun f cdv A outer s H vs Q E hr hsp => ⟨t_answer K, (pss_cons (ps_if (pt_cmp (pc_eqI (pv 1) pe_int)) (pss_cons (ps_fld (pv 0) (pe_makeO0 (ok_Monitor T) (hr.mono (by decide)) rfl) rfl)
      (pss_one (ps_ret (pe_lst (pa_cons pe_int pa_nil))))) pss_nil)
      (pss_cons (ps_if (pt_cmp (pc_isN (pe_fld (pv 0) rfl))) (pss_one (ps_ret (pe_lst (pa_cons (pe_gint (T.int 100) rfl) pa_nil)))) pss_nil)
      (pss_one (ps_ret (pe_callO (ok_monitor_answer T) (hr.mono (by decide)) rfl (pa_cons (pe_fld (pv 0) rfl) (pa_cons (pv 1) (pa_cons (pv 2) pa_nil)))))))), rd_answer T hsp⟩) (fun _ _ _ _ _ _ us hl => match us, hl with | [_, _, _], _ => rfl)
end Pw
namespace Pw
open PySem PySem.Spec PyProof.Rows L2 Evl
theorem cut_mid (pre : List Nat) (n : Nat) (args rest : List Nat) : cutV (nats (pre ++ n :: (args ++ rest))) (some ((pre.length + 1 : Nat) : Int)) (some ((pre.length + 1 + args.length : Nat) : Int)) = nats args := by
  unfold cutV
  rw [HT.sIx_nat, HT.sIx_nat, nats_len]
  have l : (pre ++ n :: (args ++ rest)).length = pre.length + 1 + args.length + rest.length := by
    simp only [List.length_append, List.length_cons]
    omega
  rw [l, Nat.min_eq_left (by omega), Nat.min_eq_left (by omega), Nat.add_sub_cancel_left]
  unfold nats
  rw [← List.map_drop, ← List.map_take]
  have d : (pre ++ n :: (args ++ rest)).drop (pre.length + 1) = args ++ rest := by
    rw [show pre ++ n :: (args ++ rest) = (pre ++ [n]) ++ (args ++ rest) by simp]
    exact List.drop_left' (by simp)
  rw [d, List.take_left' rfl]
section
variable {K : PySem.W.Frag} {σ : L2.St} {H : Hp} {D : Ends} {tz : TS} {ta te : TE}
theorem g_appS {p : Addr} {xs : List V} {v : V} (hp : H p = some (.lst xs)) (ha : Ev ta σ H (.ref p)) (hv : Ev te σ H v) (hz : xs.length < sizeLine) (k : ∀ H1, Ex H H1 → Sg tz D σ (upd H1 p (.lst (xs ++ [v])))) :
    Sg (tSeq (tDrop (tBM K "list" rAppend ta (tCons te tNil))) tz) D σ H := fun H0 e =>
  ha H0 e _ fun H1 e1 => ⟨Or.inl ⟨rfl, xs, sq_of ((e.trans e1) p _ hp)⟩, hv H1 (e.trans e1) _ fun H2 e2 => ⟨p, xs, v, rfl, rfl, ((e.trans e1).trans e2) p _ hp, hz, k H2 ((e.trans e1).trans e2) _ (Ex.refl _)⟩⟩
theorem g_extS {p q : Addr} {xs zs : List V} (hp : H p = some (.lst xs)) (hq : H q = some (.lst zs)) (ha : Ev ta σ H (.ref p)) (hv : Ev te σ H (.ref q)) (hz : xs.length + zs.length ≤ sizeLine) (k : ∀ H1, Ex H H1 → Sg tz D σ (upd H1 p (.lst (xs ++ zs)))) :
    Sg (tSeq (tDrop (tBM K "list" rExtend ta (tCons te tNil))) tz) D σ H := fun H0 e =>
  ha H0 e _ fun H1 e1 => ⟨Or.inl ⟨rfl, xs, sq_of ((e.trans e1) p _ hp)⟩, hv H1 (e.trans e1) _ fun H2 e2 => ⟨p, q, xs, zs, rfl, rfl, ((e.trans e1).trans e2) p _ hp, ((e.trans e1).trans e2) q _ hq, hz, k H2 ((e.trans e1).trans e2) _ (Ex.refl _)⟩⟩
end
theorem sq_hold {K : PySem.W.Frag} {H H1 : Hp} {f a : Addr} {u : HO} {xs : List V} (h : SqL K (hid f H) a xs) (k : KL (upd H f u) H1) : SqL K (hid f H1) a xs := by
  rcases h with (h | ⟨o, h⟩) | h
  · obtain ⟨n, h⟩ := hid_back h
    exact .inl (.inl (by rw [hid_ne n]; exact k.lst _ _ (by rw [upd_ne n]; exact h)))
  · obtain ⟨n, h⟩ := hid_back h
    exact .inl (.inr ⟨o, by rw [hid_ne n]; exact k.frz _ _ _ (by rw [upd_ne n]; exact h)⟩)
  · exact .inr h
/-- one expression stored, a list held still the while -/
theorem g_hold {σ : L2.St} {H : Hp} {D : Ends} {tz : TS} {te : TE} {i : Nat} {f : Addr} {xs : List V} (hf : H f = some (.lst xs))
    (k : ∀ H1, Ex H H1 → ∀ o, te σ (upd H1 f (.frz o (.lst xs))) fun v H2 => H2 f = some (.frz o (.lst xs)) ∧ tz D (σ.set i (some v)) (upd H2 f (.lst xs))) : Sg (tSeq (tAsg (tHold te) (gName i)) tz) D σ H :=
  fun H1 e => ⟨f, xs, e _ _ hf, fun o => k H1 e o⟩
theorem call3 {σ : L2.St} {H : Hp} {t1 t2 t3 : TE} {x y : V} {xs : List V} {sp : Sp} {Q : VK} (h1 : Ev t1 σ H x) (h2 : Ev t2 σ H y) (h3 : EvL t3 σ H xs) (k : ∀ p H2, Ex H H2 → H2 p = some (.lst xs) → sp [x, y, .ref p] H2 Q E0) :
    tCall sp [] E0 (tCons t1 (tCons t2 (tCons t3 tNil))) σ H Q := h1 H (Ex.refl H) _ fun H2 e2 => h2 H2 e2 _ fun H3 e3 => h3 H3 (e2.trans e3) _ fun p H4 hp e4 h4 => k p H4 ((e2.trans e3).trans e4) h4
/-- as mkOk, one function object for every base -/
theorem mkOkE {P : Program} {w : World} {K : PySem.W.Frag} {mg : Str → Option Value} {h : Heap} (T : Tx K mg h) {st : Stmt} {x : Str} {N ps : List Str} {k : Nat} {sp : Sp} (i j : Nat) (S : FnScope N ps (defScope st)) (len : ∀ vs H Q E, sp vs H Q E → vs.length = ps.length)
    (hbody : ∀ (base : Heap) (f : Addr) (cdv : Value) (A : Around) (outer : List Env) (s : Shared) (H : Hp) (vs : List V) (Q : VK) (E : XK), Room k (A.deeper (envOfC x (defScope st) s.heap.objs.size f cdv)) → sp vs H Q E →
      ∃ t, PSs (cxOf CX0 P w K mg base N x (defScope st) f cdv A outer s H E).nox (defBody st) t ∧ t { nx := fun _ H' => Q .non H', rt := Q } (start N vs) H)
    (hb : ∀ (kV doc pm : Value) (an : Option Addr) (cdv ct : Value) (us : List Value), us.length = ps.length → bindArgs (PySem.W.fnOf x x (defArgs st) (defBody st) (defScope st) .none kV doc pm an cdv ct) ⟨us, []⟩ = pure (ps.zip us))
    (hj : fn[j]? = some ⟨(x, none), x, x, defArgs st, defBody st, defScope st, [], []⟩ := by rfl) : ∃ fd : FuncData, (∀ (s : Shared) (us : List Value), us.length = ps.length → BindsTo s fd ⟨us, []⟩ (ps.zip us)) ∧ ∀ base : Heap, FnOk P w K mg base CX0 (k + 1) (He.ga K x) fd ps sp := by
  obtain ⟨fd, F⟩ := T.d.def_ j hj
  have F' : FunD K x x (defArgs st) (defBody st) (defScope st) [] [] (He.ga K x) fd := F
  exact ⟨fd, F'.bindsA hb, fun base => F'.ok S len fun cdv A outer s H vs Q E hr hsp => by
    obtain ⟨t, h1, h2⟩ := hbody base _ cdv A outer s H vs Q E hr hsp
    exact ⟨t, h1.nox, h2⟩⟩
abbrev s_answers : Stmt := top 127
theorem sc_answers : FnScope ["calls", "desk", "found", "place", "behind", "one"] ["calls"] (defScope s_answers) := ⟨rfl, rfl, rfl, by decide +kernel, rfl, by decide +kernel, by decide +kernel⟩
def t_answers (K : PySem.W.Frag) : TS :=
    (tSeq (tAsg (tMake (He.ga K "Desk") (sp_Desk K) [] E0 tNil) (gName 1))
    (tSeq (tAsg (tLst tNil) (gName 2))
    (tSeq (tAsg (tC (.int 0)) (gName 3))
    (tSeq (tWhile (tB (tLt (tVar 3) (tCB (rLenS K) (tCons (tVar 0) tNil)))) (tSeq (tAsg (tOp (rI0 fun i j => .int (i + j)) (tOp (rI0 fun i j => .int (i + j)) (tVar 3) (tC (.int 1))) (tCall (sp_many_behind K) [] E0 (tCons (tVar 0) (tCons (tVar 3) tNil)))) (gName 4))
    (tSeq (tAsg (tHold (tCall (sp_answer K) [] E0 (tCons (tVar 1) (tCons (tOp (rIxL K) (tVar 0) (tVar 3)) (tCons (tSl (rSlL K) (tVar 0) (tPart (tOp (rI0 fun i j => .int (i + j)) (tVar 3) (tC (.int 1)))) (tPart (tVar 4))) tNil))))) (gName 5))
    (tSeq (tDrop (tBM K "list" rAppend (tVar 2) (tCons (tCB (rLenS K) (tCons (tVar 5) tNil)) tNil)))
    (tSeq (tDrop (tBM K "list" rExtend (tVar 2) (tCons (tVar 5) tNil)))
    (tAsg (tVar 4) (gName 3)))))))
    (tRet (tVar 2))))))
def sp_answers (K : PySem.W.Frag) : Sp := fun vs H Q _ => ∃ i : Addr × List Row, (vs = [.ref i.1] ∧ SqL K H i.1 (nats (putN i.2)) ∧ (∀ r ∈ i.2, DecR r.1 r.2.1 r.2.2) ∧ (toldR none i.2).length ≤ 10000000) ∧ ∀ v H2, LsI v H2 (toldR none i.2) → Q v H2
def InvA (K : PySem.W.Frag) (a d f : Addr) (rows : List Row) (m : Nat) (σ : L2.St) (H : Hp) : Prop := ∃ (pre : List Nat) (acc : List Int) (s : Kp417.State) (rest : List Row) (v4 v5 : Option V), σ = [some (.ref a), some (.ref d), some (.ref f), some (.int ((pre.length : Nat) : Int)), v4, v5] ∧ m = rest.length ∧ putN rows = pre ++ putN rest ∧
  toldR none rows = acc ++ toldR s rest ∧ DeskAt K (hid f H) d s ∧ GoodD s ∧ (∀ r ∈ rest, DecR r.1 r.2.1 r.2.2) ∧ H f = some (.lst (acc.map V.int)) ∧ SqL K (hid f H) a (nats (putN rows))
theorem rd_answers {K : PySem.W.Frag} {mg : Str → Option Value} {h : Heap} (T : Tx K mg h) {vs : List V} {H : Hp} {Q : VK} {E : XK} (hsp : sp_answers K vs H Q E) : t_answers K { nx := fun _ H' => Q .non H', rt := Q } (start ["calls", "desk", "found", "place", "behind", "one"] vs) H := by
  obtain ⟨⟨a, rows⟩, ⟨rfl, hq, hD, hz⟩, k⟩ := hsp
  dsimp only at hq hD hz k ⊢
  refine Sg.go (H := H) ?_ (Ex.refl H)
  refine g_make (vs := []) ea_nil fun d dx H1 e1 nd ndx hne => ?_
  refine ⟨(d, dx), ⟨rfl, upd_same⟩, fun H2 k2 h2 => ⟨rfl, ?_⟩⟩
  have e2 : Ex H H2 := e1.trans (made_ex nd ndx k2)
  refine Sg.go (H := H2) ?_ (Ex.refl H2)
  refine g_setL (xs := []) (el_lst ea_nil (Nat.zero_le _)) fun f H3 e3 nf hf => ?_
  refine g_set (v := .int 0) ev_c ?_
  refine g_while (InvA K a d f rows) rows.length (fun H4 e4 => ⟨[], [], none, rows, none, none, rfl, rfl, rfl, rfl, ?_, trivial, hD, e4 _ _ hf, ?_⟩) ?_
  · exact ⟨dx, hid_new nf (e3.trans e4) _ _ h2⟩
  · exact ex_l (e2.trans (hid_new nf (e3.trans e4))) hq
  rintro m σ' H' ⟨pre, acc, s, rest, v4, v5, rfl, rfl, hput, htold, hd, hG, hDr, hf', hq'⟩
  have sqH : SqL K H' a (nats (putN rows)) := ex_l hid_ex hq'
  refine ⟨_, et_B (ev_cmp (ev_var rfl) (ev_len (ev_var rfl) sqH)), fun hb => ?_, fun hb => ?_⟩
  · cases rest with
    | nil =>
      exfalso
      rw [hput, nats_len] at hb
      have := of_decide_eq_true hb
      simp [putN] at this
    | cons r rest =>
      obtain ⟨n, args, c⟩ := r
      have hr : DecR n args c := hDr _ List.mem_cons_self
      obtain ⟨hs, hw⟩ := dec_size hr
      have hpr : putN rows = pre ++ n :: (args ++ putN rest) := hput
      have hget : (putN rows)[pre.length]? = some n := by
        rw [hpr, List.getElem?_append_right (Nat.le_refl _), Nat.sub_self]
        rfl
      refine ⟨InvA K a d f rows rest.length, fun σ2 H2 w => ⟨rest.length, Nat.lt_succ_self _, w⟩, ?_⟩
      refine g_set (v := .int ((pre.length + 1 + args.length : Nat) : Int)) (ev_i (ev_add (ev_add (ev_var rfl) ev_c) (cv_many T (ea_cons (ev_var rfl) (ea_cons (ev_var rfl) ea_nil)) sqH hget hs hw)) (by omega)) ?_
      refine g_hold hf' fun H1 e1 o => ?_
      have ex0 : Ex (hid f H') (upd H1 f (.frz o (.lst (acc.map V.int)))) := (hid_mono e1).trans hid_upd
      have sq0 := ex_l ex0 hq'
      refine call3 (x := .ref d) (y := .int ((n : Nat) : Int)) (ev_var rfl) (ev_op (ev_var rfl) (ev_var rfl) (rv_ixL sq0 (nats_get' hget)))
        (el_sl (ev_var rfl) (eo_some (ev_i (b := ((pre.length + 1 : Nat) : Int)) (ev_add (ev_var rfl) ev_c) (by omega))) (eo_some (ev_var rfl)) sq0) fun p H4 e24 h4 => ?_
      rw [hpr, cut_mid] at h4
      refine ⟨(d, s, n, p, args, c), ⟨rfl, hd.mono (ex0.trans e24), hG, h4, hr⟩, fun v H5 post => ?_⟩
      have hfz : H5 f = some (.frz o (.lst (acc.map V.int))) := post.keep.frz _ _ _ (e24 _ _ upd_same)
      refine ⟨hfz, ?_⟩
      obtain ⟨ans, desk, keep⟩ := post
      obtain ⟨q, rfl, hqv⟩ := ans
      have nq : q ≠ f := ne_of hqv hfz (by intro z; cases z)
      have htl : toldR none rows = acc ++ (((anD s c).2.length : Int) :: ((anD s c).2 ++ toldR (anD s c).1 rest)) := htold
      have hlen : acc.length + 1 + (anD s c).2.length ≤ 10000000 := by
        rw [htl] at hz
        simp only [List.length_append, List.length_cons] at hz
        omega
      have z24 : sizeLine = 16777216 := rfl
      have hq6 : (upd H5 f (.lst (acc.map V.int))) q = some (.lst ((anD s c).2.map V.int)) := by
        rw [upd_ne nq]
        exact hqv
      refine Sg.go (H := upd H5 f (.lst (acc.map V.int))) ?_ (Ex.refl _)
      refine g_appS (v := .int (((anD s c).2.length : Nat) : Int)) upd_same (ev_var rfl) (ev_i (ev_len (ev_var rfl) (sq_of hq6)) (by rw [List.length_map])) (by rw [List.length_map]; omega) fun H6 e6 => ?_
      refine g_extS (zs := (anD s c).2.map V.int) upd_same (by rw [upd_ne nq]; exact e6 _ _ hq6) (ev_var rfl) (ev_var rfl) (by simp only [List.length_append, List.length_map, List.length_cons, List.length_nil]; omega) fun H7 e7 => ?_
      refine g_set1 (v := .int ((pre.length + 1 + args.length : Nat) : Int)) (ev_var rfl) fun H8 e8 => ?_
      have x8 : Ex (hid f H5) (hid f H8) := by
        have x6 : Ex (hid f H5) (hid f H6) := by
          have := hid_mono (f := f) e6
          rw [hid_eq] at this
          exact this
        have x7 : Ex (hid f H6) (hid f H7) := by
          have := hid_mono (f := f) e7
          rw [hid_eq] at this
          exact this
        have x8 : Ex (hid f H7) (hid f H8) := by
          have := hid_mono (f := f) e8
          rw [hid_eq] at this
          exact this
        exact (x6.trans x7).trans x8
      have kl : KL (upd H1 f (.frz o (.lst (acc.map V.int)))) H5 := ⟨fun b xs h => keep.lst _ _ (e24 _ _ h), fun b o u h => keep.frz _ _ _ (e24 _ _ h)⟩
      refine ⟨pre ++ n :: args, acc ++ ((anD s c).2.length : Int) :: (anD s c).2, (anD s c).1, rest, some (.int ((pre.length + 1 + args.length : Nat) : Int)), some (.ref q), ?_, rfl, ?_, ?_, (desk.hd hfz).mono x8, good_d hG hr, fun r hr => hDr r (List.mem_cons_of_mem _ hr), ?_, ex_l x8 (sq_hold (ex_l (hid_mono e1) hq') kl)⟩
      · rw [List.length_append, List.length_cons, show pre.length + (args.length + 1) = pre.length + 1 + args.length by omega]
        rfl
      · rw [hpr]
        simp
      · rw [htl]
        simp
      · rw [e8 _ _ upd_same]
        simp
  · cases rest with
    | cons r rest =>
      exfalso
      rw [hput, nats_len] at hb
      have := of_decide_eq_false hb
      simp [putN] at this
      omega
    | nil =>
      exact g_retv (ev_var rfl) fun H2 e2 => k _ H2 ⟨f, rfl, by rw [e2 _ _ hf', htold]; simp [toldR]⟩
theorem okE_answers {P : Program} {w : World} {K : PySem.W.Frag} {mg : Str → Option Value} {h : Heap} (T : Tx K mg h) : ∃ fd : FuncData, (∀ (s : Shared) (us : List Value), us.length = (["calls"] : List Str).length → BindsTo s fd ⟨us, []⟩ ((["calls"] : List Str).zip us)) ∧ ∀ base : Heap, FnOk P w K mg base CX0 13 (He.ga K "answers") fd ["calls"] (sp_answers K) :=
  mkOkE T (st := s_answers) (N := ["calls", "desk", "found", "place", "behind", "one"]) 91 91 sc_answers (by rintro vs H Q E ⟨_, ⟨rfl, _⟩, _⟩; rfl) (fun base f cdv A outer s H vs Q E hr hsp => ⟨t_answers K, (pss_cons (ps_set (i := 1) sc_answers.nd rfl (Or.inl rfl) (pe_makeO0 (ok_Desk T) (hr.mono (by decide)) rfl))
      (pss_cons (ps_set (i := 2) sc_answers.nd rfl (Or.inl rfl) (pe_lst pa_nil))
      (pss_cons (ps_set (i := 3) sc_answers.nd rfl (Or.inl rfl) pe_int)
      (pss_cons (ps_while PassesOwn.never (pt_cmp (pc_lt (pv 3) (pe_callB call_len_seq rfl (T.free 95) bt_len (pa_cons (pv 0) pa_nil)))) (pss_cons (ps_set (i := 4) sc_answers.nd rfl (Or.inl rfl) (pe_op op_add (pe_op op_add (pv 3) pe_int) (pe_callO (ok_many_behind T) (hr.mono (by decide)) rfl (pa_cons (pv 0) (pa_cons (pv 3) pa_nil)))))
      (pss_cons (ps_set (i := 5) sc_answers.nd rfl (Or.inl rfl) (pe_hold (pe_callO (ok_answer T) (hr.mono (by decide)) rfl (pa_cons (pv 1) (pa_cons (pe_ix ix_list (pv 0) (pv 3) (fun _ _ => rfl)) (pa_cons (pe_slice sl_list (pv 0) (po_some (pe_op op_add (pv 3) pe_int)) (po_some (pv 4))) pa_nil))))))
      (pss_cons (ps_expr (pe_bm PySem.F.plainAttrs_list PySem.F.slot_list_append PySem.F.type_list_append mt_append (pv 2) (pa_cons (pe_callB call_len_seq rfl (T.free 95) bt_len (pa_cons (pv 5) pa_nil)) pa_nil)))
      (pss_cons (ps_expr (pe_bm PySem.F.plainAttrs_list PySem.F.slot_list_extend PySem.F.type_list_extend mt_extend (pv 2) (pa_cons (pv 5) pa_nil)))
      (pss_one (ps_set (i := 3) sc_answers.nd rfl (Or.inl rfl) (pv 4))))))))
      (pss_one (ps_ret (pv 2))))))), rd_answers T hsp⟩) (fun _ _ _ _ _ _ us hl => match us, hl with | [_], _ => rfl)
end Pw
namespace Pw
open PySem PySem.Spec PyProof.Rows L2 Evl
/-- the walk's end, the written part told by the head -/
theorem walkE {r : PySem.W.OpenSpec} {lv : Nat} {pq : Program} {ls : List Str} {XR : (Str → Option Value) → Heap → Prop} {YR : World → Heap → Prop} {dr : DefRec} {px : List Str} {pr : PySem.W.Frag → Sp}
    (wl : r.wellSaid = true) (ln : r.args.length = px.length) (room : Room lv callerA)
    (Fn : ∀ (w : World) (mg : Str → Option Value) (g : Addr) (hp : Heap), YR w hp → hp.Ns mainGlobals mg → mg dr.name = some (.ref g) →
      ∃ (K : PySem.W.Frag) (fd : FuncData), K.In hp ∧ (∀ (s : Shared) (us : List Value), us.length = px.length → BindsTo s fd ⟨us, []⟩ (px.zip us)) ∧ ∀ bs : Heap, K.In bs → bs.Ns mainGlobals mg → FnOk r.prog w K mg bs CX0 lv g fd px (pr K))
    (prom : ∀ (K : PySem.W.Frag) (H : Hp) (xs : List V) (a : PySem.W.Codec.denoteAll r.args), OnlyF H → PySem.W.Codec.withinAll r.args a = true → PySem.W.Codec.app r.args r.asked a = true → DwAll K H xs (PySem.W.Codec.encAll r.args a) →
      pr K xs H (fun v H' => Dw K H' v (r.ret.enc (PySem.W.Codec.app r.args r.f a))) E0) : PySem.W.WalkOS pq ls XR YR r dr [] fun f vs => PySem.call f vs := by
  intro w t0 t1 mg mb G Y g _ _ _ _ _ _ _ _ _ _ hmg lone args vals as pre lay rd well _
  obtain ⟨a, dec, ask⟩ := PySem.W.os_pre_some pre
  obtain ⟨enc, wit⟩ := PySem.W.Codec.encAll_of_decAll r.args args a dec
  subst enc
  obtain ⟨K, fd, inK, binds, oks⟩ := Fn w mg g _ Y G.T.g hmg
  have go := spec_call (R := []) (cl := classAt t0.heap) (d0 := r.ret.enc (PySem.W.Codec.app r.args r.f a)) inK G.T.g G.T.b G.T.builtins G.T.nolimit lone well (pl_encAll _ _) (layable_weight lay) room oks binds
    (by rw [encAll_len]; exact ln) (fun H xs o s => prom K H xs a o wit ask s) fun _ _ _ z => z
  refine PySem.W.enter_call (codeAny_mono go fun _ _ out => ?_)
  obtain ⟨u, bs, rfl, o1, o2, o3, o4⟩ := out
  exact ⟨.inl ⟨u, _, bs, rfl, fun _ => rfl, o1, (PySem.W.OpenSpec.post_iff wl wit _ _).mpr rfl, fun z => nomatch z⟩, o2, o3, o4⟩
theorem walk_all : PySem.W.WalkOS (PySem.W.view P0 [127]) loose (PySem.W.XL (PySem.W.view P0 [127]) []) hk.says PySem.Challenge.rw_policywatch_s01_answers (HandSHeadRun.topDef P0 127) [] fun f vs => PySem.call f vs := by
  refine walkE (lv := 13) (px := ["calls"]) (pr := sp_answers) (by decide +kernel) rfl ⟨rfl, by decide, by decide⟩ (fun w mg g h Y G hmg0 => ?_) fun K H xs a hO hwi hask hx => ?_
  · obtain ⟨K, KI, c⟩ := Y
    have hmg : mg ("answers" : Str) = some (.ref g) := by
      have e : (HandSHeadRun.topDef P0 127).name = ("answers" : Str) := by kernel_rfl
      rw [← e]
      exact hmg0
    have T : Tx K mg h := ⟨KI, G, c⟩
    obtain ⟨fd, b, ok⟩ := okE_answers (P := P0) (w := w) T
    have eg := hmg.symm.trans (T.glo 91)
    cases eg
    exact ⟨K, fd, KI, b, fun base _ _ => ok base⟩
  · cases hx with
    | cons h1 h2 =>
      cases h2
      cases h1 with
      | lst hs ha =>
        have e := ints_dw a.1 _ ha
        subst e
        obtain ⟨rows, d, e1, e2, e3⟩ := law_rows (l := a.1) hask
        refine ⟨(_, rows), ⟨rfl, ?_, d, e3⟩, fun v H2 hv => ?_⟩
        · have e4 : a.1.map V.int = nats (putN rows) := by
            rw [e1, List.map_map]
            rfl
          rw [← e4]
          exact hs
        · obtain ⟨p, rfl, hp⟩ := hv
          have e5 : (PySem.Challenge.rw_policywatch_s01_answers.ret.enc (PySem.W.Codec.app PySem.Challenge.rw_policywatch_s01_answers.args PySem.Challenge.rw_policywatch_s01_answers.f a)) = .list ((toldR none rows).map PySem.W.WData.int) := by
            rw [← e2]
            rfl
          rw [e5]
          exact .lst (SqL.of hp) (dw_ints _)
end Pw
set_option maxHeartbeats 0
namespace Pw
open PySem PySem.Spec PyProof.Rows L2
theorem run (w : World) : HandSHeadRun.RunEqS PySem.Challenge.rw_policywatch_s01_answers (PySem.W.view P0 [127]) hk ob 20000 loose w := by
  intro os
  kernel_rfl
end Pw
open PySem PySem.W PySem.Calls PyProof.Rows
theorem PySem.Challenge.cw_policywatch_s01_answers_holds : PySem.Challenge.rw_policywatch_s01_answers.Holds := by
  refine HandSHeadRun.head_spec (r := PySem.Challenge.rw_policywatch_s01_answers) (q := view Pw.P0 [127]) (H := Pw.hk) (ob := Pw.ob) (M := 20000) (loose := Pw.loose) (d := HandSHeadRun.topDef Pw.P0 127) (kwd := []) Pw.ob_eq
    ?e ?f Pw.run ?hdef ?hp ?hk os_shapes ?k1 ?ok ⟨rfl, rfl, rfl, rfl, rfl, by decide +kernel⟩ ⟨[.list [.int 0]], by decide +kernel, by decide +kernel⟩ Pw.walk_all
  case e => kernel_rfl
  case f => exact fun s => by kernel_rfl
  case hdef => kernel_rfl
  case hp => kernel_rfl
  case hk => kernel_rfl
  case k1 => decide +kernel
  case ok => decide +kernel
