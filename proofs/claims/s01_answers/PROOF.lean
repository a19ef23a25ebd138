import PyProof.Rows.All
import Wide.All
import OpenK.AllK
import Wide.FinOn
import Open.SpecLaws
import KE.OsGo
import HandS.ForSpec
import HandS.Comp
import HandS.Iter
import HandS.Walk
import PySem.Challenge.RW_shotsums_s01_answers
set_option Elab.async false
set_option maxHeartbeats 4000000
/-! The mirror of the package shotsums as plain Lean functions, and that it answers as the specification says. -/
namespace Ss

/-! ### The mirror -/
/-- the state: made is 0 ahead of the first create, 1 behind it -/
structure M where
  made : Int
  target : Int
  allowance : Int
  threshold : Int
  weights : List Int
def isW (n : Int) : Bool := decide (-9999 ≤ n) && decide (n ≤ 9999)
def isL (n : Int) : Bool := decide (0 ≤ n) && decide (n ≤ 999)
def areW (l : List Int) : Bool := decide (l.length ≤ 24) && l.all isW
def exc (w : List Int) (t a : Int) : List Int := w.map fun x => x - t - a
def sho (w : List Int) (t a : Int) : List Int := w.map fun x => t - x - a
def cut0 (n : Int) : Int := if n > 0 then n else 0
def cumStep (s : Int × List Int) (x : Int) : Int × List Int := (cut0 (s.1 + x), s.2 ++ [cut0 (s.1 + x)])
def cumF (l : List Int) : Int × List Int := l.foldl cumStep (0, [])
def cum (l : List Int) : List Int := (cumF l).2
def lastOf (l : List Int) : Int := l.getLastD 0
def b2 (b : Bool) : Int := if b = true then 1 else 0
def code (u l t : Int) : Int := b2 (decide (t < u)) + 2 * b2 (decide (t < l))
def codes (u l : List Int) (t : Int) : List Int := List.zipWith (fun a b => code a b t) u l
/-- onset_in's loop behind i turns -/
def onF (sums : List Int) : Nat → Int
  | 0 => 0
  | i + 1 => if sums.getD i 0 = 0 then (i : Int) + 1 else onF sums i
/-- worst_run's loop behind i turns: total, value, start -/
def wF (steps : List Int) (n : Nat) : Nat → Int × Int × Int
  | 0 => (0, 0, (n : Int) + 1)
  | i + 1 =>
    let s := wF steps n i
    let t := s.1 + steps.getD (n - i) 0
    if 0 < t ∧ s.2.1 ≤ t then (t, t, ((n - i : Nat) : Int)) else (t, s.2.1, s.2.2)
def worst (steps : List Int) (n : Nat) : List Int := [(wF steps n (n + 1)).2.1, (wF steps n (n + 1)).2.2]
/-- longest_run's turn: found, length -/
def lStep (s : Int × Int) (b : Bool) : Int × Int :=
  let k := if b = true then s.2 + 1 else 0
  (if k > s.1 then k else s.1, k)
def lF (l : List Bool) : Int × Int := l.foldl lStep (0, 0)
def longest (l : List Bool) : Int := (lF l).1
def lowest (a b : Int) : List Int := [a / (Nat.gcd a.natAbs b.natAbs : Nat), b / (Nat.gcd a.natAbs b.natAbs : Nat)]

def toldLast (m : M) (w : List Int) : List Int :=
  [code (lastOf (cum (exc w m.target m.allowance))) (lastOf (cum (sho w m.target m.allowance))) m.threshold, lastOf (cum (exc w m.target m.allowance)), lastOf (cum (sho w m.target m.allowance))]
def hasShot (m : M) (i : Int) : Bool := decide (0 ≤ i) && decide (i < (m.weights.length : Int))
def uppers (m : M) : List Int := cum (exc m.weights m.target m.allowance)
def lowers (m : M) : List Int := cum (sho m.weights m.target m.allowance)
def codesM (m : M) : List Int := codes (uppers m) (lowers m) m.threshold
/-- the shots below i that have an alarm -/
def sel (l : List Int) (i : Nat) : List Int := ((List.range i).filter fun j => decide (0 < l.getD j 0)).map fun (j : Nat) => (j : Int)
def alarmShots (m : M) : List Int := sel (codesM m) (codesM m).length
def counted (l : List Int) : List Int := (l.length : Int) :: l

def createM (m : M) (t a h : Int) : M × List Int := if isW t && (isL a && isL h) then (⟨1, t, a, h, []⟩, [0]) else (m, [-22])
def addM (m : M) (w : Int) : M × List Int :=
  if isW w then if 24 ≤ m.weights.length then (m, [-28]) else ({ m with weights := m.weights ++ [w] }, toldLast m (m.weights ++ [w])) else (m, [-22])
def setShotsM (m : M) (ns : List Int) : M × List Int := if areW ns then ({ m with weights := ns }, [(ns.length : Int)]) else (m, [-22])
def clearM (m : M) : M × List Int := ({ m with weights := [] }, [(m.weights.length : Int)])
def reweigh (l : List Int) (i : Nat) (w : Int) : List Int := l.take i ++ [w] ++ l.drop (i + 1)
def setWeightM (m : M) (i w : Int) : M × List Int :=
  if hasShot m i then if isW w then ({ m with weights := reweigh m.weights i.toNat w }, [0, m.weights.getD i.toNat 0]) else (m, [-22]) else (m, [-2])
def setTargetM (m : M) (t : Int) : M × List Int := if isW t then ({ m with target := t }, [0, m.target]) else (m, [-22])
def setLimitsM (m : M) (a h : Int) : M × List Int := if isL a && isL h then ({ m with allowance := a, threshold := h }, [0, m.allowance, m.threshold]) else (m, [-22])
def firstAlarmM (m : M) : List Int := match alarmShots m with
  | [] => [-33]
  | s :: _ => [s, (codesM m).getD s.toNat 0]
def onsetM (m : M) (n : Int) : List Int := if hasShot m n then [onF (uppers m) (n.toNat + 1), onF (lowers m) (n.toNat + 1)] else [-2]
def worstRunsM (m : M) (n : Int) : List Int :=
  if hasShot m n then [0] ++ worst (exc m.weights m.target m.allowance) n.toNat ++ worst (sho m.weights m.target m.allowance) n.toNat else [-2]
def addShotIfM (m : M) (w : Int) : List Int := if isW w then toldLast m (m.weights ++ [w]) else [-22]
def smallestM (m : M) : List Int := [0, m.target + m.allowance + m.threshold + 1 - lastOf (uppers m)]
def longestRunsM (m : M) : List Int := [longest (m.weights.map fun w => decide (m.target < w)), longest (m.weights.map fun w => decide (w < m.target))]
def meanM (m : M) : List Int := if m.weights.length = 0 then [-6] else 0 :: lowest m.weights.sum (m.weights.length : Int)
def describeM (m : M) : List Int := [(m.weights.length : Int), m.target, m.allowance, m.threshold] ++ m.weights

def ansChanges (m : M) (op : Int) (ns : List Int) : M × List Int :=
  if op = 0 then createM m (ns.getD 0 0) (ns.getD 1 0) (ns.getD 2 0)
  else if op = 1 then addM m (ns.getD 0 0)
  else if op = 2 then setShotsM m ns
  else if op = 3 then clearM m
  else if op = 4 then setWeightM m (ns.getD 0 0) (ns.getD 1 0)
  else if op = 5 then setTargetM m (ns.getD 0 0)
  else setLimitsM m (ns.getD 0 0) (ns.getD 1 0)
def ansSums (m : M) (op : Int) (ns : List Int) : List Int :=
  if op = 7 then counted (uppers m)
  else if op = 8 then counted (lowers m)
  else if op = 9 then firstAlarmM m
  else if op = 10 then counted (alarmShots m)
  else if op = 11 then onsetM m (ns.getD 0 0)
  else worstRunsM m (ns.getD 0 0)
def ansWeights (m : M) (op : Int) (ns : List Int) : List Int :=
  if op = 13 then addShotIfM m (ns.getD 0 0)
  else if op = 14 then smallestM m
  else if op = 15 then longestRunsM m
  else if op = 16 then meanM m
  else describeM m
def ans (m : M) (op : Int) (ns : List Int) : M × List Int :=
  if op ≠ 0 ∧ m.made = 0 then (m, [-11])
  else if op ≤ 6 then ansChanges m op ns
  else if op ≤ 12 then (m, ansSums m op ns)
  else (m, ansWeights m op ns)

/-! ### Lists -/
theorem take_more {α : Type} : ∀ {l : List α} {i : Nat} {x : α}, l[i]? = some x → l.take (i + 1) = l.take i ++ [x]
  | [], i, x, h => by simp at h
  | a :: l, 0, x, h => by
    have e : a = x := Option.some.inj h
    subst e
    rfl
  | a :: l, i + 1, x, h => by
    have ih := take_more (l := l) (i := i) (x := x) h
    show a :: l.take (i + 1) = a :: l.take i ++ [x]
    rw [ih]
    rfl
theorem fold_more {α β : Type} {f : β → α → β} {b : β} {l : List α} {i : Nat} {x : α} (h : l[i]? = some x) : (l.take (i + 1)).foldl f b = f ((l.take i).foldl f b) x := by
  rw [take_more h, List.foldl_append]
  rfl
theorem getD_of {l : List Int} {i : Nat} {x : Int} (h : l[i]? = some x) : l.getD i 0 = x := by
  rw [List.getD_eq_getElem?_getD, h]
  rfl
theorem foldl_add (l : List Int) : ∀ s : Int, l.foldl (· + ·) s = s + l.foldl (· + ·) 0 := by
  induction l with
  | nil => intro s; simp
  | cons x r ih =>
    intro s
    rw [List.foldl_cons, List.foldl_cons, ih (s + x), ih (0 + x)]
    omega
theorem foldl_sum (l : List Int) : l.foldl (· + ·) 0 = l.sum := by
  induction l with
  | nil => rfl
  | cons x r ih =>
    rw [List.foldl_cons, foldl_add, ih, List.sum_cons]
    omega

/-! ### Cumulative sums -/
theorem cut0_max (n : Int) : cut0 n = max 0 n := by
  unfold cut0
  split <;> omega
theorem cum_fold (d : Int → Int) : ∀ (w : List Int) (s : Int) (acc : List Int), ((w.map d).foldl cumStep (s, acc)).2 = acc ++ Sr121.cumulativeSums d w s
  | [], s, acc => by simp [Sr121.cumulativeSums]
  | x :: r, s, acc => by
    rw [List.map_cons, List.foldl_cons]
    show ((r.map d).foldl cumStep (cut0 (s + d x), acc ++ [cut0 (s + d x)])).2 = acc ++ (max 0 (s + d x) :: Sr121.cumulativeSums d r (max 0 (s + d x)))
    rw [cum_fold d r, cut0_max, List.append_assoc]
    rfl
theorem cum_is (d : Int → Int) (w : List Int) : cum (w.map d) = Sr121.cumulativeSums d w 0 := by
  unfold cum cumF
  rw [cum_fold]
  rfl
theorem cumS_len (d : Int → Int) : ∀ (w : List Int) (s : Int), (Sr121.cumulativeSums d w s).length = w.length
  | [], _ => rfl
  | x :: r, s => by
    show (Sr121.cumulativeSums d r _).length + 1 = r.length + 1
    rw [cumS_len d r]
theorem cumF_len (l : List Int) : (cum l).length = l.length := by
  have e := cum_is (fun x => x) l
  rw [List.map_id'] at e
  rw [e, cumS_len]
theorem exc_len (w : List Int) (t a : Int) : (exc w t a).length = w.length := List.length_map _
theorem sho_len (w : List Int) (t a : Int) : (sho w t a).length = w.length := List.length_map _
theorem codes_len (u l : List Int) (t : Int) : (codes u l t).length = min u.length l.length := List.length_zipWith
theorem uppers_len (m : M) : (uppers m).length = m.weights.length := by
  unfold uppers
  rw [cumF_len, exc_len]
theorem lowers_len (m : M) : (lowers m).length = m.weights.length := by
  unfold lowers
  rw [cumF_len, sho_len]
theorem codesM_len (m : M) : (codesM m).length = m.weights.length := by
  unfold codesM
  rw [codes_len, uppers_len, lowers_len, Nat.min_self]
theorem sel_succ (l : List Int) (i : Nat) : sel l (i + 1) = if 0 < l.getD i 0 then sel l i ++ [(i : Int)] else sel l i := by
  unfold sel
  rw [List.range_succ, List.filter_append, List.map_append]
  by_cases h : 0 < l.getD i 0
  · rw [if_pos h, List.filter_cons_of_pos (by simpa using h)]
    rfl
  · rw [if_neg h, List.filter_cons_of_neg (by simpa using h), List.filter_nil, List.map_nil, List.append_nil]
theorem sel_len (l : List Int) (i : Nat) : (sel l i).length ≤ i := by
  unfold sel
  rw [List.length_map]
  exact Nat.le_trans (List.length_filter_le _ _) (by rw [List.length_range]; exact Nat.le_refl _)
theorem sel_mem {l : List Int} {i : Nat} {x : Int} (h : x ∈ sel l i) : 0 ≤ x ∧ x.toNat < i := by
  unfold sel at h
  obtain ⟨j, hj, rfl⟩ := List.mem_map.mp h
  have h2 := List.mem_range.mp (List.mem_filter.mp hj).1
  omega

/-! ### The state -/
def toM : Sr121.State → M
  | none => ⟨0, 0, 0, 0, []⟩
  | some c => ⟨1, c.target, (c.allowance : Int), (c.threshold : Int), c.weights⟩
/-- the state's weights are no more than 24 -/
def Wf (s : Sr121.State) : Prop := (toM s).weights.length ≤ 24

section
variable (c : Sr121.Chart)
abbrev mC : M := toM (some c)
theorem uppers_is : uppers (mC c) = Sr121.upperSums c := cum_is (fun x => x - c.target - (c.allowance : Int)) c.weights
theorem lowers_is : lowers (mC c) = Sr121.lowerSums c := cum_is (fun x => c.target - x - (c.allowance : Int)) c.weights
theorem codes_at (u l : List Int) (t : Int) (n : Nat) (h1 : n < u.length) (h2 : n < l.length) : (codes u l t).getD n 0 = code (u.getD n 0) (l.getD n 0) t := by
  unfold codes
  simp only [List.getD_eq_getElem?_getD, List.getElem?_zipWith, List.getElem?_eq_getElem h1, List.getElem?_eq_getElem h2]
  rfl
theorem code_is (u l : Int) (t : Nat) : code u l (t : Int) = (((if (t : Int) < u then 1 else 0) + (if (t : Int) < l then 2 else 0) : Nat) : Int) := by
  unfold code b2
  by_cases h1 : (t : Int) < u <;> by_cases h2 : (t : Int) < l <;> simp [h1, h2]
theorem alarm_is (n : Nat) (h : n < c.weights.length) : (codesM (mC c)).getD n 0 = (Sr121.alarmAt c n : Int) := by
  unfold codesM
  rw [codes_at _ _ _ _ (by rw [uppers_len]; exact h) (by rw [lowers_len]; exact h), uppers_is, lowers_is]
  exact code_is _ _ _
theorem lastOf_at (l : List Int) : lastOf l = l.getD (l.length - 1) 0 := by
  unfold lastOf
  rw [List.getLastD_eq_getLast?, List.getLast?_eq_getElem?, List.getD_eq_getElem?_getD]
theorem upper_len : (Sr121.upperSums c).length = c.weights.length := cumS_len _ _ _
theorem lower_len : (Sr121.lowerSums c).length = c.weights.length := cumS_len _ _ _
theorem last_is (w : Int) : toldLast (mC c) (c.weights ++ [w]) = (Sr121.lastShotResult (Sr121.withShot c w)).code :: (Sr121.lastShotResult (Sr121.withShot c w)).values := by
  have e1 : cum (exc (c.weights ++ [w]) c.target (c.allowance : Int)) = Sr121.upperSums (Sr121.withShot c w) := cum_is (fun x => x - c.target - (c.allowance : Int)) (c.weights ++ [w])
  have e2 : cum (sho (c.weights ++ [w]) c.target (c.allowance : Int)) = Sr121.lowerSums (Sr121.withShot c w) := cum_is (fun x => c.target - x - (c.allowance : Int)) (c.weights ++ [w])
  show [code (lastOf (cum (exc (c.weights ++ [w]) c.target (c.allowance : Int)))) (lastOf (cum (sho (c.weights ++ [w]) c.target (c.allowance : Int)))) (c.threshold : Int), lastOf (cum (exc (c.weights ++ [w]) c.target (c.allowance : Int))), lastOf (cum (sho (c.weights ++ [w]) c.target (c.allowance : Int)))] = _
  rw [e1, e2]
  show [code (lastOf (Sr121.upperSums (Sr121.withShot c w))) (lastOf (Sr121.lowerSums (Sr121.withShot c w))) (c.threshold : Int), lastOf (Sr121.upperSums (Sr121.withShot c w)), lastOf (Sr121.lowerSums (Sr121.withShot c w))] = [(Sr121.alarmAt (Sr121.withShot c w) ((Sr121.withShot c w).weights.length - 1) : Int), (Sr121.upperSums (Sr121.withShot c w)).getLastD 0, (Sr121.lowerSums (Sr121.withShot c w)).getLastD 0]
  refine congrArg (fun z => [z, (Sr121.upperSums (Sr121.withShot c w)).getLastD 0, (Sr121.lowerSums (Sr121.withShot c w)).getLastD 0]) ?_
  rw [code_is, lastOf_at, lastOf_at, upper_len, lower_len]
  rfl

/-! ### Alarms -/
theorem alarms_is : alarmShots (mC c) = SrCommon.natsToInts ((List.range c.weights.length).filter fun n => decide (0 < Sr121.alarmAt c n)) := by
  unfold alarmShots sel SrCommon.natsToInts
  rw [codesM_len]
  show List.map _ (List.filter _ (List.range c.weights.length)) = _
  congr 1
  refine List.filter_congr fun n hn => ?_
  rw [alarm_is c n (List.mem_range.mp hn)]
  simp
theorem first_is : firstAlarmM (mC c) = (match Sr121.firstAlarm c with
    | none => SrCommon.Result.ofCode SrCommon.noSolution
    | some n => ⟨(n : Int), [(Sr121.alarmAt c n : Int)]⟩).code :: (match Sr121.firstAlarm c with
    | none => SrCommon.Result.ofCode SrCommon.noSolution
    | some n => ⟨(n : Int), [(Sr121.alarmAt c n : Int)]⟩).values := by
  unfold firstAlarmM Sr121.firstAlarm
  rw [alarms_is, ← List.head?_filter]
  cases h : (List.range c.weights.length).filter fun n => decide (0 < Sr121.alarmAt c n) with
  | nil => rfl
  | cons n r =>
    have hn : n < c.weights.length := by
      have hm : n ∈ (List.range c.weights.length).filter fun n => decide (0 < Sr121.alarmAt c n) := by
        rw [h]
        exact List.mem_cons_self
      exact List.mem_range.mp (List.mem_filter.mp hm).1
    show [(n : Int), (codesM (mC c)).getD ((n : Int)).toNat 0] = [(n : Int), (Sr121.alarmAt c n : Int)]
    rw [show ((n : Int)).toNat = n from rfl, alarm_is c n hn]
end

/-! ### Onset -/
theorem onF_is (sums : List Int) : ∀ n : Nat, onF sums n = (((((List.range n).reverse.find? fun k => sums.getD k 0 == 0).map fun k => k + 1).getD 0 : Nat) : Int)
  | 0 => rfl
  | n + 1 => by
    rw [List.range_succ, List.reverse_append, List.reverse_singleton, List.singleton_append, List.find?_cons]
    unfold onF
    by_cases h : sums.getD n 0 = 0
    · have hb : (sums.getD n 0 == 0) = true := by simpa using h
      rw [if_pos h, hb]
      rfl
    · have hb : (sums.getD n 0 == 0) = false := by simpa using h
      rw [if_neg h, hb]
      exact onF_is sums n
theorem onset_is (sums : List Int) (n : Nat) : onF sums (n + 1) = (Sr121.onset sums n : Int) := onF_is sums (n + 1)

/-! ### Worst runs -/
section
variable (d : Int → Int) (w : List Int)
theorem dev_step (a b : Nat) (h : a < b) (hw : a < w.length) : Sr121.deviationSum d w a b = d (w.getD a 0) + Sr121.deviationSum d w (a + 1) b := by
  unfold Sr121.deviationSum
  have e1 : w.drop a = w[a] :: w.drop (a + 1) := List.drop_eq_getElem_cons hw
  have e2 : b - a = (b - (a + 1)) + 1 := by omega
  have e3 : w.getD a 0 = w[a] := by rw [List.getD_eq_getElem?_getD, List.getElem?_eq_getElem hw]; rfl
  rw [e1, e2, List.take_succ_cons, List.map_cons, List.foldl_cons, foldl_add, e3]
  omega
theorem dev_end (b : Nat) : Sr121.deviationSum d w b b = 0 := by
  unfold Sr121.deviationSum
  rw [Nat.sub_self, List.take_zero]
  rfl
/-- the specification's fold over some starts -/
def pick (S : Nat → Int) (b : Int × Nat) (as : List Nat) : Int × Nat := as.foldl (fun (best : Int × Nat) a => if best.1 < S a then (S a, a) else best) b
theorem pick_cons (S : Nat → Int) (b : Int × Nat) (a : Nat) (as : List Nat) : pick S b (a :: as) = pick S (if b.1 < S a then (S a, a) else b) as := rfl
theorem pick_any (S : Nat → Int) (z : Nat) : ∀ (as : List Nat) (b : Int × Nat), 0 ≤ b.1 → pick S b as = if b.1 < (pick S (0, z) as).1 then pick S (0, z) as else b
  | [], b, h => by
    show b = if b.1 < 0 then (0, z) else b
    rw [if_neg (by omega)]
  | a :: as, b, h => by
    rw [pick_cons, pick_cons]
    have i1 := pick_any S z as (if b.1 < S a then (S a, a) else b) (by
      by_cases q : b.1 < S a
      · rw [if_pos q]
        show 0 ≤ S a
        omega
      · rw [if_neg q]
        exact h)
    have i2 := pick_any S z as (if (0 : Int) < S a then (S a, a) else (0, z)) (by
      by_cases q : (0 : Int) < S a
      · rw [if_pos q]
        show 0 ≤ S a
        omega
      · rw [if_neg q]
        exact Int.le_refl _)
    have e0 : (if (0, z).1 < S a then (S a, a) else (0, z)) = (if (0 : Int) < S a then (S a, a) else (0, z)) := rfl
    rw [e0, i1, i2]
    generalize pick S (0, z) as = R
    by_cases h1 : (0 : Int) < S a
    · by_cases h2 : b.1 < S a
      · by_cases h3 : S a < R.1
        · have h4 : b.1 < R.1 := by omega
          simp [h1, h2, h3, h4]
        · simp [h1, h2, h3]
      · by_cases h3 : b.1 < R.1
        · have h4 : S a < R.1 := by omega
          simp [h1, h2, h3, h4]
        · by_cases h4 : S a < R.1
          · simp [h1, h2, h3, h4]
          · simp [h1, h2, h3, h4]
    · have h2 : ¬ b.1 < S a := by omega
      by_cases h3 : b.1 < R.1
      · have h4 : 0 < R.1 := by omega
        simp [h1, h2, h3, h4]
      · by_cases h4 : 0 < R.1
        · simp [h1, h2, h3, h4]
        · have h5 : ¬ b.1 < 0 := by omega
          simp [h1, h2, h3, h4, h5]
/-- one start more, at the front -/
theorem pick_front (S : Nat → Int) (z a : Nat) (as : List Nat) : pick S (0, z) (a :: as) = if 0 < S a ∧ (pick S (0, z) as).1 ≤ S a then (S a, a) else pick S (0, z) as := by
  rw [pick_cons]
  by_cases h1 : (0 : Int) < S a
  · rw [if_pos (show (0, z).1 < S a from h1), pick_any S z as (S a, a) (by show 0 ≤ S a; omega)]
    by_cases h2 : (pick S (0, z) as).1 ≤ S a
    · rw [if_neg (show ¬ (S a, a).1 < (pick S (0, z) as).1 by show ¬ S a < _; omega), if_pos ⟨h1, h2⟩]
    · rw [if_pos (show (S a, a).1 < (pick S (0, z) as).1 by show S a < _; omega), if_neg (fun q => h2 q.2)]
  · rw [if_neg (show ¬ (0, z).1 < S a from h1), if_neg (fun q => h1 q.1)]
theorem wF_is (n : Nat) (hn : n < w.length) : ∀ i : Nat, i ≤ n + 1 →
    wF (w.map d) n i = (Sr121.deviationSum d w (n + 1 - i) (n + 1), (pick (fun a => Sr121.deviationSum d w a (n + 1)) (0, n + 1) (List.range' (n + 1 - i) i)).1,
      ((pick (fun a => Sr121.deviationSum d w a (n + 1)) (0, n + 1) (List.range' (n + 1 - i) i)).2 : Int))
  | 0, _ => by
    rw [Nat.sub_zero, dev_end]
    rfl
  | i + 1, h => by
    have ih := wF_is n hn i (by omega)
    have e1 : n + 1 - (i + 1) = n - i := by omega
    have e2 : n + 1 - i = (n - i) + 1 := by omega
    have e3 : List.range' (n - i) (i + 1) = (n - i) :: List.range' (n - i + 1) i := List.range'_succ ..
    have e4 : (w.map d).getD (n - i) 0 = d (w.getD (n - i) 0) := by
      have hl : n - i < w.length := by omega
      rw [List.getD_eq_getElem?_getD, List.getElem?_map, List.getD_eq_getElem?_getD, List.getElem?_eq_getElem hl]
      rfl
    have e5 := dev_step d w (n - i) (n + 1) (by omega) (by omega)
    rw [e1, e3, pick_front]
    unfold wF
    rw [ih, e2]
    dsimp only
    rw [e4, show Sr121.deviationSum d w (n - i + 1) (n + 1) + d (w.getD (n - i) 0) = Sr121.deviationSum d w (n - i) (n + 1) by omega]
    split <;> rfl
theorem worst_is (n : Nat) (hn : n < w.length) : worst (w.map d) n = [(Sr121.worstRun d w n).1, ((Sr121.worstRun d w n).2 : Int)] := by
  unfold worst
  rw [wF_is d w n hn (n + 1) (Nat.le_refl _), Nat.sub_self]
  unfold Sr121.worstRun
  rw [List.range_eq_range']
  rfl
end

/-! ### Longest runs -/
def nStep (p : Int → Bool) (m : Nat × Nat) (x : Int) : Nat × Nat :=
  let current := if p x then m.2 + 1 else 0
  (max m.1 current, current)
def toI (m : Nat × Nat) : Int × Int := ((m.1 : Int), (m.2 : Int))
theorem longest_fold (p : Int → Bool) : ∀ (w : List Int) (a b : Nat), (w.map p).foldl lStep (toI (a, b)) = toI (w.foldl (nStep p) (a, b))
  | [], a, b => rfl
  | x :: r, a, b => by
    rw [List.map_cons, List.foldl_cons, List.foldl_cons]
    have e : lStep (toI (a, b)) (p x) = toI (nStep p (a, b) x) := by
      unfold lStep nStep toI
      dsimp only
      by_cases h : p x = true
      · simp only [h, if_true]
        refine Prod.ext ?_ ?_
        · dsimp only
          split <;> omega
        · dsimp only
          omega
      · simp only [h]
        refine Prod.ext ?_ ?_
        · dsimp only
          split <;> simp <;> omega
        · simp
    rw [e]
    exact longest_fold p r _ _
theorem longest_is (p : Int → Bool) (w : List Int) : longest (w.map p) = (Sr121.longestRun p w : Int) := by
  unfold longest lF Sr121.longestRun
  have e := longest_fold p w 0 0
  exact congrArg Prod.fst e

/-! ### The mean -/
theorem mean_is (t : Int) (n : Nat) (h : 0 < n) : lowest t (n : Int) = SrFraction.encode (SrFraction.mk t n) := by
  unfold lowest SrFraction.encode SrFraction.mk
  have hg : 0 < Nat.gcd t.natAbs n := Nat.gcd_pos_of_pos_right _ h
  have hd : 0 < n / Nat.gcd t.natAbs n := Nat.div_pos (Nat.le_of_dvd h (Nat.gcd_dvd_right _ _)) hg
  have e : ((n : Int)).natAbs = n := rfl
  dsimp only
  rw [e, if_neg (by omega), if_neg (by omega)]
  simp

/-! ### One operation -/
theorem reweigh_is (l : List Int) (i : Nat) (w : Int) (h : i < l.length) : reweigh l i w = l.set i w := by
  unfold reweigh
  rw [List.set_eq_take_append_cons_drop, if_pos h, List.append_assoc]
  rfl
theorem isW_is (x : Int) : isW x = Sr121.isWeight x := rfl
theorem isL_is (x : Int) : isL x = Sr121.isLimit x := rfl
theorem has_is (c : Sr121.Chart) (n : Int) : hasShot (mC c) n = Sr121.isShot c n := rfl
/-- what the specification's step gives, as the mirror tells it -/
def outOf (q : Sr121.State × SrCommon.Result) : M × List Int := (toM q.1, q.2.code :: q.2.values)

theorem limit_pos {a : Int} (h : Sr121.isLimit a = true) : ((a.toNat : Nat) : Int) = a := by
  have q : (decide (0 ≤ a) && decide (a ≤ 999)) = true := h
  simp at q
  omega
theorem create_is (s : Sr121.State) (t a h : Int) : createM (toM s) t a h = outOf (Sr121.step s (.create t a h)) := by
  unfold createM
  show _ = outOf (if Sr121.isWeight t = false ∨ Sr121.isLimit a = false ∨ Sr121.isLimit h = false then (s, .ofCode SrCommon.invalidArgument) else (some ⟨t, a.toNat, h.toNat, []⟩, .ofCode 0))
  rw [isW_is, isL_is, isL_is]
  by_cases h1 : Sr121.isWeight t = true
  · by_cases h2 : Sr121.isLimit a = true
    · by_cases h3 : Sr121.isLimit h = true
      · simp only [h1, h2, h3, if_true, Bool.true_eq_false, if_false, Bool.and_self, or_self]
        show (M.mk 1 t a h [], _) = (M.mk 1 t ((a.toNat : Nat) : Int) ((h.toNat : Nat) : Int) [], _)
        rw [limit_pos h2, limit_pos h3]
        rfl
      · simp only [Bool.not_eq_true] at h3
        simp only [h3, if_true, Bool.false_eq_true, if_false, Bool.and_false, or_true]
        rfl
    · simp only [Bool.not_eq_true] at h2
      simp only [h2, if_true, Bool.false_eq_true, if_false, Bool.and_false, Bool.false_and, true_or, or_true]
      rfl
  · simp only [Bool.not_eq_true] at h1
    simp only [h1, if_true, Bool.false_eq_true, if_false, Bool.false_and, true_or]
    rfl

section
variable (c : Sr121.Chart)
theorem add_is (w : Int) : addM (mC c) w = outOf (Sr121.step (some c) (.addShot w)) := by
  show addM (mC c) w = outOf (match Sr121.perform c (.addShot w) with
      | (some changed, result) => (some changed, result)
      | (none, result) => (some c, result))
  unfold addM Sr121.perform
  rw [isW_is]
  by_cases h1 : Sr121.isWeight w = true
  · by_cases h2 : 24 ≤ c.weights.length
    · have h2' : Sr121.maxShots ≤ c.weights.length := h2
      have h2'' : 24 ≤ (mC c).weights.length := h2
      simp only [h1, h2', h2'', if_true, Bool.true_eq_false, if_false]
      rfl
    · have h2' : ¬ Sr121.maxShots ≤ c.weights.length := h2
      have h2'' : ¬ 24 ≤ (mC c).weights.length := h2
      simp only [h1, h2', h2'', if_true, Bool.true_eq_false, if_false]
      show (_, toldLast (mC c) (c.weights ++ [w])) = _
      rw [last_is]
      rfl
  · simp only [Bool.not_eq_true] at h1
    simp only [h1, if_true, Bool.false_eq_true, if_false]
    rfl
theorem setShots_is (ns : List Int) : setShotsM (mC c) ns = outOf (Sr121.step (some c) (.setShots ns)) := by
  show setShotsM (mC c) ns = outOf (match Sr121.perform c (.setShots ns) with
      | (some changed, result) => (some changed, result)
      | (none, result) => (some c, result))
  unfold setShotsM Sr121.perform areW
  have e : ns.all isW = ns.all Sr121.isWeight := rfl
  rw [e]
  by_cases h1 : ns.length ≤ 24
  · have h1' : ¬ Sr121.maxShots < ns.length := by show ¬ 24 < ns.length; omega
    by_cases h2 : ns.all Sr121.isWeight = true
    · simp only [h1, h1', h2, decide_true, Bool.and_self, if_true, Bool.true_eq_false, or_self, if_false]
      rfl
    · simp only [Bool.not_eq_true] at h2
      simp only [h2, Bool.and_false, Bool.false_eq_true, if_false, or_true, if_true]
      rfl
  · have h1' : Sr121.maxShots < ns.length := by show 24 < ns.length; omega
    simp only [h1, h1', decide_false, Bool.false_and, Bool.false_eq_true, if_false, true_or, if_true]
    rfl
theorem clear_is : clearM (mC c) = outOf (Sr121.step (some c) .clearShots) := rfl
theorem setWeight_is (i w : Int) : setWeightM (mC c) i w = outOf (Sr121.step (some c) (.setWeight i w)) := by
  show setWeightM (mC c) i w = outOf (match Sr121.perform c (.setWeight i w) with
      | (some changed, result) => (some changed, result)
      | (none, result) => (some c, result))
  unfold setWeightM Sr121.perform
  rw [has_is, isW_is]
  by_cases h1 : Sr121.isShot c i = true
  · by_cases h2 : Sr121.isWeight w = true
    · have hi : i.toNat < c.weights.length := by
        have q : (decide (0 ≤ i) && decide (i < c.weights.length)) = true := h1
        simp at q
        omega
      simp only [h1, h2, if_true, Bool.true_eq_false, if_false]
      show ({ mC c with weights := reweigh c.weights i.toNat w }, _) = _
      rw [reweigh_is _ _ _ hi]
      rfl
    · simp only [Bool.not_eq_true] at h2
      simp only [h1, h2, if_true, Bool.true_eq_false, Bool.false_eq_true, if_false]
      rfl
  · simp only [Bool.not_eq_true] at h1
    simp only [h1, if_true, Bool.false_eq_true, if_false]
    rfl
theorem setTarget_is (t : Int) : setTargetM (mC c) t = outOf (Sr121.step (some c) (.setTarget t)) := by
  show setTargetM (mC c) t = outOf (match Sr121.perform c (.setTarget t) with
      | (some changed, result) => (some changed, result)
      | (none, result) => (some c, result))
  unfold setTargetM Sr121.perform
  rw [isW_is]
  by_cases h1 : Sr121.isWeight t = true
  · simp only [h1, if_true, Bool.true_eq_false, if_false]
    rfl
  · simp only [Bool.not_eq_true] at h1
    simp only [h1, if_true, Bool.false_eq_true, if_false]
    rfl
theorem setLimits_is (a h : Int) : setLimitsM (mC c) a h = outOf (Sr121.step (some c) (.setLimits a h)) := by
  show setLimitsM (mC c) a h = outOf (match Sr121.perform c (.setLimits a h) with
      | (some changed, result) => (some changed, result)
      | (none, result) => (some c, result))
  unfold setLimitsM Sr121.perform
  rw [isL_is, isL_is]
  by_cases h1 : Sr121.isLimit a = true
  · by_cases h2 : Sr121.isLimit h = true
    · simp only [h1, h2, if_true, Bool.true_eq_false, if_false, Bool.and_self, or_self]
      show (M.mk 1 c.target a h c.weights, _) = (M.mk 1 c.target ((a.toNat : Nat) : Int) ((h.toNat : Nat) : Int) c.weights, _)
      rw [limit_pos h1, limit_pos h2]
      rfl
    · simp only [Bool.not_eq_true] at h2
      simp only [h1, h2, if_true, Bool.true_eq_false, Bool.false_eq_true, if_false, Bool.and_false, or_true]
      rfl
  · simp only [Bool.not_eq_true] at h1
    simp only [h1, if_true, Bool.false_eq_true, if_false, Bool.false_and, true_or]
    rfl
theorem uppersums_is : (mC c, counted (uppers (mC c))) = outOf (Sr121.step (some c) .upperSums) := by
  rw [uppers_is]
  show (mC c, ((Sr121.upperSums c).length : Int) :: Sr121.upperSums c) = (mC c, (c.weights.length : Int) :: Sr121.upperSums c)
  rw [upper_len]
theorem lowersums_is : (mC c, counted (lowers (mC c))) = outOf (Sr121.step (some c) .lowerSums) := by
  rw [lowers_is]
  show (mC c, ((Sr121.lowerSums c).length : Int) :: Sr121.lowerSums c) = (mC c, (c.weights.length : Int) :: Sr121.lowerSums c)
  rw [lower_len]
theorem firstAlarm_is : (mC c, firstAlarmM (mC c)) = outOf (Sr121.step (some c) .firstAlarm) := by
  rw [first_is]
  rfl
theorem alarmlist_is : (mC c, counted (alarmShots (mC c))) = outOf (Sr121.step (some c) .alarms) := by
  rw [alarms_is]
  unfold counted
  show (mC c, ((SrCommon.natsToInts _).length : Int) :: _) = (mC c, (((List.range c.weights.length).filter fun n => decide (0 < Sr121.alarmAt c n)).length : Int) :: _)
  unfold SrCommon.natsToInts
  rw [List.length_map]
  rfl
theorem onsetop_is (n : Int) : (mC c, onsetM (mC c) n) = outOf (Sr121.step (some c) (.onset n)) := by
  unfold onsetM
  rw [has_is, uppers_is, lowers_is, onset_is, onset_is]
  show _ = outOf (some c, if Sr121.isShot c n = false then SrCommon.Result.ofCode SrCommon.notFound else ⟨(Sr121.onset (Sr121.upperSums c) n.toNat : Int), [(Sr121.onset (Sr121.lowerSums c) n.toNat : Int)]⟩)
  by_cases h1 : Sr121.isShot c n = true
  · simp only [h1, if_true, Bool.true_eq_false, if_false]
    rfl
  · simp only [Bool.not_eq_true] at h1
    simp only [h1, if_true, Bool.false_eq_true, if_false]
    rfl
theorem worstop_is (n : Int) : (mC c, worstRunsM (mC c) n) = outOf (Sr121.step (some c) (.worstRuns n)) := by
  unfold worstRunsM
  rw [has_is]
  show _ = outOf (some c, if Sr121.isShot c n = false then SrCommon.Result.ofCode SrCommon.notFound else
      ⟨0, [(Sr121.worstRun (Sr121.excess c) c.weights n.toNat).1, ((Sr121.worstRun (Sr121.excess c) c.weights n.toNat).2 : Int), (Sr121.worstRun (Sr121.shortfall c) c.weights n.toNat).1, ((Sr121.worstRun (Sr121.shortfall c) c.weights n.toNat).2 : Int)]⟩)
  by_cases h1 : Sr121.isShot c n = true
  · have hi : n.toNat < c.weights.length := by
      have q : (decide (0 ≤ n) && decide (n < c.weights.length)) = true := h1
      simp at q
      omega
    simp only [h1, if_true, Bool.true_eq_false, if_false]
    have e1 := worst_is (Sr121.excess c) c.weights n.toNat hi
    have e2 := worst_is (Sr121.shortfall c) c.weights n.toNat hi
    show (mC c, [0] ++ worst (c.weights.map (Sr121.excess c)) n.toNat ++ worst (c.weights.map (Sr121.shortfall c)) n.toNat) = _
    rw [e1, e2]
    rfl
  · simp only [Bool.not_eq_true] at h1
    simp only [h1, if_true, Bool.false_eq_true, if_false]
    rfl
theorem addif_is (w : Int) : (mC c, addShotIfM (mC c) w) = outOf (Sr121.step (some c) (.addShotIf w)) := by
  unfold addShotIfM
  rw [isW_is]
  show _ = outOf (some c, if Sr121.isWeight w = false then SrCommon.Result.ofCode SrCommon.invalidArgument else Sr121.lastShotResult (Sr121.withShot c w))
  by_cases h1 : Sr121.isWeight w = true
  · simp only [h1, if_true, Bool.true_eq_false, if_false]
    show (mC c, toldLast (mC c) (c.weights ++ [w])) = _
    rw [last_is]
    rfl
  · simp only [Bool.not_eq_true] at h1
    simp only [h1, if_true, Bool.false_eq_true, if_false]
    rfl
theorem smallest_is : (mC c, smallestM (mC c)) = outOf (Sr121.step (some c) .smallestAlarmingWeight) := by
  unfold smallestM
  rw [uppers_is]
  show (mC c, [0, c.target + (c.allowance : Int) + (c.threshold : Int) + 1 - (Sr121.upperSums c).getLastD 0]) = (mC c, [0, (c.threshold : Int) + 1 + c.target + (c.allowance : Int) - (Sr121.upperSums c).getLastD 0])
  rw [show c.target + (c.allowance : Int) + (c.threshold : Int) + 1 - (Sr121.upperSums c).getLastD 0 = (c.threshold : Int) + 1 + c.target + (c.allowance : Int) - (Sr121.upperSums c).getLastD 0 by omega]
theorem longestruns_is : (mC c, longestRunsM (mC c)) = outOf (Sr121.step (some c) .longestRuns) := by
  unfold longestRunsM
  rw [longest_is, longest_is]
  rfl
theorem meanop_is : (mC c, meanM (mC c)) = outOf (Sr121.step (some c) .meanWeight) := by
  unfold meanM
  show _ = outOf (some c, if c.weights = [] then SrCommon.Result.ofCode SrCommon.emptyList else ⟨0, SrFraction.encode (SrFraction.mk (Sr121.totalWeight c) c.weights.length)⟩)
  by_cases h : c.weights = []
  · rw [if_pos h, if_pos (show (mC c).weights.length = 0 by show c.weights.length = 0; rw [h]; rfl)]
    rfl
  · have hl : 0 < c.weights.length := List.length_pos_iff.mpr h
    rw [if_neg h, if_neg (show ¬ (mC c).weights.length = 0 by show ¬ c.weights.length = 0; omega)]
    show (mC c, 0 :: lowest c.weights.sum (c.weights.length : Int)) = (mC c, 0 :: SrFraction.encode (SrFraction.mk (c.weights.foldl (· + ·) 0) c.weights.length))
    rw [mean_is _ _ hl, foldl_sum]
theorem describe_is : (mC c, describeM (mC c)) = outOf (Sr121.step (some c) .describe) := rfl
end
/-! ### The calls -/
def ARGS : List Int := [3, 1, 0, 0, 2, 1, 2, 0, 0, 0, 0, 1, 1, 1, 0, 0, 0, 0]
/-- begin_of, end_of -/
def bgN (l : List Int) (a : Nat) : Nat := if l.getD a 0 = 2 then a + 2 else a + 1
def enI (l : List Int) (a : Nat) : Int := if l.getD a 0 = 2 then (a : Int) + 2 + l.getD (a + 1) 0 else (a : Int) + 1 + ARGS.getD (l.getD a 0).toNat 0
/-- a call stands at a, with k numbers -/
structure CallAt (l : List Int) (a k : Nat) : Prop where
  lt : a < l.length
  two : l.getD a 0 = 2 → a + 1 < l.length
  lo : 0 ≤ l.getD a 0
  hi : l.getD a 0 < 18
  en : enI l a = ((bgN l a + k : Nat) : Int)
  fit : bgN l a + k ≤ l.length
/-- numbers enough -/
def Ar (op : Int) (ns : List Int) : Prop := op = 2 ∨ ARGS.getD op.toNat 0 = (ns.length : Int)

theorem ans_none (op : Int) (ns : List Int) (h : op ≠ 0) : ans (toM none) op ns = (toM none, [-11]) := if_pos ⟨h, rfl⟩
theorem step_none {call : Sr121.Call} (h : ∀ t a z, call ≠ .create t a z) : outOf (Sr121.step none call) = (toM none, [-11]) := by
  cases call with
  | create t a z => exact absurd rfl (h t a z)
  | _ => rfl
theorem by_state {op : Int} {ns : List Int} {call : Sr121.Call} (h0 : op ≠ 0) (hc : ∀ t a z, call ≠ .create t a z) (h : ∀ c, ans (mC c) op ns = outOf (Sr121.step (some c) call)) : ∀ s, ans (toM s) op ns = outOf (Sr121.step s call)
  | none => (ans_none op ns h0).trans (step_none hc).symm
  | some c => h c
theorem ans_low (c : Sr121.Chart) {op : Int} {ns : List Int} (h : op ≤ 6) : ans (mC c) op ns = ansChanges (mC c) op ns := by
  unfold ans
  rw [if_neg (fun q => absurd (show (1 : Int) = 0 from q.2) (by decide)), if_pos h]
theorem ans_mid (c : Sr121.Chart) {op : Int} {ns : List Int} (h1 : ¬ op ≤ 6) (h2 : op ≤ 12) : ans (mC c) op ns = (mC c, ansSums (mC c) op ns) := by
  unfold ans
  rw [if_neg (fun q => absurd (show (1 : Int) = 0 from q.2) (by decide)), if_neg h1, if_pos h2]
theorem ans_high (c : Sr121.Chart) {op : Int} {ns : List Int} (h1 : ¬ op ≤ 6) (h2 : ¬ op ≤ 12) : ans (mC c) op ns = (mC c, ansWeights (mC c) op ns) := by
  unfold ans
  rw [if_neg (fun q => absurd (show (1 : Int) = 0 from q.2) (by decide)), if_neg h1, if_neg h2]
theorem len0 {ns : List Int} (h : (0 : Int) = (ns.length : Int)) : ns = [] := by
  cases ns with
  | nil => rfl
  | cons x r => rw [List.length_cons] at h; omega
theorem len1 {ns : List Int} (h : (1 : Int) = (ns.length : Int)) : ∃ x, ns = [x] := by
  cases ns with
  | nil => rw [List.length_nil] at h; omega
  | cons x r =>
    have e := len0 (ns := r) (by rw [List.length_cons] at h; omega)
    exact ⟨x, by rw [e]⟩
theorem len2 {ns : List Int} (h : (2 : Int) = (ns.length : Int)) : ∃ x y, ns = [x, y] := by
  cases ns with
  | nil => rw [List.length_nil] at h; omega
  | cons x r =>
    obtain ⟨y, e⟩ := len1 (ns := r) (by rw [List.length_cons] at h; omega)
    exact ⟨x, y, by rw [e]⟩
theorem len3 {ns : List Int} (h : (3 : Int) = (ns.length : Int)) : ∃ x y z, ns = [x, y, z] := by
  cases ns with
  | nil => rw [List.length_nil] at h; omega
  | cons x r =>
    obtain ⟨y, z, e⟩ := len2 (ns := r) (by rw [List.length_cons] at h; omega)
    exact ⟨x, y, z, by rw [e]⟩
/-- a call that is not set_shots -/
theorem parse_is {op : Int} {ns : List Int} (h0 : 0 ≤ op) (h1 : op < 18) (h2 : op ≠ 2) (ha : ARGS.getD op.toNat 0 = (ns.length : Int)) :
    ∃ call, Sr121Neutral.parseCall [op :: ns] = some call ∧ ∀ s, ans (toM s) op ns = outOf (Sr121.step s call) := by
  rcases (by omega : op = 0 ∨ op = 1 ∨ op = 3 ∨ op = 4 ∨ op = 5 ∨ op = 6 ∨ op = 7 ∨ op = 8 ∨ op = 9 ∨ op = 10 ∨ op = 11 ∨ op = 12 ∨ op = 13 ∨ op = 14 ∨ op = 15 ∨ op = 16 ∨ op = 17) with
    rfl | rfl | rfl | rfl | rfl | rfl | rfl | rfl | rfl | rfl | rfl | rfl | rfl | rfl | rfl | rfl | rfl
  · obtain ⟨x, y, z, rfl⟩ := len3 ha
    refine ⟨.create x y z, rfl, fun s => ?_⟩
    rw [← create_is]
    exact (if_neg (fun q => q.1 rfl)).trans ((if_pos (by decide)).trans (if_pos rfl))
  · obtain ⟨x, rfl⟩ := len1 ha
    exact ⟨.addShot x, rfl, by_state (by decide) (fun _ _ _ q => nomatch q) fun c => (ans_low c (by decide)).trans ((show ansChanges (mC c) 1 [x] = addM (mC c) x from rfl).trans (add_is c x))⟩
  · obtain rfl := len0 ha
    exact ⟨.clearShots, rfl, by_state (by decide) (fun _ _ _ q => nomatch q) fun c => (ans_low c (by decide)).trans ((show ansChanges (mC c) 3 [] = clearM (mC c) from rfl).trans (clear_is c))⟩
  · obtain ⟨x, y, rfl⟩ := len2 ha
    exact ⟨.setWeight x y, rfl, by_state (by decide) (fun _ _ _ q => nomatch q) fun c => (ans_low c (by decide)).trans ((show ansChanges (mC c) 4 [x, y] = setWeightM (mC c) x y from rfl).trans (setWeight_is c x y))⟩
  · obtain ⟨x, rfl⟩ := len1 ha
    exact ⟨.setTarget x, rfl, by_state (by decide) (fun _ _ _ q => nomatch q) fun c => (ans_low c (by decide)).trans ((show ansChanges (mC c) 5 [x] = setTargetM (mC c) x from rfl).trans (setTarget_is c x))⟩
  · obtain ⟨x, y, rfl⟩ := len2 ha
    exact ⟨.setLimits x y, rfl, by_state (by decide) (fun _ _ _ q => nomatch q) fun c => (ans_low c (by decide)).trans ((show ansChanges (mC c) 6 [x, y] = setLimitsM (mC c) x y from rfl).trans (setLimits_is c x y))⟩
  · obtain rfl := len0 ha
    exact ⟨.upperSums, rfl, by_state (by decide) (fun _ _ _ q => nomatch q) fun c => (ans_mid c (by decide) (by decide)).trans (uppersums_is c)⟩
  · obtain rfl := len0 ha
    exact ⟨.lowerSums, rfl, by_state (by decide) (fun _ _ _ q => nomatch q) fun c => (ans_mid c (by decide) (by decide)).trans (lowersums_is c)⟩
  · obtain rfl := len0 ha
    exact ⟨.firstAlarm, rfl, by_state (by decide) (fun _ _ _ q => nomatch q) fun c => (ans_mid c (by decide) (by decide)).trans (firstAlarm_is c)⟩
  · obtain rfl := len0 ha
    exact ⟨.alarms, rfl, by_state (by decide) (fun _ _ _ q => nomatch q) fun c => (ans_mid c (by decide) (by decide)).trans (alarmlist_is c)⟩
  · obtain ⟨x, rfl⟩ := len1 ha
    exact ⟨.onset x, rfl, by_state (by decide) (fun _ _ _ q => nomatch q) fun c => (ans_mid c (by decide) (by decide)).trans (onsetop_is c x)⟩
  · obtain ⟨x, rfl⟩ := len1 ha
    exact ⟨.worstRuns x, rfl, by_state (by decide) (fun _ _ _ q => nomatch q) fun c => (ans_mid c (by decide) (by decide)).trans (worstop_is c x)⟩
  · obtain ⟨x, rfl⟩ := len1 ha
    exact ⟨.addShotIf x, rfl, by_state (by decide) (fun _ _ _ q => nomatch q) fun c => (ans_high c (by decide) (by decide)).trans (addif_is c x)⟩
  · obtain rfl := len0 ha
    exact ⟨.smallestAlarmingWeight, rfl, by_state (by decide) (fun _ _ _ q => nomatch q) fun c => (ans_high c (by decide) (by decide)).trans (smallest_is c)⟩
  · obtain rfl := len0 ha
    exact ⟨.longestRuns, rfl, by_state (by decide) (fun _ _ _ q => nomatch q) fun c => (ans_high c (by decide) (by decide)).trans (longestruns_is c)⟩
  · obtain rfl := len0 ha
    exact ⟨.meanWeight, rfl, by_state (by decide) (fun _ _ _ q => nomatch q) fun c => (ans_high c (by decide) (by decide)).trans (meanop_is c)⟩
  · obtain rfl := len0 ha
    exact ⟨.describe, rfl, by_state (by decide) (fun _ _ _ q => nomatch q) fun c => (ans_high c (by decide) (by decide)).trans (describe_is c)⟩
/-- set_shots -/
theorem parse2_is (ns : List Int) : ∀ s, ans (toM s) 2 ns = outOf (Sr121.step s (.setShots ns)) :=
  by_state (by decide) (fun _ _ _ q => nomatch q) fun c => (ans_low c (by decide)).trans ((show ansChanges (mC c) 2 ns = setShotsM (mC c) ns from rfl).trans (setShots_is c ns))

theorem reweigh_len (l : List Int) (i : Nat) (w : Int) (h : i < l.length) : (reweigh l i w).length = l.length := by
  rw [reweigh_is l i w h, List.length_set]
theorem ans_len {m : M} (h : m.weights.length ≤ 24) (op : Int) (ns : List Int) : (ans m op ns).1.weights.length ≤ 24 := by
  unfold ans
  split
  · exact h
  split
  · unfold ansChanges
    split
    · unfold createM
      split
      · exact Nat.zero_le _
      · exact h
    split
    · unfold addM
      split
      · split
        · exact h
        · show (m.weights ++ [_]).length ≤ 24
          rw [List.length_append, List.length_singleton]
          omega
      · exact h
    split
    · unfold setShotsM
      by_cases q : areW ns = true
      · rw [if_pos q]
        unfold areW at q
        rw [Bool.and_eq_true] at q
        exact of_decide_eq_true q.1
      · rw [if_neg q]
        exact h
    split
    · exact Nat.zero_le _
    split
    · unfold setWeightM
      by_cases q : hasShot m (ns.getD 0 0) = true
      · rw [if_pos q]
        split
        · show (reweigh _ _ _).length ≤ 24
          unfold hasShot at q
          rw [Bool.and_eq_true] at q
          have q1 := of_decide_eq_true q.1
          have q2 := of_decide_eq_true q.2
          rw [reweigh_len _ _ _ (by omega)]
          exact h
        · exact h
      · rw [if_neg q]
        exact h
    split
    · unfold setTargetM
      split <;> exact h
    · unfold setLimitsM
      split <;> exact h
  split
  · exact h
  · exact h

/-! ### One turn of the calls -/
theorem shape_is (p : Int) (h0 : 0 ≤ p) (h1 : p < 18) (h2 : p ≠ 2) : ∃ k : Nat, PySr121.shape p = some (k, 0) ∧ ARGS.getD p.toNat 0 = (k : Int) := by
  rcases (by omega : p = 0 ∨ p = 1 ∨ p = 3 ∨ p = 4 ∨ p = 5 ∨ p = 6 ∨ p = 7 ∨ p = 8 ∨ p = 9 ∨ p = 10 ∨ p = 11 ∨ p = 12 ∨ p = 13 ∨ p = 14 ∨ p = 15 ∨ p = 16 ∨ p = 17) with
    rfl | rfl | rfl | rfl | rfl | rfl | rfl | rfl | rfl | rfl | rfl | rfl | rfl | rfl | rfl | rfl | rfl <;> exact ⟨_, rfl, rfl⟩
theorem shape_none (p : Int) (h : ¬ (0 ≤ p ∧ p < 18)) : PySr121.shape p = none := by
  unfold PySr121.shape
  repeat rw [if_neg (by omega)]
theorem whole_is (c : List (List Int)) : PySr121.whole c = c := by
  unfold PySr121.whole
  split <;> rfl
theorem neutral_step {s : Sr121.State} {c : List (List Int)} {call : Sr121.Call} (h : Sr121Neutral.parseCall c = some call) : Sr121Neutral.step s c = ((Sr121.step s call).1, (Sr121.step s call).2.code :: (Sr121.step s call).2.values) := by
  unfold Sr121Neutral.step
  rw [h]
/-- what one call gives: the specification's step is the mirror's -/
structure Gives (c : List (List Int)) (op : Int) (ns : List Int) : Prop where
  ar : Ar op ns
  step : ∀ s, ans (toM s) op ns = (toM (Sr121Neutral.step s (PySr121.whole c)).1, (Sr121Neutral.step s (PySr121.whole c)).2)
theorem turn_is (l : List Int) (a f : Nat) (cs : List (List (List Int))) (ha : a < l.length) (h : PyFlat.calls PySr121.shape f (l.drop a) = some cs) :
    ∃ k c cs' f', CallAt l a k ∧ cs = c :: cs' ∧ PyFlat.calls PySr121.shape f' (l.drop (bgN l a + k)) = some cs' ∧ Gives c (l.getD a 0) ((l.drop (bgN l a)).take k) := by
  have ed : l.drop a = l[a] :: l.drop (a + 1) := List.drop_eq_getElem_cons ha
  have eg : l.getD a 0 = l[a] := by rw [List.getD_eq_getElem?_getD, List.getElem?_eq_getElem ha]; rfl
  rw [ed] at h
  cases f with
  | zero => exact nomatch h
  | succ f =>
    have h' : (match PyFlat.call PySr121.shape (l[a] :: l.drop (a + 1)) with
      | none => none
      | some (c, t) => match PyFlat.calls PySr121.shape f t with
        | none => none
        | some cs => some (c :: cs)) = some cs := h
    have hcall : PyFlat.call PySr121.shape (l[a] :: l.drop (a + 1)) = (match PySr121.shape l[a] with
      | none => none
      | some (n, k) => if (l.drop (a + 1)).length < n then none else match PyFlat.rows k ((l.drop (a + 1)).drop n) with
        | none => none
        | some (xs, t) => some ((l[a] :: (l.drop (a + 1)).take n) :: xs, t)) := rfl
    rw [hcall] at h'
    rw [eg]
    have hlo : 0 ≤ l[a] ∧ l[a] < 18 := by
      by_cases q : 0 ≤ l[a] ∧ l[a] < 18
      · exact q
      · rw [shape_none _ q] at h'
        exact nomatch h'
    by_cases h2 : l[a] = 2
    · have hs : PySr121.shape l[a] = some (0, 1) := by rw [h2]; rfl
      rw [hs] at h'
      have hr : PyFlat.rows 1 ((l.drop (a + 1)).drop 0) = (match PyFlat.row (l.drop (a + 1)) with
        | none => none
        | some (x, s) => some ([x], s)) := by
        show (match PyFlat.row (l.drop (a + 1)) with
          | none => none
          | some (x, s) => match PyFlat.rows 0 s with
            | none => none
            | some (xs, t) => some (x :: xs, t)) = _
        cases PyFlat.row (l.drop (a + 1)) with
        | none => rfl
        | some x => rfl
      dsimp only at h'
      rw [hr, if_neg (Nat.not_lt_zero _)] at h'
      by_cases hb : a + 1 < l.length
      · have ed2 : l.drop (a + 1) = l[a + 1] :: l.drop (a + 2) := List.drop_eq_getElem_cons hb
        have eg2 : l.getD (a + 1) 0 = l[a + 1] := by rw [List.getD_eq_getElem?_getD, List.getElem?_eq_getElem hb]; rfl
        have hrow : PyFlat.row (l.drop (a + 1)) = if 0 ≤ l[a + 1] ∧ l[a + 1].toNat ≤ (l.drop (a + 2)).length then some ((l.drop (a + 2)).take l[a + 1].toNat, (l.drop (a + 2)).drop l[a + 1].toNat) else none := by
          rw [ed2]
          rfl
        rw [hrow] at h'
        by_cases hn : 0 ≤ l[a + 1] ∧ l[a + 1].toNat ≤ (l.drop (a + 2)).length
        · rw [if_pos hn] at h'
          dsimp only at h'
          have hlen := hn.2
          rw [List.length_drop] at hlen
          have ebg : bgN l a = a + 2 := by unfold bgN; rw [eg, if_pos h2]
          cases hc : PyFlat.calls PySr121.shape f ((l.drop (a + 2)).drop l[a + 1].toNat) with
          | none =>
            rw [hc] at h'
            exact nomatch h'
          | some cs' =>
            rw [hc] at h'
            refine ⟨l[a + 1].toNat, _, cs', f, ⟨ha, fun _ => hb, by rw [eg]; exact hlo.1, by rw [eg]; exact hlo.2, ?_, by rw [ebg]; omega⟩, (Option.some.inj h').symm, ?_, .inl h2, fun s => ?_⟩
            · unfold enI
              rw [eg, if_pos h2, eg2, ebg]
              omega
            · rw [ebg, ← List.drop_drop]
              exact hc
            · rw [whole_is, h2, ebg]
              show _ = (toM (Sr121Neutral.step s [[2], (l.drop (a + 2)).take l[a + 1].toNat]).1, (Sr121Neutral.step s [[2], (l.drop (a + 2)).take l[a + 1].toNat]).2)
              rw [neutral_step (call := .setShots ((l.drop (a + 2)).take l[a + 1].toNat)) rfl]
              exact parse2_is _ s
        · rw [if_neg hn] at h'
          exact nomatch h'
      · have e0 : l.drop (a + 1) = [] := List.drop_eq_nil_of_le (by omega)
        rw [e0] at h'
        exact nomatch h'
    · obtain ⟨k, hs, hk⟩ := shape_is _ hlo.1 hlo.2 h2
      rw [hs] at h'
      dsimp only at h'
      by_cases hl : (l.drop (a + 1)).length < k
      · rw [if_pos hl] at h'
        exact nomatch h'
      · rw [if_neg hl] at h'
        rw [List.length_drop] at hl
        have ebg : bgN l a = a + 1 := by unfold bgN; rw [eg, if_neg h2]
        have h'' : (match PyFlat.calls PySr121.shape f ((l.drop (a + 1)).drop k) with
          | none => none
          | some cs => some ([l[a] :: (l.drop (a + 1)).take k] :: cs)) = some cs := h'
        cases hc : PyFlat.calls PySr121.shape f ((l.drop (a + 1)).drop k) with
        | none =>
          rw [hc] at h''
          exact nomatch h''
        | some cs' =>
          rw [hc] at h''
          have hns : ((l.drop (a + 1)).take k).length = k := by
            rw [List.length_take, List.length_drop]
            omega
          obtain ⟨call, p1, p2⟩ := parse_is (op := l[a]) (ns := (l.drop (a + 1)).take k) hlo.1 hlo.2 h2 (by rw [hns]; exact hk)
          refine ⟨k, _, cs', f, ⟨ha, fun q => absurd (eg.symm.trans q) h2, by rw [eg]; exact hlo.1, by rw [eg]; exact hlo.2, ?_, by rw [ebg]; omega⟩, (Option.some.inj h'').symm, ?_, .inr ?_, fun s => ?_⟩
          · unfold enI
            rw [eg, if_neg h2, hk, ebg]
            omega
          · rw [ebg, ← List.drop_drop]
            exact hc
          · rw [ebg, hns]
            exact hk
          · rw [whole_is, ebg, neutral_step p1]
            exact p2 s

/-! ### All calls -/
/-- behind the calls ahead of a: found is told, the state is s -/
def At (l : List Int) (a : Nat) (found : List Int) (s : Sr121.State) : Prop := ∃ f cs, PyFlat.calls PySr121.shape f (l.drop a) = some cs ∧
  PySr121.answers l = found ++ PyFlat.told (PyFlat.played Sr121Neutral.step s (cs.map PySr121.whole)) ∧ Wf s
theorem at_start {l : List Int} (h : PySr121.answers_asked l = true) : At l 0 [] none := by
  unfold PySr121.answers_asked at h
  cases hc : PyFlat.calls PySr121.shape l.length l with
  | none =>
    rw [hc] at h
    exact nomatch h
  | some cs =>
    refine ⟨l.length, cs, hc, ?_, Nat.zero_le _⟩
    unfold PySr121.answers PySr121.calls
    rw [hc]
    rfl
theorem at_turn {l : List Int} {a : Nat} {found : List Int} {s : Sr121.State} (h : At l a found s) (ha : a < l.length) :
    ∃ k s' out, CallAt l a k ∧ Ar (l.getD a 0) ((l.drop (bgN l a)).take k) ∧ ans (toM s) (l.getD a 0) ((l.drop (bgN l a)).take k) = (toM s', out) ∧ At l (bgN l a + k) (found ++ [(out.length : Int)] ++ out) s' := by
  obtain ⟨f, cs, hc, he, hw⟩ := h
  obtain ⟨k, c, cs', f', hC, rfl, hc', hG⟩ := turn_is l a f cs ha hc
  refine ⟨k, (Sr121Neutral.step s (PySr121.whole c)).1, (Sr121Neutral.step s (PySr121.whole c)).2, hC, hG.ar, hG.step s, f', cs', hc', ?_, ?_⟩
  · rw [he, List.append_assoc, List.append_assoc]
    rfl
  · have q := ans_len hw (l.getD a 0) ((l.drop (bgN l a)).take k)
    rw [hG.step s] at q
    exact q
theorem at_end {l : List Int} {a : Nat} {found : List Int} {s : Sr121.State} (h : At l a found s) (ha : l.length ≤ a) : PySr121.answers l = found := by
  obtain ⟨f, cs, hc, he, _⟩ := h
  rw [List.drop_eq_nil_of_le ha] at hc
  have e : cs = [] := by
    cases f with
    | zero => exact (Option.some.inj hc).symm
    | succ f => exact (Option.some.inj hc).symm
  rw [he, e]
  exact List.append_nil _
theorem at_pre {l : List Int} {a : Nat} {found : List Int} {s : Sr121.State} (h : At l a found s) (hs : PySr121.answers_asked l = true) : found.length ≤ 10000000 := by
  obtain ⟨f, cs, _, he, _⟩ := h
  unfold PySr121.answers_asked at hs
  cases hc : PyFlat.calls PySr121.shape l.length l with
  | none =>
    rw [hc] at hs
    exact nomatch hs
  | some cs =>
    rw [hc] at hs
    simp only [Bool.and_eq_true] at hs
    have q : decide ((PySr121.answers l).length ≤ 10000000) = true := hs.2
    have q2 := of_decide_eq_true q
    rw [he, List.length_append] at q2
    omega
theorem at_wf {l : List Int} {a : Nat} {found : List Int} {s : Sr121.State} (h : At l a found s) : (toM s).weights.length ≤ 24 := by
  obtain ⟨_, _, _, _, hw⟩ := h
  exact hw
end Ss

set_option Elab.async false
set_option maxRecDepth 100000
set_option maxHeartbeats 4000000
/-! The defs of the package by their places, how the chart lies in the heap, and the promise of each def. -/
namespace Ss
open PySem PySem.Spec PyProof.Rows L2

/-! ### The text by places -/
def top (i : Nat) : Stmt := PySem.Challenge.pw_shotsums_s01_answers.main.body.getD i (.Pass ⟨0, 0, 0, 0⟩)
abbrev s_is_weight : Stmt := top 10
abbrev n_is_weight : List Str := ["number"]
abbrev p_is_weight : List Str := ["number"]
theorem sc_is_weight : FnScope n_is_weight p_is_weight (defScope s_is_weight) := ⟨rfl, rfl, rfl, by decide +kernel, rfl, by decide +kernel, by decide +kernel⟩
abbrev s_is_limit : Stmt := top 11
abbrev n_is_limit : List Str := ["number"]
abbrev p_is_limit : List Str := ["number"]
theorem sc_is_limit : FnScope n_is_limit p_is_limit (defScope s_is_limit) := ⟨rfl, rfl, rfl, by decide +kernel, rfl, by decide +kernel, by decide +kernel⟩
abbrev s_are_weights : Stmt := top 12
abbrev n_are_weights : List Str := ["numbers", "number"]
abbrev p_are_weights : List Str := ["numbers"]
theorem sc_are_weights : FnScope n_are_weights p_are_weights (defScope s_are_weights) := ⟨rfl, rfl, rfl, by decide +kernel, rfl, by decide +kernel, by decide +kernel⟩
abbrev s_excesses : Stmt := top 14
abbrev n_excesses : List Str := ["weights", "target", "allowance", "weight"]
abbrev p_excesses : List Str := ["weights", "target", "allowance"]
theorem sc_excesses : FnScope n_excesses p_excesses (defScope s_excesses) := ⟨rfl, rfl, rfl, by decide +kernel, rfl, by decide +kernel, by decide +kernel⟩
abbrev s_shortfalls : Stmt := top 15
abbrev n_shortfalls : List Str := ["weights", "target", "allowance", "weight"]
abbrev p_shortfalls : List Str := ["weights", "target", "allowance"]
theorem sc_shortfalls : FnScope n_shortfalls p_shortfalls (defScope s_shortfalls) := ⟨rfl, rfl, rfl, by decide +kernel, rfl, by decide +kernel, by decide +kernel⟩
abbrev s_cumulative : Stmt := top 16
abbrev n_cumulative : List Str := ["steps", "found", "last", "step"]
abbrev p_cumulative : List Str := ["steps"]
theorem sc_cumulative : FnScope n_cumulative p_cumulative (defScope s_cumulative) := ⟨rfl, rfl, rfl, by decide +kernel, rfl, by decide +kernel, by decide +kernel⟩
abbrev s_upper_of : Stmt := top 17
abbrev n_upper_of : List Str := ["weights", "target", "allowance"]
abbrev p_upper_of : List Str := ["weights", "target", "allowance"]
theorem sc_upper_of : FnScope n_upper_of p_upper_of (defScope s_upper_of) := ⟨rfl, rfl, rfl, by decide +kernel, rfl, by decide +kernel, by decide +kernel⟩
abbrev s_lower_of : Stmt := top 18
abbrev n_lower_of : List Str := ["weights", "target", "allowance"]
abbrev p_lower_of : List Str := ["weights", "target", "allowance"]
theorem sc_lower_of : FnScope n_lower_of p_lower_of (defScope s_lower_of) := ⟨rfl, rfl, rfl, by decide +kernel, rfl, by decide +kernel, by decide +kernel⟩
abbrev s_last_of : Stmt := top 19
abbrev n_last_of : List Str := ["sums"]
abbrev p_last_of : List Str := ["sums"]
theorem sc_last_of : FnScope n_last_of p_last_of (defScope s_last_of) := ⟨rfl, rfl, rfl, by decide +kernel, rfl, by decide +kernel, by decide +kernel⟩
abbrev s_alarm_code : Stmt := top 20
abbrev n_alarm_code : List Str := ["upper", "lower", "threshold"]
abbrev p_alarm_code : List Str := ["upper", "lower", "threshold"]
theorem sc_alarm_code : FnScope n_alarm_code p_alarm_code (defScope s_alarm_code) := ⟨rfl, rfl, rfl, by decide +kernel, rfl, by decide +kernel, by decide +kernel⟩
abbrev s_alarm_codes : Stmt := top 21
abbrev n_alarm_codes : List Str := ["uppers", "lowers", "threshold", "upper", "lower"]
abbrev p_alarm_codes : List Str := ["uppers", "lowers", "threshold"]
theorem sc_alarm_codes : FnScope n_alarm_codes p_alarm_codes (defScope s_alarm_codes) := ⟨rfl, rfl, rfl, by decide +kernel, rfl, by decide +kernel, by decide +kernel⟩
abbrev s_onset_in : Stmt := top 22
abbrev n_onset_in : List Str := ["sums", "shot", "found", "place"]
abbrev p_onset_in : List Str := ["sums", "shot"]
theorem sc_onset_in : FnScope n_onset_in p_onset_in (defScope s_onset_in) := ⟨rfl, rfl, rfl, by decide +kernel, rfl, by decide +kernel, by decide +kernel⟩
abbrev s_has_shot : Stmt := top 24
abbrev n_has_shot : List Str := ["chart", "shot"]
abbrev p_has_shot : List Str := ["chart", "shot"]
theorem sc_has_shot : FnScope n_has_shot p_has_shot (defScope s_has_shot) := ⟨rfl, rfl, rfl, by decide +kernel, rfl, by decide +kernel, by decide +kernel⟩
abbrev s_told_last : Stmt := top 25
abbrev n_told_last : List Str := ["chart", "weights", "upper", "lower"]
abbrev p_told_last : List Str := ["chart", "weights"]
theorem sc_told_last : FnScope n_told_last p_told_last (defScope s_told_last) := ⟨rfl, rfl, rfl, by decide +kernel, rfl, by decide +kernel, by decide +kernel⟩
abbrev s_create : Stmt := top 26
abbrev n_create : List Str := ["chart", "target", "allowance", "threshold"]
abbrev p_create : List Str := ["chart", "target", "allowance", "threshold"]
theorem sc_create : FnScope n_create p_create (defScope s_create) := ⟨rfl, rfl, rfl, by decide +kernel, rfl, by decide +kernel, by decide +kernel⟩
abbrev s_add_shot : Stmt := top 27
abbrev n_add_shot : List Str := ["chart", "weight"]
abbrev p_add_shot : List Str := ["chart", "weight"]
theorem sc_add_shot : FnScope n_add_shot p_add_shot (defScope s_add_shot) := ⟨rfl, rfl, rfl, by decide +kernel, rfl, by decide +kernel, by decide +kernel⟩
abbrev s_set_shots : Stmt := top 28
abbrev n_set_shots : List Str := ["chart", "weights"]
abbrev p_set_shots : List Str := ["chart", "weights"]
theorem sc_set_shots : FnScope n_set_shots p_set_shots (defScope s_set_shots) := ⟨rfl, rfl, rfl, by decide +kernel, rfl, by decide +kernel, by decide +kernel⟩
abbrev s_clear_shots : Stmt := top 29
abbrev n_clear_shots : List Str := ["chart", "count"]
abbrev p_clear_shots : List Str := ["chart"]
theorem sc_clear_shots : FnScope n_clear_shots p_clear_shots (defScope s_clear_shots) := ⟨rfl, rfl, rfl, by decide +kernel, rfl, by decide +kernel, by decide +kernel⟩
abbrev s_set_weight : Stmt := top 30
abbrev n_set_weight : List Str := ["chart", "shot", "weight", "previous"]
abbrev p_set_weight : List Str := ["chart", "shot", "weight"]
theorem sc_set_weight : FnScope n_set_weight p_set_weight (defScope s_set_weight) := ⟨rfl, rfl, rfl, by decide +kernel, rfl, by decide +kernel, by decide +kernel⟩
abbrev s_set_target : Stmt := top 31
abbrev n_set_target : List Str := ["chart", "target", "previous"]
abbrev p_set_target : List Str := ["chart", "target"]
theorem sc_set_target : FnScope n_set_target p_set_target (defScope s_set_target) := ⟨rfl, rfl, rfl, by decide +kernel, rfl, by decide +kernel, by decide +kernel⟩
abbrev s_set_limits : Stmt := top 32
abbrev n_set_limits : List Str := ["chart", "allowance", "threshold", "previous"]
abbrev p_set_limits : List Str := ["chart", "allowance", "threshold"]
theorem sc_set_limits : FnScope n_set_limits p_set_limits (defScope s_set_limits) := ⟨rfl, rfl, rfl, by decide +kernel, rfl, by decide +kernel, by decide +kernel⟩
abbrev s_divisor_of : Stmt := top 34
abbrev n_divisor_of : List Str := ["one", "other"]
abbrev p_divisor_of : List Str := ["one", "other"]
theorem sc_divisor_of : FnScope n_divisor_of p_divisor_of (defScope s_divisor_of) := ⟨rfl, rfl, rfl, by decide +kernel, rfl, by decide +kernel, by decide +kernel⟩
abbrev s_lowest_terms : Stmt := top 35
abbrev n_lowest_terms : List Str := ["above", "below", "divisor"]
abbrev p_lowest_terms : List Str := ["above", "below"]
theorem sc_lowest_terms : FnScope n_lowest_terms p_lowest_terms (defScope s_lowest_terms) := ⟨rfl, rfl, rfl, by decide +kernel, rfl, by decide +kernel, by decide +kernel⟩
abbrev s_worst_run : Stmt := top 37
abbrev n_worst_run : List Str := ["steps", "shot", "value", "start", "total", "back", "place"]
abbrev p_worst_run : List Str := ["steps", "shot"]
theorem sc_worst_run : FnScope n_worst_run p_worst_run (defScope s_worst_run) := ⟨rfl, rfl, rfl, by decide +kernel, rfl, by decide +kernel, by decide +kernel⟩
abbrev s_longest_run : Stmt := top 38
abbrev n_longest_run : List Str := ["marks", "found", "length", "mark"]
abbrev p_longest_run : List Str := ["marks"]
theorem sc_longest_run : FnScope n_longest_run p_longest_run (defScope s_longest_run) := ⟨rfl, rfl, rfl, by decide +kernel, rfl, by decide +kernel, by decide +kernel⟩
abbrev s_longest_above : Stmt := top 39
abbrev n_longest_above : List Str := ["weights", "target", "weight"]
abbrev p_longest_above : List Str := ["weights", "target"]
theorem sc_longest_above : FnScope n_longest_above p_longest_above (defScope s_longest_above) := ⟨rfl, rfl, rfl, by decide +kernel, rfl, by decide +kernel, by decide +kernel⟩
abbrev s_longest_below : Stmt := top 40
abbrev n_longest_below : List Str := ["weights", "target", "weight"]
abbrev p_longest_below : List Str := ["weights", "target"]
theorem sc_longest_below : FnScope n_longest_below p_longest_below (defScope s_longest_below) := ⟨rfl, rfl, rfl, by decide +kernel, rfl, by decide +kernel, by decide +kernel⟩
abbrev s_uppers_of : Stmt := top 42
abbrev n_uppers_of : List Str := ["chart"]
abbrev p_uppers_of : List Str := ["chart"]
theorem sc_uppers_of : FnScope n_uppers_of p_uppers_of (defScope s_uppers_of) := ⟨rfl, rfl, rfl, by decide +kernel, rfl, by decide +kernel, by decide +kernel⟩
abbrev s_lowers_of : Stmt := top 43
abbrev n_lowers_of : List Str := ["chart"]
abbrev p_lowers_of : List Str := ["chart"]
theorem sc_lowers_of : FnScope n_lowers_of p_lowers_of (defScope s_lowers_of) := ⟨rfl, rfl, rfl, by decide +kernel, rfl, by decide +kernel, by decide +kernel⟩
abbrev s_codes_of : Stmt := top 44
abbrev n_codes_of : List Str := ["chart"]
abbrev p_codes_of : List Str := ["chart"]
theorem sc_codes_of : FnScope n_codes_of p_codes_of (defScope s_codes_of) := ⟨rfl, rfl, rfl, by decide +kernel, rfl, by decide +kernel, by decide +kernel⟩
abbrev s_shots_with_alarm : Stmt := top 45
abbrev n_shots_with_alarm : List Str := ["chart", "shot", "code"]
abbrev p_shots_with_alarm : List Str := ["chart"]
theorem sc_shots_with_alarm : FnScope n_shots_with_alarm p_shots_with_alarm (defScope s_shots_with_alarm) := ⟨rfl, rfl, rfl, by decide +kernel, rfl, by decide +kernel, by decide +kernel⟩
abbrev s_counted : Stmt := top 46
abbrev n_counted : List Str := ["numbers"]
abbrev p_counted : List Str := ["numbers"]
theorem sc_counted : FnScope n_counted p_counted (defScope s_counted) := ⟨rfl, rfl, rfl, by decide +kernel, rfl, by decide +kernel, by decide +kernel⟩
abbrev s_upper_sums : Stmt := top 47
abbrev n_upper_sums : List Str := ["chart"]
abbrev p_upper_sums : List Str := ["chart"]
theorem sc_upper_sums : FnScope n_upper_sums p_upper_sums (defScope s_upper_sums) := ⟨rfl, rfl, rfl, by decide +kernel, rfl, by decide +kernel, by decide +kernel⟩
abbrev s_lower_sums : Stmt := top 48
abbrev n_lower_sums : List Str := ["chart"]
abbrev p_lower_sums : List Str := ["chart"]
theorem sc_lower_sums : FnScope n_lower_sums p_lower_sums (defScope s_lower_sums) := ⟨rfl, rfl, rfl, by decide +kernel, rfl, by decide +kernel, by decide +kernel⟩
abbrev s_first_alarm : Stmt := top 49
abbrev n_first_alarm : List Str := ["chart", "shots"]
abbrev p_first_alarm : List Str := ["chart"]
theorem sc_first_alarm : FnScope n_first_alarm p_first_alarm (defScope s_first_alarm) := ⟨rfl, rfl, rfl, by decide +kernel, rfl, by decide +kernel, by decide +kernel⟩
abbrev s_alarms : Stmt := top 50
abbrev n_alarms : List Str := ["chart"]
abbrev p_alarms : List Str := ["chart"]
theorem sc_alarms : FnScope n_alarms p_alarms (defScope s_alarms) := ⟨rfl, rfl, rfl, by decide +kernel, rfl, by decide +kernel, by decide +kernel⟩
abbrev s_onset : Stmt := top 51
abbrev n_onset : List Str := ["chart", "shot"]
abbrev p_onset : List Str := ["chart", "shot"]
theorem sc_onset : FnScope n_onset p_onset (defScope s_onset) := ⟨rfl, rfl, rfl, by decide +kernel, rfl, by decide +kernel, by decide +kernel⟩
abbrev s_worst_runs : Stmt := top 52
abbrev n_worst_runs : List Str := ["chart", "shot", "over", "under"]
abbrev p_worst_runs : List Str := ["chart", "shot"]
theorem sc_worst_runs : FnScope n_worst_runs p_worst_runs (defScope s_worst_runs) := ⟨rfl, rfl, rfl, by decide +kernel, rfl, by decide +kernel, by decide +kernel⟩
abbrev s_add_shot_if : Stmt := top 53
abbrev n_add_shot_if : List Str := ["chart", "weight"]
abbrev p_add_shot_if : List Str := ["chart", "weight"]
theorem sc_add_shot_if : FnScope n_add_shot_if p_add_shot_if (defScope s_add_shot_if) := ⟨rfl, rfl, rfl, by decide +kernel, rfl, by decide +kernel, by decide +kernel⟩
abbrev s_smallest_alarming_weight : Stmt := top 54
abbrev n_smallest_alarming_weight : List Str := ["chart", "last"]
abbrev p_smallest_alarming_weight : List Str := ["chart"]
theorem sc_smallest_alarming_weight : FnScope n_smallest_alarming_weight p_smallest_alarming_weight (defScope s_smallest_alarming_weight) := ⟨rfl, rfl, rfl, by decide +kernel, rfl, by decide +kernel, by decide +kernel⟩
abbrev s_longest_runs : Stmt := top 55
abbrev n_longest_runs : List Str := ["chart"]
abbrev p_longest_runs : List Str := ["chart"]
theorem sc_longest_runs : FnScope n_longest_runs p_longest_runs (defScope s_longest_runs) := ⟨rfl, rfl, rfl, by decide +kernel, rfl, by decide +kernel, by decide +kernel⟩
abbrev s_mean_weight : Stmt := top 56
abbrev n_mean_weight : List Str := ["chart", "count"]
abbrev p_mean_weight : List Str := ["chart"]
theorem sc_mean_weight : FnScope n_mean_weight p_mean_weight (defScope s_mean_weight) := ⟨rfl, rfl, rfl, by decide +kernel, rfl, by decide +kernel, by decide +kernel⟩
abbrev s_describe : Stmt := top 57
abbrev n_describe : List Str := ["chart"]
abbrev p_describe : List Str := ["chart"]
theorem sc_describe : FnScope n_describe p_describe (defScope s_describe) := ⟨rfl, rfl, rfl, by decide +kernel, rfl, by decide +kernel, by decide +kernel⟩
abbrev s_answer_changes : Stmt := top 63
abbrev n_answer_changes : List Str := ["chart", "operation", "numbers"]
abbrev p_answer_changes : List Str := ["chart", "operation", "numbers"]
theorem sc_answer_changes : FnScope n_answer_changes p_answer_changes (defScope s_answer_changes) := ⟨rfl, rfl, rfl, by decide +kernel, rfl, by decide +kernel, by decide +kernel⟩
abbrev s_answer_sums : Stmt := top 64
abbrev n_answer_sums : List Str := ["chart", "operation", "numbers"]
abbrev p_answer_sums : List Str := ["chart", "operation", "numbers"]
theorem sc_answer_sums : FnScope n_answer_sums p_answer_sums (defScope s_answer_sums) := ⟨rfl, rfl, rfl, by decide +kernel, rfl, by decide +kernel, by decide +kernel⟩
abbrev s_answer_weights : Stmt := top 65
abbrev n_answer_weights : List Str := ["chart", "operation", "numbers"]
abbrev p_answer_weights : List Str := ["chart", "operation", "numbers"]
theorem sc_answer_weights : FnScope n_answer_weights p_answer_weights (defScope s_answer_weights) := ⟨rfl, rfl, rfl, by decide +kernel, rfl, by decide +kernel, by decide +kernel⟩
abbrev s_answer : Stmt := top 66
abbrev n_answer : List Str := ["chart", "operation", "numbers"]
abbrev p_answer : List Str := ["chart", "operation", "numbers"]
theorem sc_answer : FnScope n_answer p_answer (defScope s_answer) := ⟨rfl, rfl, rfl, by decide +kernel, rfl, by decide +kernel, by decide +kernel⟩
abbrev s_begin_of : Stmt := top 67
abbrev n_begin_of : List Str := ["calls", "at"]
abbrev p_begin_of : List Str := ["calls", "at"]
theorem sc_begin_of : FnScope n_begin_of p_begin_of (defScope s_begin_of) := ⟨rfl, rfl, rfl, by decide +kernel, rfl, by decide +kernel, by decide +kernel⟩
abbrev s_end_of : Stmt := top 68
abbrev n_end_of : List Str := ["calls", "at"]
abbrev p_end_of : List Str := ["calls", "at"]
theorem sc_end_of : FnScope n_end_of p_end_of (defScope s_end_of) := ⟨rfl, rfl, rfl, by decide +kernel, rfl, by decide +kernel, by decide +kernel⟩
abbrev s_numbers_of : Stmt := top 69
abbrev n_numbers_of : List Str := ["calls", "at", "place"]
abbrev p_numbers_of : List Str := ["calls", "at"]
theorem sc_numbers_of : FnScope n_numbers_of p_numbers_of (defScope s_numbers_of) := ⟨rfl, rfl, rfl, by decide +kernel, rfl, by decide +kernel, by decide +kernel⟩
abbrev s_answers : Stmt := top 70
abbrev n_answers : List Str := ["calls", "chart", "found", "at", "told"]
abbrev p_answers : List Str := ["calls"]
theorem sc_answers : FnScope n_answers p_answers (defScope s_answers) := ⟨rfl, rfl, rfl, by decide +kernel, rfl, by decide +kernel, by decide +kernel⟩
abbrev s_m_init : Stmt := inClass (top 59) 0
abbrev p_m_init : List Str := ["self"]
theorem sc_m_init : FnScope p_m_init p_m_init (defScope s_m_init) := ⟨rfl, rfl, rfl, by decide +kernel, rfl, by decide +kernel, by decide +kernel⟩
abbrev s_m_begin : Stmt := inClass (top 59) 1
abbrev p_m_begin : List Str := ["self", "target", "allowance", "threshold"]
theorem sc_m_begin : FnScope p_m_begin p_m_begin (defScope s_m_begin) := ⟨rfl, rfl, rfl, by decide +kernel, rfl, by decide +kernel, by decide +kernel⟩
abbrev s_m_shoot : Stmt := inClass (top 59) 2
abbrev p_m_shoot : List Str := ["self", "weight"]
theorem sc_m_shoot : FnScope p_m_shoot p_m_shoot (defScope s_m_shoot) := ⟨rfl, rfl, rfl, by decide +kernel, rfl, by decide +kernel, by decide +kernel⟩
abbrev s_m_refill : Stmt := inClass (top 59) 3
abbrev p_m_refill : List Str := ["self", "weights"]
theorem sc_m_refill : FnScope p_m_refill p_m_refill (defScope s_m_refill) := ⟨rfl, rfl, rfl, by decide +kernel, rfl, by decide +kernel, by decide +kernel⟩
abbrev s_m_reweigh : Stmt := inClass (top 59) 4
abbrev p_m_reweigh : List Str := ["self", "shot", "weight"]
theorem sc_m_reweigh : FnScope p_m_reweigh p_m_reweigh (defScope s_m_reweigh) := ⟨rfl, rfl, rfl, by decide +kernel, rfl, by decide +kernel, by decide +kernel⟩
abbrev s_m_retarget : Stmt := inClass (top 59) 5
abbrev p_m_retarget : List Str := ["self", "target"]
theorem sc_m_retarget : FnScope p_m_retarget p_m_retarget (defScope s_m_retarget) := ⟨rfl, rfl, rfl, by decide +kernel, rfl, by decide +kernel, by decide +kernel⟩
abbrev s_m_limit : Stmt := inClass (top 59) 6
abbrev p_m_limit : List Str := ["self", "allowance", "threshold"]
theorem sc_m_limit : FnScope p_m_limit p_m_limit (defScope s_m_limit) := ⟨rfl, rfl, rfl, by decide +kernel, rfl, by decide +kernel, by decide +kernel⟩

/-! ### Defs by name -/
/-- the def st stands under the name x -/
structure Src (K : PySem.W.Frag) (mg : Str → Option Value) (x : Str) (st : Stmt) (ps : List Str) : Prop where
  ex : ∃ (f : Addr) (fd : FuncData), Fun K x x st f fd ∧ mg x = some (.ref f) ∧ Binds K fd ps []
/-- under the name x stands a def that keeps its promise -/
def Dn (P : Program) (w : World) (K : PySem.W.Frag) (mg : Str → Option Value) (base : Heap) (x : Str) (k : Nat) (ps : List Str) (sp : Sp) : Prop :=
  ∃ (f : Addr) (fd : FuncData), mg x = some (.ref f) ∧ PySem.W.keepIn K (.ref f) = true ∧ Binds K fd ps [] ∧ FnOk P w K mg base CX0 k f fd ps sp
/-- the method st of the class at C -/
structure MSrc (K : PySem.W.Frag) (C : Addr) (x qual : Str) (st : Stmt) (ps : List Str) : Prop where
  ex : ∃ (f : Addr) (fd : FuncData), Fun K x qual st f fd ∧ Meth K C x f ∧ Binds K fd ps []
def Md (P : Program) (w : World) (K : PySem.W.Frag) (mg : Str → Option Value) (base : Heap) (C : Addr) (x : Str) (k : Nat) (ps : List Str) (sp : Sp) : Prop :=
  ∃ (f : Addr) (fd : FuncData), Meth K C x f ∧ Binds K fd ps [] ∧ FnOk P w K mg base CX0 k f fd ps sp
section
variable {P : Program} {w : World} {K : PySem.W.Frag} {mg : Str → Option Value} {base : Heap}
theorem Src.dn {x : Str} {st : Stmt} {N ps : List Str} {k : Nat} {sp : Sp} (S : Src K mg x st ps) (sc : FnScope N ps (defScope st)) (len : ∀ vs H Q E, sp vs H Q E → vs.length = ps.length)
    (body : ∀ (f : Addr) (cdv : Value) (A : Around) (outer : List Env) (s : Shared) (H : Hp) (vs : List V) (Q : VK) (E : XK), Room k (A.deeper (envOfC x (defScope st) s.heap.objs.size f cdv)) → sp vs H Q E →
      ∃ t, PSs (cxOf CX0 P w K mg base N x (defScope st) f cdv A outer s H E).nox (defBody st) t ∧ t { nx := fun _ H' => Q .non H', rt := Q } (start N vs) H) : Dn P w K mg base x (k + 1) ps sp := by
  obtain ⟨f, fd, F, g, b⟩ := S.ex
  exact ⟨f, fd, g, F.kp, b, F.ok sc len fun cdv A outer s H vs Q E hr h => body f cdv A outer s H vs Q E hr h⟩
theorem MSrc.md {C : Addr} {x qual : Str} {st : Stmt} {N ps : List Str} {k : Nat} {sp : Sp} (S : MSrc K C x qual st ps) (sc : FnScope N ps (defScope st)) (len : ∀ vs H Q E, sp vs H Q E → vs.length = ps.length)
    (body : ∀ (f : Addr) (cdv : Value) (A : Around) (outer : List Env) (s : Shared) (H : Hp) (vs : List V) (Q : VK) (E : XK), Room k (A.deeper (envOfC qual (defScope st) s.heap.objs.size f cdv)) → sp vs H Q E →
      ∃ t, PSs (cxOf CX0 P w K mg base N qual (defScope st) f cdv A outer s H E).nox (defBody st) t ∧ t { nx := fun _ H' => Q .non H', rt := Q } (start N vs) H) : Md P w K mg base C x (k + 1) ps sp := by
  obtain ⟨f, fd, F, g, b⟩ := S.ex
  exact ⟨f, fd, g, b, F.ok sc len fun cdv A outer s H vs Q E hr h => body f cdv A outer s H vs Q E hr h⟩
end
section
variable {X : Cx} {x : Str} {j k : Nat} {ps : List Str} {sp : Sp} {e o : Expr} {es : List Expr} {p pos apos : Pos} {t : TA} {ta : TE} {C : Addr}
/-- a call of such a def -/
theorem pcall (D : Dn X.prog X.w X.K X.mg X.base x k ps sp) (hr : Room j X.A) (ha : PA X (e :: es) t) (hk : k ≤ j := by decide) (hg : Gl X x := by rfl)
    (hd : (x == ("__debug__" : Str)) = false := by decide) (he : starEach (e :: es) X.env = (false, eval e X.env) :: starEach es X.env := by rfl) (hp : (backTo pos (starEach es X.env)).any (·.1) = false := by rfl) :
    PE X (.Call (.Name x p) (e :: es) [] pos) (tCall sp [] E0 t) := by
  obtain ⟨f, fd, g, kp, b, F⟩ := D
  exact pe_call F (hr.mono hk) hg g kp b .nil pass0 ha hd he hp
theorem pmeth {pl : Sem Bool} (D : Md X.prog X.w X.K X.mg X.base C x k ps sp) (c : Cls X.K C) (hr : Room j X.A) (ho : PE X o ta) (ha : PA X (e :: es) t) (hk : k ≤ j := by decide)
    (he : starEach (e :: es) X.env = (false, eval e X.env) :: starEach es X.env := by rfl) (hp : (backTo pos (starEach es X.env)).any (·.1) = false := by rfl)
    (ht : eval (.Call (.Attribute o x apos) (e :: es) [] pos) X.env = (do
      let ov ← eval o X.env
      standAt apos.atName
      let (f, first) ← holding [ov] (getMethod ov x pl)
      callWith pos f first (backTo pos (starEach (e :: es) X.env)) (backToKw pos (keywordEach [] X.env))) := by rfl) :
    PE X (.Call (.Attribute o x apos) (e :: es) [] pos) (tMeth C x sp [] E0 ta t) := by
  obtain ⟨f, fd, m, b, F⟩ := D
  exact pe_meth ho c m F (hr.mono hk) b .nil pass0 ha he hp ht
end

/-! ### Tests whose answer is known -/
theorem ifT {c : Bool} {A B : Prop} (hc : c = true) (h : A) : if c = true then A else B := by
  rw [if_pos hc]
  exact h
theorem ifF {c : Bool} {A B : Prop} (hc : c = false) (h : B) : if c = true then A else B := by
  rw [hc, if_neg Bool.false_ne_true]
  exact h
theorem ifD {c : Prop} [Decidable c] {A B : Prop} (h1 : c → A) (h2 : ¬ c → B) : if decide c = true then A else B := by
  by_cases h : c
  · exact ifT (decide_eq_true h) (h1 h)
  · exact ifF (decide_eq_false h) (h2 h)
theorem ifDT {c : Prop} [Decidable c] {A B : Prop} (h : c) (h1 : A) : if decide c = true then A else B := ifT (decide_eq_true h) h1
theorem ifDF {c : Prop} [Decidable c] {A B : Prop} (h : ¬ c) (h2 : B) : if decide c = true then A else B := ifF (decide_eq_false h) h2
/-- x == y of two ints -/
theorem ifE {i j : Int} {A B : Prop} (h1 : i = j → A) (h2 : i ≠ j → B) : if decide (V.int i = V.int j) = true then A else B :=
  ifD (fun e => h1 (V.int.inj e)) fun e => h2 fun q => e (by rw [q])
theorem ifET {i j : Int} {A B : Prop} (h : i = j) (h1 : A) : if decide (V.int i = V.int j) = true then A else B := ifDT (by rw [h]) h1
theorem ifEF {i j : Int} {A B : Prop} (h : i ≠ j) (h2 : B) : if decide (V.int i = V.int j) = true then A else B := ifDF (fun e => h (V.int.inj e)) h2
theorem notT {b : Bool} (h : b = true) : (!b) = false := by rw [h] <;> rfl
theorem notF {b : Bool} (h : ¬ b = true) : (!b) = true := by
  cases b with
  | false => rfl
  | true => exact absurd rfl h

/-! ### Lists of ints in the heap -/
abbrev iv (l : List Int) : List V := l.map V.int
/-- a new list is handed back, all that stood stands -/
def NewL (H : Hp) (Q : VK) (l : List Int) : Prop := ∀ H' p, Same H H' → H p = none → H' p = some (.lst (iv l)) → Q (.ref p) H'
theorem sameU {H : Hp} {p : Addr} {o : HO} (h : H p = none) : Same H (upd H p o) := fun b x e => by
  rw [upd_ne (ne_of_none e h)]
  exact e
/-- behind a write at a place that was not there at the start -/
theorem sameW {H H1 : Hp} {p : Addr} {o : HO} (s : Same H H1) (h : H p = none) : Same H (upd H1 p o) := fun b x e => by
  rw [upd_ne (ne_of_none e h)]
  exact s b x e
theorem NewL.mono {H H1 : Hp} {Q : VK} {l : List Int} (k : NewL H Q l) (s : Same H H1) : NewL H1 Q l := fun H' p s1 n e => k H' p (s.trans s1) (s.free n) e
/-- the list is made at once -/
theorem NewL.new {H H1 : Hp} {Q : VK} {l : List Int} {p : Addr} (k : NewL H Q l) (s : Same H H1) (h : H1 p = none) : Q (.ref p) (upd H1 p (.lst (iv l))) :=
  k _ p (s.trans (sameU h)) (s.free h) upd_same
theorem seqW {K : PySem.W.Frag} {H : Hp} {a : Addr} {xs : List V} (h : H a = some (.lst xs)) : SqL K H a xs := SqL.of h
theorem iv_len (l : List Int) : (iv l).length = l.length := List.length_map _
theorem iv_at {l : List Int} {i : Nat} (h : i < l.length) : (iv l)[i]? = some (.int (l.getD i 0)) := by
  rw [List.getElem?_map, List.getElem?_eq_getElem h, List.getD_eq_getElem?_getD, List.getElem?_eq_getElem h]
  rfl
theorem iv_of {l : List Int} {i : Nat} {x : V} (h : (iv l)[i]? = some x) : ∃ z, l[i]? = some z ∧ x = .int z := by
  rw [List.getElem?_map] at h
  cases e : l[i]? with
  | none =>
    rw [e] at h
    cases h
  | some z =>
    rw [e] at h
    exact ⟨z, rfl, (Option.some.inj h).symm⟩
theorem ix_lt {α : Type} {l : List α} {i : Nat} {z : α} (h : l[i]? = some z) : i < l.length := (List.getElem?_eq_some_iff.mp h).1
theorem iv_take (l : List Int) : iv (l.take l.length) = iv l := by rw [List.take_length]
theorem lenS {l : List Int} (h : l.length ≤ 1000) : (iv l).length < sizeLine := by
  rw [iv_len]
  exact small1000 h
theorem lenLe {n : Nat} (h : n ≤ 1000) : n ≤ sizeLine := Nat.le_of_lt (small1000 h)
theorem at_int {l : List Int} {z : Int} {j : Nat} (e : z = (j : Int)) (h : j < l.length) : atI (iv l) z = some (.int (l.getD j 0)) := at_of e (iv_at h)

/-! ### The chart in the heap -/
def chF (l : Addr) (m : M) : List (Str × V) := [("made", .int m.made), ("target", .int m.target), ("allowance", .int m.allowance), ("threshold", .int m.threshold), ("weights", .ref l)]
def ChartAt (C : Addr) (H : Hp) (p l : Addr) (m : M) : Prop := ∃ dx, H p = some (.ins C dx (chF l m)) ∧ H l = some (.lst (iv m.weights))
theorem lk_here {k : Str} {v : V} {r : List (Str × V)} : List.lookup k ((k, v) :: r) = some v := by
  have e : (k == k) = true := beq_self_eq_true k
  simp only [List.lookup, e]
theorem lk_past {k g : Str} {v : V} {r : List (Str × V)} (h : (k == g) = false) : List.lookup k ((g, v) :: r) = List.lookup k r := by
  simp only [List.lookup, h]
theorem put_here {f : Str} {v x : V} {r : List (Str × V)} : putF f v ((f, x) :: r) = (f, v) :: r := if_pos rfl
theorem put_past {f g : Str} {v x : V} {r : List (Str × V)} (h : ¬ g = f) : putF f v ((g, x) :: r) = (g, x) :: putF f v r := if_neg h
theorem lkM (l : Addr) (m : M) : (chF l m).lookup ("made" : Str) = some (.int m.made) := lk_here
theorem lkT (l : Addr) (m : M) : (chF l m).lookup ("target" : Str) = some (.int m.target) := (lk_past (by decide +kernel)).trans lk_here
theorem lkA (l : Addr) (m : M) : (chF l m).lookup ("allowance" : Str) = some (.int m.allowance) := (lk_past (by decide +kernel)).trans ((lk_past (by decide +kernel)).trans lk_here)
theorem lkH (l : Addr) (m : M) : (chF l m).lookup ("threshold" : Str) = some (.int m.threshold) := (lk_past (by decide +kernel)).trans ((lk_past (by decide +kernel)).trans ((lk_past (by decide +kernel)).trans lk_here))
theorem lkW (l : Addr) (m : M) : (chF l m).lookup ("weights" : Str) = some (.ref l) := (lk_past (by decide +kernel)).trans ((lk_past (by decide +kernel)).trans ((lk_past (by decide +kernel)).trans ((lk_past (by decide +kernel)).trans lk_here)))
/-- a method's name is none of the attributes -/
theorem lkN (l : Addr) (m : M) {x : Str} (h1 : (x == ("made" : Str)) = false) (h2 : (x == ("target" : Str)) = false) (h3 : (x == ("allowance" : Str)) = false) (h4 : (x == ("threshold" : Str)) = false) (h5 : (x == ("weights" : Str)) = false) : (chF l m).lookup x = none :=
  (lk_past h1).trans ((lk_past h2).trans ((lk_past h3).trans ((lk_past h4).trans ((lk_past h5).trans rfl))))
theorem putM (l : Addr) (m : M) (y : Int) : putF "made" (.int y) (chF l m) = chF l { m with made := y } := put_here
theorem putT (l : Addr) (m : M) (y : Int) : putF "target" (.int y) (chF l m) = chF l { m with target := y } := (put_past (by decide +kernel)).trans (congrArg _ put_here)
theorem putA (l : Addr) (m : M) (y : Int) : putF "allowance" (.int y) (chF l m) = chF l { m with allowance := y } := (put_past (by decide +kernel)).trans (congrArg _ ((put_past (by decide +kernel)).trans (congrArg _ put_here)))
theorem putH (l : Addr) (m : M) (y : Int) : putF "threshold" (.int y) (chF l m) = chF l { m with threshold := y } :=
  (put_past (by decide +kernel)).trans (congrArg _ ((put_past (by decide +kernel)).trans (congrArg _ ((put_past (by decide +kernel)).trans (congrArg _ put_here)))))
theorem putW (l l' : Addr) (m : M) (ws : List Int) : putF "weights" (.ref l') (chF l m) = chF l' { m with weights := ws } :=
  (put_past (by decide +kernel)).trans (congrArg _ ((put_past (by decide +kernel)).trans (congrArg _ ((put_past (by decide +kernel)).trans (congrArg _ ((put_past (by decide +kernel)).trans (congrArg _ put_here)))))))
abbrev Fs := List (Str × V)
theorem putNew (l : Addr) : putF "weights" (.ref l) (putF "threshold" (.int 0) (putF "allowance" (.int 0) (putF "target" (.int 0) (putF "made" (.int 0) [])))) = chF l ⟨0, 0, 0, 0, []⟩ := by
  have e1 : putF "made" (V.int 0) [] = ([((("made" : Str)), V.int 0)] : Fs) := rfl
  have e2 : putF "target" (V.int 0) ([(("made" : Str), V.int 0)] : Fs) = ([(("made" : Str), V.int 0), (("target" : Str), V.int 0)] : Fs) := put_past (by decide +kernel)
  have e3 : putF "allowance" (V.int 0) ([(("made" : Str), V.int 0), (("target" : Str), V.int 0)] : Fs) = ([(("made" : Str), V.int 0), (("target" : Str), V.int 0), (("allowance" : Str), V.int 0)] : Fs) := (put_past (by decide +kernel)).trans (congrArg _ (put_past (by decide +kernel)))
  have e4 : putF "threshold" (V.int 0) ([(("made" : Str), V.int 0), (("target" : Str), V.int 0), (("allowance" : Str), V.int 0)] : Fs) = ([(("made" : Str), V.int 0), (("target" : Str), V.int 0), (("allowance" : Str), V.int 0), (("threshold" : Str), V.int 0)] : Fs) :=
    (put_past (by decide +kernel)).trans (congrArg _ ((put_past (by decide +kernel)).trans (congrArg _ (put_past (by decide +kernel)))))
  have e5 : putF "weights" (V.ref l) ([(("made" : Str), V.int 0), (("target" : Str), V.int 0), (("allowance" : Str), V.int 0), (("threshold" : Str), V.int 0)] : Fs) = chF l ⟨0, 0, 0, 0, []⟩ :=
    (put_past (by decide +kernel)).trans (congrArg _ ((put_past (by decide +kernel)).trans (congrArg _ ((put_past (by decide +kernel)).trans (congrArg _ (put_past (by decide +kernel)))))))
  rw [e1, e2, e3, e4, e5]
theorem few (l : Addr) (m : M) : (chF l m).length < 1000 := by
  show 5 < 1000
  decide
theorem ChartAt.same {C : Addr} {H H' : Hp} {p l : Addr} {m : M} (h : ChartAt C H p l m) (s : Same H H') : ChartAt C H' p l m := by
  obtain ⟨dx, h1, h2⟩ := h
  exact ⟨dx, s _ _ h1, s _ _ h2⟩
/-- the chart is another, all else stands; its list is the old one or a new one -/
def Upd (C : Addr) (H : Hp) (p l : Addr) (m' : M) (H' : Hp) : Prop := ∃ l', ChartAt C H' p l' m' ∧ (l' = l ∨ H l' = none) ∧ ∀ b o, H b = some o → b ≠ p → H' b = some o
section
variable {C : Addr} {H H1 H2 : Hp} {p l : Addr} {m m' : M}
theorem Upd.more (u : Upd C H p l m' H1) (s : Same H1 H2) : Upd C H p l m' H2 := by
  obtain ⟨l', c, d, r⟩ := u
  exact ⟨l', c.same s, d, fun b o e n => s _ _ (r b o e n)⟩
theorem Upd.after (s : Same H H1) (u : Upd C H1 p l m' H2) : Upd C H p l m' H2 := by
  obtain ⟨l', c, d, r⟩ := u
  exact ⟨l', c, d.imp id fun n => s.free n, fun b o e n => r b o (s _ _ e) n⟩
theorem Upd.free (u : Upd C H p l m' H1) {q : Addr} (n : H1 q = none) : H q = none := by
  obtain ⟨l', ⟨dx, c, _⟩, d, r⟩ := u
  cases e : H q with
  | none => rfl
  | some o =>
    by_cases hq : q = p
    · rw [hq, c] at n
      cases n
    · rw [r q o e hq] at n
      cases n
theorem Upd.keep (c : ChartAt C H p l m) (s : Same H H1) : Upd C H p l m H1 := ⟨l, c.same s, .inl rfl, fun b o e _ => s b o e⟩
theorem Upd.list (u : Upd C H p l m' H1) {a : Addr} {xs : List V} (c : ChartAt C H p l m) (h : H a = some (.lst xs)) : H1 a = some (.lst xs) := by
  obtain ⟨l', _, _, r⟩ := u
  obtain ⟨dx, c, _⟩ := c
  exact r _ _ h (ne_of h c (by intro z; cases z))
theorem Upd.seq {K : PySem.W.Frag} (u : Upd C H p l m' H1) {a : Addr} {xs : List V} (c : ChartAt C H p l m) (h : SqL K H a xs) : SqL K H1 a xs := by
  obtain ⟨l', _, _, r⟩ := u
  obtain ⟨dx, c, _⟩ := c
  rcases h with (h | ⟨o, h⟩) | h
  · exact .inl (.inl (r _ _ h (ne_of h c (by intro z; cases z))))
  · exact .inl (.inr ⟨o, r _ _ h (ne_of h c (by intro z; cases z))⟩)
  · exact .inr h
end
/-- an operation's answer: the chart as the mirror says, a new list -/
def ResOp (C : Addr) (H : Hp) (p l : Addr) (Q : VK) (r : M × List Int) : Prop := ∀ H' q, Upd C H p l r.1 H' → H q = none → H' q = some (.lst (iv r.2)) → Q (.ref q) H'
theorem ResOp.query {C : Addr} {H : Hp} {p l : Addr} {Q : VK} {m : M} {out : List Int} (c : ChartAt C H p l m) (k : ResOp C H p l Q (m, out)) : NewL H Q out := fun H' q s n e => k H' q (Upd.keep c s) n e
/-- a refusal, or an answer of a chart that stays -/
theorem ResOp.stay {C : Addr} {H : Hp} {p l : Addr} {Q : VK} {m : M} {out : List Int} (c : ChartAt C H p l m) (k : ResOp C H p l Q (m, out)) {q : Addr} (h : H q = none) : Q (.ref q) (upd H q (.lst (iv out))) :=
  k _ q (Upd.keep c (sameU h)) h upd_same
theorem ResOp.done {C : Addr} {H H1 : Hp} {p l : Addr} {Q : VK} {m : M} {out : List Int} (k : ResOp C H p l Q (m, out)) (u : Upd C H p l m H1) {q : Addr} (h : H1 q = none) : Q (.ref q) (upd H1 q (.lst (iv out))) :=
  k _ q (u.more (sameU h)) (u.free h) upd_same

/-- what the top has written of the class, the constants, the built-ins -/
structure Txt (K : PySem.W.Frag) (mg : Str → Option Value) (C : Addr) : Prop where
  cl : Cls K C
  nM : NoAttr K C "made"
  nT : NoAttr K C "target"
  nA : NoAttr K C "allowance"
  nH : NoAttr K C "threshold"
  nW : NoAttr K C "weights"
  gC : mg "Chart" = some (.ref C)
  makes : PySem.W.makesIn K C = true
  keeps : PySem.W.keepIn K (.ref C) = true
  len : mg "len" = none
  max : mg "max" = none
  int : mg "int" = none
  zip : mg "zip" = none
  enumerate : mg "enumerate" = none
  range : mg "range" = none
  abs : mg "abs" = none
  sum : mg "sum" = none
  list : mg "list" = none
  cNI : ∃ t, mg "NO_INSTANCE" = some (.int (-11) t)
  cNS : ∃ t, mg "NO_SHOT" = some (.int (-2) t)
  cBR : ∃ t, mg "BAD_RANGE" = some (.int (-22) t)
  cFU : ∃ t, mg "FULL" = some (.int (-28) t)
  cN0 : ∃ t, mg "NO_SHOTS" = some (.int (-6) t)
  cNA : ∃ t, mg "NO_ALARM" = some (.int (-33) t)
  cMW : ∃ t, mg "MOST_WEIGHT" = some (.int 9999 t)
  cML : ∃ t, mg "MOST_LIMIT" = some (.int 999 t)
  cMS : ∃ t, mg "MOST_SHOTS" = some (.int 24 t)
  cSS : ∃ t, mg "SET_SHOTS" = some (.int 2 t)
  cAR : ∃ a, mg "ARGUMENTS" = some (.ref a) ∧ ∀ H, SqT K H a (iv ARGS)

/-! ### The promises -/
def spIsW : Sp := fun vs H Q _ => ∃ n : Int, vs = [.int n] ∧ Q (.bl (isW n)) H
def spIsL : Sp := fun vs H Q _ => ∃ n : Int, vs = [.int n] ∧ Q (.bl (isL n)) H
def spLast (K : PySem.W.Frag) : Sp := fun vs H Q _ => ∃ (a : Addr) (ns : List Int), vs = [.ref a] ∧ SqL K H a (iv ns) ∧ Q (.int (lastOf ns)) H
def spCode : Sp := fun vs H Q _ => ∃ u l t : Int, vs = [.int u, .int l, .int t] ∧ Q (.int (code u l t)) H
section
variable (K : PySem.W.Frag)
def spAreW : Sp := fun vs H Q _ => ∃ (a : Addr) (ns : List Int), vs = [.ref a] ∧ SqL K H a (iv ns) ∧ Q (.bl (areW ns)) H
def spExc : Sp := fun vs H Q _ => ∃ (a : Addr) (ns : List Int) (t al : Int), vs = [.ref a, .int t, .int al] ∧ SqL K H a (iv ns) ∧ ns.length ≤ 1000 ∧ NewL H Q (exc ns t al)
def spSho : Sp := fun vs H Q _ => ∃ (a : Addr) (ns : List Int) (t al : Int), vs = [.ref a, .int t, .int al] ∧ SqL K H a (iv ns) ∧ ns.length ≤ 1000 ∧ NewL H Q (sho ns t al)
def spCum : Sp := fun vs H Q _ => ∃ (a : Addr) (ns : List Int), vs = [.ref a] ∧ SqL K H a (iv ns) ∧ ns.length ≤ 1000 ∧ NewL H Q (cum ns)
def spUp : Sp := fun vs H Q _ => ∃ (a : Addr) (ns : List Int) (t al : Int), vs = [.ref a, .int t, .int al] ∧ SqL K H a (iv ns) ∧ ns.length ≤ 1000 ∧ NewL H Q (cum (exc ns t al))
def spLo : Sp := fun vs H Q _ => ∃ (a : Addr) (ns : List Int) (t al : Int), vs = [.ref a, .int t, .int al] ∧ SqL K H a (iv ns) ∧ ns.length ≤ 1000 ∧ NewL H Q (cum (sho ns t al))
def spCodes : Sp := fun vs H Q _ => ∃ (a b : Addr) (us ls : List Int) (t : Int), vs = [.ref a, .ref b, .int t] ∧ SqL K H a (iv us) ∧ SqL K H b (iv ls) ∧ us.length = ls.length ∧ us.length ≤ 1000 ∧ NewL H Q (codes us ls t)
def spOnsetIn : Sp := fun vs H Q _ => ∃ (a : Addr) (ns : List Int) (n : Nat), vs = [.ref a, .int (n : Int)] ∧ SqL K H a (iv ns) ∧ n < ns.length ∧ ns.length ≤ 1000 ∧ Q (.int (onF ns (n + 1))) H
def spDiv : Sp := fun vs H Q _ => ∃ a b : Nat, vs = [.int (a : Int), .int (b : Int)] ∧ Q (.int ((Nat.gcd a b : Nat) : Int)) H
def spLow : Sp := fun vs H Q _ => ∃ (a : Int) (b : Nat), vs = [.int a, .int (b : Int)] ∧ 0 < b ∧ b ≤ 1000 ∧ NewL H Q (lowest a (b : Int))
def spWorst : Sp := fun vs H Q _ => ∃ (a : Addr) (ns : List Int) (n : Nat), vs = [.ref a, .int (n : Int)] ∧ SqL K H a (iv ns) ∧ n < ns.length ∧ ns.length ≤ 1000 ∧ NewL H Q (worst ns n)
def spLongest : Sp := fun vs H Q _ => ∃ (a : Addr) (bs : List Bool), vs = [.ref a] ∧ SqL K H a (bs.map V.bl) ∧ Q (.int (longest bs)) H
def spAbove : Sp := fun vs H Q _ => ∃ (a : Addr) (ns : List Int) (t : Int), vs = [.ref a, .int t] ∧ SqL K H a (iv ns) ∧ ns.length ≤ 1000 ∧ ∀ H', Same H H' → Q (.int (longest (ns.map fun w => decide (t < w)))) H'
def spBelow : Sp := fun vs H Q _ => ∃ (a : Addr) (ns : List Int) (t : Int), vs = [.ref a, .int t] ∧ SqL K H a (iv ns) ∧ ns.length ≤ 1000 ∧ ∀ H', Same H H' → Q (.int (longest (ns.map fun w => decide (w < t)))) H'
def spCounted : Sp := fun vs H Q _ => ∃ (a : Addr) (ns : List Int), vs = [.ref a] ∧ H a = some (.lst (iv ns)) ∧ ns.length ≤ 900 ∧ NewL H Q (counted ns)
end
section
variable (C : Addr) (K : PySem.W.Frag)
def spHas : Sp := fun vs H Q _ => ∃ (p l : Addr) (m : M) (i : Int), vs = [.ref p, .int i] ∧ ChartAt C H p l m ∧ Q (.bl (hasShot m i)) H
def spTold : Sp := fun vs H Q _ => ∃ (p l : Addr) (m : M) (a : Addr) (ws : List Int), vs = [.ref p, .ref a] ∧ ChartAt C H p l m ∧ SqL K H a (iv ws) ∧ ws.length ≤ 900 ∧ NewL H Q (toldLast m ws)
/-- a question without numbers -/
def spQ (f : M → List Int) : Sp := fun vs H Q _ => ∃ (p l : Addr) (m : M), vs = [.ref p] ∧ ChartAt C H p l m ∧ m.weights.length ≤ 24 ∧ NewL H Q (f m)
/-- a question with a number -/
def spQ1 (f : M → Int → List Int) : Sp := fun vs H Q _ => ∃ (p l : Addr) (m : M) (n : Int), vs = [.ref p, .int n] ∧ ChartAt C H p l m ∧ m.weights.length ≤ 24 ∧ NewL H Q (f m n)
/-- an operation without numbers, with one, two, three -/
def spO (f : M → M × List Int) : Sp := fun vs H Q _ => ∃ (p l : Addr) (m : M), vs = [.ref p] ∧ ChartAt C H p l m ∧ m.weights.length ≤ 24 ∧ ResOp C H p l Q (f m)
def spO1 (f : M → Int → M × List Int) : Sp := fun vs H Q _ => ∃ (p l : Addr) (m : M) (x : Int), vs = [.ref p, .int x] ∧ ChartAt C H p l m ∧ m.weights.length ≤ 24 ∧ ResOp C H p l Q (f m x)
def spO2 (f : M → Int → Int → M × List Int) : Sp := fun vs H Q _ => ∃ (p l : Addr) (m : M) (x y : Int), vs = [.ref p, .int x, .int y] ∧ ChartAt C H p l m ∧ m.weights.length ≤ 24 ∧ ResOp C H p l Q (f m x y)
def spO3 (f : M → Int → Int → Int → M × List Int) : Sp := fun vs H Q _ => ∃ (p l : Addr) (m : M) (x y z : Int), vs = [.ref p, .int x, .int y, .int z] ∧ ChartAt C H p l m ∧ m.weights.length ≤ 24 ∧ ResOp C H p l Q (f m x y z)
def spOL (f : M → List Int → M × List Int) : Sp := fun vs H Q _ => ∃ (p l : Addr) (m : M) (a : Addr) (ns : List Int), vs = [.ref p, .ref a] ∧ ChartAt C H p l m ∧ m.weights.length ≤ 24 ∧ SqL K H a (iv ns) ∧ ResOp C H p l Q (f m ns)
/-- the methods -/
def spInit : Sp := fun vs H Q _ => ∃ p dx : Addr, vs = [.ref p] ∧ H p = some (.ins C dx []) ∧ ∀ (H' : Hp) (l : Addr), ChartAt C H' p l ⟨0, 0, 0, 0, []⟩ → H l = none → (∀ b o, H b = some o → b ≠ p → H' b = some o) → Q .non H'
def spBegin : Sp := fun vs H Q _ => ∃ (p l : Addr) (m : M) (t a h : Int), vs = [.ref p, .int t, .int a, .int h] ∧ ChartAt C H p l m ∧ ∀ H', Upd C H p l ⟨1, t, a, h, []⟩ H' → Q .non H'
def spShoot : Sp := fun vs H Q _ => ∃ (p l : Addr) (m : M) (x : Int), vs = [.ref p, .int x] ∧ ChartAt C H p l m ∧ m.weights.length ≤ 24 ∧ ∀ H', Upd C H p l { m with weights := m.weights ++ [x] } H' → Q .non H'
def spRefill : Sp := fun vs H Q _ => ∃ (p l : Addr) (m : M) (a : Addr) (ns : List Int), vs = [.ref p, .ref a] ∧ ChartAt C H p l m ∧ SqL K H a (iv ns) ∧ ∀ H', Upd C H p l { m with weights := ns } H' → Q .non H'
def spReweigh : Sp := fun vs H Q _ => ∃ (p l : Addr) (m : M) (i : Nat) (x : Int), vs = [.ref p, .int (i : Int), .int x] ∧ ChartAt C H p l m ∧ m.weights.length ≤ 24 ∧ i < m.weights.length ∧ ∀ H', Upd C H p l { m with weights := reweigh m.weights i x } H' → Q .non H'
def spRetarget : Sp := fun vs H Q _ => ∃ (p l : Addr) (m : M) (t : Int), vs = [.ref p, .int t] ∧ ChartAt C H p l m ∧ ∀ H', Upd C H p l { m with target := t } H' → Q .non H'
def spLimit : Sp := fun vs H Q _ => ∃ (p l : Addr) (m : M) (a h : Int), vs = [.ref p, .int a, .int h] ∧ ChartAt C H p l m ∧ ∀ H', Upd C H p l { m with allowance := a, threshold := h } H' → Q .non H'
/-- the dispatchers -/
def spDis (ok : Int → Prop) (f : M → Int → List Int → M × List Int) : Sp := fun vs H Q _ => ∃ (p l : Addr) (m : M) (op : Int) (a : Addr) (ns : List Int), vs = [.ref p, .int op, .ref a] ∧ ChartAt C H p l m ∧ m.weights.length ≤ 24 ∧
  SqL K H a (iv ns) ∧ ok op ∧ Ar op ns ∧ ResOp C H p l Q (f m op ns)
def spBg : Sp := fun vs H Q _ => ∃ (a : Addr) (l : List Int) (i k : Nat), vs = [.ref a, .int (i : Int)] ∧ SqL K H a (iv l) ∧ CallAt l i k ∧ Q (.int (bgN l i : Int)) H
def spEn : Sp := fun vs H Q _ => ∃ (a : Addr) (l : List Int) (i k : Nat), vs = [.ref a, .int (i : Int)] ∧ SqL K H a (iv l) ∧ CallAt l i k ∧ Q (.int ((bgN l i + k : Nat) : Int)) H
def spNums : Sp := fun vs H Q _ => ∃ (a : Addr) (l : List Int) (i k : Nat), vs = [.ref a, .int (i : Int)] ∧ SqL K H a (iv l) ∧ CallAt l i k ∧ l.length ≤ 4320 ∧ NewL H Q ((l.drop (bgN l i)).take k)
def spAns : Sp := fun vs H Q _ => ∃ (a : Addr) (l : List Int), vs = [.ref a] ∧ SqL K H a (iv l) ∧ l.length ≤ 4320 ∧ PySr121.answers_asked l = true ∧
  ∀ (H' : Hp) (p : Addr), H' p = some (.lst (iv (PySr121.answers l))) → Q (.ref p) H'
end
end Ss

set_option Elab.async false
set_option maxRecDepth 100000
set_option maxHeartbeats 4000000
/-! limits, sums, ratios, runs: each def keeps its promise. -/
namespace Ss
open PySem PySem.Spec PyProof.Rows L2
section
variable {P : Program} {w : World} {K : PySem.W.Frag} {mg : Str → Option Value} {base : Heap} {C : Addr}

/-! ### limits -/
theorem ok_is_weight (S : Src K mg "is_weight" s_is_weight p_is_weight) (T : Txt K mg C) : Dn P w K mg base "is_weight" 1 p_is_weight spIsW := by
  refine S.dn sc_is_weight (fun vs H Q E h => ?_) (fun f cdv A outer s H vs Q E hr h => ?_)
  · obtain ⟨n, rfl, _⟩ := h
    rfl
  · obtain ⟨n, rfl, k⟩ := h
    obtain ⟨t, g⟩ := T.cMW
    refine ⟨_, pss_one (ps_ret (pe_chain op_le op_le (pe_op op_sub pe_int (pe_glob (v := .int 9999) rfl g ⟨_, rfl⟩)) (pv 0) (pe_glob (v := .int 9999) rfl g ⟨_, rfl⟩))), ?_⟩
    refine ⟨0, 9999, rfl, rfl, _, rfl, 0 - 9999, n, rfl, rfl, _, rfl, ifD (fun e => ?_) (fun e => ?_)⟩
    · refine ⟨n, 9999, rfl, rfl, ?_⟩
      have q : isW n = decide (n ≤ 9999) := by
        unfold isW
        rw [decide_eq_true (show -9999 ≤ n by omega), Bool.true_and]
      rw [q] at k
      exact k
    · have q : isW n = false := by
        unfold isW
        rw [decide_eq_false (show ¬ -9999 ≤ n by omega), Bool.false_and]
      rw [q] at k
      exact k
theorem ok_is_limit (S : Src K mg "is_limit" s_is_limit p_is_limit) (T : Txt K mg C) : Dn P w K mg base "is_limit" 1 p_is_limit spIsL := by
  refine S.dn sc_is_limit (fun vs H Q E h => ?_) (fun f cdv A outer s H vs Q E hr h => ?_)
  · obtain ⟨n, rfl, _⟩ := h
    rfl
  · obtain ⟨n, rfl, k⟩ := h
    obtain ⟨t, g⟩ := T.cML
    refine ⟨_, pss_one (ps_ret (pe_chain op_le op_le pe_int (pv 0) (pe_glob (v := .int 999) rfl g ⟨_, rfl⟩))), ?_⟩
    refine ⟨_, rfl, 0, n, rfl, rfl, _, rfl, ifD (fun e => ?_) (fun e => ?_)⟩
    · refine ⟨n, 999, rfl, rfl, ?_⟩
      have q : isL n = decide (n ≤ 999) := by
        unfold isL
        rw [decide_eq_true (show 0 ≤ n by omega), Bool.true_and]
      rw [q] at k
      exact k
    · have q : isL n = false := by
        unfold isL
        rw [decide_eq_false (show ¬ 0 ≤ n by omega), Bool.false_and]
      rw [q] at k
      exact k
theorem ok_are_weights (S : Src K mg "are_weights" s_are_weights p_are_weights) (T : Txt K mg C) (dW : Dn P w K mg base "is_weight" 1 p_is_weight spIsW) :
    Dn P w K mg base "are_weights" 2 p_are_weights (spAreW K) := by
  refine S.dn sc_are_weights (fun vs H Q E h => ?_) (fun f cdv A outer s H vs Q E hr h => ?_)
  · obtain ⟨a, ns, rfl, _⟩ := h
    rfl
  · obtain ⟨a, ns, rfl, hS, k⟩ := h
    obtain ⟨t, g⟩ := T.cMS
    refine ⟨_, pss_cons (ps_if (pt_cmpR op_gt (pe_callB call_len_seq (by rfl) T.len PySem.boot_len (pa_cons (pv 0) pa_nil)) (pe_glob (v := .int 24) rfl g ⟨_, rfl⟩) (nomark _)) (pss_one (ps_ret pe_bl)) pss_nil)
      (pss_cons (ps_for PassesOwn.never rfl (pi_list (pv 0)) (pg_name (i := 1) sc_are_weights.nd rfl (Or.inl rfl)) (pss_one (ps_if (pt_not (pt_val (pcall dW hr (pa_cons (pv 1) pa_nil)))) (pss_one (ps_ret pe_bl)) pss_nil)))
      (pss_one (ps_ret pe_bl))), ?_⟩
    refine ⟨_, rfl, a, _, rfl, .inl hS, _, _, rfl, rfl, _, rfl, ifD (fun e => ?_) (fun e => ?_)⟩
    · have q : areW ns = false := by
        unfold areW
        rw [iv_len] at e
        rw [decide_eq_false (by omega), Bool.false_and]
      rw [q] at k
      exact k
    · rw [iv_len] at e
      refine ⟨_, rfl, a, rfl, ⟨_, hS⟩, for_list (K := K) (a := a) (xs := iv ns) (fun i σ H' => ∃ v : Option V, σ = [some (.ref a), v] ∧ H' = H ∧ (ns.take i).all isW = true)
        ⟨none, rfl, rfl, rfl⟩ (fun i σ H' _ ⟨_, _, q, _⟩ => by rw [q]; exact hS) ?_ ?_⟩
      · rintro i y σ H' hi ⟨v, rfl, rfl, ha⟩
        obtain ⟨z, hz, rfl⟩ := iv_of hi
        refine ⟨_, rfl, z, rfl, _, rfl, ?_⟩
        by_cases hw : isW z = true
        · refine ifF (notT hw) ⟨_, rfl, rfl, ?_⟩
          rw [take_more hz, List.all_append, ha]
          simp [hw]
        · refine ifT (notF hw) ?_
          have q : areW ns = false := by
            unfold areW
            have q2 : ns.all isW = false := by
              rw [List.all_eq_false]
              exact ⟨z, List.mem_of_getElem? hz, hw⟩
            rw [q2, Bool.and_false]
          rw [q] at k
          exact k
      · rintro σ H' ⟨v, rfl, rfl, ha⟩
        rw [iv_len, List.take_length] at ha
        have q : areW ns = true := by
          unfold areW
          rw [ha, decide_eq_true (by omega)]
          rfl
        rw [q] at k
        exact k

/-! ### sums -/
theorem ok_excesses (S : Src K mg "excesses" s_excesses p_excesses) : Dn P w K mg base "excesses" 1 p_excesses (spExc K) := by
  refine S.dn sc_excesses (fun vs H Q E h => ?_) (fun f cdv A outer s H vs Q E hr h => ?_)
  · obtain ⟨a, ns, t, al, rfl, _⟩ := h
    rfl
  · obtain ⟨a, ns, t, al, rfl, hS, hlen, k⟩ := h
    refine ⟨_, pss_one (ps_ret (pe_lc (own := [("weight", 3)]) (g := gName 3) (tt := tYes) rfl sc_excesses.nd (pi_list (pv 0)) (blkOk_by (own := [("weight", 3)]) (N := n_excesses) (sc := defScope s_excesses) (by decide +kernel))
      (fun _ _ _ _ _ => pg_name (i := 3) sc_excesses.nd rfl (Or.inl rfl)) (fun _ _ _ _ _ => pts_nil) (fun _ _ _ _ _ => pe_op op_sub (pe_op op_sub (pv 3) (pv 1)) (pv 2)))), ?_⟩
    refine ⟨_, rfl, a, rfl, ⟨_, hS⟩, fun D hD => lc_list (K := K) (a := a) (xs := iv ns) (fun i H' => Same H H' ∧ H' D = some (.lst (iv (exc (ns.take i) t al))))
      ⟨sameU hD, upd_same⟩ (fun i H' _ ⟨q, _⟩ => q.seq hS) ?_ ?_⟩
    · rintro i y H' hi ⟨s1, e1⟩
      obtain ⟨z, hz, rfl⟩ := iv_of hi
      have hi' := ix_lt hz
      refine ⟨rfl, _, rfl, _, rfl, z, t, rfl, rfl, _, rfl, z - t, al, rfl, rfl, _, e1, ?_, sameW s1 hD, ?_⟩
      · refine lenS ?_
        rw [exc_len, List.length_take]
        omega
      · rw [upd_same, take_more hz]
        unfold exc iv
        rw [List.map_append, List.map_append]
        rfl
    · rintro H' ⟨s1, e1⟩
      rw [iv_len, List.take_length] at e1
      exact k H' D s1 hD e1
theorem ok_shortfalls (S : Src K mg "shortfalls" s_shortfalls p_shortfalls) : Dn P w K mg base "shortfalls" 1 p_shortfalls (spSho K) := by
  refine S.dn sc_shortfalls (fun vs H Q E h => ?_) (fun f cdv A outer s H vs Q E hr h => ?_)
  · obtain ⟨a, ns, t, al, rfl, _⟩ := h
    rfl
  · obtain ⟨a, ns, t, al, rfl, hS, hlen, k⟩ := h
    refine ⟨_, pss_one (ps_ret (pe_lc (own := [("weight", 3)]) (g := gName 3) (tt := tYes) rfl sc_shortfalls.nd (pi_list (pv 0)) (blkOk_by (own := [("weight", 3)]) (N := n_shortfalls) (sc := defScope s_shortfalls) (by decide +kernel))
      (fun _ _ _ _ _ => pg_name (i := 3) sc_shortfalls.nd rfl (Or.inl rfl)) (fun _ _ _ _ _ => pts_nil) (fun _ _ _ _ _ => pe_op op_sub (pe_op op_sub (pv 1) (pv 3)) (pv 2)))), ?_⟩
    refine ⟨_, rfl, a, rfl, ⟨_, hS⟩, fun D hD => lc_list (K := K) (a := a) (xs := iv ns) (fun i H' => Same H H' ∧ H' D = some (.lst (iv (sho (ns.take i) t al))))
      ⟨sameU hD, upd_same⟩ (fun i H' _ ⟨q, _⟩ => q.seq hS) ?_ ?_⟩
    · rintro i y H' hi ⟨s1, e1⟩
      obtain ⟨z, hz, rfl⟩ := iv_of hi
      have hi' := ix_lt hz
      refine ⟨rfl, _, rfl, _, rfl, t, z, rfl, rfl, _, rfl, t - z, al, rfl, rfl, _, e1, ?_, sameW s1 hD, ?_⟩
      · refine lenS ?_
        rw [sho_len, List.length_take]
        omega
      · rw [upd_same, take_more hz]
        unfold sho iv
        rw [List.map_append, List.map_append]
        rfl
    · rintro H' ⟨s1, e1⟩
      rw [iv_len, List.take_length] at e1
      exact k H' D s1 hD e1
theorem ok_cumulative (S : Src K mg "cumulative" s_cumulative p_cumulative) (T : Txt K mg C) : Dn P w K mg base "cumulative" 1 p_cumulative (spCum K) := by
  refine S.dn sc_cumulative (fun vs H Q E h => ?_) (fun f cdv A outer s H vs Q E hr h => ?_)
  · obtain ⟨a, ns, rfl, _⟩ := h
    rfl
  · obtain ⟨a, ns, rfl, hS, hlen, k⟩ := h
    refine ⟨_, pss_cons (ps_set (i := 1) sc_cumulative.nd rfl (Or.inl rfl) (pe_lst pa_nil)) (pss_cons (ps_set (i := 2) sc_cumulative.nd rfl (Or.inl rfl) pe_int)
      (pss_cons (ps_for PassesOwn.never rfl (pi_list (pv 0)) (pg_name (i := 3) sc_cumulative.nd rfl (Or.inl rfl))
        (pss_cons (ps_set (i := 2) sc_cumulative.nd rfl (Or.inl rfl) (pe_callB (call_max2 rfl) (by rfl) T.max (by decide +kernel) (pa_cons pe_int (pa_cons (pe_op op_add (pv 2) (pv 3)) pa_nil))))
        (pss_one (ps_expr (pe_bm PySem.F.plainAttrs_list PySem.F.slot_list_append PySem.F.type_list_append mt_append (pv 1) (pa_cons (pv 2) pa_nil))))))
      (pss_one (ps_ret (pv 1))))), ?_⟩
    refine ⟨Nat.zero_le _, fun o no => ?_⟩
    have s1 : Same H (upd H o (.lst [])) := sameU no
    refine ⟨_, rfl, a, rfl, ⟨_, s1.seq hS⟩, for_list (K := K) (a := a) (xs := iv ns)
      (fun i σ H' => ∃ v : Option V, σ = [some (.ref a), some (.ref o), some (.int (cumF (ns.take i)).1), v] ∧ Same H H' ∧ H' o = some (.lst (iv (cumF (ns.take i)).2)))
      ⟨none, rfl, s1, upd_same⟩ (fun i σ H' _ ⟨_, _, q, _⟩ => q.seq hS) ?_ ?_⟩
    · rintro i y σ H' hi ⟨v, rfl, s2, e2⟩
      obtain ⟨z, hz, rfl⟩ := iv_of hi
      have hi' := ix_lt hz
      have em : cumF (ns.take (i + 1)) = cumStep (cumF (ns.take i)) z := fold_more hz
      refine ⟨_, rfl, _, rfl, _, _, rfl, rfl, 0, _, rfl, ?_⟩
      refine ⟨_, rfl, .inl ⟨rfl, _, SqL.of e2⟩, _, rfl, o, _, _, rfl, rfl, e2, ?_, ?_⟩
      · refine lenS ?_
        have q := cumF_len (ns.take i)
        unfold cum at q
        rw [q, List.length_take]
        omega
      · refine ⟨some (.int z), ?_, sameW s2 no, ?_⟩
        · rw [em]
          rfl
        · rw [upd_same, em]
          unfold cumStep iv
          rw [List.map_append]
          rfl
    · rintro σ H' ⟨v, rfl, s2, e2⟩
      rw [iv_len, List.take_length] at e2
      exact ⟨_, rfl, k H' o s2 no e2⟩
theorem ok_upper_of (S : Src K mg "upper_of" s_upper_of p_upper_of) (dE : Dn P w K mg base "excesses" 1 p_excesses (spExc K)) (dC : Dn P w K mg base "cumulative" 1 p_cumulative (spCum K)) :
    Dn P w K mg base "upper_of" 2 p_upper_of (spUp K) := by
  refine S.dn sc_upper_of (fun vs H Q E h => ?_) (fun f cdv A outer s H vs Q E hr h => ?_)
  · obtain ⟨a, ns, t, al, rfl, _⟩ := h
    rfl
  · obtain ⟨a, ns, t, al, rfl, hS, hlen, k⟩ := h
    refine ⟨_, pss_one (ps_ret (pcall dC hr (pa_cons (pcall dE hr (pa_cons (pv 0) (pa_cons (pv 1) (pa_cons (pv 2) pa_nil)))) pa_nil))), ?_⟩
    exact ⟨_, rfl, _, rfl, _, rfl, a, ns, t, al, rfl, hS, hlen, fun H1 p s1 n1 h1 => ⟨p, _, rfl, SqL.of h1, by rw [exc_len]; exact hlen, k.mono s1⟩⟩
theorem ok_lower_of (S : Src K mg "lower_of" s_lower_of p_lower_of) (dE : Dn P w K mg base "shortfalls" 1 p_shortfalls (spSho K)) (dC : Dn P w K mg base "cumulative" 1 p_cumulative (spCum K)) :
    Dn P w K mg base "lower_of" 2 p_lower_of (spLo K) := by
  refine S.dn sc_lower_of (fun vs H Q E h => ?_) (fun f cdv A outer s H vs Q E hr h => ?_)
  · obtain ⟨a, ns, t, al, rfl, _⟩ := h
    rfl
  · obtain ⟨a, ns, t, al, rfl, hS, hlen, k⟩ := h
    refine ⟨_, pss_one (ps_ret (pcall dC hr (pa_cons (pcall dE hr (pa_cons (pv 0) (pa_cons (pv 1) (pa_cons (pv 2) pa_nil)))) pa_nil))), ?_⟩
    exact ⟨_, rfl, _, rfl, _, rfl, a, ns, t, al, rfl, hS, hlen, fun H1 p s1 n1 h1 => ⟨p, _, rfl, SqL.of h1, by rw [sho_len]; exact hlen, k.mono s1⟩⟩
theorem ok_last_of (S : Src K mg "last_of" s_last_of p_last_of) (T : Txt K mg C) : Dn P w K mg base "last_of" 1 p_last_of (spLast K) := by
  refine S.dn sc_last_of (fun vs H Q E h => ?_) (fun f cdv A outer s H vs Q E hr h => ?_)
  · obtain ⟨a, ns, rfl, _⟩ := h
    rfl
  · obtain ⟨a, ns, rfl, hS, k⟩ := h
    refine ⟨_, pss_cons (ps_if (pt_cmpR op_eq (pe_callB call_len_seq (by rfl) T.len PySem.boot_len (pa_cons (pv 0) pa_nil)) pe_int (nomark _)) (pss_one (ps_ret pe_int)) pss_nil)
      (pss_one (ps_ret (pe_ix ix_list (pv 0) (pe_un un_neg pe_int) (fun _ _ => rfl)))), ?_⟩
    refine ⟨_, rfl, a, _, rfl, .inl hS, rfl, _, rfl, ifE (fun e => ?_) (fun e => ?_)⟩
    · rw [iv_len] at e
      have e0 : ns = [] := List.eq_nil_of_length_eq_zero (by omega)
      rw [e0] at k
      exact k
    · rw [iv_len] at e
      have h0 : ns ≠ [] := fun z => e (by rw [z]; rfl)
      have e1 : iv ns = iv ns.dropLast ++ [.int (ns.getLast h0)] := by
        show _ = ns.dropLast.map V.int ++ [ns.getLast h0].map V.int
        rw [← List.map_append, List.dropLast_concat_getLast]
      have e2 : lastOf ns = ns.getLast h0 := by
        unfold lastOf
        rw [List.getLastD_eq_getLast?, List.getLast?_eq_some_getLast h0]
        rfl
      rw [e2] at k
      refine ⟨_, rfl, 1, rfl, a, _, -1, .int (ns.getLast h0), rfl, rfl, hS, ?_, k⟩
      rw [e1]
      exact atI_last _ _
theorem ok_alarm_code (S : Src K mg "alarm_code" s_alarm_code p_alarm_code) (T : Txt K mg C) : Dn P w K mg base "alarm_code" 1 p_alarm_code spCode := by
  refine S.dn sc_alarm_code (fun vs H Q E h => ?_) (fun f cdv A outer s H vs Q E hr h => ?_)
  · obtain ⟨u, l, t, rfl, _⟩ := h
    rfl
  · obtain ⟨u, l, t, rfl, k⟩ := h
    refine ⟨_, pss_one (ps_ret (pe_op op_add (pe_callTy call_int1 (by rfl) T.int (by decide +kernel) (pa_cons (pe_cmpR op_gt (pv 0) (pv 2) (nomark _)) pa_nil))
      (pe_op op_mul pe_int (pe_callTy call_int1 (by rfl) T.int (by decide +kernel) (pa_cons (pe_cmpR op_gt (pv 1) (pv 2) (nomark _)) pa_nil))))), ?_⟩
    exact ⟨_, rfl, _, rfl, u, t, rfl, rfl, .inr ⟨_, rfl, _, rfl, _, rfl, l, t, rfl, rfl, .inr ⟨_, rfl, 2, _, rfl, rfl, .inl ⟨by decide, by decide⟩, _, _, rfl, rfl, k⟩⟩⟩
theorem codes_more {us ls : List Int} {t : Int} {i : Nat} {x y : Int} (hl : us.length = ls.length) (hx : us[i]? = some x) (hy : ls[i]? = some y) :
    codes (us.take (i + 1)) (ls.take (i + 1)) t = codes (us.take i) (ls.take i) t ++ [code x y t] := by
  unfold codes
  rw [take_more hx, take_more hy, List.zipWith_append (by rw [List.length_take, List.length_take, hl])]
  rfl
theorem ok_alarm_codes (S : Src K mg "alarm_codes" s_alarm_codes p_alarm_codes) (T : Txt K mg C) (dC : Dn P w K mg base "alarm_code" 1 p_alarm_code spCode) : Dn P w K mg base "alarm_codes" 2 p_alarm_codes (spCodes K) := by
  refine S.dn sc_alarm_codes (fun vs H Q E h => ?_) (fun f cdv A outer s H vs Q E hr h => ?_)
  · obtain ⟨a, b, us, ls, t, rfl, _⟩ := h
    rfl
  · obtain ⟨a, b, us, ls, t, rfl, hA, hB, hl, hlen, k⟩ := h
    refine ⟨_, pss_one (ps_ret (pe_lc (own := [("upper", 3), ("lower", 4)]) (g := gTup K 2 (gCons (gName 3) (gCons (gName 4) gNil))) (tt := tYes) rfl sc_alarm_codes.nd (pi_zip (by rfl) T.zip (pa_cons (pv 0) (pa_cons (pv 1) pa_nil)))
      (blkOk_by (own := [("upper", 3), ("lower", 4)]) (N := n_alarm_codes) (sc := defScope s_alarm_codes) (by decide +kernel))
      (fun _ _ _ _ _ => pg_tup rfl (pgs_cons (pg_name (i := 3) sc_alarm_codes.nd rfl (Or.inl rfl)) (pgs_cons (pg_name (i := 4) sc_alarm_codes.nd rfl (Or.inl rfl)) pgs_nil))) (fun _ _ _ _ _ => pts_nil) (fun _ _ _ _ _ => pcall dC hr (pa_cons (pv 3) (pa_cons (pv 4) (pa_cons (pv 2) pa_nil)))))), ?_⟩
    refine ⟨_, rfl, _, rfl, a, b, _, _, rfl, hA, hB, fun D hD => lc_it (walk_zip (K := K) (a := a) (b := b) (xs := iv us) (ys := iv ls) (n := us.length) (by rw [iv_len, iv_len, ← hl, Nat.min_self]))
      (fun i H' => Same H H' ∧ H' D = some (.lst (iv (codes (us.take i) (ls.take i) t)))) ⟨sameU hD, upd_same⟩ (fun i H' _ ⟨q, _⟩ => ⟨q.seq hA, q.seq hB⟩) ?_ ?_⟩
    · rintro i v H' H2 hi ⟨s1, e1⟩ ⟨T', x, y, rfl, nT, rfl, hx, hy⟩
      obtain ⟨x', hx', rfl⟩ := iv_of hx
      obtain ⟨y', hy', rfl⟩ := iv_of hy
      have nD : D ≠ T' := ne_of_none e1 nT
      refine ⟨T', _, rfl, SqT.of upd_same, rfl, _, _, rfl, _, _, rfl, rfl, rfl, _, rfl, _, rfl, _, rfl, x', y', t, rfl, _, (upd_ne nD).trans e1, ?_, sameW (s1.trans (sameU nT)) hD, ?_⟩
      · refine lenS ?_
        rw [codes_len, List.length_take, List.length_take]
        omega
      · rw [upd_same, codes_more hl hx' hy']
        unfold iv
        rw [List.map_append]
        rfl
    · rintro H' ⟨s1, e1⟩
      rw [List.take_length, hl, List.take_length] at e1
      exact k H' D s1 hD e1
theorem onF_more (ns : List Int) (i : Nat) : onF ns (i + 1) = if ns.getD i 0 = 0 then (i : Int) + 1 else onF ns i := rfl
theorem ok_onset_in (S : Src K mg "onset_in" s_onset_in p_onset_in) (T : Txt K mg C) : Dn P w K mg base "onset_in" 1 p_onset_in (spOnsetIn K) := by
  refine S.dn sc_onset_in (fun vs H Q E h => ?_) (fun f cdv A outer s H vs Q E hr h => ?_)
  · obtain ⟨a, ns, n, rfl, _⟩ := h
    rfl
  · obtain ⟨a, ns, n, rfl, hS, hn, hlen, k⟩ := h
    refine ⟨_, pss_cons (ps_set (i := 2) sc_onset_in.nd rfl (Or.inl rfl) pe_int) (pss_cons (ps_for PassesOwn.never rfl (pi_range1 rfl T.range (pa_cons (pe_op op_add (pv 1) pe_int) pa_nil)) (pg_name (i := 3) sc_onset_in.nd rfl (Or.inl rfl))
        (pss_one (ps_if (pt_cmpR op_eq (pe_ix ix_list (pv 0) (pv 3) (fun _ _ => rfl)) pe_int (nomark _)) (pss_one (ps_set (i := 2) sc_onset_in.nd rfl (Or.inl rfl) (pe_op op_add (pv 3) pe_int))) pss_nil)))
      (pss_one (ps_ret (pv 2)))), ?_⟩
    refine ⟨_, rfl, (n : Int), 1, rfl, rfl, (n : Int) + 1, rfl, by omega, by omega, for_range (lo := 0) (n := ((n : Int) + 1).toNat)
      (fun i σ H' => ∃ v : Option V, σ = [some (.ref a), some (.int (n : Int)), some (.int (onF ns i)), v] ∧ H' = H) ⟨none, rfl, rfl⟩ ?_ ?_⟩
    · rintro i σ H' hi ⟨v, rfl, rfl⟩
      refine ⟨_, rfl, _, rfl, a, _, _, _, rfl, rfl, hS, at_int (j := i) (by omega) (by omega), rfl, _, rfl, ifE (fun e => ?_) (fun e => ?_)⟩
      · refine ⟨_, rfl, _, 1, rfl, rfl, ?_⟩
        refine ⟨some (.int (0 + (i : Int))), ?_, rfl⟩
        have ez : (0 : Int) + (i : Int) + 1 = (i : Int) + 1 := by omega
        rw [onF_more, if_pos e, ← ez]
        rfl
      · refine ⟨some (.int (0 + (i : Int))), ?_, rfl⟩
        rw [onF_more, if_neg e]
        rfl
    · rintro σ H' ⟨v, rfl, rfl⟩
      have e : ((n : Int) + 1).toNat = n + 1 := by omega
      rw [e]
      exact ⟨_, rfl, k⟩

/-! ### ratios -/
theorem ok_divisor_of (S : Src K mg "divisor_of" s_divisor_of p_divisor_of) : Dn P w K mg base "divisor_of" 1 p_divisor_of spDiv := by
  refine S.dn sc_divisor_of (fun vs H Q E h => ?_) (fun f cdv A outer s H vs Q E hr h => ?_)
  · obtain ⟨a, b, rfl, _⟩ := h
    rfl
  · obtain ⟨a, b, rfl, k⟩ := h
    refine ⟨_, pss_cons (ps_while PassesOwn.never (pt_cmpR op_gt (pv 1) pe_int (nomark _))
      (pss_one (ps_par (i := 0) (j := 1) rfl sc_divisor_of.nd rfl rfl (by decide) rfl rfl (pa_cons (pv 1) (pa_cons (pe_op op_mod (pv 0) (pv 1)) pa_nil)) (by rfl)))) (pss_one (ps_ret (pv 0))), ?_⟩
    refine while_by (fun σ H' => ∃ x y : Nat, σ = [some (.int (x : Int)), some (.int (y : Int))] ∧ H' = H ∧ Nat.gcd x y = Nat.gcd a b)
      (fun σ _ => match σ with
        | [_, some (.int y)] => y.toNat
        | _ => 0) ⟨a, b, rfl, rfl, rfl⟩ ?_ ?_
    · rintro σ H' ⟨x, y, rfl, rfl, hg⟩
      refine ⟨_, rfl, _, 0, rfl, rfl, _, rfl, ifD (fun e => ?_) (fun e => ?_)⟩
      · refine ⟨_, rfl, _, rfl, _, rfl, _, _, rfl, rfl, e, _, _, rfl, ⟨y, x % y, ?_, rfl, ?_⟩, ?_⟩
        · rw [Int.natCast_emod]
          rfl
        · rw [← hg, Nat.gcd_comm x y, Nat.gcd_rec y x, Nat.gcd_comm]
        · show ((x : Int) % (y : Int)).toNat < ((y : Int)).toNat
          have h1 := Int.emod_lt_of_pos (x : Int) e
          have h2 := Int.emod_nonneg (x : Int) (show (y : Int) ≠ 0 by omega)
          omega
      · have hy : y = 0 := by omega
        rw [hy, Nat.gcd_zero_right] at hg
        rw [← hg] at k
        exact ⟨_, rfl, k⟩
    · rintro σ H' Q1 Q2 hq ⟨v, e, i, j, e1, e2, kk, e3, q⟩
      exact ⟨v, e, i, j, e1, e2, kk, e3, hq _ _ q⟩
theorem ok_lowest_terms (S : Src K mg "lowest_terms" s_lowest_terms p_lowest_terms) (T : Txt K mg C) (dD : Dn P w K mg base "divisor_of" 1 p_divisor_of spDiv) : Dn P w K mg base "lowest_terms" 2 p_lowest_terms spLow := by
  refine S.dn sc_lowest_terms (fun vs H Q E h => ?_) (fun f cdv A outer s H vs Q E hr h => ?_)
  · obtain ⟨a, b, rfl, _⟩ := h
    rfl
  · obtain ⟨a, b, rfl, h0, h1, k⟩ := h
    have hg : 0 < Nat.gcd a.natAbs b := Nat.gcd_pos_of_pos_right _ h0
    have hb : Nat.gcd a.natAbs b ≤ b := Nat.le_of_dvd h0 (Nat.gcd_dvd_right _ _)
    refine ⟨_, pss_cons (ps_set (i := 2) sc_lowest_terms.nd rfl (Or.inl rfl) (pcall dD hr (pa_cons (pe_callB call_abs (by rfl) T.abs (by decide +kernel) (pa_cons (pv 0) pa_nil)) (pa_cons (pv 1) pa_nil))))
      (pss_one (ps_ret (pe_lst (pa_cons (pe_op op_fdiv (pv 0) (pv 2)) (pa_cons (pe_op op_fdiv (pv 1) (pv 2)) pa_nil))))), ?_⟩
    have ea : (if a < 0 then -a else a) = ((a.natAbs : Nat) : Int) := by
      split <;> omega
    refine ⟨_, rfl, a, rfl, _, rfl, a.natAbs, b, by rw [ea]; rfl, ?_⟩
    refine ⟨_, rfl, _, rfl, _, _, rfl, rfl, ⟨by omega, by omega⟩, _, rfl, _, rfl, _, _, rfl, rfl, ⟨by omega, by omega⟩, (by show 2 ≤ sizeLine; decide), fun q nq => ?_⟩
    exact k.new (Same.refl H) nq

/-! ### runs -/
theorem wF_more (ns : List Int) (n i : Nat) : wF ns n (i + 1) = if 0 < (wF ns n i).1 + ns.getD (n - i) 0 ∧ (wF ns n i).2.1 ≤ (wF ns n i).1 + ns.getD (n - i) 0 then
    ((wF ns n i).1 + ns.getD (n - i) 0, (wF ns n i).1 + ns.getD (n - i) 0, ((n - i : Nat) : Int)) else ((wF ns n i).1 + ns.getD (n - i) 0, (wF ns n i).2.1, (wF ns n i).2.2) := rfl
theorem ok_worst_run (S : Src K mg "worst_run" s_worst_run p_worst_run) (T : Txt K mg C) : Dn P w K mg base "worst_run" 1 p_worst_run (spWorst K) := by
  refine S.dn sc_worst_run (fun vs H Q E h => ?_) (fun f cdv A outer s H vs Q E hr h => ?_)
  · obtain ⟨a, ns, n, rfl, _⟩ := h
    rfl
  · obtain ⟨a, ns, n, rfl, hS, hn, hlen, k⟩ := h
    refine ⟨_, pss_cons (ps_set (i := 2) sc_worst_run.nd rfl (Or.inl rfl) pe_int) (pss_cons (ps_set (i := 3) sc_worst_run.nd rfl (Or.inl rfl) (pe_op op_add (pv 1) pe_int)) (pss_cons (ps_set (i := 4) sc_worst_run.nd rfl (Or.inl rfl) pe_int)
      (pss_cons (ps_for PassesOwn.never rfl (pi_range1 rfl T.range (pa_cons (pe_op op_add (pv 1) pe_int) pa_nil)) (pg_name (i := 5) sc_worst_run.nd rfl (Or.inl rfl))
        (pss_cons (ps_set (i := 6) sc_worst_run.nd rfl (Or.inl rfl) (pe_op op_sub (pv 1) (pv 5))) (pss_cons (ps_aug (i := 4) sc_worst_run.nd rfl (Or.inl rfl) (pe_ix ix_list (pv 0) (pv 6) (fun _ _ => rfl)) ip_add)
        (pss_one (ps_if (PW.pt (pw_and (pt_cmpR op_gt (pv 4) pe_int (nomark _)) (pw_and1 (pt_cmpR op_ge (pv 4) (pv 2) (nomark _)))))
          (pss_cons (ps_set (i := 2) sc_worst_run.nd rfl (Or.inl rfl) (pv 4)) (pss_one (ps_set (i := 3) sc_worst_run.nd rfl (Or.inl rfl) (pv 6)))) pss_nil)))))
      (pss_one (ps_ret (pe_lst (pa_cons (pv 2) (pa_cons (pv 3) pa_nil)))))))), ?_⟩
    refine ⟨_, rfl, (n : Int), 1, rfl, rfl, ?_⟩
    refine ⟨_, rfl, (n : Int), 1, rfl, rfl, (n : Int) + 1, rfl, by omega, by omega, for_range (lo := 0) (n := ((n : Int) + 1).toNat)
      (fun i σ H' => ∃ v u : Option V, σ = [some (.ref a), some (.int (n : Int)), some (.int (wF ns n i).2.1), some (.int (wF ns n i).2.2), some (.int (wF ns n i).1), v, u] ∧ H' = H) ⟨none, none, rfl, rfl⟩ ?_ ?_⟩
    · rintro i σ H' hi ⟨v, u, rfl, rfl⟩
      have hm := wF_more ns n i
      have hpl : (n : Int) - (0 + (i : Int)) = ((n - i : Nat) : Int) := by omega
      refine ⟨_, rfl, _, rfl, (n : Int), _, rfl, rfl, ?_⟩
      refine ⟨_, rfl, _, rfl, _, rfl, a, _, _, _, rfl, rfl, hS, at_int (j := n - i) hpl (by omega), _, _, rfl, rfl, ?_⟩
      refine ⟨_, rfl, _, 0, rfl, rfl, _, rfl, ifD (fun e1 => ?_) (fun e1 => ?_)⟩
      · refine ⟨_, rfl, _, rfl, _, _, rfl, rfl, _, rfl, ifD (fun e2 => ?_) (fun e2 => ?_)⟩
        · rw [if_pos ⟨e1, e2⟩] at hm
          refine ⟨_, rfl, _, rfl, some (.int (0 + (i : Int))), some (.int ((n : Int) - (0 + (i : Int)))), ?_, rfl⟩
          rw [hm, ← hpl]
          rfl
        · rw [if_neg (fun q => e2 q.2)] at hm
          refine ⟨some (.int (0 + (i : Int))), some (.int ((n : Int) - (0 + (i : Int)))), ?_, rfl⟩
          rw [hm]
          rfl
      · rw [if_neg (fun q => e1 q.1)] at hm
        refine ⟨some (.int (0 + (i : Int))), some (.int ((n : Int) - (0 + (i : Int)))), ?_, rfl⟩
        rw [hm]
        rfl
    · rintro σ H' ⟨v, u, rfl, rfl⟩
      have e : ((n : Int) + 1).toNat = n + 1 := by omega
      rw [e]
      refine ⟨_, rfl, _, rfl, (by show 2 ≤ sizeLine; decide), fun q nq => ?_⟩
      exact k.new (Same.refl _) nq
theorem bl_of {l : List Bool} {i : Nat} {x : V} (h : (l.map V.bl)[i]? = some x) : ∃ z, l[i]? = some z ∧ x = .bl z := by
  rw [List.getElem?_map] at h
  cases e : l[i]? with
  | none =>
    rw [e] at h
    cases h
  | some z =>
    rw [e] at h
    exact ⟨z, rfl, (Option.some.inj h).symm⟩
theorem ok_longest_run (S : Src K mg "longest_run" s_longest_run p_longest_run) (T : Txt K mg C) : Dn P w K mg base "longest_run" 1 p_longest_run (spLongest K) := by
  refine S.dn sc_longest_run (fun vs H Q E h => ?_) (fun f cdv A outer s H vs Q E hr h => ?_)
  · obtain ⟨a, bs, rfl, _⟩ := h
    rfl
  · obtain ⟨a, bs, rfl, hS, k⟩ := h
    refine ⟨_, pss_cons (ps_set (i := 1) sc_longest_run.nd rfl (Or.inl rfl) pe_int) (pss_cons (ps_set (i := 2) sc_longest_run.nd rfl (Or.inl rfl) pe_int)
      (pss_cons (ps_for PassesOwn.never rfl (pi_list (pv 0)) (pg_name (i := 3) sc_longest_run.nd rfl (Or.inl rfl))
        (pss_cons (ps_if (pt_val (pv 3)) (pss_one (ps_aug (i := 2) sc_longest_run.nd rfl (Or.inl rfl) pe_int ip_add)) (pss_one (ps_set (i := 2) sc_longest_run.nd rfl (Or.inl rfl) pe_int)))
        (pss_one (ps_set (i := 1) sc_longest_run.nd rfl (Or.inl rfl) (pe_callB (call_max2 rfl) (by rfl) T.max (by decide +kernel) (pa_cons (pv 1) (pa_cons (pv 2) pa_nil)))))))
      (pss_one (ps_ret (pv 1))))), ?_⟩
    refine ⟨_, rfl, a, rfl, ⟨_, hS⟩, for_list (K := K) (a := a) (xs := bs.map V.bl)
      (fun i σ H' => ∃ v : Option V, σ = [some (.ref a), some (.int (lF (bs.take i)).1), some (.int (lF (bs.take i)).2), v] ∧ H' = H) ⟨none, rfl, rfl⟩ (fun i σ H' _ ⟨_, _, q⟩ => by rw [q]; exact hS) ?_ ?_⟩
    · rintro i y σ H' hi ⟨v, rfl, rfl⟩
      obtain ⟨z, hz, rfl⟩ := bl_of hi
      have em : lF (bs.take (i + 1)) = lStep (lF (bs.take i)) z := fold_more hz
      refine ⟨_, rfl, z, rfl, ?_⟩
      by_cases hb : z = true
      · refine ifT hb ⟨_, rfl, _, 1, rfl, rfl, _, rfl, _, rfl, _, _, rfl, ⟨some (.bl z), ?_, rfl⟩⟩
        rw [em, hb]
        rfl
      · have hb' : z = false := by
          cases z with
          | false => rfl
          | true => exact absurd rfl hb
        refine ifF hb' ⟨_, rfl, _, rfl, _, _, rfl, ⟨some (.bl z), ?_, rfl⟩⟩
        rw [em, hb']
        rfl
    · rintro σ H' ⟨v, rfl, rfl⟩
      rw [List.length_map, List.take_length]
      exact ⟨_, rfl, k⟩
theorem ok_longest_above (S : Src K mg "longest_above" s_longest_above p_longest_above) (dL : Dn P w K mg base "longest_run" 1 p_longest_run (spLongest K)) : Dn P w K mg base "longest_above" 2 p_longest_above (spAbove K) := by
  refine S.dn sc_longest_above (fun vs H Q E h => ?_) (fun f cdv A outer s H vs Q E hr h => ?_)
  · obtain ⟨a, ns, t, rfl, _⟩ := h
    rfl
  · obtain ⟨a, ns, t, rfl, hS, hlen, k⟩ := h
    refine ⟨_, pss_one (ps_ret (pcall dL hr (pa_cons (pe_lc (own := [("weight", 2)]) (g := gName 2) (tt := tYes) rfl sc_longest_above.nd (pi_list (pv 0)) (blkOk_by (own := [("weight", 2)]) (N := n_longest_above) (sc := defScope s_longest_above) (by decide +kernel))
      (fun _ _ _ _ _ => pg_name (i := 2) sc_longest_above.nd rfl (Or.inl rfl)) (fun _ _ _ _ _ => pts_nil) (fun _ _ _ _ _ => pe_cmpR op_gt (pv 2) (pv 1) (nomark _))) pa_nil))), ?_⟩
    refine ⟨_, rfl, a, rfl, ⟨_, hS⟩, fun D hD => lc_list (K := K) (a := a) (xs := iv ns) (fun i H' => Same H H' ∧ H' D = some (.lst (((ns.take i).map fun w => decide (t < w)).map V.bl)))
      ⟨sameU hD, upd_same⟩ (fun i H' _ ⟨q, _⟩ => q.seq hS) ?_ ?_⟩
    · rintro i y H' hi ⟨s1, e1⟩
      obtain ⟨z, hz, rfl⟩ := iv_of hi
      have hi' := ix_lt hz
      refine ⟨rfl, _, rfl, _, rfl, z, t, rfl, rfl, _, e1, ?_, sameW s1 hD, ?_⟩
      · rw [List.length_map, List.length_map, List.length_take]
        exact small1000 (by omega)
      · rw [upd_same, take_more hz, List.map_append, List.map_append]
        rfl
    · rintro H' ⟨s1, e1⟩
      rw [iv_len, List.take_length] at e1
      exact ⟨D, _, rfl, SqL.of e1, k H' s1⟩
theorem ok_longest_below (S : Src K mg "longest_below" s_longest_below p_longest_below) (dL : Dn P w K mg base "longest_run" 1 p_longest_run (spLongest K)) : Dn P w K mg base "longest_below" 2 p_longest_below (spBelow K) := by
  refine S.dn sc_longest_below (fun vs H Q E h => ?_) (fun f cdv A outer s H vs Q E hr h => ?_)
  · obtain ⟨a, ns, t, rfl, _⟩ := h
    rfl
  · obtain ⟨a, ns, t, rfl, hS, hlen, k⟩ := h
    refine ⟨_, pss_one (ps_ret (pcall dL hr (pa_cons (pe_lc (own := [("weight", 2)]) (g := gName 2) (tt := tYes) rfl sc_longest_below.nd (pi_list (pv 0)) (blkOk_by (own := [("weight", 2)]) (N := n_longest_below) (sc := defScope s_longest_below) (by decide +kernel))
      (fun _ _ _ _ _ => pg_name (i := 2) sc_longest_below.nd rfl (Or.inl rfl)) (fun _ _ _ _ _ => pts_nil) (fun _ _ _ _ _ => pe_cmpR op_lt (pv 2) (pv 1) (nomark _))) pa_nil))), ?_⟩
    refine ⟨_, rfl, a, rfl, ⟨_, hS⟩, fun D hD => lc_list (K := K) (a := a) (xs := iv ns) (fun i H' => Same H H' ∧ H' D = some (.lst (((ns.take i).map fun w => decide (w < t)).map V.bl)))
      ⟨sameU hD, upd_same⟩ (fun i H' _ ⟨q, _⟩ => q.seq hS) ?_ ?_⟩
    · rintro i y H' hi ⟨s1, e1⟩
      obtain ⟨z, hz, rfl⟩ := iv_of hi
      have hi' := ix_lt hz
      refine ⟨rfl, _, rfl, _, rfl, z, t, rfl, rfl, _, e1, ?_, sameW s1 hD, ?_⟩
      · rw [List.length_map, List.length_map, List.length_take]
        exact small1000 (by omega)
      · rw [upd_same, take_more hz, List.map_append, List.map_append]
        rfl
    · rintro H' ⟨s1, e1⟩
      rw [iv_len, List.take_length] at e1
      exact ⟨D, _, rfl, SqL.of e1, k H' s1⟩
end
end Ss

set_option Elab.async false
set_option maxRecDepth 100000
set_option maxHeartbeats 4000000
/-! state, changes: each def keeps its promise. -/
namespace Ss
open PySem PySem.Spec PyProof.Rows L2

/-! ### The chart is written -/
section
variable {C : Addr} {H H2 : Hp} {p l r dx : Addr} {m m' : M} {fs : List (Str × V)}
/-- self.weights = a new list -/
theorem Upd.newW {ws : List Int} (hp : H p = some (.ins C dx (chF l m))) (s : Same H H2) (hr : H2 r = some (.lst (iv ws))) (nr : H r = none) :
    Upd C H p l { m with weights := ws } (upd H2 p (.ins C dx (putF "weights" (.ref r) (chF l m)))) :=
  ⟨r, ⟨dx, upd_same.trans (congrArg (fun q => some (HO.ins C dx q)) (putW l r m ws)), (upd_ne (ne_of_none hp nr).symm).trans hr⟩, .inr nr, fun b o e nb => (upd_ne nb).trans (s _ _ e)⟩
/-- self.f = a number -/
theorem Upd.put (hp : H p = some (.ins C dx fs)) (hl : H l = some (.lst (iv m'.weights))) {gs : List (Str × V)} (eg : gs = chF l m') : Upd C H p l m' (upd H p (.ins C dx gs)) :=
  ⟨l, ⟨dx, upd_same.trans (congrArg (fun q => some (HO.ins C dx q)) eg), (upd_ne (ne_of hl hp (by intro z; cases z))).trans hl⟩, .inl rfl, fun b o q nb => (upd_ne nb).trans q⟩
end
theorem cut_to {xs : List V} {i : Nat} (h : i ≤ xs.length) : cutV xs none (some (i : Int)) = xs.take i := by
  unfold cutV
  rw [HT.sIx_none, HT.sIx_nat, List.drop_zero, Nat.min_eq_left h, Nat.sub_zero]
theorem cut_from {xs : List V} {i : Nat} (h : i + 1 ≤ xs.length) : cutV xs (some ((i : Int) + 1)) none = xs.drop (i + 1) := by
  have e : ((i : Int) + 1) = ((i + 1 : Nat) : Int) := by omega
  unfold cutV
  rw [HT.sIx_none, e, HT.sIx_nat, Nat.min_eq_left h]
  exact List.take_of_length_le (by rw [List.length_drop]; omega)
section
variable {P : Program} {w : World} {K : PySem.W.Frag} {mg : Str → Option Value} {base : Heap} {C : Addr}

/-! ### state -/
theorem ok_m_init (S : MSrc K C "__init__" "Chart.__init__" s_m_init p_m_init) (T : Txt K mg C) : Md P w K mg base C "__init__" 1 p_m_init (spInit C) := by
  refine S.md sc_m_init (fun vs H Q E h => ?_) (fun f cdv A outer s H vs Q E hr h => ?_)
  · obtain ⟨p, dx, rfl, _⟩ := h
    rfl
  · obtain ⟨p, dx, rfl, hp, k⟩ := h
    refine ⟨_, pss_cons (ps_fld (pv 0) pe_int rfl) (pss_cons (ps_fld (pv 0) pe_int rfl) (pss_cons (ps_fld (pv 0) pe_int rfl) (pss_cons (ps_fld (pv 0) pe_int rfl) (pss_one (ps_fld (pv 0) (pe_lst pa_nil) rfl))))), ?_⟩
    refine ⟨_, rfl, p, C, dx, [], rfl, hp, T.cl, T.nM, (by show 0 < 1000; decide), ?_⟩
    refine ⟨_, rfl, p, C, dx, _, rfl, upd_same, T.cl, T.nT, (by show 1 < 1000; decide), ?_⟩
    refine ⟨_, rfl, p, C, dx, _, rfl, upd_same, T.cl, T.nA, (by show 2 < 1000; decide), ?_⟩
    refine ⟨_, rfl, p, C, dx, _, rfl, upd_same, T.cl, T.nH, (by show 3 < 1000; decide), ?_⟩
    refine ⟨Nat.zero_le _, fun l nl => ?_⟩
    have npl : p ≠ l := ne_of_none upd_same nl
    refine ⟨_, rfl, p, C, dx, _, rfl, (upd_ne npl).trans upd_same, T.cl, T.nW, (by show 4 < 1000; decide), ?_⟩
    have nl0 : H l = none := by
      rw [upd_ne npl.symm, upd_ne npl.symm, upd_ne npl.symm, upd_ne npl.symm] at nl
      exact nl
    refine k _ l ⟨dx, upd_same.trans (congrArg (fun q => some (HO.ins C dx q)) (putNew l)), (upd_ne npl.symm).trans upd_same⟩ nl0 fun b o e nb => ?_
    rw [upd_ne nb, upd_ne (ne_of_none e nl0), upd_ne nb, upd_ne nb, upd_ne nb, upd_ne nb]
    exact e
theorem ok_m_begin (S : MSrc K C "begin" "Chart.begin" s_m_begin p_m_begin) (T : Txt K mg C) : Md P w K mg base C "begin" 1 p_m_begin (spBegin C) := by
  refine S.md sc_m_begin (fun vs H Q E h => ?_) (fun f cdv A outer s H vs Q E hr h => ?_)
  · obtain ⟨p, l, m, t, a, z, rfl, _⟩ := h
    rfl
  · obtain ⟨p, l, m, t, a, z, rfl, ⟨dx, hp, hl⟩, k⟩ := h
    refine ⟨_, pss_cons (ps_fld (pv 0) pe_int rfl) (pss_cons (ps_fld (pv 0) (pv 1) rfl) (pss_cons (ps_fld (pv 0) (pv 2) rfl) (pss_cons (ps_fld (pv 0) (pv 3) rfl) (pss_one (ps_fld (pv 0) (pe_lst pa_nil) rfl))))), ?_⟩
    refine ⟨_, rfl, p, C, dx, _, rfl, hp, T.cl, T.nM, few _ _, ?_⟩
    refine ⟨_, rfl, _, rfl, p, C, dx, _, rfl, upd_same, T.cl, T.nT, by rw [putM]; exact few _ _, ?_⟩
    refine ⟨_, rfl, _, rfl, p, C, dx, _, rfl, upd_same, T.cl, T.nA, by rw [putM, putT]; exact few _ _, ?_⟩
    refine ⟨_, rfl, _, rfl, p, C, dx, _, rfl, upd_same, T.cl, T.nH, by rw [putM, putT, putA]; exact few _ _, ?_⟩
    refine ⟨Nat.zero_le _, fun r nr => ?_⟩
    have npr : p ≠ r := ne_of_none upd_same nr
    refine ⟨_, rfl, p, C, dx, _, rfl, (upd_ne npr).trans upd_same, T.cl, T.nW, by rw [putM, putT, putA, putH]; exact few _ _, ?_⟩
    have nr0 : H r = none := by
      rw [upd_ne npr.symm, upd_ne npr.symm, upd_ne npr.symm, upd_ne npr.symm] at nr
      exact nr
    refine k _ ⟨r, ⟨dx, upd_same.trans (congrArg (fun q => some (HO.ins C dx q)) ?_), (upd_ne npr.symm).trans upd_same⟩, .inr nr0, fun b o e nb => ?_⟩
    · rw [putM, putT, putA, putH]
      exact putW l r _ []
    · rw [upd_ne nb, upd_ne (ne_of_none e nr0), upd_ne nb, upd_ne nb, upd_ne nb, upd_ne nb]
      exact e
theorem ok_m_shoot (S : MSrc K C "shoot" "Chart.shoot" s_m_shoot p_m_shoot) (T : Txt K mg C) : Md P w K mg base C "shoot" 1 p_m_shoot (spShoot C) := by
  refine S.md sc_m_shoot (fun vs H Q E h => ?_) (fun f cdv A outer s H vs Q E hr h => ?_)
  · obtain ⟨p, l, m, x, rfl, _⟩ := h
    rfl
  · obtain ⟨p, l, m, x, rfl, ⟨dx, hp, hl⟩, hlen, k⟩ := h
    refine ⟨_, pss_one (ps_fld (pv 0) (pe_op op_cat (pe_fld (pv 0) rfl) (pe_lst (pa_cons (pv 1) pa_nil))) rfl), ?_⟩
    refine ⟨_, rfl, p, C, dx, _, _, rfl, hp, T.cl, T.nW, lkW _ _, _, rfl, (by show 1 ≤ sizeLine; decide), fun q nq => ?_⟩
    have s1 : Same H (upd H q (.lst [V.int x])) := sameU nq
    refine ⟨l, q, _, _, rfl, rfl, s1 _ _ hl, upd_same, ?_, fun r nr => ?_⟩
    · rw [iv_len]
      exact lenLe (by show m.weights.length + 1 ≤ 1000; omega)
    · have s2 := s1.trans (sameU (o := .lst (iv m.weights ++ [V.int x])) nr)
      refine ⟨_, rfl, p, C, dx, _, rfl, s2 _ _ hp, T.cl, T.nW, few _ _, k _ ?_⟩
      refine Upd.newW hp s2 ?_ (s1.free nr)
      rw [upd_same]
      unfold iv
      rw [List.map_append]
      rfl
theorem ok_m_refill (S : MSrc K C "refill" "Chart.refill" s_m_refill p_m_refill) (T : Txt K mg C) : Md P w K mg base C "refill" 1 p_m_refill (spRefill C K) := by
  refine S.md sc_m_refill (fun vs H Q E h => ?_) (fun f cdv A outer s H vs Q E hr h => ?_)
  · obtain ⟨p, l, m, a, ns, rfl, _⟩ := h
    rfl
  · obtain ⟨p, l, m, a, ns, rfl, ⟨dx, hp, hl⟩, hS, k⟩ := h
    refine ⟨_, pss_one (ps_fld (pv 0) (pe_callTy call_list_of (by rfl) T.list (by decide +kernel) (pa_cons (pv 1) pa_nil)) rfl), ?_⟩
    refine ⟨_, rfl, a, _, rfl, .inl hS, fun r nr => ?_⟩
    exact ⟨_, rfl, p, C, dx, _, rfl, sameU nr _ _ hp, T.cl, T.nW, few _ _, k _ (Upd.newW hp (sameU nr) upd_same nr)⟩
theorem ok_m_reweigh (S : MSrc K C "reweigh" "Chart.reweigh" s_m_reweigh p_m_reweigh) (T : Txt K mg C) : Md P w K mg base C "reweigh" 1 p_m_reweigh (spReweigh C) := by
  refine S.md sc_m_reweigh (fun vs H Q E h => ?_) (fun f cdv A outer s H vs Q E hr h => ?_)
  · obtain ⟨p, l, m, i, x, rfl, _⟩ := h
    rfl
  · obtain ⟨p, l, m, i, x, rfl, ⟨dx, hp, hl⟩, hlen, hi, k⟩ := h
    have c1 := cut_to (xs := iv m.weights) (i := i) (by rw [iv_len]; omega)
    have c2 := cut_from (xs := iv m.weights) (i := i) (by rw [iv_len]; omega)
    refine ⟨_, pss_one (ps_fld (pv 0) (pe_op op_cat (pe_op op_cat (pe_slice sl_list (pe_fld (pv 0) rfl) po_none (po_some (pv 1))) (pe_lst (pa_cons (pv 2) pa_nil)))
      (pe_slice sl_list (pe_fld (pv 0) rfl) (po_some (pe_op op_add (pv 1) pe_int)) po_none)) rfl), ?_⟩
    refine ⟨_, rfl, p, C, dx, _, _, rfl, hp, T.cl, T.nW, lkW _ _, _, rfl, (i : Int), rfl, l, _, rfl, SqL.of hl, fun c nc => ?_⟩
    have s1 := sameU (o := .lst (cutV (iv m.weights) none (some (i : Int)))) nc
    refine ⟨_, rfl, (by show 1 ≤ sizeLine; decide), fun q nq => ?_⟩
    have s2 := s1.trans (sameU (o := .lst [V.int x]) nq)
    have ncq : c ≠ q := ne_of_none upd_same nq
    refine ⟨c, q, _, _, rfl, rfl, (upd_ne ncq).trans upd_same, upd_same, ?_, fun r nr => ?_⟩
    · rw [c1, List.length_take, iv_len]
      exact lenLe (by show min i m.weights.length + 1 ≤ 1000; omega)
    have s3 := s2.trans (sameU (o := .lst (cutV (iv m.weights) none (some (i : Int)) ++ [V.int x])) nr)
    refine ⟨_, rfl, p, C, dx, _, _, rfl, s3 _ _ hp, T.cl, T.nW, lkW _ _, _, rfl, (i : Int), 1, rfl, rfl, (i : Int) + 1, rfl, l, _, rfl, SqL.of (s3 _ _ hl), fun d nd => ?_⟩
    have s4 := s3.trans (sameU (o := .lst (cutV (iv m.weights) (some ((i : Int) + 1)) none)) nd)
    have nrd : r ≠ d := ne_of_none upd_same nd
    refine ⟨r, d, _, _, rfl, rfl, (upd_ne nrd).trans upd_same, upd_same, ?_, fun z nz => ?_⟩
    · rw [c1, c2, List.length_append, List.length_take, List.length_drop, iv_len]
      exact lenLe (by show min i m.weights.length + 1 + (m.weights.length - (i + 1)) ≤ 1000; omega)
    have s5 := s4.trans (sameU (o := .lst (cutV (iv m.weights) none (some (i : Int)) ++ [V.int x] ++ cutV (iv m.weights) (some ((i : Int) + 1)) none)) nz)
    refine ⟨_, rfl, p, C, dx, _, rfl, s5 _ _ hp, T.cl, T.nW, few _ _, k _ (Upd.newW hp s5 ?_ (s4.free nz))⟩
    rw [upd_same, c1, c2]
    unfold reweigh iv
    rw [List.map_append, List.map_append, List.map_take, List.map_drop]
    rfl
theorem ok_m_retarget (S : MSrc K C "retarget" "Chart.retarget" s_m_retarget p_m_retarget) (T : Txt K mg C) : Md P w K mg base C "retarget" 1 p_m_retarget (spRetarget C) := by
  refine S.md sc_m_retarget (fun vs H Q E h => ?_) (fun f cdv A outer s H vs Q E hr h => ?_)
  · obtain ⟨p, l, m, t, rfl, _⟩ := h
    rfl
  · obtain ⟨p, l, m, t, rfl, ⟨dx, hp, hl⟩, k⟩ := h
    refine ⟨_, pss_one (ps_fld (pv 0) (pv 1) rfl), ?_⟩
    exact ⟨_, rfl, _, rfl, p, C, dx, _, rfl, hp, T.cl, T.nT, few _ _, k _ (Upd.put (m' := { m with target := t }) hp hl (putT l m t))⟩
theorem ok_m_limit (S : MSrc K C "limit" "Chart.limit" s_m_limit p_m_limit) (T : Txt K mg C) : Md P w K mg base C "limit" 1 p_m_limit (spLimit C) := by
  refine S.md sc_m_limit (fun vs H Q E h => ?_) (fun f cdv A outer s H vs Q E hr h => ?_)
  · obtain ⟨p, l, m, a, z, rfl, _⟩ := h
    rfl
  · obtain ⟨p, l, m, a, z, rfl, ⟨dx, hp, hl⟩, k⟩ := h
    refine ⟨_, pss_cons (ps_fld (pv 0) (pv 1) rfl) (pss_one (ps_fld (pv 0) (pv 2) rfl)), ?_⟩
    refine ⟨_, rfl, _, rfl, p, C, dx, _, rfl, hp, T.cl, T.nA, few _ _, ?_⟩
    refine ⟨_, rfl, _, rfl, p, C, dx, _, rfl, upd_same, T.cl, T.nH, by rw [putA]; exact few _ _, k _ ?_⟩
    rw [upd_upd]
    refine Upd.put (m' := { m with allowance := a, threshold := z }) hp hl ?_
    rw [putA, putH]

/-! ### changes -/
theorem ok_has_shot (S : Src K mg "has_shot" s_has_shot p_has_shot) (T : Txt K mg C) : Dn P w K mg base "has_shot" 1 p_has_shot (spHas C) := by
  refine S.dn sc_has_shot (fun vs H Q E h => ?_) (fun f cdv A outer s H vs Q E hr h => ?_)
  · obtain ⟨p, l, m, i, rfl, _⟩ := h
    rfl
  · obtain ⟨p, l, m, i, rfl, ⟨dx, hp, hl⟩, k⟩ := h
    refine ⟨_, pss_one (ps_ret (pe_chain op_le op_lt pe_int (pv 1) (pe_callB call_len_seq (by rfl) T.len PySem.boot_len (pa_cons (pe_fld (pv 0) rfl) pa_nil)))), ?_⟩
    refine ⟨_, rfl, 0, i, rfl, rfl, _, rfl, ifD (fun e => ?_) (fun e => ?_)⟩
    · refine ⟨_, rfl, p, C, dx, _, _, rfl, hp, T.cl, T.nW, lkW _ _, l, _, rfl, .inl (SqL.of hl), i, _, rfl, rfl, ?_⟩
      have q : hasShot m i = decide (i < ((iv m.weights).length : Int)) := by
        unfold hasShot
        rw [iv_len, decide_eq_true e, Bool.true_and]
      rw [q] at k
      exact k
    · have q : hasShot m i = false := by
        unfold hasShot
        rw [decide_eq_false e, Bool.false_and]
      rw [q] at k
      exact k
theorem ok_told_last (S : Src K mg "told_last" s_told_last p_told_last) (T : Txt K mg C) (dU : Dn P w K mg base "upper_of" 2 p_upper_of (spUp K)) (dL : Dn P w K mg base "lower_of" 2 p_lower_of (spLo K))
    (dS : Dn P w K mg base "last_of" 1 p_last_of (spLast K)) (dC : Dn P w K mg base "alarm_code" 1 p_alarm_code spCode) : Dn P w K mg base "told_last" 3 p_told_last (spTold C K) := by
  refine S.dn sc_told_last (fun vs H Q E h => ?_) (fun f cdv A outer s H vs Q E hr h => ?_)
  · obtain ⟨p, l, m, a, ws, rfl, _⟩ := h
    rfl
  · obtain ⟨p, l, m, a, ws, rfl, ⟨dx, hp, hl⟩, hS, hlen, k⟩ := h
    refine ⟨_, pss_cons (ps_set (i := 2) sc_told_last.nd rfl (Or.inl rfl) (pcall dS hr (pa_cons (pcall dU hr (pa_cons (pv 1) (pa_cons (pe_fld (pv 0) rfl) (pa_cons (pe_fld (pv 0) rfl) pa_nil)))) pa_nil)))
      (pss_cons (ps_set (i := 3) sc_told_last.nd rfl (Or.inl rfl) (pcall dS hr (pa_cons (pcall dL hr (pa_cons (pv 1) (pa_cons (pe_fld (pv 0) rfl) (pa_cons (pe_fld (pv 0) rfl) pa_nil)))) pa_nil)))
      (pss_one (ps_ret (pe_lst (pa_cons (pcall dC hr (pa_cons (pv 2) (pa_cons (pv 3) (pa_cons (pe_fld (pv 0) rfl) pa_nil)))) (pa_cons (pv 2) (pa_cons (pv 3) pa_nil))))))), ?_⟩
    refine ⟨_, rfl, _, rfl, p, C, dx, _, _, rfl, hp, T.cl, T.nT, lkT _ _, _, rfl, p, C, dx, _, _, rfl, hp, T.cl, T.nA, lkA _ _, a, ws, _, _, rfl, hS, by omega, fun H1 p1 s1 n1 h1 => ⟨p1, _, rfl, SqL.of h1, ?_⟩⟩
    refine ⟨_, rfl, _, rfl, p, C, dx, _, _, rfl, s1 _ _ hp, T.cl, T.nT, lkT _ _, _, rfl, p, C, dx, _, _, rfl, s1 _ _ hp, T.cl, T.nA, lkA _ _, a, ws, _, _, rfl, s1.seq hS, by omega, fun H2 p2 s2 n2 h2 => ⟨p2, _, rfl, SqL.of h2, ?_⟩⟩
    have s3 := s1.trans s2
    refine ⟨_, rfl, _, rfl, _, rfl, p, C, dx, _, _, rfl, s3 _ _ hp, T.cl, T.nH, lkH _ _, _, _, _, rfl, _, rfl, _, rfl, (by show 3 ≤ sizeLine; decide), fun q nq => ?_⟩
    exact k.new s3 nq
theorem ok_create (S : Src K mg "create" s_create p_create) (T : Txt K mg C) (dW : Dn P w K mg base "is_weight" 1 p_is_weight spIsW) (dL : Dn P w K mg base "is_limit" 1 p_is_limit spIsL)
    (dB : Md P w K mg base C "begin" 1 p_m_begin (spBegin C)) : Dn P w K mg base "create" 2 p_create (spO3 C createM) := by
  refine S.dn sc_create (fun vs H Q E h => ?_) (fun f cdv A outer s H vs Q E hr h => ?_)
  · obtain ⟨p, l, m, t, a, z, rfl, _⟩ := h
    rfl
  · obtain ⟨p, l, m, t, a, z, rfl, ⟨dx, hp, hl⟩, hlen, k⟩ := h
    obtain ⟨_, gBR⟩ := T.cBR
    have hC : ChartAt C H p l m := ⟨dx, hp, hl⟩
    refine ⟨_, pss_cons (ps_if (PW.pt (pw_or (pt_not (pt_val (pcall dW hr (pa_cons (pv 1) pa_nil)))) (pw_or (pt_not (pt_val (pcall dL hr (pa_cons (pv 2) pa_nil)))) (pw_or1 (pt_not (pt_val (pcall dL hr (pa_cons (pv 3) pa_nil))))))))
        (pss_one (ps_ret (pe_lst (pa_cons (pe_glob (v := .int (-22)) rfl gBR ⟨_, rfl⟩) pa_nil)))) pss_nil)
      (pss_cons (ps_expr (pmeth dB T.cl hr (pv 0) (pa_cons (pv 1) (pa_cons (pv 2) (pa_cons (pv 3) pa_nil)))))
      (pss_one (ps_ret (pe_lst (pa_cons pe_int pa_nil))))), ?_⟩
    by_cases h1 : isW t = true
    · by_cases h2 : isL a = true
      · by_cases h3 : isL z = true
        · have e : createM m t a z = (⟨1, t, a, z, []⟩, [0]) := by
            unfold createM
            rw [h1, h2, h3] <;> rfl
          rw [e] at k
          refine ⟨_, rfl, t, rfl, _, rfl, ifF (notT h1) ⟨_, rfl, a, rfl, _, rfl, ifF (notT h2) ⟨_, rfl, z, rfl, _, rfl, ifF (notT h3) ?_⟩⟩⟩
          refine ⟨_, rfl, p, dx, _, rfl, hp, lkN _ _ (by decide +kernel) (by decide +kernel) (by decide +kernel) (by decide +kernel) (by decide +kernel), _, rfl, _, rfl, _, rfl, p, l, m, t, a, z, rfl, hC, fun H1 U => ?_⟩
          exact ⟨(by show 1 ≤ sizeLine; decide), fun q nq => k.done U nq⟩
        · have e : createM m t a z = (m, [-22]) := by
            unfold createM
            rw [Bool.eq_false_iff.mpr h3, Bool.and_false, Bool.and_false] <;> rfl
          rw [e] at k
          refine ⟨_, rfl, t, rfl, _, rfl, ifF (notT h1) ⟨_, rfl, a, rfl, _, rfl, ifF (notT h2) ⟨_, rfl, z, rfl, _, rfl, ifT (notF h3) ?_⟩⟩⟩
          exact ⟨(by show 1 ≤ sizeLine; decide), fun q nq => k.stay hC nq⟩
      · have e : createM m t a z = (m, [-22]) := by
          unfold createM
          rw [Bool.eq_false_iff.mpr h2, Bool.false_and, Bool.and_false] <;> rfl
        rw [e] at k
        refine ⟨_, rfl, t, rfl, _, rfl, ifF (notT h1) ⟨_, rfl, a, rfl, _, rfl, ifT (notF h2) ?_⟩⟩
        exact ⟨(by show 1 ≤ sizeLine; decide), fun q nq => k.stay hC nq⟩
    · have e : createM m t a z = (m, [-22]) := by
        unfold createM
        rw [Bool.eq_false_iff.mpr h1, Bool.false_and] <;> rfl
      rw [e] at k
      refine ⟨_, rfl, t, rfl, _, rfl, ifT (notF h1) ?_⟩
      exact ⟨(by show 1 ≤ sizeLine; decide), fun q nq => k.stay hC nq⟩
theorem ok_add_shot (S : Src K mg "add_shot" s_add_shot p_add_shot) (T : Txt K mg C) (dW : Dn P w K mg base "is_weight" 1 p_is_weight spIsW) (dS : Md P w K mg base C "shoot" 1 p_m_shoot (spShoot C))
    (dT : Dn P w K mg base "told_last" 3 p_told_last (spTold C K)) : Dn P w K mg base "add_shot" 4 p_add_shot (spO1 C addM) := by
  refine S.dn sc_add_shot (fun vs H Q E h => ?_) (fun f cdv A outer s H vs Q E hr h => ?_)
  · obtain ⟨p, l, m, x, rfl, _⟩ := h
    rfl
  · obtain ⟨p, l, m, x, rfl, ⟨dx, hp, hl⟩, hlen, k⟩ := h
    obtain ⟨_, gBR⟩ := T.cBR
    obtain ⟨_, gFU⟩ := T.cFU
    obtain ⟨_, gMS⟩ := T.cMS
    have hC : ChartAt C H p l m := ⟨dx, hp, hl⟩
    refine ⟨_, pss_cons (ps_if (pt_not (pt_val (pcall dW hr (pa_cons (pv 1) pa_nil)))) (pss_one (ps_ret (pe_lst (pa_cons (pe_glob (v := .int (-22)) rfl gBR ⟨_, rfl⟩) pa_nil)))) pss_nil)
      (pss_cons (ps_if (pt_cmpR op_ge (pe_callB call_len_seq (by rfl) T.len PySem.boot_len (pa_cons (pe_fld (pv 0) rfl) pa_nil)) (pe_glob (v := .int 24) rfl gMS ⟨_, rfl⟩) (nomark _)) (pss_one (ps_ret (pe_lst (pa_cons (pe_glob (v := .int (-28)) rfl gFU ⟨_, rfl⟩) pa_nil)))) pss_nil)
      (pss_cons (ps_expr (pmeth dS T.cl hr (pv 0) (pa_cons (pv 1) pa_nil)))
      (pss_one (ps_ret (pcall dT hr (pa_cons (pv 0) (pa_cons (pe_fld (pv 0) rfl) pa_nil))))))), ?_⟩
    by_cases h1 : isW x = true
    · refine ⟨_, rfl, x, rfl, _, rfl, ifF (notT h1) ?_⟩
      refine ⟨_, rfl, p, C, dx, _, _, rfl, hp, T.cl, T.nW, lkW _ _, l, _, rfl, .inl (SqL.of hl), _, _, rfl, rfl, _, rfl, ifD (fun e1 => ?_) (fun e1 => ?_)⟩
      · rw [iv_len] at e1
        have e : addM m x = (m, [-28]) := by
          unfold addM
          rw [if_pos h1, if_pos (by omega)]
        rw [e] at k
        exact ⟨(by show 1 ≤ sizeLine; decide), fun q nq => k.stay hC nq⟩
      · rw [iv_len] at e1
        have e : addM m x = ({ m with weights := m.weights ++ [x] }, toldLast m (m.weights ++ [x])) := by
          unfold addM
          rw [if_pos h1, if_neg (by omega)]
        rw [e] at k
        refine ⟨_, rfl, p, dx, _, rfl, hp, lkN _ _ (by decide +kernel) (by decide +kernel) (by decide +kernel) (by decide +kernel) (by decide +kernel), _, rfl, p, l, m, x, rfl, hC, hlen, fun H1 U => ?_⟩
        obtain ⟨l', ⟨dx', hp', hl'⟩, hx, hk⟩ := id U
        refine ⟨_, rfl, _, rfl, p, C, dx', _, _, rfl, hp', T.cl, T.nW, lkW _ _, p, l', _, l', m.weights ++ [x], rfl, ⟨dx', hp', hl'⟩, SqL.of hl', ?_, fun H2 q s2 nq hq => ?_⟩
        · rw [List.length_append, List.length_singleton]
          omega
        · exact k H2 q (U.more s2) (U.free nq) hq
    · have e : addM m x = (m, [-22]) := by
        unfold addM
        rw [if_neg h1]
      rw [e] at k
      refine ⟨_, rfl, x, rfl, _, rfl, ifT (notF h1) ?_⟩
      exact ⟨(by show 1 ≤ sizeLine; decide), fun q nq => k.stay hC nq⟩
theorem ok_set_shots (S : Src K mg "set_shots" s_set_shots p_set_shots) (T : Txt K mg C) (dA : Dn P w K mg base "are_weights" 2 p_are_weights (spAreW K)) (dR : Md P w K mg base C "refill" 1 p_m_refill (spRefill C K)) :
    Dn P w K mg base "set_shots" 3 p_set_shots (spOL C K setShotsM) := by
  refine S.dn sc_set_shots (fun vs H Q E h => ?_) (fun f cdv A outer s H vs Q E hr h => ?_)
  · obtain ⟨p, l, m, a, ns, rfl, _⟩ := h
    rfl
  · obtain ⟨p, l, m, a, ns, rfl, ⟨dx, hp, hl⟩, hlen, hS, k⟩ := h
    obtain ⟨_, gBR⟩ := T.cBR
    have hC : ChartAt C H p l m := ⟨dx, hp, hl⟩
    refine ⟨_, pss_cons (ps_if (pt_not (pt_val (pcall dA hr (pa_cons (pv 1) pa_nil)))) (pss_one (ps_ret (pe_lst (pa_cons (pe_glob (v := .int (-22)) rfl gBR ⟨_, rfl⟩) pa_nil)))) pss_nil)
      (pss_cons (ps_expr (pmeth dR T.cl hr (pv 0) (pa_cons (pv 1) pa_nil)))
      (pss_one (ps_ret (pe_lst (pa_cons (pe_callB call_len_seq (by rfl) T.len PySem.boot_len (pa_cons (pv 1) pa_nil)) pa_nil))))), ?_⟩
    by_cases h1 : areW ns = true
    · have e : setShotsM m ns = ({ m with weights := ns }, [(ns.length : Int)]) := by
        unfold setShotsM
        rw [if_pos h1]
      rw [e] at k
      refine ⟨_, rfl, a, ns, rfl, hS, _, rfl, ifF (notT h1) ?_⟩
      refine ⟨_, rfl, p, dx, _, rfl, hp, lkN _ _ (by decide +kernel) (by decide +kernel) (by decide +kernel) (by decide +kernel) (by decide +kernel), _, rfl, p, l, m, a, ns, rfl, hC, hS, fun H1 U => ?_⟩
      refine ⟨_, rfl, a, _, rfl, .inl (U.seq hC hS), (by show 1 ≤ sizeLine; decide), fun q nq => ?_⟩
      rw [← iv_len] at k
      exact k.done U nq
    · have e : setShotsM m ns = (m, [-22]) := by
        unfold setShotsM
        rw [if_neg h1]
      rw [e] at k
      refine ⟨_, rfl, a, ns, rfl, hS, _, rfl, ifT (notF h1) ?_⟩
      exact ⟨(by show 1 ≤ sizeLine; decide), fun q nq => k.stay hC nq⟩
theorem ok_clear_shots (S : Src K mg "clear_shots" s_clear_shots p_clear_shots) (T : Txt K mg C) (dR : Md P w K mg base C "refill" 1 p_m_refill (spRefill C K)) :
    Dn P w K mg base "clear_shots" 2 p_clear_shots (spO C clearM) := by
  refine S.dn sc_clear_shots (fun vs H Q E h => ?_) (fun f cdv A outer s H vs Q E hr h => ?_)
  · obtain ⟨p, l, m, rfl, _⟩ := h
    rfl
  · obtain ⟨p, l, m, rfl, ⟨dx, hp, hl⟩, hlen, k⟩ := h
    refine ⟨_, pss_cons (ps_set (i := 1) sc_clear_shots.nd rfl (Or.inl rfl) (pe_callB call_len_seq (by rfl) T.len PySem.boot_len (pa_cons (pe_fld (pv 0) rfl) pa_nil)))
      (pss_cons (ps_expr (pmeth dR T.cl hr (pv 0) (pa_cons (pe_lst pa_nil) pa_nil)))
      (pss_one (ps_ret (pe_lst (pa_cons (pv 1) pa_nil))))), ?_⟩
    refine ⟨_, rfl, p, C, dx, _, _, rfl, hp, T.cl, T.nW, lkW _ _, l, _, rfl, .inl (SqL.of hl), ?_⟩
    refine ⟨_, rfl, p, dx, _, rfl, hp, lkN _ _ (by decide +kernel) (by decide +kernel) (by decide +kernel) (by decide +kernel) (by decide +kernel), Nat.zero_le _, fun r nr => ?_⟩
    have s1 := sameU (o := .lst []) nr
    refine ⟨p, l, m, r, [], rfl, ⟨dx, s1 _ _ hp, s1 _ _ hl⟩, SqL.of upd_same, fun H1 U => ?_⟩
    refine ⟨_, rfl, (by show 1 ≤ sizeLine; decide), fun q nq => ?_⟩
    rw [iv_len]
    exact k.done (Upd.after s1 U) nq
theorem ok_set_weight (S : Src K mg "set_weight" s_set_weight p_set_weight) (T : Txt K mg C) (dH : Dn P w K mg base "has_shot" 1 p_has_shot (spHas C)) (dW : Dn P w K mg base "is_weight" 1 p_is_weight spIsW)
    (dR : Md P w K mg base C "reweigh" 1 p_m_reweigh (spReweigh C)) : Dn P w K mg base "set_weight" 2 p_set_weight (spO2 C setWeightM) := by
  refine S.dn sc_set_weight (fun vs H Q E h => ?_) (fun f cdv A outer s H vs Q E hr h => ?_)
  · obtain ⟨p, l, m, i, x, rfl, _⟩ := h
    rfl
  · obtain ⟨p, l, m, i, x, rfl, ⟨dx, hp, hl⟩, hlen, k⟩ := h
    obtain ⟨_, gBR⟩ := T.cBR
    obtain ⟨_, gNS⟩ := T.cNS
    have hC : ChartAt C H p l m := ⟨dx, hp, hl⟩
    refine ⟨_, pss_cons (ps_if (pt_not (pt_val (pcall dH hr (pa_cons (pv 0) (pa_cons (pv 1) pa_nil))))) (pss_one (ps_ret (pe_lst (pa_cons (pe_glob (v := .int (-2)) rfl gNS ⟨_, rfl⟩) pa_nil)))) pss_nil)
      (pss_cons (ps_if (pt_not (pt_val (pcall dW hr (pa_cons (pv 2) pa_nil)))) (pss_one (ps_ret (pe_lst (pa_cons (pe_glob (v := .int (-22)) rfl gBR ⟨_, rfl⟩) pa_nil)))) pss_nil)
      (pss_cons (ps_set (i := 3) sc_set_weight.nd rfl (Or.inl rfl) (pe_ix ix_list (pe_fld (pv 0) rfl) (pv 1) (fun _ _ => rfl)))
      (pss_cons (ps_expr (pmeth dR T.cl hr (pv 0) (pa_cons (pv 1) (pa_cons (pv 2) pa_nil))))
      (pss_one (ps_ret (pe_lst (pa_cons pe_int (pa_cons (pv 3) pa_nil)))))))), ?_⟩
    by_cases h1 : hasShot m i = true
    · by_cases h2 : isW x = true
      · have e : setWeightM m i x = ({ m with weights := reweigh m.weights i.toNat x }, [0, m.weights.getD i.toNat 0]) := by
          unfold setWeightM
          rw [if_pos h1, if_pos h2]
        rw [e] at k
        unfold hasShot at h1
        rw [Bool.and_eq_true] at h1
        have g1 := of_decide_eq_true h1.1
        have g2 := of_decide_eq_true h1.2
        have ei : i = ((i.toNat : Nat) : Int) := by omega
        refine ⟨_, rfl, _, rfl, p, l, m, i, rfl, hC, _, rfl, ifF (notT (by unfold hasShot; rw [Bool.and_eq_true]; exact h1)) ⟨_, rfl, x, rfl, _, rfl, ifF (notT h2) ?_⟩⟩
        refine ⟨_, rfl, p, C, dx, _, _, rfl, hp, T.cl, T.nW, lkW _ _, _, rfl, l, _, i, _, rfl, rfl, SqL.of hl, at_int (j := i.toNat) ei (by omega), ?_⟩
        refine ⟨_, rfl, p, dx, _, rfl, hp, lkN _ _ (by decide +kernel) (by decide +kernel) (by decide +kernel) (by decide +kernel) (by decide +kernel), _, rfl, _, rfl, p, l, m, i.toNat, x, by rw [← ei]; rfl, hC, hlen, by omega, fun H1 U => ?_⟩
        exact ⟨_, rfl, (by show 2 ≤ sizeLine; decide), fun q nq => k.done U nq⟩
      · have e : setWeightM m i x = (m, [-22]) := by
          unfold setWeightM
          rw [if_pos h1, if_neg h2]
        rw [e] at k
        refine ⟨_, rfl, _, rfl, p, l, m, i, rfl, hC, _, rfl, ifF (notT h1) ⟨_, rfl, x, rfl, _, rfl, ifT (notF h2) ?_⟩⟩
        exact ⟨(by show 1 ≤ sizeLine; decide), fun q nq => k.stay hC nq⟩
    · have e : setWeightM m i x = (m, [-2]) := by
        unfold setWeightM
        rw [if_neg h1]
      rw [e] at k
      refine ⟨_, rfl, _, rfl, p, l, m, i, rfl, hC, _, rfl, ifT (notF h1) ?_⟩
      exact ⟨(by show 1 ≤ sizeLine; decide), fun q nq => k.stay hC nq⟩
theorem ok_set_target (S : Src K mg "set_target" s_set_target p_set_target) (T : Txt K mg C) (dW : Dn P w K mg base "is_weight" 1 p_is_weight spIsW) (dR : Md P w K mg base C "retarget" 1 p_m_retarget (spRetarget C)) :
    Dn P w K mg base "set_target" 2 p_set_target (spO1 C setTargetM) := by
  refine S.dn sc_set_target (fun vs H Q E h => ?_) (fun f cdv A outer s H vs Q E hr h => ?_)
  · obtain ⟨p, l, m, x, rfl, _⟩ := h
    rfl
  · obtain ⟨p, l, m, x, rfl, ⟨dx, hp, hl⟩, hlen, k⟩ := h
    obtain ⟨_, gBR⟩ := T.cBR
    have hC : ChartAt C H p l m := ⟨dx, hp, hl⟩
    refine ⟨_, pss_cons (ps_if (pt_not (pt_val (pcall dW hr (pa_cons (pv 1) pa_nil)))) (pss_one (ps_ret (pe_lst (pa_cons (pe_glob (v := .int (-22)) rfl gBR ⟨_, rfl⟩) pa_nil)))) pss_nil)
      (pss_cons (ps_set (i := 2) sc_set_target.nd rfl (Or.inl rfl) (pe_fld (pv 0) rfl))
      (pss_cons (ps_expr (pmeth dR T.cl hr (pv 0) (pa_cons (pv 1) pa_nil)))
      (pss_one (ps_ret (pe_lst (pa_cons pe_int (pa_cons (pv 2) pa_nil))))))), ?_⟩
    by_cases h1 : isW x = true
    · have e : setTargetM m x = ({ m with target := x }, [0, m.target]) := by
        unfold setTargetM
        rw [if_pos h1]
      rw [e] at k
      refine ⟨_, rfl, x, rfl, _, rfl, ifF (notT h1) ⟨_, rfl, p, C, dx, _, _, rfl, hp, T.cl, T.nT, lkT _ _, ?_⟩⟩
      refine ⟨_, rfl, p, dx, _, rfl, hp, lkN _ _ (by decide +kernel) (by decide +kernel) (by decide +kernel) (by decide +kernel) (by decide +kernel), _, rfl, p, l, m, x, rfl, hC, fun H1 U => ?_⟩
      exact ⟨_, rfl, (by show 2 ≤ sizeLine; decide), fun q nq => k.done U nq⟩
    · have e : setTargetM m x = (m, [-22]) := by
        unfold setTargetM
        rw [if_neg h1]
      rw [e] at k
      refine ⟨_, rfl, x, rfl, _, rfl, ifT (notF h1) ?_⟩
      exact ⟨(by show 1 ≤ sizeLine; decide), fun q nq => k.stay hC nq⟩
theorem ok_set_limits (S : Src K mg "set_limits" s_set_limits p_set_limits) (T : Txt K mg C) (dL : Dn P w K mg base "is_limit" 1 p_is_limit spIsL) (dR : Md P w K mg base C "limit" 1 p_m_limit (spLimit C)) :
    Dn P w K mg base "set_limits" 2 p_set_limits (spO2 C setLimitsM) := by
  refine S.dn sc_set_limits (fun vs H Q E h => ?_) (fun f cdv A outer s H vs Q E hr h => ?_)
  · obtain ⟨p, l, m, a, z, rfl, _⟩ := h
    rfl
  · obtain ⟨p, l, m, a, z, rfl, ⟨dx, hp, hl⟩, hlen, k⟩ := h
    obtain ⟨_, gBR⟩ := T.cBR
    have hC : ChartAt C H p l m := ⟨dx, hp, hl⟩
    refine ⟨_, pss_cons (ps_if (PW.pt (pw_or (pt_not (pt_val (pcall dL hr (pa_cons (pv 1) pa_nil)))) (pw_or1 (pt_not (pt_val (pcall dL hr (pa_cons (pv 2) pa_nil))))))) (pss_one (ps_ret (pe_lst (pa_cons (pe_glob (v := .int (-22)) rfl gBR ⟨_, rfl⟩) pa_nil)))) pss_nil)
      (pss_cons (ps_set (i := 3) sc_set_limits.nd rfl (Or.inl rfl) (pe_lst (pa_cons (pe_fld (pv 0) rfl) (pa_cons (pe_fld (pv 0) rfl) pa_nil))))
      (pss_cons (ps_expr (pmeth dR T.cl hr (pv 0) (pa_cons (pv 1) (pa_cons (pv 2) pa_nil))))
      (pss_one (ps_ret (pe_op op_cat (pe_lst (pa_cons pe_int pa_nil)) (pv 3)))))), ?_⟩
    by_cases h1 : isL a = true
    · by_cases h2 : isL z = true
      · have e : setLimitsM m a z = ({ m with allowance := a, threshold := z }, [0, m.allowance, m.threshold]) := by
          unfold setLimitsM
          rw [h1, h2] <;> rfl
        rw [e] at k
        refine ⟨_, rfl, a, rfl, _, rfl, ifF (notT h1) ⟨_, rfl, z, rfl, _, rfl, ifF (notT h2) ?_⟩⟩
        refine ⟨_, rfl, p, C, dx, _, _, rfl, hp, T.cl, T.nA, lkA _ _, _, rfl, p, C, dx, _, _, rfl, hp, T.cl, T.nH, lkH _ _, (by show 2 ≤ sizeLine; decide), fun r nr => ?_⟩
        have s1 := sameU (o := .lst [V.int m.allowance, V.int m.threshold]) nr
        refine ⟨_, rfl, p, dx, _, rfl, s1 _ _ hp, lkN _ _ (by decide +kernel) (by decide +kernel) (by decide +kernel) (by decide +kernel) (by decide +kernel), _, rfl, _, rfl, p, l, m, a, z, rfl, ⟨dx, s1 _ _ hp, s1 _ _ hl⟩, fun H1 U => ?_⟩
        refine ⟨(by show 1 ≤ sizeLine; decide), fun q nq => ?_⟩
        have hr1 := U.list ⟨dx, s1 _ _ hp, s1 _ _ hl⟩ upd_same
        refine ⟨_, rfl, q, r, _, _, rfl, rfl, upd_same, sameU nq _ _ hr1, (by show 1 + 2 ≤ sizeLine; decide), fun d nd => ?_⟩
        exact k.done ((Upd.after s1 U).more (sameU nq)) nd
      · have e : setLimitsM m a z = (m, [-22]) := by
          unfold setLimitsM
          rw [Bool.eq_false_iff.mpr h2, Bool.and_false] <;> rfl
        rw [e] at k
        refine ⟨_, rfl, a, rfl, _, rfl, ifF (notT h1) ⟨_, rfl, z, rfl, _, rfl, ifT (notF h2) ?_⟩⟩
        exact ⟨(by show 1 ≤ sizeLine; decide), fun q nq => k.stay hC nq⟩
    · have e : setLimitsM m a z = (m, [-22]) := by
        unfold setLimitsM
        rw [Bool.eq_false_iff.mpr h1, Bool.false_and] <;> rfl
      rw [e] at k
      refine ⟨_, rfl, a, rfl, _, rfl, ifT (notF h1) ?_⟩
      exact ⟨(by show 1 ≤ sizeLine; decide), fun q nq => k.stay hC nq⟩
end
end Ss

set_option Elab.async false
set_option maxRecDepth 100000
set_option maxHeartbeats 4000000
/-! questions: each def keeps its promise. -/
namespace Ss
open PySem PySem.Spec PyProof.Rows L2
theorem iv_app (l : List Int) (x : Int) : iv (l ++ [x]) = iv l ++ [V.int x] := by
  unfold iv
  rw [List.map_append]
  rfl
theorem worst_len (l : List Int) (n : Nat) : (worst l n).length = 2 := rfl
section
variable {P : Program} {w : World} {K : PySem.W.Frag} {mg : Str → Option Value} {base : Heap} {C : Addr}
theorem ok_uppers_of (S : Src K mg "uppers_of" s_uppers_of p_uppers_of) (T : Txt K mg C) (dU : Dn P w K mg base "upper_of" 2 p_upper_of (spUp K)) : Dn P w K mg base "uppers_of" 3 p_uppers_of (spQ C uppers) := by
  refine S.dn sc_uppers_of (fun vs H Q E h => ?_) (fun f cdv A outer s H vs Q E hr h => ?_)
  · obtain ⟨p, l, m, rfl, _⟩ := h
    rfl
  · obtain ⟨p, l, m, rfl, ⟨dx, hp, hl⟩, hlen, k⟩ := h
    refine ⟨_, pss_one (ps_ret (pcall dU hr (pa_cons (pe_fld (pv 0) rfl) (pa_cons (pe_fld (pv 0) rfl) (pa_cons (pe_fld (pv 0) rfl) pa_nil))))), ?_⟩
    exact ⟨_, rfl, p, C, dx, _, _, rfl, hp, T.cl, T.nW, lkW _ _, _, rfl, p, C, dx, _, _, rfl, hp, T.cl, T.nT, lkT _ _, _, rfl, p, C, dx, _, _, rfl, hp, T.cl, T.nA, lkA _ _, l, m.weights, _, _, rfl, SqL.of hl, by omega, k⟩
theorem ok_lowers_of (S : Src K mg "lowers_of" s_lowers_of p_lowers_of) (T : Txt K mg C) (dU : Dn P w K mg base "lower_of" 2 p_lower_of (spLo K)) : Dn P w K mg base "lowers_of" 3 p_lowers_of (spQ C lowers) := by
  refine S.dn sc_lowers_of (fun vs H Q E h => ?_) (fun f cdv A outer s H vs Q E hr h => ?_)
  · obtain ⟨p, l, m, rfl, _⟩ := h
    rfl
  · obtain ⟨p, l, m, rfl, ⟨dx, hp, hl⟩, hlen, k⟩ := h
    refine ⟨_, pss_one (ps_ret (pcall dU hr (pa_cons (pe_fld (pv 0) rfl) (pa_cons (pe_fld (pv 0) rfl) (pa_cons (pe_fld (pv 0) rfl) pa_nil))))), ?_⟩
    exact ⟨_, rfl, p, C, dx, _, _, rfl, hp, T.cl, T.nW, lkW _ _, _, rfl, p, C, dx, _, _, rfl, hp, T.cl, T.nT, lkT _ _, _, rfl, p, C, dx, _, _, rfl, hp, T.cl, T.nA, lkA _ _, l, m.weights, _, _, rfl, SqL.of hl, by omega, k⟩
theorem ok_codes_of (S : Src K mg "codes_of" s_codes_of p_codes_of) (T : Txt K mg C) (dU : Dn P w K mg base "uppers_of" 3 p_uppers_of (spQ C uppers)) (dL : Dn P w K mg base "lowers_of" 3 p_lowers_of (spQ C lowers))
    (dA : Dn P w K mg base "alarm_codes" 2 p_alarm_codes (spCodes K)) : Dn P w K mg base "codes_of" 4 p_codes_of (spQ C codesM) := by
  refine S.dn sc_codes_of (fun vs H Q E h => ?_) (fun f cdv A outer s H vs Q E hr h => ?_)
  · obtain ⟨p, l, m, rfl, _⟩ := h
    rfl
  · obtain ⟨p, l, m, rfl, hC, hlen, k⟩ := h
    obtain ⟨dx, hp, hl⟩ := id hC
    refine ⟨_, pss_one (ps_ret (pcall dA hr (pa_cons (pcall dU hr (pa_cons (pv 0) pa_nil)) (pa_cons (pcall dL hr (pa_cons (pv 0) pa_nil)) (pa_cons (pe_fld (pv 0) rfl) pa_nil))))), ?_⟩
    refine ⟨_, rfl, p, l, m, rfl, hC, hlen, fun H1 p1 s1 n1 h1 => ⟨_, rfl, p, l, m, rfl, hC.same s1, hlen, fun H2 p2 s2 n2 h2 => ?_⟩⟩
    have s3 := s1.trans s2
    exact ⟨_, rfl, p, C, dx, _, _, rfl, s3 _ _ hp, T.cl, T.nH, lkH _ _, p1, p2, _, _, _, rfl, SqL.of (s2 _ _ h1), SqL.of h2, by rw [uppers_len, lowers_len], by rw [uppers_len]; omega, k.mono s3⟩
theorem ok_shots_with_alarm (S : Src K mg "shots_with_alarm" s_shots_with_alarm p_shots_with_alarm) (T : Txt K mg C) (dC : Dn P w K mg base "codes_of" 4 p_codes_of (spQ C codesM)) :
    Dn P w K mg base "shots_with_alarm" 5 p_shots_with_alarm (spQ C alarmShots) := by
  refine S.dn sc_shots_with_alarm (fun vs H Q E h => ?_) (fun f cdv A outer s H vs Q E hr h => ?_)
  · obtain ⟨p, l, m, rfl, _⟩ := h
    rfl
  · obtain ⟨p, l, m, rfl, hC, hlen, k⟩ := h
    refine ⟨_, pss_one (ps_ret (pe_lc (own := [("shot", 1), ("code", 2)]) (g := gTup K 2 (gCons (gName 1) (gCons (gName 2) gNil))) rfl sc_shots_with_alarm.nd (pi_enum (by rfl) T.enumerate (pa_cons (pcall dC hr (pa_cons (pv 0) pa_nil)) pa_nil))
      (blkOk_by (own := [("shot", 1), ("code", 2)]) (N := n_shots_with_alarm) (sc := defScope s_shots_with_alarm) (by decide +kernel))
      (fun _ _ _ _ _ => pg_tup rfl (pgs_cons (pg_name (i := 1) sc_shots_with_alarm.nd rfl (Or.inl rfl)) (pgs_cons (pg_name (i := 2) sc_shots_with_alarm.nd rfl (Or.inl rfl)) pgs_nil))) (fun _ _ _ _ _ => pts_one (pt_cmpR op_gt (pv 2) pe_int (nomark _))) (fun _ _ _ _ _ => pv 1))), ?_⟩
    refine ⟨_, rfl, p, l, m, rfl, hC, hlen, fun H1 p1 s1 n1 h1 => ⟨p1, _, rfl, SqL.of h1, fun D hD => lc_it (walk_enum (K := K) (a := p1) (xs := iv (codesM m)))
      (fun i H' => Same H1 H' ∧ H' D = some (.lst (iv (sel (codesM m) i)))) ⟨sameU hD, upd_same⟩ (fun i H' _ ⟨q, _⟩ => q.seq (SqL.of h1)) ?_ ?_⟩⟩
    · rintro i v H' H2 hi ⟨s2, e2⟩ ⟨T', x, y, rfl, nT, rfl, hx, hy⟩
      have ex : x = V.int (i : Int) := (Option.some.inj hx).symm
      obtain ⟨z, hz, ey⟩ := iv_of hy
      subst ex ey
      have nD : D ≠ T' := ne_of_none e2 nT
      have sT := s2.trans (sameU (o := .tup [V.int (i : Int), V.int z]) nT)
      have hi2 : i < 24 + 1 := by
        have q := ix_lt hz
        rw [codesM_len] at q
        omega
      refine ⟨T', _, rfl, SqT.of upd_same, rfl, _, _, rfl, _, _, rfl, rfl, rfl, _, rfl, z, 0, rfl, rfl, _, rfl, ifD (fun e => ?_) (fun e => ?_)⟩
      · refine ⟨_, rfl, _, (upd_ne nD).trans e2, ?_, sameW sT hD, ?_⟩
        · refine lenS ?_
          have q := sel_len (codesM m) i
          omega
        · rw [upd_same, sel_succ, if_pos (by rw [getD_of hz]; exact e), iv_app]
      · refine ⟨sT, (upd_ne nD).trans ?_⟩
        rw [e2, sel_succ, if_neg (by rw [getD_of hz]; exact e)]
    · rintro H' ⟨s2, e2⟩
      rw [iv_len] at e2
      exact k H' D (s1.trans s2) (s1.free hD) e2
theorem ok_counted (S : Src K mg "counted" s_counted p_counted) (T : Txt K mg C) : Dn P w K mg base "counted" 1 p_counted spCounted := by
  refine S.dn sc_counted (fun vs H Q E h => ?_) (fun f cdv A outer s H vs Q E hr h => ?_)
  · obtain ⟨a, ns, rfl, _⟩ := h
    rfl
  · obtain ⟨a, ns, rfl, ha, hlen, k⟩ := h
    refine ⟨_, pss_one (ps_ret (pe_op op_cat (pe_lst (pa_cons (pe_callB call_len_seq (by rfl) T.len PySem.boot_len (pa_cons (pv 0) pa_nil)) pa_nil)) (pv 0))), ?_⟩
    refine ⟨_, rfl, a, _, rfl, .inl (SqL.of ha), (by show 1 ≤ sizeLine; decide), fun q nq => ?_⟩
    refine ⟨_, rfl, q, a, _, _, rfl, rfl, upd_same, sameU nq _ _ ha, ?_, fun d nd => ?_⟩
    · rw [iv_len]
      exact lenLe (by show 1 + ns.length ≤ 1000; omega)
    · have e : iv (counted ns) = [V.int ((iv ns).length : Int)] ++ iv ns := by
        rw [iv_len]
        rfl
      have z := k.new (sameU nq) nd
      rw [e] at z
      exact z
theorem ok_upper_sums (S : Src K mg "upper_sums" s_upper_sums p_upper_sums) (dU : Dn P w K mg base "uppers_of" 3 p_uppers_of (spQ C uppers)) (dN : Dn P w K mg base "counted" 1 p_counted spCounted) :
    Dn P w K mg base "upper_sums" 4 p_upper_sums (spQ C fun m => counted (uppers m)) := by
  refine S.dn sc_upper_sums (fun vs H Q E h => ?_) (fun f cdv A outer s H vs Q E hr h => ?_)
  · obtain ⟨p, l, m, rfl, _⟩ := h
    rfl
  · obtain ⟨p, l, m, rfl, hC, hlen, k⟩ := h
    refine ⟨_, pss_one (ps_ret (pcall dN hr (pa_cons (pcall dU hr (pa_cons (pv 0) pa_nil)) pa_nil))), ?_⟩
    exact ⟨_, rfl, p, l, m, rfl, hC, hlen, fun H1 p1 s1 n1 h1 => ⟨p1, _, rfl, h1, by rw [uppers_len]; omega, k.mono s1⟩⟩
theorem ok_lower_sums (S : Src K mg "lower_sums" s_lower_sums p_lower_sums) (dU : Dn P w K mg base "lowers_of" 3 p_lowers_of (spQ C lowers)) (dN : Dn P w K mg base "counted" 1 p_counted spCounted) :
    Dn P w K mg base "lower_sums" 4 p_lower_sums (spQ C fun m => counted (lowers m)) := by
  refine S.dn sc_lower_sums (fun vs H Q E h => ?_) (fun f cdv A outer s H vs Q E hr h => ?_)
  · obtain ⟨p, l, m, rfl, _⟩ := h
    rfl
  · obtain ⟨p, l, m, rfl, hC, hlen, k⟩ := h
    refine ⟨_, pss_one (ps_ret (pcall dN hr (pa_cons (pcall dU hr (pa_cons (pv 0) pa_nil)) pa_nil))), ?_⟩
    exact ⟨_, rfl, p, l, m, rfl, hC, hlen, fun H1 p1 s1 n1 h1 => ⟨p1, _, rfl, h1, by rw [lowers_len]; omega, k.mono s1⟩⟩
theorem ok_first_alarm (S : Src K mg "first_alarm" s_first_alarm p_first_alarm) (T : Txt K mg C) (dS : Dn P w K mg base "shots_with_alarm" 5 p_shots_with_alarm (spQ C alarmShots)) (dC : Dn P w K mg base "codes_of" 4 p_codes_of (spQ C codesM)) :
    Dn P w K mg base "first_alarm" 6 p_first_alarm (spQ C firstAlarmM) := by
  refine S.dn sc_first_alarm (fun vs H Q E h => ?_) (fun f cdv A outer s H vs Q E hr h => ?_)
  · obtain ⟨p, l, m, rfl, _⟩ := h
    rfl
  · obtain ⟨p, l, m, rfl, hC, hlen, k⟩ := h
    obtain ⟨_, gNA⟩ := T.cNA
    refine ⟨_, pss_cons (ps_set (i := 1) sc_first_alarm.nd rfl (Or.inl rfl) (pcall dS hr (pa_cons (pv 0) pa_nil)))
      (pss_cons (ps_if (pt_cmpR op_eq (pe_callB call_len_seq (by rfl) T.len PySem.boot_len (pa_cons (pv 1) pa_nil)) pe_int (nomark _)) (pss_one (ps_ret (pe_lst (pa_cons (pe_glob (v := .int (-33)) rfl gNA ⟨_, rfl⟩) pa_nil)))) pss_nil)
      (pss_one (ps_ret (pe_lst (pa_cons (pe_ix ix_list (pv 1) pe_int (fun _ _ => rfl)) (pa_cons (pe_ix ix_list (pcall dC hr (pa_cons (pv 0) pa_nil)) (pe_ix ix_list (pv 1) pe_int (fun _ _ => rfl)) (fun _ _ => rfl)) pa_nil)))))), ?_⟩
    refine ⟨_, rfl, p, l, m, rfl, hC, hlen, fun H1 p1 s1 n1 h1 => ?_⟩
    refine ⟨_, rfl, p1, _, rfl, .inl (SqL.of h1), rfl, _, rfl, ifE (fun e => ?_) (fun e => ?_)⟩
    · rw [iv_len] at e
      have e0 : alarmShots m = [] := List.eq_nil_of_length_eq_zero (by omega)
      have e1 : firstAlarmM m = [-33] := by
        unfold firstAlarmM
        rw [e0] <;> rfl
      rw [e1] at k
      exact ⟨(by show 1 ≤ sizeLine; decide), fun q nq => k.new s1 nq⟩
    · rw [iv_len] at e
      cases e0 : alarmShots m with
      | nil =>
        rw [e0] at e
        exact absurd rfl e
      | cons x r =>
        have e1 : firstAlarmM m = [x, (codesM m).getD x.toNat 0] := by
          unfold firstAlarmM
          rw [e0] <;> rfl
        have hx : 0 ≤ x ∧ x.toNat < (codesM m).length := sel_mem (by
          have q : x ∈ alarmShots m := by
            rw [e0]
            exact List.mem_cons_self
          exact q)
        rw [e0] at h1
        rw [e1] at k
        refine ⟨_, rfl, p1, _, 0, .int x, rfl, rfl, SqL.of h1, at_of (j := 0) rfl rfl, ?_⟩
        refine ⟨_, rfl, p, l, m, rfl, hC.same s1, hlen, fun H2 p2 s2 n2 h2 => ?_⟩
        refine ⟨_, rfl, p1, _, 0, .int x, rfl, rfl, SqL.of (s2 _ _ h1), at_of (j := 0) rfl rfl, ?_⟩
        exact ⟨p2, _, x, _, rfl, rfl, SqL.of h2, at_int (j := x.toNat) (by omega) hx.2, (by show 2 ≤ sizeLine; decide), fun q nq => k.new (s1.trans s2) nq⟩
theorem ok_alarms (S : Src K mg "alarms" s_alarms p_alarms) (dS : Dn P w K mg base "shots_with_alarm" 5 p_shots_with_alarm (spQ C alarmShots)) (dN : Dn P w K mg base "counted" 1 p_counted spCounted) :
    Dn P w K mg base "alarms" 6 p_alarms (spQ C fun m => counted (alarmShots m)) := by
  refine S.dn sc_alarms (fun vs H Q E h => ?_) (fun f cdv A outer s H vs Q E hr h => ?_)
  · obtain ⟨p, l, m, rfl, _⟩ := h
    rfl
  · obtain ⟨p, l, m, rfl, hC, hlen, k⟩ := h
    refine ⟨_, pss_one (ps_ret (pcall dN hr (pa_cons (pcall dS hr (pa_cons (pv 0) pa_nil)) pa_nil))), ?_⟩
    refine ⟨_, rfl, p, l, m, rfl, hC, hlen, fun H1 p1 s1 n1 h1 => ⟨p1, _, rfl, h1, ?_, k.mono s1⟩⟩
    have q := sel_len (codesM m) (codesM m).length
    rw [codesM_len] at q
    unfold alarmShots
    rw [codesM_len]
    omega
theorem ok_onset (S : Src K mg "onset" s_onset p_onset) (T : Txt K mg C) (dH : Dn P w K mg base "has_shot" 1 p_has_shot (spHas C)) (dU : Dn P w K mg base "uppers_of" 3 p_uppers_of (spQ C uppers))
    (dL : Dn P w K mg base "lowers_of" 3 p_lowers_of (spQ C lowers)) (dO : Dn P w K mg base "onset_in" 1 p_onset_in (spOnsetIn K)) : Dn P w K mg base "onset" 4 p_onset (spQ1 C onsetM) := by
  refine S.dn sc_onset (fun vs H Q E h => ?_) (fun f cdv A outer s H vs Q E hr h => ?_)
  · obtain ⟨p, l, m, i, rfl, _⟩ := h
    rfl
  · obtain ⟨p, l, m, i, rfl, hC, hlen, k⟩ := h
    obtain ⟨_, gNS⟩ := T.cNS
    refine ⟨_, pss_cons (ps_if (pt_not (pt_val (pcall dH hr (pa_cons (pv 0) (pa_cons (pv 1) pa_nil))))) (pss_one (ps_ret (pe_lst (pa_cons (pe_glob (v := .int (-2)) rfl gNS ⟨_, rfl⟩) pa_nil)))) pss_nil)
      (pss_one (ps_ret (pe_lst (pa_cons (pcall dO hr (pa_cons (pcall dU hr (pa_cons (pv 0) pa_nil)) (pa_cons (pv 1) pa_nil))) (pa_cons (pcall dO hr (pa_cons (pcall dL hr (pa_cons (pv 0) pa_nil)) (pa_cons (pv 1) pa_nil))) pa_nil))))), ?_⟩
    by_cases h1 : hasShot m i = true
    · have e : onsetM m i = [onF (uppers m) (i.toNat + 1), onF (lowers m) (i.toNat + 1)] := if_pos h1
      rw [e] at k
      unfold hasShot at h1
      rw [Bool.and_eq_true] at h1
      have g1 := of_decide_eq_true h1.1
      have g2 := of_decide_eq_true h1.2
      obtain ⟨n, rfl⟩ : ∃ n : Nat, i = (n : Int) := ⟨i.toNat, by omega⟩
      refine ⟨_, rfl, _, rfl, p, l, m, (n : Int), rfl, hC, _, rfl, ifF (notT (by unfold hasShot; rw [Bool.and_eq_true]; exact h1)) ?_⟩
      refine ⟨_, rfl, p, l, m, rfl, hC, hlen, fun H1 p1 s1 n1 h1 => ⟨_, rfl, p1, _, n, rfl, SqL.of h1, by rw [uppers_len]; omega, by rw [uppers_len]; omega, ?_⟩⟩
      refine ⟨_, rfl, p, l, m, rfl, hC.same s1, hlen, fun H2 p2 s2 n2 h2 => ⟨_, rfl, p2, _, n, rfl, SqL.of h2, by rw [lowers_len]; omega, by rw [lowers_len]; omega, ?_⟩⟩
      exact ⟨(by show 2 ≤ sizeLine; decide), fun q nq => k.new (s1.trans s2) nq⟩
    · have e : onsetM m i = [-2] := if_neg h1
      rw [e] at k
      refine ⟨_, rfl, _, rfl, p, l, m, i, rfl, hC, _, rfl, ifT (notF h1) ?_⟩
      exact ⟨(by show 1 ≤ sizeLine; decide), fun q nq => k.new (Same.refl H) nq⟩
theorem ok_worst_runs (S : Src K mg "worst_runs" s_worst_runs p_worst_runs) (T : Txt K mg C) (dH : Dn P w K mg base "has_shot" 1 p_has_shot (spHas C)) (dE : Dn P w K mg base "excesses" 1 p_excesses (spExc K))
    (dF : Dn P w K mg base "shortfalls" 1 p_shortfalls (spSho K)) (dW : Dn P w K mg base "worst_run" 1 p_worst_run (spWorst K)) : Dn P w K mg base "worst_runs" 2 p_worst_runs (spQ1 C worstRunsM) := by
  refine S.dn sc_worst_runs (fun vs H Q E h => ?_) (fun f cdv A outer s H vs Q E hr h => ?_)
  · obtain ⟨p, l, m, i, rfl, _⟩ := h
    rfl
  · obtain ⟨p, l, m, i, rfl, hC, hlen, k⟩ := h
    obtain ⟨dx, hp, hl⟩ := id hC
    obtain ⟨_, gNS⟩ := T.cNS
    refine ⟨_, pss_cons (ps_if (pt_not (pt_val (pcall dH hr (pa_cons (pv 0) (pa_cons (pv 1) pa_nil))))) (pss_one (ps_ret (pe_lst (pa_cons (pe_glob (v := .int (-2)) rfl gNS ⟨_, rfl⟩) pa_nil)))) pss_nil)
      (pss_cons (ps_set (i := 2) sc_worst_runs.nd rfl (Or.inl rfl) (pcall dW hr (pa_cons (pcall dE hr (pa_cons (pe_fld (pv 0) rfl) (pa_cons (pe_fld (pv 0) rfl) (pa_cons (pe_fld (pv 0) rfl) pa_nil)))) (pa_cons (pv 1) pa_nil))))
      (pss_cons (ps_set (i := 3) sc_worst_runs.nd rfl (Or.inl rfl) (pcall dW hr (pa_cons (pcall dF hr (pa_cons (pe_fld (pv 0) rfl) (pa_cons (pe_fld (pv 0) rfl) (pa_cons (pe_fld (pv 0) rfl) pa_nil)))) (pa_cons (pv 1) pa_nil))))
      (pss_one (ps_ret (pe_op op_cat (pe_op op_cat (pe_lst (pa_cons pe_int pa_nil)) (pv 2)) (pv 3)))))), ?_⟩
    by_cases h1 : hasShot m i = true
    · have e : worstRunsM m i = [0] ++ worst (exc m.weights m.target m.allowance) i.toNat ++ worst (sho m.weights m.target m.allowance) i.toNat := if_pos h1
      rw [e] at k
      unfold hasShot at h1
      rw [Bool.and_eq_true] at h1
      have g1 := of_decide_eq_true h1.1
      have g2 := of_decide_eq_true h1.2
      obtain ⟨n, rfl⟩ : ∃ n : Nat, i = (n : Int) := ⟨i.toNat, by omega⟩
      refine ⟨_, rfl, _, rfl, p, l, m, (n : Int), rfl, hC, _, rfl, ifF (notT (by unfold hasShot; rw [Bool.and_eq_true]; exact h1)) ?_⟩
      refine ⟨_, rfl, p, C, dx, _, _, rfl, hp, T.cl, T.nW, lkW _ _, _, rfl, p, C, dx, _, _, rfl, hp, T.cl, T.nT, lkT _ _, _, rfl, p, C, dx, _, _, rfl, hp, T.cl, T.nA, lkA _ _, l, m.weights, _, _, rfl, SqL.of hl, by omega, fun H1 p1 s1 n1 h1 => ⟨_, rfl, p1, _, n, rfl, SqL.of h1, by rw [exc_len]; omega, by rw [exc_len]; omega, fun H2 p2 s2 n2 h2 => ?_⟩⟩
      have s3 := s1.trans s2
      refine ⟨_, rfl, p, C, dx, _, _, rfl, s3 _ _ hp, T.cl, T.nW, lkW _ _, _, rfl, p, C, dx, _, _, rfl, s3 _ _ hp, T.cl, T.nT, lkT _ _, _, rfl, p, C, dx, _, _, rfl, s3 _ _ hp, T.cl, T.nA, lkA _ _, l, m.weights, _, _, rfl, SqL.of (s3 _ _ hl), by omega, fun H3 p3 s4 n3 h3 => ⟨_, rfl, p3, _, n, rfl, SqL.of h3, by rw [sho_len]; omega, by rw [sho_len]; omega, fun H4 p4 s5 n4 h4 => ?_⟩⟩
      have s6 := s4.trans s5
      refine ⟨(by show 1 ≤ sizeLine; decide), fun q nq => ?_⟩
      have s7 := s6.trans (sameU (o := .lst [V.int 0]) nq)
      refine ⟨_, rfl, q, p2, _, _, rfl, rfl, upd_same, s7 _ _ h2, (by show 1 + 2 ≤ sizeLine; decide), fun r nr => ?_⟩
      have s8 := (sameU (o := .lst [V.int 0]) nq).trans (sameU (o := .lst ([V.int 0] ++ iv (worst (exc m.weights m.target m.allowance) n))) nr)
      refine ⟨_, rfl, r, p4, _, _, rfl, rfl, upd_same, s8 _ _ h4, (by show 3 + 2 ≤ sizeLine; decide), fun d nd => ?_⟩
      exact k.new (s3.trans (s6.trans s8)) nd
    · have e : worstRunsM m i = [-2] := if_neg h1
      rw [e] at k
      refine ⟨_, rfl, _, rfl, p, l, m, i, rfl, hC, _, rfl, ifT (notF h1) ?_⟩
      exact ⟨(by show 1 ≤ sizeLine; decide), fun q nq => k.new (Same.refl H) nq⟩
theorem ok_add_shot_if (S : Src K mg "add_shot_if" s_add_shot_if p_add_shot_if) (T : Txt K mg C) (dW : Dn P w K mg base "is_weight" 1 p_is_weight spIsW) (dT : Dn P w K mg base "told_last" 3 p_told_last (spTold C K)) :
    Dn P w K mg base "add_shot_if" 4 p_add_shot_if (spQ1 C addShotIfM) := by
  refine S.dn sc_add_shot_if (fun vs H Q E h => ?_) (fun f cdv A outer s H vs Q E hr h => ?_)
  · obtain ⟨p, l, m, x, rfl, _⟩ := h
    rfl
  · obtain ⟨p, l, m, x, rfl, hC, hlen, k⟩ := h
    obtain ⟨dx, hp, hl⟩ := id hC
    obtain ⟨_, gBR⟩ := T.cBR
    refine ⟨_, pss_cons (ps_if (pt_not (pt_val (pcall dW hr (pa_cons (pv 1) pa_nil)))) (pss_one (ps_ret (pe_lst (pa_cons (pe_glob (v := .int (-22)) rfl gBR ⟨_, rfl⟩) pa_nil)))) pss_nil)
      (pss_one (ps_ret (pcall dT hr (pa_cons (pv 0) (pa_cons (pe_op op_cat (pe_fld (pv 0) rfl) (pe_lst (pa_cons (pv 1) pa_nil))) pa_nil))))), ?_⟩
    by_cases h1 : isW x = true
    · have e : addShotIfM m x = toldLast m (m.weights ++ [x]) := if_pos h1
      rw [e] at k
      refine ⟨_, rfl, x, rfl, _, rfl, ifF (notT h1) ?_⟩
      refine ⟨_, rfl, _, rfl, p, C, dx, _, _, rfl, hp, T.cl, T.nW, lkW _ _, _, rfl, (by show 1 ≤ sizeLine; decide), fun q nq => ?_⟩
      have s1 := sameU (o := .lst [V.int x]) nq
      refine ⟨l, q, _, _, rfl, rfl, s1 _ _ hl, upd_same, ?_, fun r nr => ?_⟩
      · rw [iv_len]
        exact lenLe (by show m.weights.length + 1 ≤ 1000; omega)
      · have s2 := s1.trans (sameU (o := .lst (iv m.weights ++ [V.int x])) nr)
        refine ⟨p, l, m, r, m.weights ++ [x], rfl, hC.same s2, ?_, ?_, k.mono s2⟩
        · rw [iv_app]
          exact SqL.of upd_same
        · rw [List.length_append, List.length_singleton]
          omega
    · have e : addShotIfM m x = [-22] := if_neg h1
      rw [e] at k
      refine ⟨_, rfl, x, rfl, _, rfl, ifT (notF h1) ?_⟩
      exact ⟨(by show 1 ≤ sizeLine; decide), fun q nq => k.new (Same.refl H) nq⟩
theorem ok_smallest_alarming_weight (S : Src K mg "smallest_alarming_weight" s_smallest_alarming_weight p_smallest_alarming_weight) (T : Txt K mg C) (dU : Dn P w K mg base "uppers_of" 3 p_uppers_of (spQ C uppers))
    (dS : Dn P w K mg base "last_of" 1 p_last_of (spLast K)) : Dn P w K mg base "smallest_alarming_weight" 4 p_smallest_alarming_weight (spQ C smallestM) := by
  refine S.dn sc_smallest_alarming_weight (fun vs H Q E h => ?_) (fun f cdv A outer s H vs Q E hr h => ?_)
  · obtain ⟨p, l, m, rfl, _⟩ := h
    rfl
  · obtain ⟨p, l, m, rfl, hC, hlen, k⟩ := h
    obtain ⟨dx, hp, hl⟩ := id hC
    refine ⟨_, pss_cons (ps_set (i := 1) sc_smallest_alarming_weight.nd rfl (Or.inl rfl) (pcall dS hr (pa_cons (pcall dU hr (pa_cons (pv 0) pa_nil)) pa_nil)))
      (pss_one (ps_ret (pe_lst (pa_cons pe_int (pa_cons (pe_op op_sub (pe_op op_add (pe_op op_add (pe_op op_add (pe_fld (pv 0) rfl) (pe_fld (pv 0) rfl)) (pe_fld (pv 0) rfl)) pe_int) (pv 1)) pa_nil))))), ?_⟩
    refine ⟨_, rfl, p, l, m, rfl, hC, hlen, fun H1 p1 s1 n1 h1 => ⟨p1, _, rfl, SqL.of h1, ?_⟩⟩
    refine ⟨_, rfl, p, C, dx, _, _, rfl, s1 _ _ hp, T.cl, T.nT, lkT _ _, _, rfl, p, C, dx, _, _, rfl, s1 _ _ hp, T.cl, T.nA, lkA _ _, _, _, rfl, rfl, _, rfl, p, C, dx, _, _, rfl, s1 _ _ hp, T.cl, T.nH, lkH _ _, _, _, rfl, rfl, _, 1, rfl, rfl, _, rfl, _, _, rfl, rfl, (by show 2 ≤ sizeLine; decide), fun q nq => ?_⟩
    exact k.new s1 nq
theorem ok_longest_runs (S : Src K mg "longest_runs" s_longest_runs p_longest_runs) (T : Txt K mg C) (dA : Dn P w K mg base "longest_above" 2 p_longest_above (spAbove K)) (dB : Dn P w K mg base "longest_below" 2 p_longest_below (spBelow K)) :
    Dn P w K mg base "longest_runs" 3 p_longest_runs (spQ C longestRunsM) := by
  refine S.dn sc_longest_runs (fun vs H Q E h => ?_) (fun f cdv A outer s H vs Q E hr h => ?_)
  · obtain ⟨p, l, m, rfl, _⟩ := h
    rfl
  · obtain ⟨p, l, m, rfl, hC, hlen, k⟩ := h
    obtain ⟨dx, hp, hl⟩ := id hC
    refine ⟨_, pss_one (ps_ret (pe_lst (pa_cons (pcall dA hr (pa_cons (pe_fld (pv 0) rfl) (pa_cons (pe_fld (pv 0) rfl) pa_nil))) (pa_cons (pcall dB hr (pa_cons (pe_fld (pv 0) rfl) (pa_cons (pe_fld (pv 0) rfl) pa_nil))) pa_nil)))), ?_⟩
    refine ⟨_, rfl, p, C, dx, _, _, rfl, hp, T.cl, T.nW, lkW _ _, _, rfl, p, C, dx, _, _, rfl, hp, T.cl, T.nT, lkT _ _, l, m.weights, _, rfl, SqL.of hl, by omega, fun H1 s1 => ?_⟩
    refine ⟨_, rfl, p, C, dx, _, _, rfl, s1 _ _ hp, T.cl, T.nW, lkW _ _, _, rfl, p, C, dx, _, _, rfl, s1 _ _ hp, T.cl, T.nT, lkT _ _, l, m.weights, _, rfl, SqL.of (s1 _ _ hl), by omega, fun H2 s2 => ?_⟩
    exact ⟨(by show 2 ≤ sizeLine; decide), fun q nq => k.new (s1.trans s2) nq⟩
theorem ok_mean_weight (S : Src K mg "mean_weight" s_mean_weight p_mean_weight) (T : Txt K mg C) (dL : Dn P w K mg base "lowest_terms" 2 p_lowest_terms spLow) :
    Dn P w K mg base "mean_weight" 3 p_mean_weight (spQ C meanM) := by
  refine S.dn sc_mean_weight (fun vs H Q E h => ?_) (fun f cdv A outer s H vs Q E hr h => ?_)
  · obtain ⟨p, l, m, rfl, _⟩ := h
    rfl
  · obtain ⟨p, l, m, rfl, hC, hlen, k⟩ := h
    obtain ⟨dx, hp, hl⟩ := id hC
    obtain ⟨_, gN0⟩ := T.cN0
    refine ⟨_, pss_cons (ps_set (i := 1) sc_mean_weight.nd rfl (Or.inl rfl) (pe_callB call_len_seq (by rfl) T.len PySem.boot_len (pa_cons (pe_fld (pv 0) rfl) pa_nil)))
      (pss_cons (ps_if (pt_cmpR op_eq (pv 1) pe_int (nomark _)) (pss_one (ps_ret (pe_lst (pa_cons (pe_glob (v := .int (-6)) rfl gN0 ⟨_, rfl⟩) pa_nil)))) pss_nil)
      (pss_one (ps_ret (pe_op op_cat (pe_lst (pa_cons pe_int pa_nil)) (pcall dL hr (pa_cons (pe_callB (cr_sum rfl) (by rfl) T.sum (by decide +kernel) (pa_cons (pe_fld (pv 0) rfl) pa_nil)) (pa_cons (pv 1) pa_nil))))))), ?_⟩
    refine ⟨_, rfl, p, C, dx, _, _, rfl, hp, T.cl, T.nW, lkW _ _, l, _, rfl, .inl (SqL.of hl), ?_⟩
    refine ⟨_, rfl, rfl, _, rfl, ifE (fun e => ?_) (fun e => ?_)⟩
    · rw [iv_len] at e
      have e1 : meanM m = [-6] := if_pos (by omega)
      rw [e1] at k
      exact ⟨(by show 1 ≤ sizeLine; decide), fun q nq => k.new (Same.refl H) nq⟩
    · rw [iv_len] at e
      have e1 : meanM m = 0 :: lowest m.weights.sum (m.weights.length : Int) := if_neg (by omega)
      rw [e1] at k
      refine ⟨(by show 1 ≤ sizeLine; decide), fun q nq => ?_⟩
      have s1 := sameU (o := .lst [V.int 0]) nq
      refine ⟨_, rfl, p, C, dx, _, _, rfl, s1 _ _ hp, T.cl, T.nW, lkW _ _, l, m.weights, rfl, SqL.of (s1 _ _ hl), _, rfl, m.weights.sum, m.weights.length, by rw [iv_len]; rfl, by omega, by omega, fun H1 p1 s2 n1 h1 => ?_⟩
      refine ⟨q, p1, _, _, rfl, rfl, s2 _ _ upd_same, h1, (by show 1 + 2 ≤ sizeLine; decide), fun d nd => ?_⟩
      exact k.new (s1.trans s2) nd
theorem ok_describe (S : Src K mg "describe" s_describe p_describe) (T : Txt K mg C) : Dn P w K mg base "describe" 1 p_describe (spQ C describeM) := by
  refine S.dn sc_describe (fun vs H Q E h => ?_) (fun f cdv A outer s H vs Q E hr h => ?_)
  · obtain ⟨p, l, m, rfl, _⟩ := h
    rfl
  · obtain ⟨p, l, m, rfl, hC, hlen, k⟩ := h
    obtain ⟨dx, hp, hl⟩ := id hC
    refine ⟨_, pss_one (ps_ret (pe_op op_cat (pe_lst (pa_cons (pe_callB call_len_seq (by rfl) T.len PySem.boot_len (pa_cons (pe_fld (pv 0) rfl) pa_nil)) (pa_cons (pe_fld (pv 0) rfl) (pa_cons (pe_fld (pv 0) rfl) (pa_cons (pe_fld (pv 0) rfl) pa_nil))))) (pe_fld (pv 0) rfl))), ?_⟩
    refine ⟨_, rfl, p, C, dx, _, _, rfl, hp, T.cl, T.nW, lkW _ _, l, _, rfl, .inl (SqL.of hl), _, rfl, p, C, dx, _, _, rfl, hp, T.cl, T.nT, lkT _ _, _, rfl, p, C, dx, _, _, rfl, hp, T.cl, T.nA, lkA _ _, _, rfl, p, C, dx, _, _, rfl, hp, T.cl, T.nH, lkH _ _, (by show 4 ≤ sizeLine; decide), fun q nq => ?_⟩
    refine ⟨_, rfl, p, C, dx, _, _, rfl, sameU nq _ _ hp, T.cl, T.nW, lkW _ _, q, l, _, _, rfl, rfl, upd_same, sameU nq _ _ hl, ?_, fun d nd => ?_⟩
    · rw [iv_len]
      exact lenLe (by show 4 + m.weights.length ≤ 1000; omega)
    · have e : iv (describeM m) = [V.int ((iv m.weights).length : Int), V.int m.target, V.int m.allowance, V.int m.threshold] ++ iv m.weights := by
        rw [iv_len]
        rfl
      have z := k.new (sameU nq) nd
      rw [e] at z
      exact z
end
end Ss

set_option Elab.async false
set_option maxRecDepth 100000
set_option maxHeartbeats 4000000
/-! chart: each def keeps its promise. -/
namespace Ss
open PySem PySem.Spec PyProof.Rows L2
abbrev okL (op : Int) : Prop := 0 ≤ op ∧ op ≤ 6
abbrev okM (op : Int) : Prop := 6 < op ∧ op ≤ 12
abbrev okH (op : Int) : Prop := 12 < op ∧ op ≤ 17
abbrev okA (op : Int) : Prop := 0 ≤ op ∧ op ≤ 17
section
variable {P : Program} {w : World} {K : PySem.W.Frag} {mg : Str → Option Value} {base : Heap} {C : Addr}
theorem ok_answer_changes (S : Src K mg "answer_changes" s_answer_changes p_answer_changes) (T : Txt K mg C) (d0 : Dn P w K mg base "create" 2 p_create (spO3 C createM)) (d1 : Dn P w K mg base "add_shot" 4 p_add_shot (spO1 C addM))
    (d2 : Dn P w K mg base "set_shots" 3 p_set_shots (spOL C K setShotsM)) (d3 : Dn P w K mg base "clear_shots" 2 p_clear_shots (spO C clearM)) (d4 : Dn P w K mg base "set_weight" 2 p_set_weight (spO2 C setWeightM))
    (d5 : Dn P w K mg base "set_target" 2 p_set_target (spO1 C setTargetM)) (d6 : Dn P w K mg base "set_limits" 2 p_set_limits (spO2 C setLimitsM)) : Dn P w K mg base "answer_changes" 5 p_answer_changes (spDis C K okL ansChanges) := by
  refine S.dn sc_answer_changes (fun vs H Q E h => ?_) (fun f cdv A outer s H vs Q E hr h => ?_)
  · obtain ⟨p, l, m, op, a, ns, rfl, _⟩ := h
    rfl
  · obtain ⟨p, l, m, op, a, ns, rfl, hC, hlen, hS, ho, har, k⟩ := h
    obtain ⟨_, gSS⟩ := T.cSS
    refine ⟨_, pss_cons (ps_if (pt_cmpR op_eq (pv 1) pe_int (nomark _)) (pss_one (ps_ret (pcall d0 hr (pa_cons (pv 0) (pa_cons (pe_ix ix_list (pv 2) pe_int (fun _ _ => rfl)) (pa_cons (pe_ix ix_list (pv 2) pe_int (fun _ _ => rfl)) (pa_cons (pe_ix ix_list (pv 2) pe_int (fun _ _ => rfl)) pa_nil))))))) pss_nil)
      (pss_cons (ps_if (pt_cmpR op_eq (pv 1) pe_int (nomark _)) (pss_one (ps_ret (pcall d1 hr (pa_cons (pv 0) (pa_cons (pe_ix ix_list (pv 2) pe_int (fun _ _ => rfl)) pa_nil))))) pss_nil)
      (pss_cons (ps_if (pt_cmpR op_eq (pv 1) (pe_glob (v := .int 2) rfl gSS ⟨_, rfl⟩) (nomark _)) (pss_one (ps_ret (pcall d2 hr (pa_cons (pv 0) (pa_cons (pv 2) pa_nil))))) pss_nil)
      (pss_cons (ps_if (pt_cmpR op_eq (pv 1) pe_int (nomark _)) (pss_one (ps_ret (pcall d3 hr (pa_cons (pv 0) pa_nil)))) pss_nil)
      (pss_cons (ps_if (pt_cmpR op_eq (pv 1) pe_int (nomark _)) (pss_one (ps_ret (pcall d4 hr (pa_cons (pv 0) (pa_cons (pe_ix ix_list (pv 2) pe_int (fun _ _ => rfl)) (pa_cons (pe_ix ix_list (pv 2) pe_int (fun _ _ => rfl)) pa_nil)))))) pss_nil)
      (pss_cons (ps_if (pt_cmpR op_eq (pv 1) pe_int (nomark _)) (pss_one (ps_ret (pcall d5 hr (pa_cons (pv 0) (pa_cons (pe_ix ix_list (pv 2) pe_int (fun _ _ => rfl)) pa_nil))))) pss_nil)
      (pss_one (ps_ret (pcall d6 hr (pa_cons (pv 0) (pa_cons (pe_ix ix_list (pv 2) pe_int (fun _ _ => rfl)) (pa_cons (pe_ix ix_list (pv 2) pe_int (fun _ _ => rfl)) pa_nil))))))))))), ?_⟩
    refine ⟨_, rfl, rfl, _, rfl, ifE (fun e => ?_) (fun e0 => ?_)⟩
    · subst e
      have q : (3 : Int) = (ns.length : Int) := har.resolve_left (by decide)
      exact ⟨_, rfl, _, rfl, a, _, 0, _, rfl, rfl, hS, at_int (j := 0) rfl (by omega), _, rfl, a, _, 1, _, rfl, rfl, hS, at_int (j := 1) rfl (by omega), _, rfl, a, _, 2, _, rfl, rfl, hS, at_int (j := 2) rfl (by omega), p, l, m, _, _, _, rfl, hC, hlen, k⟩
    refine ⟨_, rfl, rfl, _, rfl, ifE (fun e => ?_) (fun e1 => ?_)⟩
    · subst e
      have q : (1 : Int) = (ns.length : Int) := har.resolve_left (by decide)
      exact ⟨_, rfl, _, rfl, a, _, 0, _, rfl, rfl, hS, at_int (j := 0) rfl (by omega), p, l, m, _, rfl, hC, hlen, k⟩
    refine ⟨_, rfl, rfl, _, rfl, ifE (fun e => ?_) (fun e2 => ?_)⟩
    · subst e
      exact ⟨_, rfl, _, rfl, p, l, m, a, ns, rfl, hC, hlen, hS, k⟩
    refine ⟨_, rfl, rfl, _, rfl, ifE (fun e => ?_) (fun e3 => ?_)⟩
    · subst e
      exact ⟨_, rfl, p, l, m, rfl, hC, hlen, k⟩
    refine ⟨_, rfl, rfl, _, rfl, ifE (fun e => ?_) (fun e4 => ?_)⟩
    · subst e
      have q : (2 : Int) = (ns.length : Int) := har.resolve_left (by decide)
      exact ⟨_, rfl, _, rfl, a, _, 0, _, rfl, rfl, hS, at_int (j := 0) rfl (by omega), _, rfl, a, _, 1, _, rfl, rfl, hS, at_int (j := 1) rfl (by omega), p, l, m, _, _, rfl, hC, hlen, k⟩
    refine ⟨_, rfl, rfl, _, rfl, ifE (fun e => ?_) (fun e5 => ?_)⟩
    · subst e
      have q : (1 : Int) = (ns.length : Int) := har.resolve_left (by decide)
      exact ⟨_, rfl, _, rfl, a, _, 0, _, rfl, rfl, hS, at_int (j := 0) rfl (by omega), p, l, m, _, rfl, hC, hlen, k⟩
    · have e : op = 6 := by omega
      subst e
      have q : (2 : Int) = (ns.length : Int) := har.resolve_left (by decide)
      exact ⟨_, rfl, _, rfl, a, _, 0, _, rfl, rfl, hS, at_int (j := 0) rfl (by omega), _, rfl, a, _, 1, _, rfl, rfl, hS, at_int (j := 1) rfl (by omega), p, l, m, _, _, rfl, hC, hlen, k⟩
theorem ok_answer_sums (S : Src K mg "answer_sums" s_answer_sums p_answer_sums) (d7 : Dn P w K mg base "upper_sums" 4 p_upper_sums (spQ C fun m => counted (uppers m))) (d8 : Dn P w K mg base "lower_sums" 4 p_lower_sums (spQ C fun m => counted (lowers m)))
    (d9 : Dn P w K mg base "first_alarm" 6 p_first_alarm (spQ C firstAlarmM)) (d10 : Dn P w K mg base "alarms" 6 p_alarms (spQ C fun m => counted (alarmShots m))) (d11 : Dn P w K mg base "onset" 4 p_onset (spQ1 C onsetM))
    (d12 : Dn P w K mg base "worst_runs" 2 p_worst_runs (spQ1 C worstRunsM)) : Dn P w K mg base "answer_sums" 7 p_answer_sums (spDis C K okM fun m op ns => (m, ansSums m op ns)) := by
  refine S.dn sc_answer_sums (fun vs H Q E h => ?_) (fun f cdv A outer s H vs Q E hr h => ?_)
  · obtain ⟨p, l, m, op, a, ns, rfl, _⟩ := h
    rfl
  · obtain ⟨p, l, m, op, a, ns, rfl, hC, hlen, hS, ho, har, k⟩ := h
    have k := ResOp.query hC k
    refine ⟨_, pss_cons (ps_if (pt_cmpR op_eq (pv 1) pe_int (nomark _)) (pss_one (ps_ret (pcall d7 hr (pa_cons (pv 0) pa_nil)))) pss_nil)
      (pss_cons (ps_if (pt_cmpR op_eq (pv 1) pe_int (nomark _)) (pss_one (ps_ret (pcall d8 hr (pa_cons (pv 0) pa_nil)))) pss_nil)
      (pss_cons (ps_if (pt_cmpR op_eq (pv 1) pe_int (nomark _)) (pss_one (ps_ret (pcall d9 hr (pa_cons (pv 0) pa_nil)))) pss_nil)
      (pss_cons (ps_if (pt_cmpR op_eq (pv 1) pe_int (nomark _)) (pss_one (ps_ret (pcall d10 hr (pa_cons (pv 0) pa_nil)))) pss_nil)
      (pss_cons (ps_if (pt_cmpR op_eq (pv 1) pe_int (nomark _)) (pss_one (ps_ret (pcall d11 hr (pa_cons (pv 0) (pa_cons (pe_ix ix_list (pv 2) pe_int (fun _ _ => rfl)) pa_nil))))) pss_nil)
      (pss_one (ps_ret (pcall d12 hr (pa_cons (pv 0) (pa_cons (pe_ix ix_list (pv 2) pe_int (fun _ _ => rfl)) pa_nil))))))))), ?_⟩
    refine ⟨_, rfl, rfl, _, rfl, ifE (fun e => ?_) (fun e0 => ?_)⟩
    · subst e
      exact ⟨_, rfl, p, l, m, rfl, hC, hlen, k⟩
    refine ⟨_, rfl, rfl, _, rfl, ifE (fun e => ?_) (fun e1 => ?_)⟩
    · subst e
      exact ⟨_, rfl, p, l, m, rfl, hC, hlen, k⟩
    refine ⟨_, rfl, rfl, _, rfl, ifE (fun e => ?_) (fun e2 => ?_)⟩
    · subst e
      exact ⟨_, rfl, p, l, m, rfl, hC, hlen, k⟩
    refine ⟨_, rfl, rfl, _, rfl, ifE (fun e => ?_) (fun e3 => ?_)⟩
    · subst e
      exact ⟨_, rfl, p, l, m, rfl, hC, hlen, k⟩
    refine ⟨_, rfl, rfl, _, rfl, ifE (fun e => ?_) (fun e4 => ?_)⟩
    · subst e
      have q : (1 : Int) = (ns.length : Int) := har.resolve_left (by decide)
      exact ⟨_, rfl, _, rfl, a, _, 0, _, rfl, rfl, hS, at_int (j := 0) rfl (by omega), p, l, m, _, rfl, hC, hlen, k⟩
    · have e : op = 12 := by omega
      subst e
      have q : (1 : Int) = (ns.length : Int) := har.resolve_left (by decide)
      exact ⟨_, rfl, _, rfl, a, _, 0, _, rfl, rfl, hS, at_int (j := 0) rfl (by omega), p, l, m, _, rfl, hC, hlen, k⟩
theorem ok_answer_weights (S : Src K mg "answer_weights" s_answer_weights p_answer_weights) (d13 : Dn P w K mg base "add_shot_if" 4 p_add_shot_if (spQ1 C addShotIfM))
    (d14 : Dn P w K mg base "smallest_alarming_weight" 4 p_smallest_alarming_weight (spQ C smallestM)) (d15 : Dn P w K mg base "longest_runs" 3 p_longest_runs (spQ C longestRunsM)) (d16 : Dn P w K mg base "mean_weight" 3 p_mean_weight (spQ C meanM))
    (d17 : Dn P w K mg base "describe" 1 p_describe (spQ C describeM)) : Dn P w K mg base "answer_weights" 5 p_answer_weights (spDis C K okH fun m op ns => (m, ansWeights m op ns)) := by
  refine S.dn sc_answer_weights (fun vs H Q E h => ?_) (fun f cdv A outer s H vs Q E hr h => ?_)
  · obtain ⟨p, l, m, op, a, ns, rfl, _⟩ := h
    rfl
  · obtain ⟨p, l, m, op, a, ns, rfl, hC, hlen, hS, ho, har, k⟩ := h
    have k := ResOp.query hC k
    refine ⟨_, pss_cons (ps_if (pt_cmpR op_eq (pv 1) pe_int (nomark _)) (pss_one (ps_ret (pcall d13 hr (pa_cons (pv 0) (pa_cons (pe_ix ix_list (pv 2) pe_int (fun _ _ => rfl)) pa_nil))))) pss_nil)
      (pss_cons (ps_if (pt_cmpR op_eq (pv 1) pe_int (nomark _)) (pss_one (ps_ret (pcall d14 hr (pa_cons (pv 0) pa_nil)))) pss_nil)
      (pss_cons (ps_if (pt_cmpR op_eq (pv 1) pe_int (nomark _)) (pss_one (ps_ret (pcall d15 hr (pa_cons (pv 0) pa_nil)))) pss_nil)
      (pss_cons (ps_if (pt_cmpR op_eq (pv 1) pe_int (nomark _)) (pss_one (ps_ret (pcall d16 hr (pa_cons (pv 0) pa_nil)))) pss_nil)
      (pss_one (ps_ret (pcall d17 hr (pa_cons (pv 0) pa_nil))))))), ?_⟩
    refine ⟨_, rfl, rfl, _, rfl, ifE (fun e => ?_) (fun e0 => ?_)⟩
    · subst e
      have q : (1 : Int) = (ns.length : Int) := har.resolve_left (by decide)
      exact ⟨_, rfl, _, rfl, a, _, 0, _, rfl, rfl, hS, at_int (j := 0) rfl (by omega), p, l, m, _, rfl, hC, hlen, k⟩
    refine ⟨_, rfl, rfl, _, rfl, ifE (fun e => ?_) (fun e1 => ?_)⟩
    · subst e
      exact ⟨_, rfl, p, l, m, rfl, hC, hlen, k⟩
    refine ⟨_, rfl, rfl, _, rfl, ifE (fun e => ?_) (fun e2 => ?_)⟩
    · subst e
      exact ⟨_, rfl, p, l, m, rfl, hC, hlen, k⟩
    refine ⟨_, rfl, rfl, _, rfl, ifE (fun e => ?_) (fun e3 => ?_)⟩
    · subst e
      exact ⟨_, rfl, p, l, m, rfl, hC, hlen, k⟩
    · have e : op = 17 := by omega
      subst e
      exact ⟨_, rfl, p, l, m, rfl, hC, hlen, k⟩
theorem ans_refused {m : M} {op : Int} {ns : List Int} (h1 : op ≠ 0) (h2 : m.made = 0) : ans m op ns = (m, [-11]) := if_pos ⟨h1, h2⟩
theorem ans_6 {m : M} {op : Int} {ns : List Int} (h1 : ¬ (op ≠ 0 ∧ m.made = 0)) (h2 : op ≤ 6) : ans m op ns = ansChanges m op ns := (if_neg h1).trans (if_pos h2)
theorem ans_12 {m : M} {op : Int} {ns : List Int} (h1 : ¬ (op ≠ 0 ∧ m.made = 0)) (h2 : ¬ op ≤ 6) (h3 : op ≤ 12) : ans m op ns = (m, ansSums m op ns) := (if_neg h1).trans ((if_neg h2).trans (if_pos h3))
theorem ans_17 {m : M} {op : Int} {ns : List Int} (h1 : ¬ (op ≠ 0 ∧ m.made = 0)) (h2 : ¬ op ≤ 6) (h3 : ¬ op ≤ 12) : ans m op ns = (m, ansWeights m op ns) := (if_neg h1).trans ((if_neg h2).trans (if_neg h3))
theorem ok_answer (S : Src K mg "answer" s_answer p_answer) (T : Txt K mg C) (dL : Dn P w K mg base "answer_changes" 5 p_answer_changes (spDis C K okL ansChanges))
    (dM : Dn P w K mg base "answer_sums" 7 p_answer_sums (spDis C K okM fun m op ns => (m, ansSums m op ns))) (dH : Dn P w K mg base "answer_weights" 5 p_answer_weights (spDis C K okH fun m op ns => (m, ansWeights m op ns))) :
    Dn P w K mg base "answer" 8 p_answer (spDis C K okA ans) := by
  refine S.dn sc_answer (fun vs H Q E h => ?_) (fun f cdv A outer s H vs Q E hr h => ?_)
  · obtain ⟨p, l, m, op, a, ns, rfl, _⟩ := h
    rfl
  · obtain ⟨p, l, m, op, a, ns, rfl, hC, hlen, hS, ho, har, k⟩ := h
    obtain ⟨_, gNI⟩ := T.cNI
    obtain ⟨dx, hp, hl⟩ := id hC
    refine ⟨_, pss_cons (ps_if (PW.pt (pw_and (pt_cmpR op_ne (pv 1) pe_int (nomark _)) (pw_and1 (pt_cmpR op_eq (pe_fld (pv 0) rfl) pe_int (nomark _))))) (pss_one (ps_ret (pe_lst (pa_cons (pe_glob (v := .int (-11)) rfl gNI ⟨_, rfl⟩) pa_nil)))) pss_nil)
      (pss_cons (ps_if (pt_cmpR op_le (pv 1) pe_int (nomark _)) (pss_one (ps_ret (pcall dL hr (pa_cons (pv 0) (pa_cons (pv 1) (pa_cons (pv 2) pa_nil)))))) pss_nil)
      (pss_cons (ps_if (pt_cmpR op_le (pv 1) pe_int (nomark _)) (pss_one (ps_ret (pcall dM hr (pa_cons (pv 0) (pa_cons (pv 1) (pa_cons (pv 2) pa_nil)))))) pss_nil)
      (pss_one (ps_ret (pcall dH hr (pa_cons (pv 0) (pa_cons (pv 1) (pa_cons (pv 2) pa_nil)))))))), ?_⟩
    by_cases h0 : op = 0
    · subst h0
      rw [ans_6 (fun q => q.1 rfl) (by decide)] at k
      refine ⟨_, rfl, rfl, _, rfl, ifF (by rw [decide_eq_true rfl]; rfl) ?_⟩
      refine ⟨_, rfl, _, 6, rfl, rfl, _, rfl, ifDT (by decide) ?_⟩
      exact ⟨_, rfl, _, rfl, _, rfl, p, l, m, 0, a, ns, rfl, hC, hlen, hS, ⟨by decide, by decide⟩, har, k⟩
    · refine ⟨_, rfl, rfl, _, rfl, ifT (by rw [decide_eq_false (fun q => h0 (V.int.inj q))]; rfl) ?_⟩
      refine ⟨_, rfl, p, C, dx, _, _, rfl, hp, T.cl, T.nM, lkM _ _, rfl, _, rfl, ifE (fun e => ?_) (fun e => ?_)⟩
      · rw [ans_refused h0 e] at k
        exact ⟨(by show 1 ≤ sizeLine; decide), fun q nq => k.stay hC nq⟩
      · have hn : ¬ (op ≠ 0 ∧ m.made = 0) := fun q => e q.2
        refine ⟨_, rfl, _, 6, rfl, rfl, _, rfl, ifD (fun e1 => ?_) (fun e1 => ?_)⟩
        · rw [ans_6 hn e1] at k
          exact ⟨_, rfl, _, rfl, _, rfl, p, l, m, op, a, ns, rfl, hC, hlen, hS, ⟨ho.1, e1⟩, har, k⟩
        refine ⟨_, rfl, _, 12, rfl, rfl, _, rfl, ifD (fun e2 => ?_) (fun e2 => ?_)⟩
        · rw [ans_12 hn e1 e2] at k
          exact ⟨_, rfl, _, rfl, _, rfl, p, l, m, op, a, ns, rfl, hC, hlen, hS, ⟨by omega, e2⟩, har, k⟩
        · rw [ans_17 hn e1 e2] at k
          exact ⟨_, rfl, _, rfl, _, rfl, p, l, m, op, a, ns, rfl, hC, hlen, hS, ⟨by omega, ho.2⟩, har, k⟩
theorem ok_begin_of (S : Src K mg "begin_of" s_begin_of p_begin_of) (T : Txt K mg C) : Dn P w K mg base "begin_of" 1 p_begin_of (spBg K) := by
  refine S.dn sc_begin_of (fun vs H Q E h => ?_) (fun f cdv A outer s H vs Q E hr h => ?_)
  · obtain ⟨a, l, i, n, rfl, _⟩ := h
    rfl
  · obtain ⟨a, l, i, n, rfl, hS, c, k⟩ := h
    obtain ⟨_, gSS⟩ := T.cSS
    refine ⟨_, pss_cons (ps_if (pt_cmpR op_eq (pe_ix ix_list (pv 0) (pv 1) (fun _ _ => rfl)) (pe_glob (v := .int 2) rfl gSS ⟨_, rfl⟩) (nomark _)) (pss_one (ps_ret (pe_op op_add (pv 1) pe_int))) pss_nil) (pss_one (ps_ret (pe_op op_add (pv 1) pe_int))), ?_⟩
    refine ⟨_, rfl, _, rfl, a, _, _, _, rfl, rfl, hS, at_int (j := i) rfl c.lt, rfl, _, rfl, ifE (fun e => ?_) (fun e => ?_)⟩
    · have q : (bgN l i : Int) = (i : Int) + 2 := by
        unfold bgN
        rw [if_pos e]
        omega
      rw [q] at k
      exact ⟨_, rfl, _, 2, rfl, rfl, k⟩
    · have q : (bgN l i : Int) = (i : Int) + 1 := by
        unfold bgN
        rw [if_neg e]
        omega
      rw [q] at k
      exact ⟨_, rfl, _, 1, rfl, rfl, k⟩
theorem ok_end_of (S : Src K mg "end_of" s_end_of p_end_of) (T : Txt K mg C) : Dn P w K mg base "end_of" 1 p_end_of (spEn K) := by
  refine S.dn sc_end_of (fun vs H Q E h => ?_) (fun f cdv A outer s H vs Q E hr h => ?_)
  · obtain ⟨a, l, i, n, rfl, _⟩ := h
    rfl
  · obtain ⟨a, l, i, n, rfl, hS, c, k⟩ := h
    obtain ⟨_, gSS⟩ := T.cSS
    obtain ⟨ga, gAR, hAR⟩ := T.cAR
    have en := c.en
    rw [← en] at k
    unfold enI at k
    refine ⟨_, pss_cons (ps_if (pt_cmpR op_eq (pe_ix ix_list (pv 0) (pv 1) (fun _ _ => rfl)) (pe_glob (v := .int 2) rfl gSS ⟨_, rfl⟩) (nomark _))
        (pss_one (ps_ret (pe_op op_add (pe_op op_add (pv 1) pe_int) (pe_ix ix_list (pv 0) (pe_op op_add (pv 1) pe_int) (fun _ _ => rfl))))) pss_nil)
      (pss_one (ps_ret (pe_op op_add (pe_op op_add (pv 1) pe_int) (pe_ix ix_tup (pe_glob (v := .ref ga) rfl gAR rfl) (pe_ix ix_list (pv 0) (pv 1) (fun _ _ => rfl)) (fun _ _ => rfl))))), ?_⟩
    refine ⟨_, rfl, _, rfl, a, _, _, _, rfl, rfl, hS, at_int (j := i) rfl c.lt, rfl, _, rfl, ifE (fun e => ?_) (fun e => ?_)⟩
    · rw [if_pos e] at k
      exact ⟨_, rfl, _, 2, rfl, rfl, _, rfl, _, rfl, _, 1, rfl, rfl, a, _, _, _, rfl, rfl, hS, at_int (j := i + 1) (by omega) (c.two e), _, _, rfl, rfl, k⟩
    · rw [if_neg e] at k
      refine ⟨_, rfl, _, 1, rfl, rfl, _, rfl, _, rfl, a, _, _, _, rfl, rfl, hS, at_int (j := i) rfl c.lt, ga, iv ARGS, _, _, rfl, rfl, hAR H, at_int (j := (l.getD i 0).toNat) ?_ ?_, _, _, rfl, rfl, k⟩
      · have q := c.lo
        omega
      · show _ < 18
        have q := c.hi
        omega
theorem ok_numbers_of (S : Src K mg "numbers_of" s_numbers_of p_numbers_of) (T : Txt K mg C) (dB : Dn P w K mg base "begin_of" 1 p_begin_of (spBg K)) (dE : Dn P w K mg base "end_of" 1 p_end_of (spEn K)) :
    Dn P w K mg base "numbers_of" 2 p_numbers_of (spNums K) := by
  refine S.dn sc_numbers_of (fun vs H Q E h => ?_) (fun f cdv A outer s H vs Q E hr h => ?_)
  · obtain ⟨a, l, i, n, rfl, _⟩ := h
    rfl
  · obtain ⟨a, l, i, n, rfl, hS, c, hlen, k⟩ := h
    have hf := c.fit
    refine ⟨_, pss_one (ps_ret (pe_lc (own := [("place", 2)]) (g := gName 2) (tt := tYes) (te := tOp (rIxL K) (tVar 0) (tVar 2)) rfl sc_numbers_of.nd (pi_range2 (by rfl) T.range (pa_cons (pcall dB hr (pa_cons (pv 0) (pa_cons (pv 1) pa_nil))) (pa_cons (pcall dE hr (pa_cons (pv 0) (pa_cons (pv 1) pa_nil))) pa_nil)))
      (blkOk_by (own := [("place", 2)]) (N := n_numbers_of) (sc := defScope s_numbers_of) (by decide +kernel))
      (fun _ _ _ _ _ => pg_name (i := 2) sc_numbers_of.nd rfl (Or.inl rfl)) (fun _ _ _ _ _ => pts_nil) (fun _ _ _ _ _ => pe_ix ix_list (pv 0) (pv 2) (fun _ _ => rfl)))), ?_⟩
    refine ⟨_, rfl, _, rfl, a, l, i, n, rfl, hS, c, _, rfl, _, rfl, a, l, i, n, rfl, hS, c, (bgN l i : Int), ((bgN l i + n : Nat) : Int), rfl, ⟨by omega, by omega, by omega, by omega⟩, fun D hD =>
      lc_range (lo := (bgN l i : Int)) (n := (((bgN l i + n : Nat) : Int) - (bgN l i : Int)).toNat) (fun j H' => Same H H' ∧ H' D = some (.lst (iv ((l.drop (bgN l i)).take j)))) ⟨sameU hD, upd_same⟩ ?_ ?_⟩
    · rintro j H' hj ⟨s1, e1⟩
      have hj' : bgN l i + j < l.length := by omega
      have hd : (l.drop (bgN l i))[j]? = some (l.getD (bgN l i + j) 0) := by
        rw [List.getElem?_drop, List.getD_eq_getElem?_getD, List.getElem?_eq_getElem hj']
        rfl
      refine ⟨rfl, _, rfl, _, rfl, a, _, _, _, rfl, rfl, s1.seq hS, at_int (j := bgN l i + j) (by omega) hj', _, e1, ?_, sameW s1 hD, ?_⟩
      · rw [iv_len, List.length_take]
        exact Nat.lt_of_le_of_lt (show _ ≤ 4320 by omega) (by decide)
      · rw [upd_same, take_more hd, iv_app]
    · rintro H' ⟨s1, e1⟩
      have q : (((bgN l i + n : Nat) : Int) - (bgN l i : Int)).toNat = n := by omega
      rw [q] at e1
      exact k H' D s1 hD e1
theorem ok_answers {f : Addr} {fd : FuncData} (F : Fun K "answers" "answers" s_answers f fd) (T : Txt K mg C) (dI : Md P w K mg base C "__init__" 1 p_m_init (spInit C)) (dA : Dn P w K mg base "answer" 8 p_answer (spDis C K okA ans))
    (dN : Dn P w K mg base "numbers_of" 2 p_numbers_of (spNums K)) (dE : Dn P w K mg base "end_of" 1 p_end_of (spEn K)) : FnOk P w K mg base CX0 9 f fd p_answers (spAns K) := by
  refine F.ok sc_answers (fun vs H Q E h => ?_) (fun cdv A outer s H vs Q E hr h => ?_)
  · obtain ⟨a, l, rfl, _⟩ := h
    rfl
  · obtain ⟨a, l, rfl, hS, hlen, hask, k⟩ := h
    obtain ⟨fI, fdI, mI, bI, GI⟩ := dI
    have Mk : Mk K C fI := ⟨T.makes, mI.at_, mI.fn, T.keeps⟩
    refine ⟨_, pss_cons (ps_set (i := 1) sc_answers.nd rfl (Or.inl rfl) (pe_make0 Mk GI (hr.mono (by decide)) rfl T.gC bI .nil pass0)) (pss_cons (ps_set (i := 2) sc_answers.nd rfl (Or.inl rfl) (pe_lst pa_nil)) (pss_cons (ps_set (i := 3) sc_answers.nd rfl (Or.inl rfl) pe_int)
      (pss_cons (ps_while PassesOwn.never (pt_cmpR op_lt (pv 3) (pe_callB call_len_seq (by rfl) T.len PySem.boot_len (pa_cons (pv 0) pa_nil)) (nomark _))
        (pss_cons (ps_set (i := 4) sc_answers.nd rfl (Or.inl rfl) (pcall dA hr (pa_cons (pv 1) (pa_cons (pe_ix ix_list (pv 0) (pv 3) (fun _ _ => rfl)) (pa_cons (pcall dN hr (pa_cons (pv 0) (pa_cons (pv 3) pa_nil))) pa_nil)))))
        (pss_cons (ps_expr (pe_bm PySem.F.plainAttrs_list PySem.F.slot_list_append PySem.F.type_list_append mt_append (pv 2) (pa_cons (pe_callB call_len_seq (by rfl) T.len PySem.boot_len (pa_cons (pv 4) pa_nil)) pa_nil)))
        (pss_cons (ps_expr (pe_bm PySem.F.plainAttrs_list PySem.F.slot_list_extend PySem.F.type_list_extend mt_extend (pv 2) (pa_cons (pv 4) pa_nil)))
        (pss_one (ps_set (i := 3) sc_answers.nd rfl (Or.inl rfl) (pcall dE hr (pa_cons (pv 0) (pa_cons (pv 3) pa_nil)))))))))
      (pss_one (ps_ret (pv 2)))))), ?_⟩
    intro x dx nx nd ne
    refine ⟨x, dx, rfl, upd_same, fun H1 l0 hC0 nl0 hk0 => ⟨rfl, ?_⟩⟩
    have s1 : Same H H1 := Same.made nx nd hk0
    refine ⟨Nat.zero_le _, fun D nD => ?_⟩
    have nDH : H D = none := s1.free nD
    obtain ⟨dx0, hx0, hw0⟩ := id hC0
    have s2 : Same H (upd H1 D (.lst [])) := s1.trans (sameU nD)
    refine while_by (fun σ H' => ∃ (i : Nat) (out : List Int) (st : Sr121.State) (l' : Addr) (v : Option V), σ = [some (.ref a), some (.ref x), some (.ref D), some (.int (i : Int)), v] ∧ At l i out st ∧ ChartAt C H' x l' (toM st) ∧ l' ≠ D ∧
        H' D = some (.lst (iv out)) ∧ Same H H')
      (fun σ _ => match σ with
        | [_, _, _, some (.int i), _] => l.length - i.toNat
        | _ => 0)
      ⟨0, [], none, l0, none, rfl, at_start hask, hC0.same (sameU nD), ne_of_none hw0 nD, upd_same, s2⟩ ?_ ?_
    · rintro σ H' ⟨i, out, st, l', v, rfl, hA, hC, hlD, hD, s3⟩
      have hS3 := s3.seq hS
      refine ⟨_, rfl, _, rfl, a, _, rfl, .inl hS3, _, _, rfl, rfl, _, rfl, ifD (fun e => ?_) (fun e => ?_)⟩
      · rw [iv_len] at e
        have hi : i < l.length := by omega
        obtain ⟨n, st', res, hc, har, hans, hA'⟩ := at_turn hA hi
        have hb : i < bgN l i := by
          unfold bgN
          split <;> omega
        have hlo := hc.lo
        have hhi := hc.hi
        obtain ⟨dx1, hx1, hw1⟩ := id hC
        have hxD : x ≠ D := ne_of hx1 hD (by intro z; cases z)
        refine ⟨_, rfl, _, rfl, _, rfl, a, _, _, _, rfl, rfl, hS3, at_int (j := i) rfl hi, _, rfl, _, rfl, a, l, i, n, rfl, hS3, hc, hlen, fun H2 p2 s4 n2 h2 => ?_⟩
        refine ⟨x, l', toM st, l.getD i 0, p2, _, rfl, hC.same s4, at_wf hA, SqL.of h2, ⟨hlo, by omega⟩, har, fun H3 q U nq hq => ?_⟩
        rw [hans] at U hq
        obtain ⟨l'', hC3, hl'', hk3⟩ := U
        have hD3 : H3 D = some (.lst (iv out)) := hk3 D _ (s4 _ _ hD) hxD.symm
        have hqD : q ≠ D := (ne_of_none (s4 _ _ hD) nq).symm
        have hl3 : l'' ≠ D := by
          rcases hl'' with z | z
          · rw [z]
            exact hlD
          · exact (ne_of_none (s4 _ _ hD) z).symm
        have s5 : Same H H3 := fun b o eb => hk3 b o (s4 _ _ (s3 _ _ eb)) (fun z => by
          rw [z, nx] at eb
          cases eb)
        have hz := at_pre hA' hask
        rw [List.length_append, List.length_append, List.length_singleton] at hz
        refine ⟨_, rfl, .inl ⟨rfl, _, SqL.of hD3⟩, _, rfl, q, _, rfl, .inl (SqL.of hq), D, _, _, rfl, rfl, hD3, ?_, ?_⟩
        · rw [iv_len]
          exact Nat.lt_of_le_of_lt (show _ ≤ 10000000 by omega) (by decide)
        refine ⟨_, rfl, .inl ⟨rfl, _, SqL.of upd_same⟩, _, rfl, D, q, _, _, rfl, rfl, upd_same, (upd_ne hqD).trans hq, ?_, ?_⟩
        · rw [List.length_append, iv_len, iv_len]
          exact Nat.le_of_lt (Nat.lt_of_le_of_lt (show out.length + 1 + res.length ≤ 10000000 by omega) (by decide))
        rw [upd_upd]
        have s6 := sameW (o := .lst (iv out ++ [V.int ((iv res).length : Int)] ++ iv res)) s5 nDH
        refine ⟨_, rfl, _, rfl, a, l, i, n, rfl, s6.seq hS, hc, ⟨bgN l i + n, _, st', l'', some (.ref q), rfl, hA', ?_, hl3, ?_, s6⟩, ?_⟩
        · obtain ⟨dx3, hx3, hw3⟩ := hC3
          exact ⟨dx3, (upd_ne hxD).trans hx3, (upd_ne hl3).trans hw3⟩
        · rw [upd_same, iv_len]
          unfold iv
          rw [List.map_append, List.map_append]
          rfl
        · show l.length - (((bgN l i + n : Nat) : Int)).toNat < l.length - ((i : Nat) : Int).toNat
          omega
      · rw [iv_len] at e
        have q := at_end hA (by omega)
        rw [← q] at hD
        exact ⟨_, rfl, k H' D hD⟩
    · rintro σ H' Q1 Q2 hq ⟨v, e, v2, e2, p, ys, e3, h, i, j, e4, e5, kk, e6, q⟩
      exact ⟨v, e, v2, e2, p, ys, e3, h, i, j, e4, e5, kk, e6, hq _ _ q⟩
end
end Ss

set_option Elab.async false
set_option maxRecDepth 100000
set_option maxHeartbeats 4000000
/-! The end: what the top has written, and the row. -/
namespace Ss
open PySem PySem.Spec PyProof.Rows L2
section
variable {P : Program} {w : World} {K : PySem.W.Frag} {mg : Str → Option Value} {h : Heap} {C : Addr}
/-- what the top has written of a def, of a method -/
def RawG (K : PySem.W.Frag) (x : Str) (st : Stmt) : Prop := ∃ (f : Addr) (oc : Value) (od : Option Addr) (sl : Array (Option Value)) (kV dc pm : Value) (an : Option Addr) (cd ct : Value),
  PySem.W.nsIn K mainGlobals x = some (some (.ref f)) ∧ K.lookup f = some ⟨oc, od, .func (PySem.W.fnOf x x (defArgs st) (defBody st) (defScope st) .none kV dc pm an cd ct), sl⟩ ∧ PySem.W.codeIn K cd x = true ∧ PySem.W.keepIn K (.ref f) = true
def RawM (K : PySem.W.Frag) (C : Addr) (x qual : Str) (st : Stmt) : Prop := ∃ (f : Addr) (oc : Value) (od : Option Addr) (sl : Array (Option Value)) (kV dc pm : Value) (an : Option Addr) (cd ct : Value),
  PySem.W.findIn K (.ref C) x = some (some (.ref f)) ∧ PySem.W.isFn K (.ref f) = true ∧ K.lookup f = some ⟨oc, od, .func (PySem.W.fnOf x qual (defArgs st) (defBody st) (defScope st) .none kV dc pm an cd ct), sl⟩ ∧ PySem.W.codeIn K cd qual = true ∧ PySem.W.keepIn K (.ref f) = true
theorem rawG {x : Str} {st : Stmt} {f : Addr} {oc : Value} {od : Option Addr} {sl : Array (Option Value)} {kV dc pm : Value} {an : Option Addr} {cd ct : Value} (a : PySem.W.nsIn K mainGlobals x = some (some (.ref f)))
    (l : K.lookup f = some ⟨oc, od, .func (PySem.W.fnOf x x (defArgs st) (defBody st) (defScope st) .none kV dc pm an cd ct), sl⟩) (c : PySem.W.codeIn K cd x = true) (k : PySem.W.keepIn K (.ref f) = true) : RawG K x st :=
  ⟨f, oc, od, sl, kV, dc, pm, an, cd, ct, a, l, c, k⟩
theorem rawM {x qual : Str} {st : Stmt} {f : Addr} {oc : Value} {od : Option Addr} {sl : Array (Option Value)} {kV dc pm : Value} {an : Option Addr} {cd ct : Value} (a : PySem.W.findIn K (.ref C) x = some (some (.ref f))) (i : PySem.W.isFn K (.ref f) = true)
    (l : K.lookup f = some ⟨oc, od, .func (PySem.W.fnOf x qual (defArgs st) (defBody st) (defScope st) .none kV dc pm an cd ct), sl⟩) (c : PySem.W.codeIn K cd qual = true) (k : PySem.W.keepIn K (.ref f) = true) : RawM K C x qual st :=
  ⟨f, oc, od, sl, kV, dc, pm, an, cd, ct, a, i, l, c, k⟩
/-- how the arguments of st bind -/
def Bd (x qual : Str) (st : Stmt) (ps : List Str) : Prop := ∀ (kV dc pm : Value) (an : Option Addr) (cd ct : Value) (us : List Value), us.length = ps.length → bindArgs (PySem.W.fnOf x qual (defArgs st) (defBody st) (defScope st) .none kV dc pm an cd ct) ⟨us, []⟩ = pure (ps.zip us)
theorem RawG.src {x : Str} {st : Stmt} {ps : List Str} (r : RawG K x st) (X : K.In h) (G : h.Ns mainGlobals mg) (b : Bd x x st ps) : Src K mg x st ps := by
  obtain ⟨f, oc, od, sl, kV, dc, pm, an, cd, ct, a, l, c, k⟩ := r
  have F := fun_mk (st := st) l c k
  exact ⟨f, _, F, PySem.W.mg_of X G a, F.binds b⟩
theorem RawM.src {x qual : Str} {st : Stmt} {ps : List Str} (r : RawM K C x qual st) (b : Bd x qual st ps) : MSrc K C x qual st ps := by
  obtain ⟨f, oc, od, sl, kV, dc, pm, an, cd, ct, a, i, l, c, k⟩ := r
  have F := fun_mk (st := st) l c k
  exact ⟨f, _, F, ⟨a, i, k⟩, F.binds b⟩
theorem b_is_weight : Bd "is_weight" "is_weight" s_is_weight p_is_weight := fun _ _ _ _ _ _ us hl => match us, hl with | [_], _ => rfl
theorem b_is_limit : Bd "is_limit" "is_limit" s_is_limit p_is_limit := fun _ _ _ _ _ _ us hl => match us, hl with | [_], _ => rfl
theorem b_are_weights : Bd "are_weights" "are_weights" s_are_weights p_are_weights := fun _ _ _ _ _ _ us hl => match us, hl with | [_], _ => rfl
theorem b_excesses : Bd "excesses" "excesses" s_excesses p_excesses := fun _ _ _ _ _ _ us hl => match us, hl with | [_, _, _], _ => rfl
theorem b_shortfalls : Bd "shortfalls" "shortfalls" s_shortfalls p_shortfalls := fun _ _ _ _ _ _ us hl => match us, hl with | [_, _, _], _ => rfl
theorem b_cumulative : Bd "cumulative" "cumulative" s_cumulative p_cumulative := fun _ _ _ _ _ _ us hl => match us, hl with | [_], _ => rfl
theorem b_upper_of : Bd "upper_of" "upper_of" s_upper_of p_upper_of := fun _ _ _ _ _ _ us hl => match us, hl with | [_, _, _], _ => rfl
theorem b_lower_of : Bd "lower_of" "lower_of" s_lower_of p_lower_of := fun _ _ _ _ _ _ us hl => match us, hl with | [_, _, _], _ => rfl
theorem b_last_of : Bd "last_of" "last_of" s_last_of p_last_of := fun _ _ _ _ _ _ us hl => match us, hl with | [_], _ => rfl
theorem b_alarm_code : Bd "alarm_code" "alarm_code" s_alarm_code p_alarm_code := fun _ _ _ _ _ _ us hl => match us, hl with | [_, _, _], _ => rfl
theorem b_alarm_codes : Bd "alarm_codes" "alarm_codes" s_alarm_codes p_alarm_codes := fun _ _ _ _ _ _ us hl => match us, hl with | [_, _, _], _ => rfl
theorem b_onset_in : Bd "onset_in" "onset_in" s_onset_in p_onset_in := fun _ _ _ _ _ _ us hl => match us, hl with | [_, _], _ => rfl
theorem b_has_shot : Bd "has_shot" "has_shot" s_has_shot p_has_shot := fun _ _ _ _ _ _ us hl => match us, hl with | [_, _], _ => rfl
theorem b_told_last : Bd "told_last" "told_last" s_told_last p_told_last := fun _ _ _ _ _ _ us hl => match us, hl with | [_, _], _ => rfl
theorem b_create : Bd "create" "create" s_create p_create := fun _ _ _ _ _ _ us hl => match us, hl with | [_, _, _, _], _ => rfl
theorem b_add_shot : Bd "add_shot" "add_shot" s_add_shot p_add_shot := fun _ _ _ _ _ _ us hl => match us, hl with | [_, _], _ => rfl
theorem b_set_shots : Bd "set_shots" "set_shots" s_set_shots p_set_shots := fun _ _ _ _ _ _ us hl => match us, hl with | [_, _], _ => rfl
theorem b_clear_shots : Bd "clear_shots" "clear_shots" s_clear_shots p_clear_shots := fun _ _ _ _ _ _ us hl => match us, hl with | [_], _ => rfl
theorem b_set_weight : Bd "set_weight" "set_weight" s_set_weight p_set_weight := fun _ _ _ _ _ _ us hl => match us, hl with | [_, _, _], _ => rfl
theorem b_set_target : Bd "set_target" "set_target" s_set_target p_set_target := fun _ _ _ _ _ _ us hl => match us, hl with | [_, _], _ => rfl
theorem b_set_limits : Bd "set_limits" "set_limits" s_set_limits p_set_limits := fun _ _ _ _ _ _ us hl => match us, hl with | [_, _, _], _ => rfl
theorem b_divisor_of : Bd "divisor_of" "divisor_of" s_divisor_of p_divisor_of := fun _ _ _ _ _ _ us hl => match us, hl with | [_, _], _ => rfl
theorem b_lowest_terms : Bd "lowest_terms" "lowest_terms" s_lowest_terms p_lowest_terms := fun _ _ _ _ _ _ us hl => match us, hl with | [_, _], _ => rfl
theorem b_worst_run : Bd "worst_run" "worst_run" s_worst_run p_worst_run := fun _ _ _ _ _ _ us hl => match us, hl with | [_, _], _ => rfl
theorem b_longest_run : Bd "longest_run" "longest_run" s_longest_run p_longest_run := fun _ _ _ _ _ _ us hl => match us, hl with | [_], _ => rfl
theorem b_longest_above : Bd "longest_above" "longest_above" s_longest_above p_longest_above := fun _ _ _ _ _ _ us hl => match us, hl with | [_, _], _ => rfl
theorem b_longest_below : Bd "longest_below" "longest_below" s_longest_below p_longest_below := fun _ _ _ _ _ _ us hl => match us, hl with | [_, _], _ => rfl
theorem b_uppers_of : Bd "uppers_of" "uppers_of" s_uppers_of p_uppers_of := fun _ _ _ _ _ _ us hl => match us, hl with | [_], _ => rfl
theorem b_lowers_of : Bd "lowers_of" "lowers_of" s_lowers_of p_lowers_of := fun _ _ _ _ _ _ us hl => match us, hl with | [_], _ => rfl
theorem b_codes_of : Bd "codes_of" "codes_of" s_codes_of p_codes_of := fun _ _ _ _ _ _ us hl => match us, hl with | [_], _ => rfl
theorem b_shots_with_alarm : Bd "shots_with_alarm" "shots_with_alarm" s_shots_with_alarm p_shots_with_alarm := fun _ _ _ _ _ _ us hl => match us, hl with | [_], _ => rfl
theorem b_counted : Bd "counted" "counted" s_counted p_counted := fun _ _ _ _ _ _ us hl => match us, hl with | [_], _ => rfl
theorem b_upper_sums : Bd "upper_sums" "upper_sums" s_upper_sums p_upper_sums := fun _ _ _ _ _ _ us hl => match us, hl with | [_], _ => rfl
theorem b_lower_sums : Bd "lower_sums" "lower_sums" s_lower_sums p_lower_sums := fun _ _ _ _ _ _ us hl => match us, hl with | [_], _ => rfl
theorem b_first_alarm : Bd "first_alarm" "first_alarm" s_first_alarm p_first_alarm := fun _ _ _ _ _ _ us hl => match us, hl with | [_], _ => rfl
theorem b_alarms : Bd "alarms" "alarms" s_alarms p_alarms := fun _ _ _ _ _ _ us hl => match us, hl with | [_], _ => rfl
theorem b_onset : Bd "onset" "onset" s_onset p_onset := fun _ _ _ _ _ _ us hl => match us, hl with | [_, _], _ => rfl
theorem b_worst_runs : Bd "worst_runs" "worst_runs" s_worst_runs p_worst_runs := fun _ _ _ _ _ _ us hl => match us, hl with | [_, _], _ => rfl
theorem b_add_shot_if : Bd "add_shot_if" "add_shot_if" s_add_shot_if p_add_shot_if := fun _ _ _ _ _ _ us hl => match us, hl with | [_, _], _ => rfl
theorem b_smallest_alarming_weight : Bd "smallest_alarming_weight" "smallest_alarming_weight" s_smallest_alarming_weight p_smallest_alarming_weight := fun _ _ _ _ _ _ us hl => match us, hl with | [_], _ => rfl
theorem b_longest_runs : Bd "longest_runs" "longest_runs" s_longest_runs p_longest_runs := fun _ _ _ _ _ _ us hl => match us, hl with | [_], _ => rfl
theorem b_mean_weight : Bd "mean_weight" "mean_weight" s_mean_weight p_mean_weight := fun _ _ _ _ _ _ us hl => match us, hl with | [_], _ => rfl
theorem b_describe : Bd "describe" "describe" s_describe p_describe := fun _ _ _ _ _ _ us hl => match us, hl with | [_], _ => rfl
theorem b_answer_changes : Bd "answer_changes" "answer_changes" s_answer_changes p_answer_changes := fun _ _ _ _ _ _ us hl => match us, hl with | [_, _, _], _ => rfl
theorem b_answer_sums : Bd "answer_sums" "answer_sums" s_answer_sums p_answer_sums := fun _ _ _ _ _ _ us hl => match us, hl with | [_, _, _], _ => rfl
theorem b_answer_weights : Bd "answer_weights" "answer_weights" s_answer_weights p_answer_weights := fun _ _ _ _ _ _ us hl => match us, hl with | [_, _, _], _ => rfl
theorem b_answer : Bd "answer" "answer" s_answer p_answer := fun _ _ _ _ _ _ us hl => match us, hl with | [_, _, _], _ => rfl
theorem b_begin_of : Bd "begin_of" "begin_of" s_begin_of p_begin_of := fun _ _ _ _ _ _ us hl => match us, hl with | [_, _], _ => rfl
theorem b_end_of : Bd "end_of" "end_of" s_end_of p_end_of := fun _ _ _ _ _ _ us hl => match us, hl with | [_, _], _ => rfl
theorem b_numbers_of : Bd "numbers_of" "numbers_of" s_numbers_of p_numbers_of := fun _ _ _ _ _ _ us hl => match us, hl with | [_, _], _ => rfl
theorem b_answers : Bd "answers" "answers" s_answers p_answers := fun _ _ _ _ _ _ us hl => match us, hl with | [_], _ => rfl
theorem b_m_init : Bd "__init__" "Chart.__init__" s_m_init p_m_init := fun _ _ _ _ _ _ us hl => match us, hl with | [_], _ => rfl
theorem b_m_begin : Bd "begin" "Chart.begin" s_m_begin p_m_begin := fun _ _ _ _ _ _ us hl => match us, hl with | [_, _, _, _], _ => rfl
theorem b_m_shoot : Bd "shoot" "Chart.shoot" s_m_shoot p_m_shoot := fun _ _ _ _ _ _ us hl => match us, hl with | [_, _], _ => rfl
theorem b_m_refill : Bd "refill" "Chart.refill" s_m_refill p_m_refill := fun _ _ _ _ _ _ us hl => match us, hl with | [_, _], _ => rfl
theorem b_m_reweigh : Bd "reweigh" "Chart.reweigh" s_m_reweigh p_m_reweigh := fun _ _ _ _ _ _ us hl => match us, hl with | [_, _, _], _ => rfl
theorem b_m_retarget : Bd "retarget" "Chart.retarget" s_m_retarget p_m_retarget := fun _ _ _ _ _ _ us hl => match us, hl with | [_, _], _ => rfl
theorem b_m_limit : Bd "limit" "Chart.limit" s_m_limit p_m_limit := fun _ _ _ _ _ _ us hl => match us, hl with | [_, _, _], _ => rfl
theorem relI (i : Int) (t : Tok) : RelV (.int i) (.int i t) := ⟨t, rfl⟩
theorem all_mk {fa f0 ga : Addr} (X : K.In h) (G : h.Ns mainGlobals mg) (hfa : mg "answers" = some (.ref fa))
    {od0 an0 odA : Option Addr} {sl0 slA : Array (Option Value)} {oc0 kV0 dc0 pm0 cd0 ct0 : Value} {itsA : Array Value} {nSz : Nat} {tcNI tcNS tcBR tcFU tcN0 tcNA tcMW tcML tcMS tcSS : Tok}
    (a0 : PySem.W.nsIn K mainGlobals "answers" = some (some (.ref f0))) (l0 : K.lookup f0 = some ⟨oc0, od0, .func (PySem.W.fnOf "answers" "answers" (defArgs s_answers) (defBody s_answers) (defScope s_answers) .none kV0 dc0 pm0 an0 cd0 ct0), sl0⟩) (c0 : PySem.W.codeIn K cd0 "answers" = true) (k0 : PySem.W.keepIn K (.ref f0) = true)
    (aC : PySem.W.nsIn K mainGlobals "Chart" = some (some (.ref C))) (pg : PySem.W.plainGet K C Str.empty = true) (hd : PySem.W.hasDictIn K C = true) (po : PySem.W.plainOver K C = true) (sa : PySem.W.findIn K (.ref C) "__setattr__" = some (some (.builtin "object.__setattr__"))) (mk : PySem.W.makesIn K C = true) (kc : PySem.W.keepIn K (.ref C) = true)
    (nM : PySem.W.findIn K (.ref C) "made" = some none) (nT : PySem.W.findIn K (.ref C) "target" = some none) (nA : PySem.W.findIn K (.ref C) "allowance" = some none) (nH : PySem.W.findIn K (.ref C) "threshold" = some none) (nW : PySem.W.findIn K (.ref C) "weights" = some none)
    (z_len : PySem.W.nsIn K mainGlobals "len" = some none) (z_max : PySem.W.nsIn K mainGlobals "max" = some none) (z_int : PySem.W.nsIn K mainGlobals "int" = some none) (z_zip : PySem.W.nsIn K mainGlobals "zip" = some none) (z_enumerate : PySem.W.nsIn K mainGlobals "enumerate" = some none) (z_range : PySem.W.nsIn K mainGlobals "range" = some none) (z_abs : PySem.W.nsIn K mainGlobals "abs" = some none) (z_sum : PySem.W.nsIn K mainGlobals "sum" = some none) (z_list : PySem.W.nsIn K mainGlobals "list" = some none)
    (cNI : PySem.W.nsIn K mainGlobals "NO_INSTANCE" = some (some (.int (-11) tcNI))) (cNS : PySem.W.nsIn K mainGlobals "NO_SHOT" = some (some (.int (-2) tcNS))) (cBR : PySem.W.nsIn K mainGlobals "BAD_RANGE" = some (some (.int (-22) tcBR))) (cFU : PySem.W.nsIn K mainGlobals "FULL" = some (some (.int (-28) tcFU))) (cN0 : PySem.W.nsIn K mainGlobals "NO_SHOTS" = some (some (.int (-6) tcN0))) (cNA : PySem.W.nsIn K mainGlobals "NO_ALARM" = some (some (.int (-33) tcNA))) (cMW : PySem.W.nsIn K mainGlobals "MOST_WEIGHT" = some (some (.int (9999) tcMW))) (cML : PySem.W.nsIn K mainGlobals "MOST_LIMIT" = some (some (.int (999) tcML))) (cMS : PySem.W.nsIn K mainGlobals "MOST_SHOTS" = some (some (.int (24) tcMS))) (cSS : PySem.W.nsIn K mainGlobals "SET_SHOTS" = some (some (.int (2) tcSS)))
    (cA : PySem.W.nsIn K mainGlobals "ARGUMENTS" = some (some (.ref ga))) (lA : K.lookup ga = some ⟨.type "tuple", odA, .seq itsA nSz, slA⟩) (vA : Vals (iv ARGS) itsA.toList) (zA : itsA.size ≤ sizeLine)
    (r_is_weight : RawG K "is_weight" s_is_weight)
    (r_is_limit : RawG K "is_limit" s_is_limit)
    (r_are_weights : RawG K "are_weights" s_are_weights)
    (r_excesses : RawG K "excesses" s_excesses)
    (r_shortfalls : RawG K "shortfalls" s_shortfalls)
    (r_cumulative : RawG K "cumulative" s_cumulative)
    (r_upper_of : RawG K "upper_of" s_upper_of)
    (r_lower_of : RawG K "lower_of" s_lower_of)
    (r_last_of : RawG K "last_of" s_last_of)
    (r_alarm_code : RawG K "alarm_code" s_alarm_code)
    (r_alarm_codes : RawG K "alarm_codes" s_alarm_codes)
    (r_onset_in : RawG K "onset_in" s_onset_in)
    (r_has_shot : RawG K "has_shot" s_has_shot)
    (r_told_last : RawG K "told_last" s_told_last)
    (r_create : RawG K "create" s_create)
    (r_add_shot : RawG K "add_shot" s_add_shot)
    (r_set_shots : RawG K "set_shots" s_set_shots)
    (r_clear_shots : RawG K "clear_shots" s_clear_shots)
    (r_set_weight : RawG K "set_weight" s_set_weight)
    (r_set_target : RawG K "set_target" s_set_target)
    (r_set_limits : RawG K "set_limits" s_set_limits)
    (r_divisor_of : RawG K "divisor_of" s_divisor_of)
    (r_lowest_terms : RawG K "lowest_terms" s_lowest_terms)
    (r_worst_run : RawG K "worst_run" s_worst_run)
    (r_longest_run : RawG K "longest_run" s_longest_run)
    (r_longest_above : RawG K "longest_above" s_longest_above)
    (r_longest_below : RawG K "longest_below" s_longest_below)
    (r_uppers_of : RawG K "uppers_of" s_uppers_of)
    (r_lowers_of : RawG K "lowers_of" s_lowers_of)
    (r_codes_of : RawG K "codes_of" s_codes_of)
    (r_shots_with_alarm : RawG K "shots_with_alarm" s_shots_with_alarm)
    (r_counted : RawG K "counted" s_counted)
    (r_upper_sums : RawG K "upper_sums" s_upper_sums)
    (r_lower_sums : RawG K "lower_sums" s_lower_sums)
    (r_first_alarm : RawG K "first_alarm" s_first_alarm)
    (r_alarms : RawG K "alarms" s_alarms)
    (r_onset : RawG K "onset" s_onset)
    (r_worst_runs : RawG K "worst_runs" s_worst_runs)
    (r_add_shot_if : RawG K "add_shot_if" s_add_shot_if)
    (r_smallest_alarming_weight : RawG K "smallest_alarming_weight" s_smallest_alarming_weight)
    (r_longest_runs : RawG K "longest_runs" s_longest_runs)
    (r_mean_weight : RawG K "mean_weight" s_mean_weight)
    (r_describe : RawG K "describe" s_describe)
    (r_answer_changes : RawG K "answer_changes" s_answer_changes)
    (r_answer_sums : RawG K "answer_sums" s_answer_sums)
    (r_answer_weights : RawG K "answer_weights" s_answer_weights)
    (r_answer : RawG K "answer" s_answer)
    (r_begin_of : RawG K "begin_of" s_begin_of)
    (r_end_of : RawG K "end_of" s_end_of)
    (r_numbers_of : RawG K "numbers_of" s_numbers_of)
    (r_m_init : RawM K C "__init__" "Chart.__init__" s_m_init)
    (r_m_begin : RawM K C "begin" "Chart.begin" s_m_begin)
    (r_m_shoot : RawM K C "shoot" "Chart.shoot" s_m_shoot)
    (r_m_refill : RawM K C "refill" "Chart.refill" s_m_refill)
    (r_m_reweigh : RawM K C "reweigh" "Chart.reweigh" s_m_reweigh)
    (r_m_retarget : RawM K C "retarget" "Chart.retarget" s_m_retarget)
    (r_m_limit : RawM K C "limit" "Chart.limit" s_m_limit)
    : ∃ fd : FuncData, (∀ (s : Shared) (us : List Value), us.length = p_answers.length → BindsTo s fd ⟨us, []⟩ (p_answers.zip us)) ∧ ∀ base : Heap, K.In base → base.Ns mainGlobals mg → FnOk P w K mg base CX0 9 fa fd p_answers (spAns K) := by
  have e := hfa.symm.trans (PySem.W.mg_of X G a0)
  cases e
  have T : Txt K mg C := ⟨⟨pg, hd, po, sa⟩, nM, nT, nA, nH, nW, PySem.W.mg_of X G aC, mk, kc, PySem.W.mg_none_of X G z_len, PySem.W.mg_none_of X G z_max, PySem.W.mg_none_of X G z_int, PySem.W.mg_none_of X G z_zip, PySem.W.mg_none_of X G z_enumerate, PySem.W.mg_none_of X G z_range, PySem.W.mg_none_of X G z_abs, PySem.W.mg_none_of X G z_sum, PySem.W.mg_none_of X G z_list, ⟨_, PySem.W.mg_of X G cNI⟩, ⟨_, PySem.W.mg_of X G cNS⟩, ⟨_, PySem.W.mg_of X G cBR⟩, ⟨_, PySem.W.mg_of X G cFU⟩, ⟨_, PySem.W.mg_of X G cN0⟩, ⟨_, PySem.W.mg_of X G cNA⟩, ⟨_, PySem.W.mg_of X G cMW⟩, ⟨_, PySem.W.mg_of X G cML⟩, ⟨_, PySem.W.mg_of X G cMS⟩, ⟨_, PySem.W.mg_of X G cSS⟩, ⟨_, PySem.W.mg_of X G cA, fun _ => .inr ⟨_, itsA, nSz, lA, rfl, rfl, zA, vA⟩⟩⟩
  have F0 := fun_mk (st := s_answers) l0 c0 k0
  refine ⟨PySem.W.fnOf "answers" "answers" (defArgs s_answers) (defBody s_answers) (defScope s_answers) .none kV0 dc0 pm0 an0 cd0 ct0, fun s us hu => match us, hu with | [_], _ => .of_eq rfl, fun base _ _ => ?_⟩
  have d_is_weight := ok_is_weight (P := P) (w := w) (base := base) (r_is_weight.src X G b_is_weight) T
  have d_is_limit := ok_is_limit (P := P) (w := w) (base := base) (r_is_limit.src X G b_is_limit) T
  have d_are_weights := ok_are_weights (P := P) (w := w) (base := base) (r_are_weights.src X G b_are_weights) T d_is_weight
  have d_excesses := ok_excesses (P := P) (w := w) (base := base) (r_excesses.src X G b_excesses) 
  have d_shortfalls := ok_shortfalls (P := P) (w := w) (base := base) (r_shortfalls.src X G b_shortfalls) 
  have d_cumulative := ok_cumulative (P := P) (w := w) (base := base) (r_cumulative.src X G b_cumulative) T
  have d_upper_of := ok_upper_of (P := P) (w := w) (base := base) (r_upper_of.src X G b_upper_of) d_excesses d_cumulative
  have d_lower_of := ok_lower_of (P := P) (w := w) (base := base) (r_lower_of.src X G b_lower_of) d_shortfalls d_cumulative
  have d_last_of := ok_last_of (P := P) (w := w) (base := base) (r_last_of.src X G b_last_of) T
  have d_alarm_code := ok_alarm_code (P := P) (w := w) (base := base) (r_alarm_code.src X G b_alarm_code) T
  have d_alarm_codes := ok_alarm_codes (P := P) (w := w) (base := base) (r_alarm_codes.src X G b_alarm_codes) T d_alarm_code
  have d_onset_in := ok_onset_in (P := P) (w := w) (base := base) (r_onset_in.src X G b_onset_in) T
  have d_divisor_of := ok_divisor_of (P := P) (w := w) (base := base) (r_divisor_of.src X G b_divisor_of) 
  have d_lowest_terms := ok_lowest_terms (P := P) (w := w) (base := base) (r_lowest_terms.src X G b_lowest_terms) T d_divisor_of
  have d_worst_run := ok_worst_run (P := P) (w := w) (base := base) (r_worst_run.src X G b_worst_run) T
  have d_longest_run := ok_longest_run (P := P) (w := w) (base := base) (r_longest_run.src X G b_longest_run) T
  have d_longest_above := ok_longest_above (P := P) (w := w) (base := base) (r_longest_above.src X G b_longest_above) d_longest_run
  have d_longest_below := ok_longest_below (P := P) (w := w) (base := base) (r_longest_below.src X G b_longest_below) d_longest_run
  have d_m_init := ok_m_init (P := P) (w := w) (base := base) (mg := mg) (r_m_init.src b_m_init) T
  have d_m_begin := ok_m_begin (P := P) (w := w) (base := base) (mg := mg) (r_m_begin.src b_m_begin) T
  have d_m_shoot := ok_m_shoot (P := P) (w := w) (base := base) (mg := mg) (r_m_shoot.src b_m_shoot) T
  have d_m_refill := ok_m_refill (P := P) (w := w) (base := base) (mg := mg) (r_m_refill.src b_m_refill) T
  have d_m_reweigh := ok_m_reweigh (P := P) (w := w) (base := base) (mg := mg) (r_m_reweigh.src b_m_reweigh) T
  have d_m_retarget := ok_m_retarget (P := P) (w := w) (base := base) (mg := mg) (r_m_retarget.src b_m_retarget) T
  have d_m_limit := ok_m_limit (P := P) (w := w) (base := base) (mg := mg) (r_m_limit.src b_m_limit) T
  have d_has_shot := ok_has_shot (P := P) (w := w) (base := base) (r_has_shot.src X G b_has_shot) T
  have d_told_last := ok_told_last (P := P) (w := w) (base := base) (r_told_last.src X G b_told_last) T d_upper_of d_lower_of d_last_of d_alarm_code
  have d_create := ok_create (P := P) (w := w) (base := base) (r_create.src X G b_create) T d_is_weight d_is_limit d_m_begin
  have d_add_shot := ok_add_shot (P := P) (w := w) (base := base) (r_add_shot.src X G b_add_shot) T d_is_weight d_m_shoot d_told_last
  have d_set_shots := ok_set_shots (P := P) (w := w) (base := base) (r_set_shots.src X G b_set_shots) T d_are_weights d_m_refill
  have d_clear_shots := ok_clear_shots (P := P) (w := w) (base := base) (r_clear_shots.src X G b_clear_shots) T d_m_refill
  have d_set_weight := ok_set_weight (P := P) (w := w) (base := base) (r_set_weight.src X G b_set_weight) T d_has_shot d_is_weight d_m_reweigh
  have d_set_target := ok_set_target (P := P) (w := w) (base := base) (r_set_target.src X G b_set_target) T d_is_weight d_m_retarget
  have d_set_limits := ok_set_limits (P := P) (w := w) (base := base) (r_set_limits.src X G b_set_limits) T d_is_limit d_m_limit
  have d_uppers_of := ok_uppers_of (P := P) (w := w) (base := base) (r_uppers_of.src X G b_uppers_of) T d_upper_of
  have d_lowers_of := ok_lowers_of (P := P) (w := w) (base := base) (r_lowers_of.src X G b_lowers_of) T d_lower_of
  have d_codes_of := ok_codes_of (P := P) (w := w) (base := base) (r_codes_of.src X G b_codes_of) T d_uppers_of d_lowers_of d_alarm_codes
  have d_shots_with_alarm := ok_shots_with_alarm (P := P) (w := w) (base := base) (r_shots_with_alarm.src X G b_shots_with_alarm) T d_codes_of
  have d_counted := ok_counted (P := P) (w := w) (base := base) (r_counted.src X G b_counted) T
  have d_upper_sums := ok_upper_sums (P := P) (w := w) (base := base) (r_upper_sums.src X G b_upper_sums) d_uppers_of d_counted
  have d_lower_sums := ok_lower_sums (P := P) (w := w) (base := base) (r_lower_sums.src X G b_lower_sums) d_lowers_of d_counted
  have d_first_alarm := ok_first_alarm (P := P) (w := w) (base := base) (r_first_alarm.src X G b_first_alarm) T d_shots_with_alarm d_codes_of
  have d_alarms := ok_alarms (P := P) (w := w) (base := base) (r_alarms.src X G b_alarms) d_shots_with_alarm d_counted
  have d_onset := ok_onset (P := P) (w := w) (base := base) (r_onset.src X G b_onset) T d_has_shot d_uppers_of d_lowers_of d_onset_in
  have d_worst_runs := ok_worst_runs (P := P) (w := w) (base := base) (r_worst_runs.src X G b_worst_runs) T d_has_shot d_excesses d_shortfalls d_worst_run
  have d_add_shot_if := ok_add_shot_if (P := P) (w := w) (base := base) (r_add_shot_if.src X G b_add_shot_if) T d_is_weight d_told_last
  have d_smallest_alarming_weight := ok_smallest_alarming_weight (P := P) (w := w) (base := base) (r_smallest_alarming_weight.src X G b_smallest_alarming_weight) T d_uppers_of d_last_of
  have d_longest_runs := ok_longest_runs (P := P) (w := w) (base := base) (r_longest_runs.src X G b_longest_runs) T d_longest_above d_longest_below
  have d_mean_weight := ok_mean_weight (P := P) (w := w) (base := base) (r_mean_weight.src X G b_mean_weight) T d_lowest_terms
  have d_describe := ok_describe (P := P) (w := w) (base := base) (r_describe.src X G b_describe) T
  have d_answer_changes := ok_answer_changes (P := P) (w := w) (base := base) (r_answer_changes.src X G b_answer_changes) T d_create d_add_shot d_set_shots d_clear_shots d_set_weight d_set_target d_set_limits
  have d_answer_sums := ok_answer_sums (P := P) (w := w) (base := base) (r_answer_sums.src X G b_answer_sums) d_upper_sums d_lower_sums d_first_alarm d_alarms d_onset d_worst_runs
  have d_answer_weights := ok_answer_weights (P := P) (w := w) (base := base) (r_answer_weights.src X G b_answer_weights) d_add_shot_if d_smallest_alarming_weight d_longest_runs d_mean_weight d_describe
  have d_answer := ok_answer (P := P) (w := w) (base := base) (r_answer.src X G b_answer) T d_answer_changes d_answer_sums d_answer_weights
  have d_begin_of := ok_begin_of (P := P) (w := w) (base := base) (r_begin_of.src X G b_begin_of) T
  have d_end_of := ok_end_of (P := P) (w := w) (base := base) (r_end_of.src X G b_end_of) T
  have d_numbers_of := ok_numbers_of (P := P) (w := w) (base := base) (r_numbers_of.src X G b_numbers_of) T d_begin_of d_end_of
  exact ok_answers F0 T d_m_init d_answer d_numbers_of d_end_of
end
end Ss
open PySem PySem.W PyProof.Rows
set_option maxRecDepth 100000 in
set_option maxHeartbeats 0 in
theorem PySem.Challenge.cw_shotsums_s01_answers_holds : PySem.Challenge.rw_shotsums_s01_answers.Holds := by
  w_on; k_headS; (case hw => exact ⟨[.list [.int 3]], by decide +kernel, by decide +kernel⟩)
  k_fillS
  refine L2.walk_specK (r := PySem.Challenge.rw_shotsums_s01_answers) (k := 9) (CX := L2.CX0) (ps := ["calls"]) (sp := Ss.spAns) (by decide +kernel) rfl rfl ⟨rfl, by decide, by decide⟩ (fun w h Y => PySem.W.kIn_of Y) ?F ?S (fun _ _ _ _ z => z)
  case F =>
    intro w mg fa h Y KX G hmg
    refine' Ss.all_mk KX G hmg ?a0 ?l0 ?c0 ?k0 ?aC ?pg ?hd ?po ?sa ?mk ?kc ?nM ?nT ?nA ?nH ?nW ?z_len ?z_max ?z_int ?z_zip ?z_enumerate ?z_range ?z_abs ?z_sum ?z_list ?cNI ?cNS ?cBR ?cFU ?cN0 ?cNA ?cMW ?cML ?cMS ?cSS ?cA ?lA ?vA ?zA ?r_is_weight ?r_is_limit ?r_are_weights ?r_excesses ?r_shortfalls ?r_cumulative ?r_upper_of ?r_lower_of ?r_last_of ?r_alarm_code ?r_alarm_codes ?r_onset_in ?r_has_shot ?r_told_last ?r_create ?r_add_shot ?r_set_shots ?r_clear_shots ?r_set_weight ?r_set_target ?r_set_limits ?r_divisor_of ?r_lowest_terms ?r_worst_run ?r_longest_run ?r_longest_above ?r_longest_below ?r_uppers_of ?r_lowers_of ?r_codes_of ?r_shots_with_alarm ?r_counted ?r_upper_sums ?r_lower_sums ?r_first_alarm ?r_alarms ?r_onset ?r_worst_runs ?r_add_shot_if ?r_smallest_alarming_weight ?r_longest_runs ?r_mean_weight ?r_describe ?r_answer_changes ?r_answer_sums ?r_answer_weights ?r_answer ?r_begin_of ?r_end_of ?r_numbers_of ?r_m_init ?r_m_begin ?r_m_shoot ?r_m_refill ?r_m_reweigh ?r_m_retarget ?r_m_limit
    (case a0 => k_is)
    (case l0 => k_is)
    (case c0 => k_is)
    (case k0 => k_is)
    (case aC => k_is)
    (case pg => k_is)
    (case hd => k_is)
    (case po => k_is)
    (case sa => k_is)
    (case mk => k_is)
    (case kc => k_is)
    (case nM => k_is)
    (case nT => k_is)
    (case nA => k_is)
    (case nH => k_is)
    (case nW => k_is)
    (case z_len => k_is)
    (case z_max => k_is)
    (case z_int => k_is)
    (case z_zip => k_is)
    (case z_enumerate => k_is)
    (case z_range => k_is)
    (case z_abs => k_is)
    (case z_sum => k_is)
    (case z_list => k_is)
    (case cNI => k_is)
    (case cNS => k_is)
    (case cBR => k_is)
    (case cFU => k_is)
    (case cN0 => k_is)
    (case cNA => k_is)
    (case cMW => k_is)
    (case cML => k_is)
    (case cMS => k_is)
    (case cSS => k_is)
    (case cA => k_is)
    (case lA => k_is)
    (case vA => exact .cons (Ss.relI _ _) (.cons (Ss.relI _ _) (.cons (Ss.relI _ _) (.cons (Ss.relI _ _) (.cons (Ss.relI _ _) (.cons (Ss.relI _ _) (.cons (Ss.relI _ _) (.cons (Ss.relI _ _) (.cons (Ss.relI _ _) (.cons (Ss.relI _ _) (.cons (Ss.relI _ _) (.cons (Ss.relI _ _) (.cons (Ss.relI _ _) (.cons (Ss.relI _ _) (.cons (Ss.relI _ _) (.cons (Ss.relI _ _) (.cons (Ss.relI _ _) (.cons (Ss.relI _ _) .nil))))))))))))))))))
    (case zA => decide)
    (case r_is_weight => refine' Ss.rawG ?a ?l ?c ?k; (case a => k_is); (case l => k_is); (case c => k_is); (case k => k_is))
    (case r_is_limit => refine' Ss.rawG ?a ?l ?c ?k; (case a => k_is); (case l => k_is); (case c => k_is); (case k => k_is))
    (case r_are_weights => refine' Ss.rawG ?a ?l ?c ?k; (case a => k_is); (case l => k_is); (case c => k_is); (case k => k_is))
    (case r_excesses => refine' Ss.rawG ?a ?l ?c ?k; (case a => k_is); (case l => k_is); (case c => k_is); (case k => k_is))
    (case r_shortfalls => refine' Ss.rawG ?a ?l ?c ?k; (case a => k_is); (case l => k_is); (case c => k_is); (case k => k_is))
    (case r_cumulative => refine' Ss.rawG ?a ?l ?c ?k; (case a => k_is); (case l => k_is); (case c => k_is); (case k => k_is))
    (case r_upper_of => refine' Ss.rawG ?a ?l ?c ?k; (case a => k_is); (case l => k_is); (case c => k_is); (case k => k_is))
    (case r_lower_of => refine' Ss.rawG ?a ?l ?c ?k; (case a => k_is); (case l => k_is); (case c => k_is); (case k => k_is))
    (case r_last_of => refine' Ss.rawG ?a ?l ?c ?k; (case a => k_is); (case l => k_is); (case c => k_is); (case k => k_is))
    (case r_alarm_code => refine' Ss.rawG ?a ?l ?c ?k; (case a => k_is); (case l => k_is); (case c => k_is); (case k => k_is))
    (case r_alarm_codes => refine' Ss.rawG ?a ?l ?c ?k; (case a => k_is); (case l => k_is); (case c => k_is); (case k => k_is))
    (case r_onset_in => refine' Ss.rawG ?a ?l ?c ?k; (case a => k_is); (case l => k_is); (case c => k_is); (case k => k_is))
    (case r_has_shot => refine' Ss.rawG ?a ?l ?c ?k; (case a => k_is); (case l => k_is); (case c => k_is); (case k => k_is))
    (case r_told_last => refine' Ss.rawG ?a ?l ?c ?k; (case a => k_is); (case l => k_is); (case c => k_is); (case k => k_is))
    (case r_create => refine' Ss.rawG ?a ?l ?c ?k; (case a => k_is); (case l => k_is); (case c => k_is); (case k => k_is))
    (case r_add_shot => refine' Ss.rawG ?a ?l ?c ?k; (case a => k_is); (case l => k_is); (case c => k_is); (case k => k_is))
    (case r_set_shots => refine' Ss.rawG ?a ?l ?c ?k; (case a => k_is); (case l => k_is); (case c => k_is); (case k => k_is))
    (case r_clear_shots => refine' Ss.rawG ?a ?l ?c ?k; (case a => k_is); (case l => k_is); (case c => k_is); (case k => k_is))
    (case r_set_weight => refine' Ss.rawG ?a ?l ?c ?k; (case a => k_is); (case l => k_is); (case c => k_is); (case k => k_is))
    (case r_set_target => refine' Ss.rawG ?a ?l ?c ?k; (case a => k_is); (case l => k_is); (case c => k_is); (case k => k_is))
    (case r_set_limits => refine' Ss.rawG ?a ?l ?c ?k; (case a => k_is); (case l => k_is); (case c => k_is); (case k => k_is))
    (case r_divisor_of => refine' Ss.rawG ?a ?l ?c ?k; (case a => k_is); (case l => k_is); (case c => k_is); (case k => k_is))
    (case r_lowest_terms => refine' Ss.rawG ?a ?l ?c ?k; (case a => k_is); (case l => k_is); (case c => k_is); (case k => k_is))
    (case r_worst_run => refine' Ss.rawG ?a ?l ?c ?k; (case a => k_is); (case l => k_is); (case c => k_is); (case k => k_is))
    (case r_longest_run => refine' Ss.rawG ?a ?l ?c ?k; (case a => k_is); (case l => k_is); (case c => k_is); (case k => k_is))
    (case r_longest_above => refine' Ss.rawG ?a ?l ?c ?k; (case a => k_is); (case l => k_is); (case c => k_is); (case k => k_is))
    (case r_longest_below => refine' Ss.rawG ?a ?l ?c ?k; (case a => k_is); (case l => k_is); (case c => k_is); (case k => k_is))
    (case r_uppers_of => refine' Ss.rawG ?a ?l ?c ?k; (case a => k_is); (case l => k_is); (case c => k_is); (case k => k_is))
    (case r_lowers_of => refine' Ss.rawG ?a ?l ?c ?k; (case a => k_is); (case l => k_is); (case c => k_is); (case k => k_is))
    (case r_codes_of => refine' Ss.rawG ?a ?l ?c ?k; (case a => k_is); (case l => k_is); (case c => k_is); (case k => k_is))
    (case r_shots_with_alarm => refine' Ss.rawG ?a ?l ?c ?k; (case a => k_is); (case l => k_is); (case c => k_is); (case k => k_is))
    (case r_counted => refine' Ss.rawG ?a ?l ?c ?k; (case a => k_is); (case l => k_is); (case c => k_is); (case k => k_is))
    (case r_upper_sums => refine' Ss.rawG ?a ?l ?c ?k; (case a => k_is); (case l => k_is); (case c => k_is); (case k => k_is))
    (case r_lower_sums => refine' Ss.rawG ?a ?l ?c ?k; (case a => k_is); (case l => k_is); (case c => k_is); (case k => k_is))
    (case r_first_alarm => refine' Ss.rawG ?a ?l ?c ?k; (case a => k_is); (case l => k_is); (case c => k_is); (case k => k_is))
    (case r_alarms => refine' Ss.rawG ?a ?l ?c ?k; (case a => k_is); (case l => k_is); (case c => k_is); (case k => k_is))
    (case r_onset => refine' Ss.rawG ?a ?l ?c ?k; (case a => k_is); (case l => k_is); (case c => k_is); (case k => k_is))
    (case r_worst_runs => refine' Ss.rawG ?a ?l ?c ?k; (case a => k_is); (case l => k_is); (case c => k_is); (case k => k_is))
    (case r_add_shot_if => refine' Ss.rawG ?a ?l ?c ?k; (case a => k_is); (case l => k_is); (case c => k_is); (case k => k_is))
    (case r_smallest_alarming_weight => refine' Ss.rawG ?a ?l ?c ?k; (case a => k_is); (case l => k_is); (case c => k_is); (case k => k_is))
    (case r_longest_runs => refine' Ss.rawG ?a ?l ?c ?k; (case a => k_is); (case l => k_is); (case c => k_is); (case k => k_is))
    (case r_mean_weight => refine' Ss.rawG ?a ?l ?c ?k; (case a => k_is); (case l => k_is); (case c => k_is); (case k => k_is))
    (case r_describe => refine' Ss.rawG ?a ?l ?c ?k; (case a => k_is); (case l => k_is); (case c => k_is); (case k => k_is))
    (case r_answer_changes => refine' Ss.rawG ?a ?l ?c ?k; (case a => k_is); (case l => k_is); (case c => k_is); (case k => k_is))
    (case r_answer_sums => refine' Ss.rawG ?a ?l ?c ?k; (case a => k_is); (case l => k_is); (case c => k_is); (case k => k_is))
    (case r_answer_weights => refine' Ss.rawG ?a ?l ?c ?k; (case a => k_is); (case l => k_is); (case c => k_is); (case k => k_is))
    (case r_answer => refine' Ss.rawG ?a ?l ?c ?k; (case a => k_is); (case l => k_is); (case c => k_is); (case k => k_is))
    (case r_begin_of => refine' Ss.rawG ?a ?l ?c ?k; (case a => k_is); (case l => k_is); (case c => k_is); (case k => k_is))
    (case r_end_of => refine' Ss.rawG ?a ?l ?c ?k; (case a => k_is); (case l => k_is); (case c => k_is); (case k => k_is))
    (case r_numbers_of => refine' Ss.rawG ?a ?l ?c ?k; (case a => k_is); (case l => k_is); (case c => k_is); (case k => k_is))
    (case r_m_init => refine' Ss.rawM ?a ?i ?l ?c ?k; (case a => k_is); (case i => k_is); (case l => k_is); (case c => k_is); (case k => k_is))
    (case r_m_begin => refine' Ss.rawM ?a ?i ?l ?c ?k; (case a => k_is); (case i => k_is); (case l => k_is); (case c => k_is); (case k => k_is))
    (case r_m_shoot => refine' Ss.rawM ?a ?i ?l ?c ?k; (case a => k_is); (case i => k_is); (case l => k_is); (case c => k_is); (case k => k_is))
    (case r_m_refill => refine' Ss.rawM ?a ?i ?l ?c ?k; (case a => k_is); (case i => k_is); (case l => k_is); (case c => k_is); (case k => k_is))
    (case r_m_reweigh => refine' Ss.rawM ?a ?i ?l ?c ?k; (case a => k_is); (case i => k_is); (case l => k_is); (case c => k_is); (case k => k_is))
    (case r_m_retarget => refine' Ss.rawM ?a ?i ?l ?c ?k; (case a => k_is); (case i => k_is); (case l => k_is); (case c => k_is); (case k => k_is))
    (case r_m_limit => refine' Ss.rawM ?a ?i ?l ?c ?k; (case a => k_is); (case i => k_is); (case l => k_is); (case c => k_is); (case k => k_is))
  case S =>
    intro K H xs a hO hwi hask hx
    cases hx with
    | cons h1 h2 =>
      cases h2
      cases h1 with
      | lst hs ha =>
        have e := L2.ints_dw a.1 _ ha
        subst e
        have q : ((Codec.inLen 0 4320 a.1 && a.1.all (Codec.inInt (-2147483648) 2147483647)) && true) = true := hwi
        rw [Bool.and_eq_true, Bool.and_eq_true] at q
        exact ⟨_, a.1, rfl, hs, (Codec.inNat_iff.mp q.1.1).2, hask, fun H' p hp => .lst (L2.SqL.of hp) (L2.dw_ints _)⟩
#print axioms PySem.Challenge.cw_shotsums_s01_answers_holds
