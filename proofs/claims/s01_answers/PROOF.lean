import PyProof.Rows.All
import Wide.All
import OpenK.AllK
import Wide.FinOn
import PyProof.EqAt
import PyProof.EqKinds
import PyProof.TupleCall
import Open.SpecLaws
import KE.OsGo
import PySem.Challenge.RW_millhoursworks_s01_answers
import HandS.ForSpec
import HandS.ExcSuper
import HandS.Comp
import HandS.Iter
import HandS.Walk
import HandS.Evl
import HandS.SetFor
import PyWideLaws
set_option Elab.async false
set_option linter.all false
section
set_option Elab.async false
set_option maxHeartbeats 1000000
namespace Mill
open Kp413 (Lot Scheduler lotAt remaining nextLot encode)
/-! ### the mirror: each def over plain lists -/
structure Job where
  r : Nat
  d : Nat
  m : Nat
def jobOf (l : Lot) : Job := ⟨l.release, l.deadline, remaining l⟩
def jobsOf (s : Scheduler) : List Job := s.lots.map jobOf
def jb (js : List Job) (i : Nat) : Job := js.getD i ⟨0, 0, 0⟩
/-- chosen: behind i jobs -/
def pick (js : List Job) (left : List Nat) (hour : Nat) : Nat → Option Nat
  | 0 => none
  | i + 1 => if (jb js i).r ≤ hour ∧ 0 < left.getD i 0 then (match pick js left hour i with
    | none => some i
    | some j => if (jb js i).d < (jb js j).d then some i else some j) else pick js left hour i
def mill (js : List Job) (dt left : List Nat) (hour : Nat) : Option Nat := if dt.contains hour then none else pick js left hour js.length
/-- one turn of planned's loop: left, entries -/
def turn (js : List Job) (dt : List Nat) (st : List Nat × List Nat) (hour : Nat) : List Nat × List Nat := match mill js dt st.1 hour with
  | none => (st.1, st.2 ++ [0])
  | some n => (st.1.set n (st.1.getD n 0 - 1), st.2 ++ [n + 1])
def runP (js : List Job) (dt : List Nat) (now : Nat) : Nat → List Nat × List Nat
  | 0 => (js.map Job.m, [])
  | k + 1 => turn js dt (runP js dt now k) (now + k)
def planM (js : List Job) (dt : List Nat) (now : Nat) : List Nat := (runP js dt now (24 - now)).2
def atP (es : List Nat) (n : Nat) (p : Nat) : Bool := decide (es.getD p 0 = n + 1)
def hoursM (es : List Nat) (now n : Nat) : List Nat := ((List.range es.length).filter (atP es n)).map (now + ·)
def completionM (js : List Job) (es : List Nat) (now n : Nat) : Option Nat :=
  if (jb js n).m = 0 then some now else if (hoursM es now n).length < (jb js n).m then none else some ((hoursM es now n).getLastD 0 + 1)
def lateM (js : List Job) (es : List Nat) (now n : Nat) : Bool := if (jb js n).m = 0 then false else match completionM js es now n with
  | none => true
  | some t => decide ((jb js n).d < t)
def lateJobs (js : List Job) (dt : List Nat) (now : Nat) : List Nat := (List.range js.length).filter (lateM js (planM js dt now) now)
def feasM (js : List Job) (dt : List Nat) (now : Nat) : Bool := (lateJobs js dt now).isEmpty
def longerM (js : List Job) (n x : Nat) : List Job := js.set n ⟨(jb js n).r, (jb js n).d, (jb js n).m + x⟩
def milledM (es : List Nat) : List Nat := es.filter fun e => decide (e ≠ 0)
def changesM (es : List Nat) : Nat := ((List.range ((milledM es).length - 1)).filter fun k => decide ((milledM es).getD k 0 ≠ (milledM es).getD (k + 1) 0)).length
def freeM (dt : List Nat) (now h : Nat) : Bool := decide (now ≤ h) && !dt.contains h
def capM (dt : List Nat) (now a b : Nat) : Nat := ((List.range (b - a)).filter fun k => freeM dt now (a + k)).length
def withinM (now a b : Nat) (j : Job) : Bool := decide (a ≤ max j.r now) && decide (j.d ≤ b)
def demM (js : List Job) (now a b : Nat) : Nat := (((List.range js.length).filter fun i => withinM now a b (jb js i)).map fun i => (jb js i).m).sum
def fits (js : List Job) (dt : List Nat) (hour e : Nat) : Bool := if e = 0 then true else if js.length < e then false else
  !dt.contains hour && (decide ((jb js (e - 1)).r ≤ hour) && decide (hour < (jb js (e - 1)).d))
def countM (es : List Nat) (n : Nat) : Nat := ((List.range es.length).filter (atP es n)).length
def meetsM (js : List Job) (dt : List Nat) (now : Nat) (es : List Nat) : Bool :=
  ((List.range es.length).all fun p => fits js dt (now + p) (es.getD p 0)) && (List.range js.length).all fun n => decide (countM es n = (jb js n).m)

/-! ### the plan -/
theorem jb_jobsOf {s : Scheduler} {i : Nat} (h : i < s.lots.length) : jb (jobsOf s) i = jobOf (lotAt s i) := by
  simp [jb, jobsOf, lotAt, List.getD_eq_getElem?_getD, h]
theorem jobsOf_length (s : Scheduler) : (jobsOf s).length = s.lots.length := by simp [jobsOf]
theorem pick_lt {js : List Job} {left : List Nat} {hour : Nat} : ∀ {n j : Nat}, pick js left hour n = some j → j < n
  | 0, j, h => by simp [pick] at h
  | n + 1, j, h => by
    unfold pick at h
    split at h
    · split at h
      · cases h; omega
      · rename_i j' e
        have := pick_lt e
        split at h <;> cases h <;> omega
    · have := pick_lt h
      omega
/-- what is picked may be milled -/
theorem pick_left {js : List Job} {left : List Nat} {hour : Nat} : ∀ {n j : Nat}, pick js left hour n = some j → 0 < left.getD j 0
  | 0, j, h => by simp [pick] at h
  | n + 1, j, h => by
    unfold pick at h
    split at h
    · rename_i hc
      split at h
      · cases h; exact hc.2
      · rename_i j' e
        have := pick_left e
        split at h <;> cases h
        · exact hc.2
        · exact this
    · exact pick_left h
structure Alike (s : Scheduler) (js : List Job) (left : List Nat) : Prop where
  len : js.length = s.lots.length
  r : ∀ i, i < s.lots.length → (jb js i).r = (lotAt s i).release
  d : ∀ i, i < s.lots.length → (jb js i).d = (lotAt s i).deadline
  l : ∀ i, i < s.lots.length → left.getD i 0 = remaining (lotAt s i)
theorem pick_eq {s : Scheduler} {js : List Job} {left : List Nat} (A : Alike s js left) (hour : Nat) : ∀ n, n ≤ s.lots.length →
    ((List.range n).filter fun i => decide ((lotAt s i).release ≤ hour) && decide (0 < remaining (lotAt s i))).foldl (fun (best : Option Nat) (i : Nat) => match best with
      | none => some i
      | some j => if (lotAt s i).deadline < (lotAt s j).deadline then some i else some j) none = pick js left hour n
  | 0, _ => rfl
  | n + 1, h => by
    have ih := pick_eq A hour n (by omega)
    have hr := A.r n (by omega)
    have hl := A.l n (by omega)
    have hd := A.d n (by omega)
    rw [List.range_succ, List.filter_append, List.foldl_append, ih]
    show _ = (if (jb js n).r ≤ hour ∧ 0 < left.getD n 0 then (match pick js left hour n with
      | none => some n
      | some j => if (jb js n).d < (jb js j).d then some n else some j) else pick js left hour n)
    rw [hr, hl, hd]
    by_cases c : (lotAt s n).release ≤ hour ∧ 0 < remaining (lotAt s n)
    · rw [if_pos c]
      have e : List.filter (fun i => decide ((lotAt s i).release ≤ hour) && decide (0 < remaining (lotAt s i))) [n] = [n] := by simp [c]
      rw [e]
      show (match pick js left hour n with
        | none => some n
        | some j => if (lotAt s n).deadline < (lotAt s j).deadline then some n else some j) = _
      cases e2 : pick js left hour n with
      | none => rfl
      | some j =>
        have hj := pick_lt e2
        show (if _ < _ then _ else _) = (if _ < _ then _ else _)
        rw [A.d j (by omega)]
    · rw [if_neg c]
      have e : List.filter (fun i => decide ((lotAt s i).release ≤ hour) && decide (0 < remaining (lotAt s i))) [n] = [] := by
        simp only [List.filter_cons, List.filter_nil]
        rw [if_neg]
        simpa using c
      rw [e]
      rfl
theorem next_eq {s : Scheduler} {js : List Job} {left : List Nat} (A : Alike s js left) (hour : Nat) : nextLot s hour = mill js s.downtime left hour := by
  unfold nextLot mill
  rw [A.len]
  by_cases c : s.downtime.contains hour = true
  · rw [if_pos c, if_pos c]
  · rw [if_neg c, if_neg c]
    exact pick_eq A hour _ (Nat.le_refl _)
theorem runHours_succ : ∀ (k : Nat) (s : Scheduler), Kp413.runHours s (k + 1) = Kp413.runHour (Kp413.runHours s k)
  | 0, _ => rfl
  | k + 1, s => runHours_succ k (Kp413.runHour s)
/-- what stays, what goes -/
structure Went (s s' : Scheduler) (k : Nat) (js : List Job) (st : List Nat × List Nat) : Prop where
  al : Alike s' js st.1
  len : s'.lots.length = s.lots.length
  sl : st.1.length = js.length
  dt : s'.downtime = s.downtime
  now : s'.now = s.now + k
  log : ∃ ext, s'.log = s.log ++ ext ∧ ext.map encode = st.2
  hs : ∀ i, i < s.lots.length → (lotAt s' i).release = (lotAt s i).release ∧ (lotAt s' i).deadline = (lotAt s i).deadline ∧ (lotAt s' i).hours = (lotAt s i).hours
theorem lotAt_set {s : Scheduler} {i j : Nat} {l : Lot} (h : i < s.lots.length) : ({ s with lots := s.lots.set i l } : Scheduler).lots.getD j ⟨0, 0, 0, 0⟩ = if j = i then l else lotAt s j := by
  unfold lotAt
  by_cases e : j = i
  · subst e
    simp [List.getD_eq_getElem?_getD, h]
  · rw [if_neg e]
    simp [List.getD_eq_getElem?_getD, List.getElem?_set, Ne.symm e]
theorem went (s : Scheduler) : ∀ k, Went s (Kp413.runHours s k) k (jobsOf s) (runP (jobsOf s) s.downtime s.now k)
  | 0 => by
    refine ⟨⟨jobsOf_length s, fun i h => by rw [jb_jobsOf (s := s) h]; rfl, fun i h => by rw [jb_jobsOf (s := s) h]; rfl, fun i h => ?_⟩, rfl, by simp [runP], rfl, rfl, ⟨[], by simp [Kp413.runHours], rfl⟩, fun _ _ => ⟨rfl, rfl, rfl⟩⟩
    have : i < s.lots.length := h
    simp [runP, jobsOf, List.getD_eq_getElem?_getD, this, jobOf, lotAt, Kp413.runHours]
  | k + 1 => by
    have W := went s k
    rw [runHours_succ]
    generalize Kp413.runHours s k = s' at W
    show Went s (Kp413.runHour s') (k + 1) (jobsOf s) (turn (jobsOf s) s.downtime (runP (jobsOf s) s.downtime s.now k) (s.now + k))
    generalize runP (jobsOf s) s.downtime s.now k = st at W
    obtain ⟨ext, hl, he⟩ := W.log
    have hn := next_eq W.al s'.now
    rw [W.dt, W.now] at hn
    unfold Kp413.runHour turn
    rw [W.now, hn]
    cases e : mill (jobsOf s) s.downtime st.1 (s.now + k) with
    | none =>
      exact ⟨⟨W.al.len, W.al.r, W.al.d, W.al.l⟩, W.len, W.sl, W.dt, by show s.now + k + 1 = _; omega, ⟨ext ++ [none], by show s'.log ++ [none] = _; rw [hl, List.append_assoc], by simp [he, encode]⟩, W.hs⟩
    | some n =>
      have hn2 : n < (jobsOf s).length := by
        unfold mill at e
        split at e
        · cases e
        · exact pick_lt e
      have hn3 : n < s'.lots.length := by rw [← W.al.len]; exact hn2
      have hlt : ∀ j, lotAt { s' with lots := s'.lots.set n { lotAt s' n with done := (lotAt s' n).done + 1 }, now := s.now + k + 1, log := s'.log ++ [some n] } j = if j = n then { lotAt s' n with done := (lotAt s' n).done + 1 } else lotAt s' j := fun j => lotAt_set hn3
      refine ⟨⟨by simp [W.al.len], fun i h => ?_, fun i h => ?_, fun i h => ?_⟩, by simp [W.len], by simp [W.sl], W.dt, by show s.now + k + 1 = _; omega, ⟨ext ++ [some n], by show s'.log ++ [some n] = _; rw [hl, List.append_assoc], by simp [he, encode]⟩, fun i h => ?_⟩
      · have h' : i < s'.lots.length := by simpa using h
        rw [hlt, W.al.r i h']
        split
        · rename_i q; rw [q]
        · rfl
      · have h' : i < s'.lots.length := by simpa using h
        rw [hlt, W.al.d i h']
        split
        · rename_i q; rw [q]
        · rfl
      · have h' : i < s'.lots.length := by simpa using h
        rw [hlt]
        have z := W.al.l i h'
        by_cases q : i = n
        · subst q
          rw [if_pos rfl]
          show (st.1.set i (st.1.getD i 0 - 1)).getD i 0 = _
          have hs : i < st.1.length := by rw [W.sl]; exact hn2
          simp only [List.getD_eq_getElem?_getD, List.getElem?_set_self hs, Option.getD_some]
          rw [List.getD_eq_getElem?_getD] at z
          rw [z]
          unfold remaining
          show _ - 1 = (lotAt s' i).hours - ((lotAt s' i).done + 1)
          omega
        · rw [if_neg q]
          show (st.1.set n (st.1.getD n 0 - 1)).getD i 0 = _
          rw [List.getD_eq_getElem?_getD, List.getElem?_set_ne (Ne.symm q), ← List.getD_eq_getElem?_getD]
          exact z
      · rw [hlt]
        have := W.hs i h
        split
        · rename_i q; subst q; exact this
        · exact this
theorem plan_eq (s : Scheduler) : (Kp413.plan s).map encode = planM (jobsOf s) s.downtime s.now := by
  obtain ⟨ext, hl, he⟩ := (went s (24 - s.now)).log
  unfold Kp413.plan planM
  show ((Kp413.runHours s (24 - s.now)).log.drop s.log.length).map encode = _
  rw [hl, List.drop_left, he]
theorem runP_len (js : List Job) (dt : List Nat) (now : Nat) : ∀ k, (runP js dt now k).2.length = k ∧ (runP js dt now k).1.length = js.length
  | 0 => by simp [runP]
  | k + 1 => by
    have ih := runP_len js dt now k
    show ((turn js dt (runP js dt now k) (now + k)).2.length = k + 1) ∧ _
    show ((turn js dt (runP js dt now k) (now + k)).2.length = k + 1) ∧ (turn js dt (runP js dt now k) (now + k)).1.length = js.length
    unfold turn
    split <;> simp [ih]
theorem planM_len (js : List Job) (dt : List Nat) (now : Nat) : (planM js dt now).length = 24 - now := (runP_len js dt now _).1
end Mill
end
section
set_option Elab.async false
set_option linter.all false
set_option maxHeartbeats 1000000
namespace Mill
open Kp413 (Lot Scheduler lotAt remaining nextLot encode)
/-! ### how many entries a job has -/
def cnt (es : List Nat) (n k : Nat) : Nat := ((List.range k).filter (atP es n)).length
theorem cnt_succ (es : List Nat) (n k : Nat) : cnt es n (k + 1) = cnt es n k + (if atP es n k = true then 1 else 0) := by
  unfold cnt
  rw [List.range_succ, List.filter_append, List.length_append]
  congr 1
  by_cases h : atP es n k = true
  · rw [if_pos h]
    simp [h]
  · rw [if_neg h]
    simp [h]
theorem cnt_app {es fs : List Nat} {n : Nat} : ∀ k, k ≤ es.length → cnt (es ++ fs) n k = cnt es n k
  | 0, _ => rfl
  | k + 1, h => by
    rw [cnt_succ, cnt_succ, cnt_app k (by omega)]
    have : atP (es ++ fs) n k = atP es n k := by
      unfold atP
      rw [List.getD_eq_getElem?_getD, List.getD_eq_getElem?_getD, List.getElem?_append_left (by omega)]
    rw [this]
theorem cnt_mono (es : List Nat) (n : Nat) : ∀ {k j : Nat}, k ≤ j → cnt es n k ≤ cnt es n j := fun {k j} h => by
  induction j with
  | zero =>
    have : k = 0 := by omega
    subst this
    exact Nat.le_refl _
  | succ j ih =>
    by_cases hk : k = j + 1
    · subst hk
      exact Nat.le_refl _
    · have := ih (by omega)
      rw [cnt_succ]
      omega
/-- what is left and what is planned of a job -/
theorem left_cnt (js : List Job) (dt : List Nat) (now : Nat) : ∀ k n, n < js.length → (runP js dt now k).1.getD n 0 + cnt (runP js dt now k).2 n k = (jb js n).m
  | 0, n, h => by
    have : js[n]? = some js[n] := by simp [h]
    simp [runP, cnt, jb, List.getD_eq_getElem?_getD, h]
  | k + 1, n, h => by
    have ih := left_cnt js dt now k n h
    have hl := runP_len js dt now k
    show (turn js dt (runP js dt now k) (now + k)).1.getD n 0 + cnt (turn js dt (runP js dt now k) (now + k)).2 n (k + 1) = _
    generalize runP js dt now k = st at ih hl
    unfold turn
    cases e : mill js dt st.1 (now + k) with
    | none =>
      show st.1.getD n 0 + cnt (st.2 ++ [0]) n (k + 1) = _
      rw [cnt_succ, cnt_app k (by omega)]
      have : atP (st.2 ++ [0]) n k = false := by
        unfold atP
        rw [List.getD_eq_getElem?_getD, List.getElem?_append_right (by omega), hl.1]
        simp
      rw [this, if_neg (by decide)]
      omega
    | some i =>
      show (st.1.set i (st.1.getD i 0 - 1)).getD n 0 + cnt (st.2 ++ [i + 1]) n (k + 1) = _
      rw [cnt_succ, cnt_app k (by omega)]
      have hat : atP (st.2 ++ [i + 1]) n k = decide (i = n) := by
        unfold atP
        rw [List.getD_eq_getElem?_getD, List.getElem?_append_right (by omega), hl.1]
        simp
      have hpos : 0 < st.1.getD i 0 := by
        unfold mill at e
        split at e
        · cases e
        · exact pick_left e
      rw [hat]
      by_cases hi : i = n
      · subst hi
        rw [if_pos (by simp), List.getD_eq_getElem?_getD, List.getElem?_set_self (by omega), Option.getD_some]
        omega
      · rw [if_neg (by simp [hi]), List.getD_eq_getElem?_getD, List.getElem?_set_ne hi, ← List.getD_eq_getElem?_getD]
        omega
theorem plan_cnt (js : List Job) (dt : List Nat) (now n : Nat) (h : n < js.length) : cnt (planM js dt now) n (planM js dt now).length ≤ (jb js n).m := by
  have := left_cnt js dt now (24 - now) n h
  rw [planM_len]
  unfold planM
  omega
/-! ### the completion hour -/
theorem find_none {es : List Nat} {n m : Nat} (L : Nat) (hm : cnt es n L < m) : (List.range (L + 1)).find? (fun k => decide (m ≤ cnt es n k)) = none := by
  rw [List.find?_eq_none]
  intro k hk
  have := cnt_mono es n (show k ≤ L by have := List.mem_range.mp hk; omega)
  simp
  omega
theorem find_some {es : List Nat} {n m : Nat} (hm : 0 < m) : ∀ L, cnt es n L = m → (List.range (L + 1)).find? (fun k => decide (m ≤ cnt es n k)) = some (((List.range L).filter (atP es n)).getLastD 0 + 1)
  | 0, h => by
    unfold cnt at h
    simp at h
    omega
  | L + 1, h => by
    rw [List.range_succ (n := L + 1), List.find?_append]
    have hs := cnt_succ es n L
    by_cases hat : atP es n L = true
    · rw [if_pos hat] at hs
      rw [find_none L (by omega)]
      rw [List.range_succ, List.filter_append]
      have : List.filter (atP es n) [L] = [L] := by simp [hat]
      rw [this]
      simp [h]
    · rw [if_neg hat] at hs
      rw [find_some hm L (by omega)]
      rw [List.range_succ, List.filter_append]
      have : List.filter (atP es n) [L] = [] := by simp [hat]
      rw [this, List.append_nil]
      rfl
theorem take_count {P : List (Option Nat)} {n : Nat} : ∀ k, k ≤ P.length → ((P.take k).filter fun x => x == some n).length = cnt (P.map encode) n k
  | 0, _ => by simp [cnt]
  | k + 1, h => by
    have hk : k < P.length := by omega
    rw [List.take_succ, List.filter_append, List.length_append, take_count k (by omega), cnt_succ]
    congr 1
    have e : atP (P.map encode) n k = (P[k] == some n) := by
      unfold atP
      rw [List.getD_eq_getElem?_getD, List.getElem?_map]
      simp [hk]
      cases P[k] with
      | none => simp [encode]
      | some j =>
        rw [Bool.eq_iff_iff]
        simp [encode]
    rw [e]
    simp [hk]
    by_cases z : P[k] = some n
    · simp [z]
    · simp [z]
theorem hoursM_length (es : List Nat) (now n : Nat) : (hoursM es now n).length = cnt es n es.length := by
  simp [hoursM, cnt]
theorem getLastD_map (now : Nat) : ∀ (l : List Nat), l ≠ [] → (l.map (now + ·)).getLastD 0 = now + l.getLastD 0 := fun l h => by
  rw [List.getLastD_eq_getLast?, List.getLastD_eq_getLast?, List.getLast?_map, List.getLast?_eq_some_getLast h]
  rfl
theorem compl_eq {s : Scheduler} {i : Nat} (h : i < s.lots.length) : Kp413.completionHour s i = completionM (jobsOf s) (planM (jobsOf s) s.downtime s.now) s.now i := by
  have hm : (jb (jobsOf s) i).m = remaining (lotAt s i) := by rw [jb_jobsOf h]; rfl
  have hp := plan_eq s
  have hlen : (Kp413.plan s).length = (planM (jobsOf s) s.downtime s.now).length := by rw [← hp, List.length_map]
  have hc := plan_cnt (jobsOf s) s.downtime s.now i (by rw [jobsOf_length]; exact h)
  unfold Kp413.completionHour completionM
  rw [hm]
  by_cases h0 : remaining (lotAt s i) = 0
  · rw [if_pos h0, if_pos h0]
  · rw [if_neg h0, if_neg h0]
    have hf : (List.range ((Kp413.plan s).length + 1)).find? (fun k => decide (remaining (lotAt s i) ≤ (((Kp413.plan s).take k).filter fun x => x == some i).length)) = (List.range ((planM (jobsOf s) s.downtime s.now).length + 1)).find? (fun k => decide (remaining (lotAt s i) ≤ cnt (planM (jobsOf s) s.downtime s.now) i k)) := by
      rw [← hlen, ← hp]
      have : ∀ (l : List Nat) (f g : Nat → Bool), (∀ k ∈ l, f k = g k) → l.find? f = l.find? g := by
        intro l f g hfg
        induction l with
        | nil => rfl
        | cons a r ih =>
          rw [List.find?_cons, List.find?_cons, hfg a List.mem_cons_self, ih fun k hk => hfg k (List.mem_cons_of_mem _ hk)]
      apply this
      intro k hk
      rw [take_count k (by have := List.mem_range.mp hk; omega)]
    rw [hf, hoursM_length]
    rw [hm] at hc
    by_cases hlt : cnt (planM (jobsOf s) s.downtime s.now) i (planM (jobsOf s) s.downtime s.now).length < remaining (lotAt s i)
    · rw [if_pos hlt, find_none _ hlt]
      rfl
    · rw [if_neg hlt, find_some (by omega) _ (by omega)]
      have hne : (List.range (planM (jobsOf s) s.downtime s.now).length).filter (atP (planM (jobsOf s) s.downtime s.now) i) ≠ [] := by
        intro z
        unfold cnt at hlt
        rw [z] at hlt
        simp at hlt
        omega
      show some _ = some _
      unfold hoursM
      rw [getLastD_map _ _ hne]
      rfl
theorem late_eq {s : Scheduler} {i : Nat} (h : i < s.lots.length) : Kp413.isLate s i = lateM (jobsOf s) (planM (jobsOf s) s.downtime s.now) s.now i := by
  have hm : (jb (jobsOf s) i).m = remaining (lotAt s i) := by rw [jb_jobsOf h]; rfl
  have hd : (jb (jobsOf s) i).d = (lotAt s i).deadline := by rw [jb_jobsOf h]; rfl
  unfold Kp413.isLate lateM
  rw [compl_eq h, hm, hd]
  by_cases h0 : remaining (lotAt s i) = 0
  · rw [if_pos h0]
    unfold completionM
    rw [hm, if_pos h0]
    simp [h0]
  · rw [if_neg h0]
    cases completionM (jobsOf s) (planM (jobsOf s) s.downtime s.now) s.now i with
    | none => rfl
    | some t =>
      have : 0 < remaining (lotAt s i) := by omega
      simp [this]
theorem filter_congr_range {f g : Nat → Bool} {n : Nat} (h : ∀ i, i < n → f i = g i) : (List.range n).filter f = (List.range n).filter g :=
  List.filter_congr fun x hx => h x (List.mem_range.mp hx)
theorem lateLots_eq (s : Scheduler) : (List.range s.lots.length).filter (Kp413.isLate s) = lateJobs (jobsOf s) s.downtime s.now := by
  unfold lateJobs
  rw [jobsOf_length]
  exact filter_congr_range fun i hi => late_eq hi
theorem feas_eq (s : Scheduler) : Kp413.isFeasible s = feasM (jobsOf s) s.downtime s.now := by
  unfold feasM
  rw [← lateLots_eq]
  unfold Kp413.isFeasible
  rw [Bool.eq_iff_iff, List.all_eq_true, List.isEmpty_iff, List.filter_eq_nil_iff]
  constructor
  · intro h i hi
    have := h i hi
    simpa using this
  · intro h i hi
    have := h i hi
    simpa using this
theorem jobsOf_withLot (s : Scheduler) (r d h : Nat) : jobsOf (Kp413.withLot s r d h) = jobsOf s ++ [⟨r, d, h⟩] := by
  simp [jobsOf, Kp413.withLot, jobOf, remaining]
theorem jobsOf_longer {s : Scheduler} {i x : Nat} (h : i < s.lots.length) (hd : (lotAt s i).done ≤ (lotAt s i).hours) : jobsOf { s with lots := s.lots.set i { lotAt s i with hours := (lotAt s i).hours + x } } = longerM (jobsOf s) i x := by
  unfold longerM
  rw [jb_jobsOf h]
  show (s.lots.set i _).map jobOf = (s.lots.map jobOf).set i _
  rw [List.map_set]
  congr 1
  unfold jobOf remaining
  simp
  omega
/-- slack's loop -/
def slackM (js : List Job) (dt : List Nat) (now n : Nat) : Nat → Nat
  | 0 => 0
  | k + 1 => if feasM (longerM js n (k + 1)) dt now = true then k + 1 else slackM js dt now n k
theorem slackM_le (js : List Job) (dt : List Nat) (now n : Nat) : ∀ k, slackM js dt now n k ≤ k
  | 0 => Nat.le_refl _
  | k + 1 => by
    have := slackM_le js dt now n k
    unfold slackM
    split <;> omega
theorem slack_fold (js : List Job) (dt : List Nat) (now n : Nat) : ∀ k, ((List.range (k + 1)).filter fun x => feasM (longerM js n x) dt now).foldl max 0 = slackM js dt now n k
  | 0 => by
    show (List.filter _ [0]).foldl max 0 = 0
    simp only [List.filter_cons, List.filter_nil]
    split <;> rfl
  | k + 1 => by
    have h := slackM_le js dt now n k
    rw [List.range_succ, List.filter_append, List.foldl_append, slack_fold js dt now n k]
    show _ = if feasM (longerM js n (k + 1)) dt now = true then k + 1 else slackM js dt now n k
    simp only [List.filter_cons, List.filter_nil]
    split
    · show max (slackM js dt now n k) (k + 1) = k + 1
      omega
    · rfl
theorem slack_eq {s : Scheduler} {i : Nat} (h : i < s.lots.length) (hd : (lotAt s i).done ≤ (lotAt s i).hours) : Kp413.slackOf s i = slackM (jobsOf s) s.downtime s.now i 12 := by
  unfold Kp413.slackOf
  rw [← slack_fold]
  congr 1
  apply List.filter_congr
  intro x _
  rw [feas_eq, jobsOf_longer h hd]
/-! ### intervals -/
theorem cap_eq (s : Scheduler) (a b : Nat) : Kp413.capacity s a b = capM s.downtime s.now a b := by
  unfold Kp413.capacity capM
  by_cases h : a ≤ b
  · have e : b = a + (b - a) := by omega
    conv => lhs; rw [e, List.range_add, List.filter_append]
    have h1 : (List.range a).filter (fun t => decide (max a s.now ≤ t) && !s.downtime.contains t) = [] := by
      rw [List.filter_eq_nil_iff]
      intro t ht
      have := List.mem_range.mp ht
      simp
      omega
    rw [h1, List.nil_append, List.filter_map, List.length_map]
    congr 1
    apply List.filter_congr
    intro k _
    unfold freeM
    show (decide (max a s.now ≤ a + k) && _) = _
    congr 1
    rw [decide_eq_decide]
    omega
  · have h1 : (List.range b).filter (fun t => decide (max a s.now ≤ t) && !s.downtime.contains t) = [] := by
      rw [List.filter_eq_nil_iff]
      intro t ht
      have := List.mem_range.mp ht
      simp
      omega
    rw [h1, show b - a = 0 by omega]
    rfl
theorem dem_list (now a b : Nat) : ∀ l : List Job, (((List.range l.length).filter fun i => withinM now a b (jb l i)).map fun i => (jb l i).m) = (l.filter (withinM now a b)).map Job.m := fun l => by
  have e : (List.range l.length).map (fun i => jb l i) = l := by
    apply List.ext_getElem
    · simp
    · intro i h1 h2
      have : i < l.length := by simpa using h1
      simp [jb, List.getD_eq_getElem?_getD, this]
  conv => rhs; rw [← e]
  rw [List.filter_map, List.map_map]
  rfl
theorem dem_eq (s : Scheduler) (a b : Nat) : Kp413.demand s a b = demM (jobsOf s) s.now a b := by
  unfold demM
  rw [dem_list]
  unfold Kp413.demand jobsOf
  induction s.lots with
  | nil => rfl
  | cons x r ih =>
    rw [List.map_cons, List.sum_cons, ih, List.map_cons, List.filter_cons]
    by_cases c : a ≤ max x.release s.now ∧ x.deadline ≤ b
    · have e : withinM s.now a b (jobOf x) = true := by
        unfold withinM jobOf
        simp [c]
      rw [if_pos c, if_pos e]
      rfl
    · have e : ¬ withinM s.now a b (jobOf x) = true := by
        unfold withinM jobOf
        simp at c ⊢
        exact c
      rw [if_neg c, if_neg e]
      simp
end Mill
end
section
set_option Elab.async false
set_option linter.all false
set_option maxHeartbeats 1000000
namespace Mill
open Kp413 (Lot Scheduler lotAt remaining nextLot encode)
/-! ### the overloaded interval -/
def overS (s : Scheduler) (f l : Nat) : Prop := capM s.downtime s.now f l < demM (jobsOf s) s.now f l
theorem over_iff (s : Scheduler) (f l : Nat) : (decide (s.now ≤ f) && decide (Kp413.capacity s f l < Kp413.demand s f l)) = true ↔ s.now ≤ f ∧ overS s f l := by
  rw [cap_eq, dem_eq]
  simp [overS]
def pairs : List (Nat × Nat) := (List.range 25).flatMap fun first => ((List.range 25).filter fun last => decide (first ≤ last)).map fun last => (first, last)
theorem mem_pairs {f l : Nat} : (f, l) ∈ pairs ↔ f ≤ l ∧ l ≤ 24 := by
  simp [pairs]
  omega
theorem overl_none {s : Scheduler} (h : ∀ f l, s.now ≤ f → f ≤ l → l ≤ 24 → ¬ overS s f l) : Kp413.overloadedInterval s = none := by
  show pairs.find? _ = none
  rw [List.find?_eq_none]
  rintro ⟨f, l⟩ hx hp
  obtain ⟨h1, h2⟩ := mem_pairs.mp hx
  obtain ⟨h3, h4⟩ := (over_iff s f l).mp hp
  exact h f l h3 h1 h2 h4
/-- the first of a list of pairs in rising order -/
theorem find_first {p : Nat × Nat → Bool} {f l : Nat} : ∀ L : List (Nat × Nat), L.Pairwise (fun x y => x.1 < y.1 ∨ (x.1 = y.1 ∧ x.2 < y.2)) → (f, l) ∈ L → p (f, l) = true → (∀ f' l', (f', l') ∈ L → (f' < f ∨ (f' = f ∧ l' < l)) → p (f', l') = false) → L.find? p = some (f, l)
  | [], _, h, _, _ => by cases h
  | (a, b) :: r, hp, hm, ht, hno => by
    rw [List.find?_cons]
    rcases List.mem_cons.mp hm with e | hm'
    · cases e
      rw [ht]
    · have hlt := (List.pairwise_cons.mp hp).1 (f, l) hm'
      rw [hno a b List.mem_cons_self hlt]
      exact find_first r (List.pairwise_cons.mp hp).2 hm' ht fun f' l' h1 h2 => hno f' l' (List.mem_cons_of_mem _ h1) h2
theorem pairs_rise : pairs.Pairwise (fun x y => x.1 < y.1 ∨ (x.1 = y.1 ∧ x.2 < y.2)) := by
  unfold pairs
  rw [List.pairwise_flatMap]
  constructor
  · intro a _
    rw [List.pairwise_map]
    exact ((List.pairwise_lt_range (n := 25)).filter _).imp fun h => .inr ⟨rfl, h⟩
  · refine (List.pairwise_lt_range (n := 25)).imp fun h => ?_
    rintro ⟨a, b⟩ hx ⟨c, d⟩ hy
    simp only [List.mem_map, Prod.mk.injEq] at hx hy
    obtain ⟨_, _, rfl, _⟩ := hx
    obtain ⟨_, _, rfl, _⟩ := hy
    exact .inl h
theorem overl_some {s : Scheduler} {f l : Nat} (h1 : s.now ≤ f) (h2 : f ≤ l) (h3 : l ≤ 24) (ho : overS s f l) (hno : ∀ f' l', s.now ≤ f' → f' ≤ l' → l' ≤ 24 → (f' < f ∨ (f' = f ∧ l' < l)) → ¬ overS s f' l') : Kp413.overloadedInterval s = some (f, l) := by
  show pairs.find? _ = some (f, l)
  refine find_first pairs pairs_rise (mem_pairs.mpr ⟨h2, h3⟩) ((over_iff s f l).mpr ⟨h1, ho⟩) fun f' l' hm hlt => ?_
  rw [Bool.eq_false_iff]
  intro hp
  obtain ⟨h4, h5⟩ := (over_iff s f' l').mp hp
  obtain ⟨h6, h7⟩ := mem_pairs.mp hm
  exact hno f' l' h4 h6 h7 hlt h5
/-! ### check_plan -/
theorem zip_all {q : Option Nat × Nat → Bool} : ∀ (l : List (Option Nat)), l.zipIdx.all q = (List.range l.length).all fun p => q (l.getD p none, p) := fun l => by
  rw [Bool.eq_iff_iff, List.all_eq_true, List.all_eq_true]
  constructor
  · intro h p hp
    have hp' := List.mem_range.mp hp
    refine h _ ?_
    rw [List.mem_zipIdx_iff_getElem?]
    simp [List.getD_eq_getElem?_getD, hp']
  · rintro h ⟨x, i⟩ hx
    rw [List.mem_zipIdx_iff_getElem?] at hx
    have hi : i < l.length := by
      have := (List.getElem?_eq_some_iff.mp hx).1
      exact this
    have := h i (List.mem_range.mpr hi)
    rw [List.getD_eq_getElem?_getD, show l[i]? = some x from hx] at this
    exact this
theorem decode_count (l : List Nat) (n : Nat) : ((l.map Kp413.decode).filter fun x => x == some n).length = countM l n := by
  have h := take_count (P := l.map Kp413.decode) (n := n) (l.map Kp413.decode).length (Nat.le_refl _)
  rw [List.take_of_length_le (Nat.le_refl _)] at h
  rw [h, List.map_map]
  have e : (l.map (encode ∘ Kp413.decode)) = l := by
    conv => rhs; rw [← List.map_id l]
    apply List.map_congr_left
    intro x _
    show encode (Kp413.decode x) = x
    unfold Kp413.decode encode
    split
    · rename_i h
      split at h
      · omega
      · cases h
    · rename_i i h
      split at h
      · cases h
      · have := Option.some.inj h
        omega
  rw [e, List.length_map]
  rfl
theorem meets_eq (s : Scheduler) (l : List Nat) : Kp413.meetsDeadlines s (l.map Kp413.decode) = meetsM (jobsOf s) s.downtime s.now l := by
  unfold Kp413.meetsDeadlines meetsM
  congr 1
  · rw [zip_all, List.length_map]
    have hc : ∀ p, p < l.length → (match ((l.map Kp413.decode).getD p none, p).1 with
        | none => true
        | some i => !s.downtime.contains (s.now + ((l.map Kp413.decode).getD p none, p).2) && decide (i < s.lots.length) && decide ((lotAt s i).release ≤ s.now + ((l.map Kp413.decode).getD p none, p).2) && decide (s.now + ((l.map Kp413.decode).getD p none, p).2 < (lotAt s i).deadline)) = fits (jobsOf s) s.downtime (s.now + p) (l.getD p 0) := by
      intro p hp
      have e : (l.map Kp413.decode).getD p none = Kp413.decode (l.getD p 0) := by
        rw [List.getD_eq_getElem?_getD, List.getD_eq_getElem?_getD, List.getElem?_map]
        simp [hp]
      rw [e]
      generalize l.getD p 0 = x
      unfold fits Kp413.decode
      by_cases h0 : x = 0
      · rw [if_pos h0, if_pos h0]
      · rw [if_neg h0, if_neg h0, jobsOf_length]
        by_cases hx : s.lots.length < x
        · rw [if_pos hx]
          have : ¬ x - 1 < s.lots.length := by omega
          simp [this]
        · rw [if_neg hx]
          have h1 : x - 1 < s.lots.length := by omega
          rw [jb_jobsOf h1]
          simp [h1, jobOf, Bool.and_assoc]
          rfl
    rw [Bool.eq_iff_iff, List.all_eq_true, List.all_eq_true]
    constructor
    · intro h p hp
      rw [← hc p (List.mem_range.mp hp)]
      exact h p hp
    · intro h p hp
      have := h p hp
      rw [← hc p (List.mem_range.mp hp)] at this
      exact this
  · rw [jobsOf_length, Bool.eq_iff_iff, List.all_eq_true, List.all_eq_true]
    constructor
    · intro h n hn
      have := h n hn
      rw [decode_count] at this
      rw [jb_jobsOf (List.mem_range.mp hn)]
      exact decide_eq_true (by simpa [jobOf] using this)
    · intro h n hn
      have := h n hn
      rw [jb_jobsOf (List.mem_range.mp hn)] at this
      rw [decode_count]
      have h2 := of_decide_eq_true this
      simpa [jobOf] using h2
/-! ### changeovers, idle hours -/
theorem milled_eq (P : List (Option Nat)) : (P.filter fun x => x != none).map encode = milledM (P.map encode) := by
  unfold milledM
  rw [List.filter_map]
  congr 1
  apply List.filter_congr
  intro x _
  cases x <;> simp [encode]
theorem encode_inj {x y : Option Nat} : encode x = encode y ↔ x = y := by
  cases x <;> cases y <;> simp [encode]
theorem changes_eq (P : List (Option Nat)) : Kp413.changeoverCount P = changesM (P.map encode) := by
  unfold Kp413.changeoverCount changesM
  rw [← milled_eq]
  show ((List.range ((P.filter fun x => x != none).length - 1)).filter _).length = _
  rw [List.length_map]
  congr 1
  apply List.filter_congr
  intro k hk
  have hk' := List.mem_range.mp hk
  generalize P.filter (fun x => x != none) = Q at hk'
  have h1 : k < Q.length := by omega
  have h2 : k + 1 < Q.length := by omega
  simp only [List.getD_eq_getElem?_getD, List.getElem?_map, List.getElem?_eq_getElem h1, List.getElem?_eq_getElem h2, Option.map_some, Option.getD_some]
  rw [Bool.eq_iff_iff]
  simp [encode_inj]
theorem idle_eq (P : List (Option Nat)) : (P.filter fun x => x == none).length = ((P.map encode).filter fun e => decide (e = 0)).length := by
  rw [List.filter_map, List.length_map]
  congr 1
  apply List.filter_congr
  intro x _
  cases x <;> simp [encode]
end Mill
end
section
set_option Elab.async false
set_option linter.all false
set_option maxHeartbeats 1000000
namespace Mill
open Kp413 (Lot Scheduler lotAt remaining nextLot encode)
def opOf : Kp413.Call → Nat
  | .create => 0
  | .addLot _ _ _ => 1
  | .removeLastLot _ => 2
  | .getLot _ => 3
  | .addDowntime _ => 4
  | .removeDowntime _ => 5
  | .plan => 6
  | .isFeasible => 7
  | .completionHour _ => 8
  | .lateLots => 9
  | .overloadedInterval => 10
  | .intervalLoad _ _ => 11
  | .checkPlan _ => 12
  | .runHour => 13
  | .runHours _ => 14
  | .slack _ => 15
  | .isFeasibleWith _ _ _ => 16
  | .idleHours => 17
  | .changeovers => 18
  | .getLog => 19
  | .status => 20
def argsOf : Kp413.Call → List Nat
  | .addLot r d h => [r, d, h]
  | .removeLastLot n => [n]
  | .getLot n => [n]
  | .addDowntime n => [n]
  | .removeDowntime n => [n]
  | .completionHour n => [n]
  | .intervalLoad x y => [x, y]
  | .checkPlan l => l
  | .runHours n => [n]
  | .slack n => [n]
  | .isFeasibleWith r d h => [r, d, h]
  | _ => []
theorem nat_cast {z : Int} (h : Kp413Neutral.natural z = true) : z = ((z.toNat : Nat) : Int) := by
  unfold Kp413Neutral.natural at h
  simp at h
  omega
theorem nats_cast : ∀ {l : List Int}, l.all Kp413Neutral.natural = true → l = (l.map Int.toNat).map fun (n : Nat) => (n : Int)
  | [], _ => rfl
  | z :: r, h => by
    rw [List.all_cons, Bool.and_eq_true] at h
    rw [List.map_cons, List.map_cons, ← nats_cast h.2, ← nat_cast h.1]
/-- a call that may be asked -/
theorem asked_call {c : List (List Int)} (h : Kp413Neutral.asked1 c = true) : ∃ x : Kp413.Call, Kp413Neutral.callOf c = some x ∧ c = [(opOf x : Int) :: (argsOf x).map fun (n : Nat) => (n : Int)] ∧ (argsOf x).length ≤ 30 := by
  unfold Kp413Neutral.asked1 at h
  split at h
  all_goals first
    | exact ⟨_, rfl, rfl, by decide⟩
    | (have e := nat_cast h; exact ⟨_, rfl, by simp only [opOf, argsOf, List.map_cons, List.map_nil, ← e]; rfl, by simp [argsOf]⟩)
    | (have h2 := Bool.and_eq_true_iff.mp h; have e := nat_cast h2.1; have e2 := nat_cast h2.2; exact ⟨_, rfl, by simp only [opOf, argsOf, List.map_cons, List.map_nil, ← e, ← e2]; rfl, by simp [argsOf]⟩)
    | (have h2 := Bool.and_eq_true_iff.mp h; have h3 := Bool.and_eq_true_iff.mp h2.2; have e := nat_cast h2.1; have e2 := nat_cast h3.1; have e3 := nat_cast h3.2; exact ⟨_, rfl, by simp only [opOf, argsOf, List.map_cons, List.map_nil, ← e, ← e2, ← e3]; rfl, by simp [argsOf]⟩)
    | (rename_i l; have h2 := Bool.and_eq_true_iff.mp h; have e := nats_cast h2.1; exact ⟨_, rfl, congrArg (fun q => [(12 : Int) :: q]) e, by show (l.map Int.toNat).length ≤ 30; rw [List.length_map]; exact of_decide_eq_true h2.2⟩)
    | exact absurd h Bool.false_ne_true
/-- a call as it is handed in -/
def flat1 (x : Kp413.Call) : List Nat := opOf x :: (argsOf x).length :: (argsOf x ++ [0])
def flat (cs : List Kp413.Call) : List Nat := cs.flatMap flat1
/-- what is answered, from a state on -/
def due : Kp413.State → List Kp413.Call → List Int
  | _, [] => []
  | st, c :: r => ((((Kp413.step st c).2.nums.length + 1 : Nat) : Int) :: (Kp413.step st c).2.num :: (Kp413.step st c).2.nums) ++ due (Kp413.step st c).1 r
theorem put1_flat (x : Kp413.Call) : PyWide.put1 [(opOf x : Int) :: (argsOf x).map fun (n : Nat) => (n : Int)] = (flat1 x).map fun (n : Nat) => (n : Int) := by
  simp [PyWide.put1, PyFlat.putRow, PyFlat.putRows, flat1]
theorem step_due (st : Kp413.State) (c : List (List Int)) (x : Kp413.Call) (h : Kp413Neutral.callOf c = some x) : Kp413Neutral.step st c = ((Kp413.step st x).1, (Kp413.step st x).2.num :: (Kp413.step st x).2.nums) := by
  unfold Kp413Neutral.step
  rw [h]
theorem calls_due : ∀ (cs : List (List (List Int))), cs.all Kp413Neutral.asked1 = true → ∃ xs : List Kp413.Call, PyWide.put cs = (flat xs).map (fun (n : Nat) => (n : Int)) ∧ xs.length = cs.length ∧ (∀ x ∈ xs, (argsOf x).length ≤ 30) ∧ ∀ st, PyFlat.told (PyFlat.played Kp413Neutral.step st cs) = due st xs
  | [], _ => ⟨[], rfl, rfl, (fun x h => by cases h), fun _ => rfl⟩
  | c :: r, h => by
    rw [List.all_cons, Bool.and_eq_true] at h
    obtain ⟨xs, h1, h2, h3, h4⟩ := calls_due r h.2
    obtain ⟨x, hx, hc, hl⟩ := asked_call h.1
    refine ⟨x :: xs, ?_, by simp [h2], fun y hy => ?_, fun st => ?_⟩
    · show PyWide.put1 c ++ PyWide.put r = ((flat1 x) ++ flat xs).map _
      rw [hc, put1_flat, h1, List.map_append]
    · rcases List.mem_cons.mp hy with z | z
      · rw [z]
        exact hl
      · exact h3 y z
    · have hs := step_due st c x hx
      show PyFlat.told ((Kp413Neutral.step st c).2 :: PyFlat.played Kp413Neutral.step (Kp413Neutral.step st c).1 r) = _
      rw [hs]
      show ((((Kp413.step st x).2.num :: (Kp413.step st x).2.nums).length : Int) :: ((Kp413.step st x).2.num :: (Kp413.step st x).2.nums)) ++ PyFlat.told (PyFlat.played Kp413Neutral.step (Kp413.step st x).1 r) = _
      rw [h4]
      rfl
/-- what a request that may be asked is -/
theorem request {l : List Int} (h : PyKp413.answers_asked l = true) : ∃ xs : List Kp413.Call, l = (flat xs).map (fun (n : Nat) => (n : Int)) ∧ (∀ x ∈ xs, (argsOf x).length ≤ 30) ∧ PyKp413.answers l = due none xs ∧ (due none xs).length ≤ 10000000 := by
  unfold PyKp413.answers_asked at h
  cases e : PyKp413.calls l with
  | none => rw [e] at h; cases h
  | some cs =>
    rw [e] at h
    have h' : (PyFlat.atMost 60 cs && Kp413Neutral.asked cs && PyFlat.short 10000000 (PyKp413.answers l)) = true := h
    obtain ⟨h1, h2⟩ := Bool.and_eq_true_iff.mp h'
    obtain ⟨h3, h4⟩ := Bool.and_eq_true_iff.mp h1
    obtain ⟨h5, h6⟩ := PyWide.put_calls _ _ _ e
    have h7 : cs.all Kp413Neutral.asked1 = true := by
      unfold Kp413Neutral.asked at h4
      exact (Bool.and_eq_true_iff.mp (Bool.and_eq_true_iff.mp h4).2).2
    obtain ⟨xs, x1, x2, x3, x4⟩ := calls_due cs h7
    have ha : PyKp413.answers l = due none xs := by
      unfold PyKp413.answers
      rw [e]
      exact x4 none
    refine ⟨xs, h5.trans x1, x3, ha, ?_⟩
    rw [← ha]
    unfold PyFlat.short at h2
    exact of_decide_eq_true h2
end Mill
end
section
set_option Elab.async false
set_option linter.all false
set_option maxRecDepth 100000
set_option maxHeartbeats 2000000
namespace Mill
open PySem
def top (i : Nat) : Stmt := PySem.Challenge.pw_millhoursworks_s01_answers.main.body.getD i (.Pass ⟨0, 0, 0, 0⟩)
abbrev sRefI : Stmt := L2.inClass (top 8) 0
end Mill
namespace PySem
namespace RefX
open PySem.W PySem.Calls PyProof.Rows PySem.HandSPX
/-- what the written part says of Refused, at C, and of its __init__, at fI -/
structure RefTxt (K : Frag) (mg : Str → Option Value) (C fI : Addr) : Prop where
  gC : mg "Refused" = some (.ref C)
  gE : mg "Exception" = none
  vE : findCls K (.type "Exception") (.type "type") "__init__" = some (.val (.builtin "Exception.__init__"))
  cls : ∃ nm q N bs sn sub ab col dd k0 k1 k2 k3 k5, K.lookup C = some (excClassObj nm q C N bs [.type "Exception", .type "BaseException", .type "object"] true sn sub ab col dd k0 k1 k2 k3 k5 "Exception.__new__")
  sa : findIn K (.ref C) "__setattr__" = some (some (.builtin "object.__setattr__"))
  ga : findIn K (.ref C) "__getattribute__" = some (some (.builtin "BaseException.__getattribute__"))
  gg : findIn K (.ref C) "__getattr__" = some none
  noN : findIn K (.ref C) "code" = some none
  iC : findIn K (.ref C) "__init__" = some (some (.ref fI))
  tC : typeIn K (.ref fI) = some (.type "function")
  kC : keepIn K (.ref C) = true
  exC : subIn K (.ref C) (.type "BaseException") = some true
  tyC : typeIn K (.ref C) = some (.type "type")
  hdC : hasDictIn K C = true
  te : exmOne K (.ref C) (.ref C) = some true
  fn : ∃ (oc : Value) (od : Option Addr) (doc pm : Value) (an : Option Addr) (cdv ct : Value) (osl : Array (Option Value)),
    K.lookup fI = some ⟨oc, od, .func (fnOf "__init__" "Refused.__init__" (L2.defArgs Mill.sRefI) (L2.defBody Mill.sRefI) (L2.defScope Mill.sRefI) .none .none doc pm an cdv ct), osl⟩ ∧ codeIn K cdv "Refused.__init__" = true
theorem one_size (v : Value) : [v].length ≤ sizeLine := by
  rw [sizeLine_eq]
  exact (by decide : 1 ≤ 16777216)
theorem kept_but {K : Frag} {h h' : Heap} {x : Addr} (X : K.In h) (hx : K.lookup x = none) (k : ∀ b o, b ≠ x → h.get? b = some o → h'.get? b = some o) : K.In h' := fun a o e =>
  k a o (fun z => by rw [z, hx] at e; cases e) (X a o e)
theorem typ_E : typeOf (.type "Exception") = pure (.type "type") := by kernel_rfl
theorem ldC {M : Model} {s : Shared} {name : Str} {scope : Scope} {L a : Addr} {cd : Value} {m : Str → Option Value} {x : Str} {pos : Pos} {v : Value} {Q : Value → Shared → Prop} {A : Around} {E : Value → Shared → Prop} (hn : s.heap.Ns L m) (hv : m x = some v) (h : Q v s)
    (hk : scope.kind = .function := by rfl) (hl : (envOfC name scope L a cd).kindOf x = some .local := by rfl) (hd : (x == ("__debug__" : Str)) = false := by decide) :
    wpAny M A (eval (.Name x pos) (envOfC name scope L a cd)) Q E s := wpAny_Name (wpAny_loadName_local hk hl hn hv h) hd
/-- what __init__ leaves of a fresh exception at x -/
structure InitEnd (h h' : Heap) (x C dx t1 : Addr) (v : Value) : Prop where
  keep : ∀ b o, b ≠ x → h.get? b = some o → h'.get? b = some o
  obj : h'.get? x = some { cls := .ref C, dict := some dx, data := .fields #[.ref t1, .none, .none, .none, .bool false, .none] }
  dbig : h.objs.size ≤ dx
  dne : dx ≠ x
  ns : h'.Ns1 dx (fun y => if y = "code" then some v else none)
/-- a made Refused -/
structure OwnMade (h h' : Heap) (e C d : Addr) (v : Value) : Prop where
  keep : ∀ b o, h.get? b = some o → h'.get? b = some o
  new : h.objs.size ≤ e
  obj : ∃ oe vs, h'.get? e = some oe ∧ oe.cls = .ref C ∧ oe.dict = some d ∧ oe.data = .fields vs ∧ vs[1]? = some .none
  dbig : h.objs.size ≤ d
  dne : d ≠ e
  ns : h'.Ns1 d (fun y => if y = "code" then some v else none)
section
variable {prog : Program} {w : World} {A : Around} {E : Value → Shared → Prop} {R : Result → Shared → Prop} {s : Shared} {K : Frag} {mg : Str → Option Value} {C fI : Addr}
theorem ref_init (T : RefTxt K mg C fI) {x t0 : Addr} {v : Value} {mb : Str → Option Value} (X : K.In s.heap) (hlim : s.heap.NoLimit) (hg : s.heap.Ns mainGlobals mg) (hb : s.heap.Ns builtinsNs mb) (hE : mb "Exception" = some (.type "Exception"))
    (hx : s.heap.get? x = some (excO C t0)) (hnx : K.lookup x = none) (hroom : A.depth < recursionLimit)
    (hq : ∀ h' tk dx t1, InitEnd s.heap h' x C dx t1 v → R (.ok (.ret .none)) { s with heap := h', toks := tk }) :
    codeAny (model prog w) A (.call (.ref fI) ⟨[.ref x, v], []⟩) R s := by
  obtain ⟨oc, od, doc, pm, an, cdv, ct, osl, ho, hcd⟩ := T.fn
  obtain ⟨nm, q, N, bs, sn, sub, ab, col, dd, k0, k1, k2, k3, k5, hC⟩ := T.cls
  have hcl : clsIn K C = some { name := nm, bases := bs, mro := .ref C :: [.type "Exception", .type "BaseException", .type "object"], ns := N, qualname := q, hasDict := true, slotNames := sn, subclasses := sub, abstract := ab, collection := col, hasDel := false } := by unfold clsIn; rw [hC] <;> rfl
  refine Att.call_fn (binds := [("self", .ref x), ("code", v)]) X hlim ho hcd hroom (BindsTo.of_eq (by first | rfl | with_unfolding_all rfl)) (by first | rfl | decide | with_unfolding_all rfl) (fun s₁ IC => ?_) rfl rfl rfl
  obtain ⟨h₁, tk₁, rfl⟩ := IC.toInCall.same
  have k : ∀ b o, s.heap.get? b = some o → h₁.get? b = some o := IC.toInCall.keep
  have hn := IC.toInCall.ns
  have hxL : s.heap.objs.size ≠ x := Nat.ne_of_gt (Heap.lt_size hx)
  have X₁ : K.In h₁ := X.keeps k
  have hx₁ := k _ _ hx
  have hg₁ := hg.keeps k
  have hb₁ := hb.keeps k
  -- Exception.__init__(self, 'refused')
  show wpAny _ _ (execs _ _) _ _ _
  refine wpAny_execs_cons (wpAny_Expr ?_)
  refine PySem.W.methodCall_KW (Calls.Name_function_global (by rfl) (by rfl) (Calls.loadGlobal_builtin hg₁ T.gE hb₁ hE ?_))
  have FR : Fr s.heap s.heap.objs.size h₁ _ := ⟨hn, k, Nat.le_refl _⟩
  refine PySem.W.method_type FR X typ_E (by decide +kernel) T.vE (by decide +kernel) ?_
  show wpAny _ _ (callWith _ (Value.builtin "Exception.__init__") [] (backTo _ (starEach [_, _] _)) []) _ _ _
  refine PyProof.Rows.callWith_method1 (Calls.spliced_cons (ldC (v := .ref x) hn (by first | rfl | with_unfolding_all rfl | kernel_rfl) (Calls.spliced_cons (Calls.Constant_str (x := "refused") (k := 0) (pos := ⟨12, 33, 12, 42⟩) (Calls.spliced_nil ?_))))) rfl rfl
  refine wpAny_call (PySem.HandSPX.init_base F.excBase_Exception (fun Y => rfl) (X₁ _ _ hC) hx₁ (one_size _) fun h₂ t1 k₂ hx₂ => ?_)
  have X₂ : K.In h₂ := kept_but X₁ hnx k₂
  have hn₂ := hn.at fun o e => k₂ _ o hxL e
  -- self.code = code
  show wpAny _ _ (execs _ _) _ _ _
  refine wpAny_execs_cons (plainObj_wpAny_Assign_Attribute ?_)
  refine ldC (v := v) hn₂ (by first | rfl | with_unfolding_all rfl | kernel_rfl) (ldC (v := .ref x) hn₂ (by first | rfl | with_unfolding_all rfl | kernel_rfl) ?_)
  refine set_plain X₂ (ox := excO C t1) (od := none) ⟨hx₂, rfl, rfl, trivial⟩ T.sa ?_
  refine PySem.ESX.osa_new X₂ hx₂ hcl rfl rfl T.noN (fun h₃ tk₃ dx k₃ dn dne hx₃ hn₃ => ?_)
  show wpAny _ _ (execs _ _) _ _ _
  have z : s.heap.objs.size < h₂.objs.size := hn₂.lt
  exact wpAny_execs_nil (hq h₃ tk₃ dx t1 ⟨fun b o hb e => k₃ b o hb (k₂ b o hb (k b o e)), hx₃, Nat.le_of_lt (Nat.lt_of_lt_of_le z dn), dne, hn₃⟩)
theorem ref_made (T : RefTxt K mg C fI) {v : Value} {mb : Str → Option Value} (X : K.In s.heap) (hlim : s.heap.NoLimit) (hg : s.heap.Ns mainGlobals mg) (hb : s.heap.Ns builtinsNs mb) (hE : mb "Exception" = some (.type "Exception")) (hroom : A.depth + 1 < recursionLimit)
    (hq : ∀ h' tk e d, OwnMade s.heap h' e C d v → R (.ok (.ret (.ref e))) { s with heap := h', toks := tk }) :
    codeAny (model prog w) A (.call (.ref C) ⟨[v], []⟩) R s := by
  obtain ⟨nm, q, N, bs, sn, sub, ab, col, dd, k0, k1, k2, k3, k5, hC⟩ := T.cls
  obtain ⟨hp, g, dr, tk, os⟩ := s
  have k : ∀ b o, hp.get? b = some o → ((hp.push (kdv_tup [v])).push (excO C hp.objs.size)).get? b = some o := fun b o e => Heap.get?_push_of_some _ (Heap.get?_push_of_some _ e)
  have hget : ((hp.push (kdv_tup [v])).push (excO C hp.objs.size)).get? (hp.objs.size + 1) = some (excO C hp.objs.size) := by heap_get
  have hnx : K.lookup (hp.objs.size + 1) = none := by
    cases e : K.lookup (hp.objs.size + 1) with
    | none => rfl
    | some o =>
      have z : hp.get? (hp.objs.size + 1) = some o := X _ _ e
      exact absurd (Nat.lt_of_succ_lt (Heap.lt_size z)) (Nat.lt_irrefl _)
  refine call_own F.excBase_Exception (fun X => rfl) (X _ _ hC) (looks_findIn X T.iC) (fun self => bind_fn X self T.tC) (one_size v) ?_
  refine ref_init (s := ⟨(hp.push (kdv_tup [v])).push (excO C hp.objs.size), g, dr, tk, os⟩) T (X.keeps k) (hlim.keeps k) (hg.keeps k) (hb.keeps k) hE hget hnx ?_ fun h' tk' dx t1 ⟨k', hx, dn, dne, hns⟩ => ?_
  · show A.depth + 1 < recursionLimit
    exact hroom
  · have old : ∀ b o, hp.get? b = some o → h'.get? b = some o := fun b o e => k' b o (Nat.ne_of_lt (Nat.lt_succ_of_lt (Heap.lt_size e))) (k b o e)
    have z : hp.objs.size + 1 + 1 ≤ dx := by
      first
        | (simpa only [Heap.size_push] using dn)
        | exact dn
        | (have q := dn; rw [Heap.size_push, Heap.size_push] at q; exact q)
    exact ⟨rfl, hq h' tk' (hp.objs.size + 1) dx ⟨old, Nat.le_succ _, ⟨_, _, hx, rfl, rfl, rfl, rfl⟩, Nat.le_trans (Nat.le_trans (Nat.le_succ _) (Nat.le_succ _)) z, dne, hns⟩⟩
end
end RefX
end PySem
namespace L2
open PySem PySem.Spec PyProof.Rows
theorem relO_code {v : V} {v' : Value} (r : RelV v v') (f : Str) : RelO (List.lookup f [(("code" : Str), v)]) (if f = "code" then some v' else none) := by
  by_cases hw : f = "code"
  · subst hw
    rw [if_pos rfl]
    have q : List.lookup ("code" : Str) [(("code" : Str), v)] = some v := by simp [List.lookup]
    rw [q]
    exact r
  · rw [if_neg hw]
    have qw : (f == ("code" : Str)) = false := by simpa using hw
    have q2 : List.lookup f [(("code" : Str), v)] = none := by simp [List.lookup, qw]
    rw [q2]
    trivial
section
variable {X : Cx} {C fI : Addr}
/-- Refused(e) -/
def tMkRef (C : Addr) (ta : TA) : St → Hp → XK → Prop := fun σ H Q => ta σ H fun vs H1 => ∃ v, vs = [v] ∧ ∀ d, H1 d = none → Q (.ref C) (some d) (upd H1 d (.xd [(("code" : Str), v)]))
theorem pmk_ref {a : Expr} {ta : TA} {p pos : Pos} {k : Nat} (T : PySem.RefX.RefTxt X.K X.mg C fI) (hr : Room k X.A) (ha : PA X [a] ta) (hg : Gl X "Refused" := by rfl)
    (he : starEach (a :: []) X.env = (false, eval a X.env) :: starEach [] X.env := by rfl) (hpl : (backTo pos (starEach [] X.env)).any (·.1) = false := by rfl) :
    PMk X (.Call (.Name "Refused" p) [a] [] pos) (tMkRef C ta) := by
  intro pins s σ H Q I h
  refine wpAny_Call_Name_kw (ld_glob I hg T.gC ?_)
  refine PySem.W.callWith_K (h₀ := X.base) I.ok.mod.kin T.kC (thn (ha.run pos pins s σ H _ I h) fun us s1 hh => ?_) he hpl
  obtain ⟨vs, H1, I1, r1, v, ev, q1⟩ := hh
  subst ev
  refine ⟨I1.kIn, ?_⟩
  cases r1 with
  | cons rv rn =>
    rename_i v' us'
    cases rn
    show wpAny _ _ (call (.ref C) [v']) _ _ _
    have hlim := I1.nolimit
    obtain ⟨mb, hb1, hb2⟩ := I1.mod.blt
    have hb3 := hb1.keeps I1.bk
    have hg3 := I1.mod.glob.keeps I1.bk
    obtain ⟨hp, g, dr, tk, os⟩ := s1
    refine wpAny_call (PySem.RefX.ref_made T I1.kIn hlim hg3 hb3 ((hb2 "Exception" (by decide)).trans PyProof.Rows.Boot.«Exception») (by have := hr.dp; omega) fun h' tk' e d M => ?_)
    show MkP X pins σ Q (.ref e) ⟨h', g, dr, tk', os⟩
    obtain ⟨oe, fv, hoe, hc, hd, hdat, h1⟩ := M.obj
    have hns := M.ns
    obtain ⟨G', g1, g2⟩ := restrict h' fun b => decide (b ≠ e)
    have gk : ∀ b, b ≠ e → G'.get? b = h'.get? b := fun b hb => g1 b (decide_eq_true hb)
    have ge : G'.get? e = none := g2 e (by simp)
    have old : ∀ b o, hp.get? b = some o → G'.get? b = some o := fun b o q => (gk b (Nat.ne_of_lt (Nat.lt_of_lt_of_le (Heap.lt_size q) M.new))).trans (M.keep b o q)
    have ob : ObjOk X.prog X.w (upd H1 d (.xd [(("code" : Str), v)])) G' d (.xd [(("code" : Str), v)]) :=
      ⟨_, hns.at (fun o q => (gk d M.dne).trans q), fun f => relO_code rv f⟩
    have J : Inv X pins σ (upd H1 d (.xd [(("code" : Str), v)])) ⟨G', g, dr, tk', os⟩ := I1.laid (t' := tk') old M.dbig ob
    refine ⟨e, oe, fv, ⟨G', g, dr, tk', os⟩, _, .ref C, some d, rfl, J, fun b o q => ?_, ge, hoe, ⟨hc, hd⟩, hdat, h1, ?_, rfl, I1.bare, raises_own T.exC T.tyC, q1 d (I1.hok.fresh M.dbig)⟩
    · by_cases hb : b = e
      · have q' : G'.get? b = some o := q
        rw [hb, ge] at q'; cases q'
      · exact (gk b hb).symm.trans q
    · rw [upd_ne (Ne.symm M.dne)]
      exact I1.hok.fresh M.new
/-- raise Refused(e) -/
def tRaiseRef (C : Addr) (W : WX) (ta : TA) : TS := fun _ σ H => tMkRef C ta σ H fun cls d H' => W cls d σ H'
theorem ps_raiseRef {a : Expr} {ta : TA} {W : WX} {p pos pos2 : Pos} {k : Nat} (hc : X.calm = true) (T : PySem.RefX.RefTxt X.K X.mg C fI) (hr : Room k X.A) (tk : Takes X W) (ha : PA X [a] ta) (hg : Gl X "Refused" := by rfl)
    (he : starEach (a :: []) X.env = (false, eval a X.env) :: starEach [] X.env := by rfl) (hpl : (backTo pos (starEach [] X.env)).any (·.1) = false := by rfl) :
    PS X (.Raise (some (.Call (.Name "Refused" p) [a] [] pos)) none pos2) (tRaiseRef C W ta) := ps_raise hc tk (pmk_ref T hr ha hg he hpl)
/-- e.code, e the exception that the suite holds (at a; its class cls, its dict d) -/
def tCode (C : Addr) (a : Addr) (cls : Value) (d : Option Addr) (te : TE) : TE := fun σ H Q => te σ H fun x H1 => x = .ref a ∧ cls = .ref C ∧ ∃ (dd : Addr) (v : V), d = some dd ∧ H1 dd = some (.xd [(("code" : Str), v)]) ∧ Q v H1
theorem pe_code {a : Addr} {oe : Obj} {cls : Value} {d : Option Addr} {pn : List (Addr × Obj)} {e : Expr} {te : TE} {pos : Pos} (T : PySem.RefX.RefTxt X.K X.mg C fI) (hz : Zc cls d oe) (hf : ∃ vs, oe.data = .fields vs) (he : PE (X.suite a ((a, oe) :: pn)) e te)
    (hb : attributeBase e "code" X.env (eval e X.env) = eval e X.env := by rfl) :
    PE (X.suite a ((a, oe) :: pn)) (.Attribute e "code" pos) (tCode C a cls d te) := by
  refine ⟨fun pins s σ H Q I h => ?_⟩
  refine attr_of hb (thn (he.run pins s σ H _ I h) fun u s1 hh => ?_)
  obtain ⟨x, H1, I1, rx, ex, ec, dd, v, ed, ea, q⟩ := hh
  subst ex
  obtain rfl : u = Value.ref a := rx
  subst ec
  subst ed
  obtain ⟨ha, _⟩ := I1.pin (a, oe) (List.mem_append_left _ List.mem_cons_self)
  obtain ⟨vs, hd⟩ := hf
  have hx : ObjOk X.prog X.w H1 s1.heap dd (.xd [(("code" : Str), v)]) := I1.hok dd _ ea
  obtain ⟨mA, hns, hr⟩ := hx
  obtain ⟨od, ho, hl⟩ := lookIn_ns hns
  have l : List.lookup ("code" : Str) [(("code" : Str), v)] = some v := by simp [List.lookup]
  obtain ⟨u, hu, ru⟩ := RelO.some_of (v := v) (o := mA "code") (by rw [← l]; exact hr "code")
  have J : PySem.W.InstAt s1.heap a oe C (some od) := ⟨ha, hz.1, by unfold PySem.W.notCls; rw [hd] <;> rfl, by rw [hz.2]; exact ho⟩
  exact HandSPX.exc_get I1.kIn J T.ga T.gg T.exC (PySem.W.findObj_own T.hdC T.noN rfl (by rw [hl, hu])) (handed_of ru) ⟨v, H1, I1.tok _, ru, q⟩
end
/-- an if whose test is known -/
theorem if_true_of {c : Bool} {A B : Prop} (hc : c = true) (h : A) : if c = true then A else B := by
  rw [if_pos hc]
  exact h
theorem if_false_of {c : Bool} {A B : Prop} (hc : c = false) (h : B) : if c = true then A else B := by
  rw [hc, if_neg Bool.false_ne_true]
  exact h
end L2
end
section
set_option Elab.async false
set_option linter.all false
set_option maxRecDepth 100000
set_option maxHeartbeats 2000000
namespace Mill
open PySem PySem.Spec PyProof.Rows L2 Evl
/-! ### a chain of three comparisons -/
section
variable {X : Cx} {a b c e : Expr} {ta tb tc td : TE} {pos : Pos}
def tChain3 (r r' r'' : R2) (ta tb tc td : TE) : TE := fun σ H Q => ta σ H fun x H1 => tb σ H1 fun y H2 => r x y H2 fun z H3 => ∃ k, z = .bl k ∧
  (if k = true then tc σ H3 fun w' H4 => r' y w' H4 fun z' H5 => ∃ k', z' = .bl k' ∧ (if k' = true then td σ H5 fun v' H6 => r'' w' v' H6 Q else Q (.bl false) H5) else Q (.bl false) H3)
theorem pe_chain3 {op op' op'' : CmpOp} {r r' r'' : R2} (ho : OpR X (compareOp op) r) (ho' : OpR X (compareOp op') r') (ho'' : OpR X (compareOp op'') r'') (ha : PE X a ta) (hb : PE X b tb) (hc : PE X c tc) (hd : PE X e td)
    (hm : lastMarks [op, op', op''] [b, c, e] = false := by with_unfolding_all rfl) : PE X (.Compare a [op, op', op''] [b, c, e] pos) (tChain3 r r' r'' ta tb tc td) := by
  refine ⟨fun pins s σ H Q I h => Compare_chain (thn (ha.run pins s σ H _ I h) fun v s1 ⟨x, H1, I1, r1, q1⟩ => chain_link (thn (hb.run pins s1 σ H1 _ I1 q1) fun u s2 ⟨y, H2, I2, r2, q2⟩ =>
    thn (ho pins s2 σ H2 x y v u _ I2 r1 r2 q2) fun d s3 ⟨z, H3, I3, r3, k, ez, q3⟩ => ?_)) hm⟩
  subst ez
  cases r3
  refine wpAny_truthy_bool ?_
  cases k with
  | false => exact ite_ff ⟨.bl false, H3, I3, rfl, q3⟩
  | true =>
    refine ite_tt (chain_link (thn (hc.run pins s3 σ H3 _ I3 q3) fun w' s4 ⟨y', H4, I4, r4, q4⟩ => thn (ho' pins s4 σ H4 y y' u w' _ I4 r2 r4 q4) fun d' s5 ⟨z', H5, I5, r5, k', ez', q5⟩ => ?_))
    subst ez'
    cases r5
    refine wpAny_truthy_bool ?_
    cases k' with
    | false => exact ite_ff ⟨.bl false, H5, I5, rfl, q5⟩
    | true => exact ite_tt (chain_last (thn (hd.run pins s5 σ H5 _ I5 q5) fun v' s6 ⟨y'', H6, I6, r6, q6⟩ => ho'' pins s6 σ H6 y' y'' w' v' Q I6 r4 r6 q6))
end
section
variable {σ : L2.St} {H : Hp} {ta tb tc td : TE} {r r' r'' : R2} {x y z u : V} {p q o : Bool}
theorem ev_chain (ha : Ev ta σ H x) (hb : Ev tb σ H y) (hc : Ev tc σ H z) (h1 : RV r x y H (.bl p)) (h2 : RV r' y z H (.bl q)) : Ev (tChain r r' ta tb tc) σ H (.bl (p && q)) := fun H1 e Q k =>
  ha H1 e _ fun H2 e2 => hb H2 (e.trans e2) _ fun H3 e3 => h1 H3 ((e.trans e2).trans e3) _ fun H4 e4 => ⟨p, rfl, by
    cases p with
    | false =>
      show Q (.bl false) H4
      exact k H4 ((e2.trans e3).trans e4)
    | true =>
      show tc σ H4 fun w' H5 => r' y w' H5 Q
      exact hc H4 (((e.trans e2).trans e3).trans e4) _ fun H5 e5 => h2 H5 ((((e.trans e2).trans e3).trans e4).trans e5) Q fun H6 e6 => k H6 ((((e2.trans e3).trans e4).trans e5).trans e6)⟩
theorem ev_chain3 (ha : Ev ta σ H x) (hb : Ev tb σ H y) (hc : Ev tc σ H z) (hd : Ev td σ H u) (h1 : RV r x y H (.bl p)) (h2 : RV r' y z H (.bl q)) (h3 : RV r'' z u H (.bl o)) : Ev (tChain3 r r' r'' ta tb tc td) σ H (.bl (p && (q && o))) := fun H1 e Q k =>
  ha H1 e _ fun H2 e2 => hb H2 (e.trans e2) _ fun H3 e3 => h1 H3 ((e.trans e2).trans e3) _ fun H4 e4 => ⟨p, rfl, by
    cases p with
    | false =>
      show Q (.bl false) H4
      exact k H4 ((e2.trans e3).trans e4)
    | true =>
      refine hc H4 (((e.trans e2).trans e3).trans e4) _ fun H5 e5 => h2 H5 ((((e.trans e2).trans e3).trans e4).trans e5) _ fun H6 e6 => ⟨q, rfl, ?_⟩
      cases q with
      | false =>
        show Q (.bl false) H6
        exact k H6 ((((e2.trans e3).trans e4).trans e5).trans e6)
      | true =>
        show td σ H6 fun v' H7 => r'' z v' H7 Q
        exact hd H6 (((((e.trans e2).trans e3).trans e4).trans e5).trans e6) _ fun H7 e7 => h3 H7 ((((((e.trans e2).trans e3).trans e4).trans e5).trans e6).trans e7) Q fun H8 e8 => k H8 ((((((e2.trans e3).trans e4).trans e5).trans e6).trans e7).trans e8)⟩
def rIsN0 : R2 := fun x y H Q => y = .non ∧ Q (.bl (decide (x = .non))) H
def rNotN0 : R2 := fun x y H Q => y = .non ∧ Q (.bl (!decide (x = .non))) H
theorem rv_isN {x : V} : RV rIsN0 x .non H (.bl (decide (x = .non))) := fun H1 _ _ q => ⟨rfl, q H1 (Ex.refl H1)⟩
theorem rv_notN {x : V} : RV rNotN0 x .non H (.bl (!decide (x = .non))) := fun H1 _ _ q => ⟨rfl, q H1 (Ex.refl H1)⟩
end
/-! ### comprehensions over anything -/
section
variable {σ : L2.St} {H : Hp} {t : TT} {te : TE}
theorem el_lcW {wi : TI} {g : TG} {vs : List Nat} {n : Nat} {Y : Nat → Hp → V → Hp → Prop} (f : Nat → Bool) (v : Nat → V)
    (hwi : ∀ H1, Ex H H1 → ∀ R : It → Hp → Prop, (∀ J H2 (G : Hp → Prop), Ex H1 H2 → Walk J n G Y → (∀ H3, Ex H2 H3 → G H3) → R J H2) → wi σ H1 R) (hz : n ≤ 40000)
    (hg : ∀ i x H1 H2, Ex H H1 → i < n → Y i H1 x H2 → ∀ Q : L2.St → Hp → Prop, (∀ σ2 H3, Ex H1 H3 → wipe σ2 vs = wipe σ vs → EvT t σ2 H3 (f i) → (f i = true → Ev te σ2 H3 (v i)) → Q σ2 H3) → g x (wipe σ vs) H2 Q) :
    EvL (tLc wi g t te vs) σ H (given n f v) := fun H0 e Q q => hwi H0 e _ fun J H1 G e1 wk hG Dl hD =>
  lc_it wk (Cw H1 f v Dl) ⟨hD, Ex.new hD, upd_same⟩ (fun i H' _ p => hG H' p.2.1) (fun i x H2 H3 hi p y => hg i x H2 H3 ((e.trans e1).trans p.2.1) hi y _ fun σ2 H4 e4 hw ht he => ⟨hw, by
      obtain ⟨p1, p2, p3⟩ := p
      have b4 := p2.trans e4
      refine ht H4 (Ex.refl H4) _ fun H5 e5 => ?_
      cases hf : f i with
      | true =>
        show te σ2 H5 fun y H6 => ∃ acc, H6 Dl = some (.lst acc) ∧ acc.length < sizeLine ∧ Cw H1 f v Dl (i + 1) (upd H6 Dl (.lst (acc ++ [y])))
        refine he hf H5 e5 _ fun H6 e6 => ⟨given i f v, e6 Dl _ (e5 Dl _ (e4 Dl _ p3)), sz_lt (by have := given_len i f v; omega), p1, Ex.mut ((b4.trans e5).trans e6) p1, ?_⟩
        rw [given_yes hf]
        exact upd_same
      | false =>
        show Cw H1 f v Dl (i + 1) H5
        refine ⟨p1, b4.trans e5, ?_⟩
        rw [given_no hf]
        exact e5 Dl _ (e4 Dl _ p3)⟩) (fun H' p => q Dl H' (fresh_back e1 p.1) (e1.trans p.2.1) p.2.2)
/-- over a list -/
theorem wi_list {K : PySem.W.Frag} {tl : TE} {a : Addr} {xs : List V} (h : Ev tl σ H (.ref a)) (hx : SqL K H a xs) : ∀ H1, Ex H H1 → ∀ R : It → Hp → Prop, (∀ J H2 (G : Hp → Prop), Ex H1 H2 → Walk J xs.length G (YAt xs) → (∀ H3, Ex H2 H3 → G H3) → R J H2) → iList K tl σ H1 R :=
  fun H1 e R k => h H1 e _ fun H2 e2 => ⟨a, rfl, ⟨xs, ex_l (e.trans e2) hx⟩, k _ H2 _ e2 walk_list fun H3 e3 => ex_l ((e.trans e2).trans e3) hx⟩
/-- over a list made on the way -/
theorem wi_listN {K : PySem.W.Frag} {tl : TE} {xs : List V} (h : EvL tl σ H xs) : ∀ H1, Ex H H1 → ∀ R : It → Hp → Prop, (∀ J H2 (G : Hp → Prop), Ex H1 H2 → Walk J xs.length G (YAt xs) → (∀ H3, Ex H2 H3 → G H3) → R J H2) → iList K tl σ H1 R :=
  fun H1 e R k => h H1 e _ fun p H2 _ e2 hp => ⟨p, rfl, ⟨xs, sq_of hp⟩, k _ H2 _ e2 walk_list fun H3 e3 => sq_of (e3 p _ hp)⟩
theorem wi_enum {K : PySem.W.Frag} {tl : TE} {a : Addr} {xs : List V} (h : Ev tl σ H (.ref a)) (hx : SqL K H a xs) :
    ∀ H1, Ex H H1 → ∀ R : It → Hp → Prop, (∀ J H2 (G : Hp → Prop), Ex H1 H2 → Walk J xs.length G (YPair (fun i => some (.int (i : Nat))) (fun i => xs[i]?)) → (∀ H3, Ex H2 H3 → G H3) → R J H2) → iEnum K (tCons tl tNil) σ H1 R :=
  fun H1 e R k => h H1 e _ fun H2 e2 => ⟨a, xs, rfl, ex_l (e.trans e2) hx, k _ H2 _ e2 walk_enum fun H3 e3 => ex_l ((e.trans e2).trans e3) hx⟩
theorem wi_zip {K : PySem.W.Frag} {tl th : TE} {a : Addr} {xs ys : List V} {n : Nat} (hn : n = min xs.length ys.length) (h : Ev tl σ H (.ref a)) (hx : SqL K H a xs) (h2 : EvL th σ H ys) :
    ∀ H1, Ex H H1 → ∀ R : It → Hp → Prop, (∀ J H2 (G : Hp → Prop), Ex H1 H2 → Walk J n G (YPair (fun i => xs[i]?) (fun i => ys[i]?)) → (∀ H3, Ex H2 H3 → G H3) → R J H2) → iZip K (tCons tl (tCons th tNil)) σ H1 R :=
  fun H1 e R k => h H1 e _ fun H2 e2 => h2 H2 (e.trans e2) _ fun b H3 _ e3 hb => ⟨a, b, xs, ys, rfl, ex_l ((e.trans e2).trans e3) hx, sq_of hb, k _ H3 _ (e2.trans e3) (walk_zip hn) fun H4 e4 => ⟨ex_l (((e.trans e2).trans e3).trans e4) hx, sq_of (e4 b _ hb)⟩⟩
theorem wi_rng1 {ta : TA} {n : Int} (h : EvA ta σ H [.int n]) (hn : 0 ≤ n ∧ n ≤ 40000) : ∀ H1, Ex H H1 → ∀ R : It → Hp → Prop, (∀ J H2 (G : Hp → Prop), Ex H1 H2 → Walk J n.toNat G (YFn fun i => .int ((0 : Int) + i)) → (∀ H3, Ex H2 H3 → G H3) → R J H2) → iRng1 ta σ H1 R :=
  fun H1 e R k => h H1 e _ fun H2 e2 => ⟨n, rfl, by omega, by omega, k _ H2 _ e2 walk_range fun _ _ => trivial⟩
theorem wi_rng2 {ta : TA} {lo n : Int} (h : EvA ta σ H [.int lo, .int n]) (hn : 0 ≤ lo ∧ lo ≤ 40000 ∧ 0 ≤ n ∧ n ≤ 40000) : ∀ H1, Ex H H1 → ∀ R : It → Hp → Prop, (∀ J H2 (G : Hp → Prop), Ex H1 H2 → Walk J (n - lo).toNat G (YFn fun i => .int (lo + i)) → (∀ H3, Ex H2 H3 → G H3) → R J H2) → iRng2 ta σ H1 R :=
  fun H1 e R k => h H1 e _ fun H2 e2 => ⟨lo, n, rfl, ⟨by omega, by omega, by omega, by omega⟩, k _ H2 _ e2 walk_range fun _ _ => trivial⟩
end
/-! ### defs by their names -/
/-- the def st stands under its name -/
def HasT (K : PySem.W.Frag) (mg : Str → Option Value) (x : Str) (st : Stmt) (ps : List Str) : Prop := ∃ (f : Addr) (fd : FuncData), Fun K x x st f fd ∧ mg x = some (.ref f) ∧ Binds K fd ps []
theorem hasT_mk {K : PySem.W.Frag} {h : Heap} {mg : Str → Option Value} {x : Str} {st : Stmt} {ps : List Str} {f : Addr} {od an : Option Addr} {sl : Array (Option Value)} {oc kV dc pm cd ct : Value} (X : K.In h) (G : h.Ns mainGlobals mg)
    (a : PySem.W.nsIn K mainGlobals x = some (some (.ref f))) (l : K.lookup f = some ⟨oc, od, .func (PySem.W.fnOf x x (defArgs st) (defBody st) (defScope st) .none kV dc pm an cd ct), sl⟩) (c : PySem.W.codeIn K cd x = true) (k : PySem.W.keepIn K (.ref f) = true)
    (b : ∀ (kV doc pm : Value) (an : Option Addr) (cdv ct : Value) (us : List Value), us.length = ps.length → bindArgs (PySem.W.fnOf x x (defArgs st) (defBody st) (defScope st) .none kV doc pm an cdv ct) ⟨us, []⟩ = pure (ps.zip us)) : HasT K mg x st ps :=
  have F := fun_mk (st := st) l c k
  ⟨f, _, F, PySem.W.mg_of X G a, F.binds b⟩
/-- the method st of the class at C -/
def HasM (K : PySem.W.Frag) (C : Addr) (m qual : Str) (st : Stmt) (ps : List Str) : Prop := ∃ (f : Addr) (fd : FuncData), Fun K m qual st f fd ∧ Meth K C m f ∧ Binds K fd ps []
theorem hasM_mk {K : PySem.W.Frag} {C : Addr} {m qual : Str} {st : Stmt} {ps : List Str} {f : Addr} {od an : Option Addr} {sl : Array (Option Value)} {oc kV dc pm cd ct : Value}
    (a : PySem.W.findIn K (.ref C) m = some (some (.ref f))) (i : PySem.W.isFn K (.ref f) = true) (l : K.lookup f = some ⟨oc, od, .func (PySem.W.fnOf m qual (defArgs st) (defBody st) (defScope st) .none kV dc pm an cd ct), sl⟩) (c : PySem.W.codeIn K cd qual = true) (k : PySem.W.keepIn K (.ref f) = true)
    (b : ∀ (kV doc pm : Value) (an : Option Addr) (cdv ct : Value) (us : List Value), us.length = ps.length → bindArgs (PySem.W.fnOf m qual (defArgs st) (defBody st) (defScope st) .none kV doc pm an cdv ct) ⟨us, []⟩ = pure (ps.zip us)) : HasM K C m qual st ps :=
  have F := fun_mk (st := st) l c k
  ⟨f, _, F, ⟨a, i, k⟩, F.binds b⟩
def Def (P : Program) (w : World) (K : PySem.W.Frag) (mg : Str → Option Value) (base : Heap) (CX : CXT) (k : Nat) (x : Str) (ps : List Str) (sp : Sp) : Prop :=
  ∃ f fd, FnOk P w K mg base CX k f fd ps sp ∧ mg x = some (.ref f) ∧ PySem.W.keepIn K (.ref f) = true ∧ Binds K fd ps []
def MDef (P : Program) (w : World) (K : PySem.W.Frag) (mg : Str → Option Value) (base : Heap) (CX : CXT) (C : Addr) (k : Nat) (m : Str) (ps : List Str) (sp : Sp) : Prop :=
  ∃ f fd, FnOk P w K mg base CX k f fd ps sp ∧ Meth K C m f ∧ Binds K fd ps []
section
variable {P : Program} {w : World} {K : PySem.W.Frag} {mg : Str → Option Value} {base : Heap} {C : Addr}
theorem def_of {x : Str} {st : Stmt} {N ps : List Str} {k : Nat} {sp : Sp} (D : HasT K mg x st ps) (S : FnScope N ps (defScope st)) (len : ∀ vs H Q E, sp vs H Q E → vs.length = ps.length)
    (hbody : ∀ (f : Addr) (cdv : Value) (A : Around) (outer : List Env) (s : Shared) (H : Hp) (vs : List V) (Q : VK) (E : XK), Room k (A.deeper (envOfC x (defScope st) s.heap.objs.size f cdv)) → sp vs H Q E →
      ∃ t, PSs (cxOf CX0 P w K mg base N x (defScope st) f cdv A outer s H E).nox (defBody st) t ∧ t { nx := fun _ H' => Q .non H', rt := Q } (start N vs) H) : Def P w K mg base CX0 (k + 1) x ps sp := by
  obtain ⟨f, fd, F, g, b⟩ := D
  exact ⟨f, fd, F.ok S len (hbody f), g, F.kp, b⟩
theorem def_ofX {x : Str} {st : Stmt} {N ps : List Str} {k : Nat} {sp : Sp} (D : HasT K mg x st ps) (S : FnScope N ps (defScope st)) (len : ∀ vs H Q E, sp vs H Q E → vs.length = ps.length)
    (hbody : ∀ (f : Addr) (cdv : Value) (A : Around) (outer : List Env) (s : Shared) (H : Hp) (vs : List V) (Q : VK) (E : XK), Room k (A.deeper (envOfC x (defScope st) s.heap.objs.size f cdv)) → sp vs H Q E →
      ∃ t, PSs (cxOf (L2.CX P w) P w K mg base N x (defScope st) f cdv A outer s H E) (defBody st) t ∧ t { nx := fun _ H' => Q .non H', rt := Q } (start N vs) H) : Def P w K mg base (L2.CX P w) (k + 1) x ps sp := by
  obtain ⟨f, fd, F, g, b⟩ := D
  exact ⟨f, fd, F.okX S len (hbody f), g, F.kp, b⟩
theorem mdef_of {m qual : Str} {st : Stmt} {N ps : List Str} {k : Nat} {sp : Sp} (D : HasM K C m qual st ps) (S : FnScope N ps (defScope st)) (len : ∀ vs H Q E, sp vs H Q E → vs.length = ps.length)
    (hbody : ∀ (f : Addr) (cdv : Value) (A : Around) (outer : List Env) (s : Shared) (H : Hp) (vs : List V) (Q : VK) (E : XK), Room k (A.deeper (envOfC qual (defScope st) s.heap.objs.size f cdv)) → sp vs H Q E →
      ∃ t, PSs (cxOf CX0 P w K mg base N qual (defScope st) f cdv A outer s H E).nox (defBody st) t ∧ t { nx := fun _ H' => Q .non H', rt := Q } (start N vs) H) : MDef P w K mg base CX0 C (k + 1) m ps sp := by
  obtain ⟨f, fd, F, g, b⟩ := D
  exact ⟨f, fd, F.ok S len (hbody f), g, b⟩
theorem mdef_ofX {m qual : Str} {st : Stmt} {N ps : List Str} {k : Nat} {sp : Sp} (D : HasM K C m qual st ps) (S : FnScope N ps (defScope st)) (len : ∀ vs H Q E, sp vs H Q E → vs.length = ps.length)
    (hbody : ∀ (f : Addr) (cdv : Value) (A : Around) (outer : List Env) (s : Shared) (H : Hp) (vs : List V) (Q : VK) (E : XK), Room k (A.deeper (envOfC qual (defScope st) s.heap.objs.size f cdv)) → sp vs H Q E →
      ∃ t, PSs (cxOf (L2.CX P w) P w K mg base N qual (defScope st) f cdv A outer s H E) (defBody st) t ∧ t { nx := fun _ H' => Q .non H', rt := Q } (start N vs) H) : MDef P w K mg base (L2.CX P w) C (k + 1) m ps sp := by
  obtain ⟨f, fd, F, g, b⟩ := D
  exact ⟨f, fd, F.okX S len (hbody f), g, b⟩
end
section
variable {X : Cx} {CX : CXT} {k : Nat} {C : Addr} {ps : List Str} {sp : Sp} {E : XK} {x m : Str} {p pos apos : Pos} {e o : Expr} {es : List Expr} {ta : TE} {t : TA}
theorem pe_callD (D : Def X.prog X.w X.K X.mg X.base CX k x ps sp) (hr : Room k X.A) (hg : Gl X x) (hx : Passes CX X E) (ha : PA X (e :: es) t)
    (hdb : (x == ("__debug__" : Str)) = false := by decide) (he : starEach (e :: es) X.env = (false, eval e X.env) :: starEach es X.env := by rfl) (hpl : (backTo pos (starEach es X.env)).any (·.1) = false := by rfl) :
    PE X (.Call (.Name x p) (e :: es) [] pos) (tCall sp [] E t) := by
  obtain ⟨f, fd, F, g, kp, b⟩ := D
  exact pe_call F hr hg g kp b .nil hx ha hdb he hpl
theorem pe_methD {pl : Sem Bool} (he : PE X o ta) (c : Cls X.K C) (D : MDef X.prog X.w X.K X.mg X.base CX C k m ps sp) (hr : Room k X.A) (hx : Passes CX X E) (ha : PA X (e :: es) t)
    (hst : starEach (e :: es) X.env = (false, eval e X.env) :: starEach es X.env := by rfl) (hpl : (backTo pos (starEach es X.env)).any (·.1) = false := by rfl)
    (ht : eval (.Call (.Attribute o m apos) (e :: es) [] pos) X.env = (do
      let ov ← eval o X.env
      standAt apos.atName
      let (f, first) ← holding [ov] (getMethod ov m pl)
      callWith pos f first (backTo pos (starEach (e :: es) X.env)) (backToKw pos (keywordEach [] X.env))) := by rfl) :
    PE X (.Call (.Attribute o m apos) (e :: es) [] pos) (tMeth C m sp [] E ta t) := by
  obtain ⟨f, fd, F, M, b⟩ := D
  exact pe_meth he c M F hr b .nil hx ha hst hpl ht
theorem pe_methD0 {pl : Sem Bool} (he : PE X o ta) (c : Cls X.K C) (D : MDef X.prog X.w X.K X.mg X.base CX C k m ps sp) (hr : Room k X.A) (hx : Passes CX X E)
    (ht : eval (.Call (.Attribute o m apos) [] [] pos) X.env = (do
      let ov ← eval o X.env
      standAt apos.atName
      let (f, first) ← holding [ov] (getMethod ov m pl)
      callWith pos f first (backTo pos (starEach [] X.env)) (backToKw pos (keywordEach [] X.env))) := by rfl) :
    PE X (.Call (.Attribute o m apos) [] [] pos) (tMeth C m sp [] E ta tNil) := by
  obtain ⟨f, fd, F, M, b⟩ := D
  exact pe_meth0 he c M F hr b .nil hx ht
end
/-- a constant of the top -/
def Kon (mg : Str → Option Value) (x : Str) (v : V) : Prop := ∃ u, mg x = some u ∧ RelV v u
theorem pe_kon {X : Cx} {x : Str} {v : V} {pos : Pos} (k : Kon X.mg x v) (hg : Gl X x) (hd : (x == ("__debug__" : Str)) = false := by decide) : PE X (.Name x pos) (tC v) := by
  obtain ⟨u, h, r⟩ := k
  exact pe_glob hg h r hd
/-! ### lists of numbers, jobs -/
abbrev nV (n : Nat) : V := .int (n : Int)
def oV : Option Nat → V
  | none => .non
  | some n => nV n
def IntsAt (H : Hp) (a : Addr) (ns : List Nat) : Prop := H a = some (.lst (ns.map nV))
def jV (j : Job) : List V := [nV j.r, nV j.d, nV j.m]
def JobsAt (H : Hp) (a : Addr) (js : List Job) : Prop := ∃ ps : List Addr, H a = some (.lst (ps.map V.ref)) ∧ ps.length = js.length ∧ ∀ i p, ps[i]? = some p → H p = some (.tup (jV (jb js i)))
theorem IntsAt.ex {H H' : Hp} {a : Addr} {ns : List Nat} (h : IntsAt H a ns) (e : Ex H H') : IntsAt H' a ns := e a _ h
theorem JobsAt.ex {H H' : Hp} {a : Addr} {js : List Job} (h : JobsAt H a js) (e : Ex H H') : JobsAt H' a js := by
  obtain ⟨ps, h1, h2, h3⟩ := h
  exact ⟨ps, e a _ h1, h2, fun i p q => e p _ (h3 i p q)⟩
theorem IntsAt.get {ns : List Nat} {i : Nat} (h : i < ns.length) : (ns.map nV)[i]? = some (nV (ns.getD i 0)) := by
  simp [List.getD_eq_getElem?_getD, h]
theorem in_nV (dt : List Nat) (h : Nat) : inV (nV h) (dt.map nV) = dt.contains h := by
  induction dt with
  | nil => rfl
  | cons a r ih =>
    show (eqV (nV a) (nV h) || inV (nV h) (r.map nV)) = _
    rw [ih, List.contains_cons]
    congr 1
    show ((a : Int) == (h : Int)) = (h == a)
    rw [Bool.eq_iff_iff]
    simp
    omega
theorem flat_nV (dt : List Nat) : (dt.map nV).all flatV = true := by
  rw [List.all_map]
  exact List.all_eq_true.mpr fun x _ => rfl
end Mill
end
section
set_option Elab.async false
set_option linter.all false
namespace Mill
open PySem PySem.Spec PyProof.Rows L2
structure Txt (K : PySem.W.Frag) (mg : Str → Option Value) (CL CS CR fR : Addr) : Prop where
  ref : PySem.RefX.RefTxt K mg CR fR
  clL : Cls K CL
  clS : Cls K CS
  gL : mg "Lot" = some (.ref CL)
  gS : mg "Scheduler" = some (.ref CS)
  mkL : ∃ f, Mk K CL f ∧ ∃ fd, Fun K "__init__" "Lot.__init__" (inClass (top 30) 0) f fd ∧ Binds K fd ["self", "release", "deadline", "hours"] []
  mkS : ∃ f, Mk K CS f ∧ ∃ fd, Fun K "__init__" "Scheduler.__init__" (inClass (top 31) 0) f fd ∧ Binds K fd ["self"] []
  nL_release : NoAttr K CL "release"
  nL_deadline : NoAttr K CL "deadline"
  nL_hours : NoAttr K CL "hours"
  nL_done : NoAttr K CL "done"
  nS_lots : NoAttr K CS "lots"
  nS_downtime : NoAttr K CS "downtime"
  nS_now : NoAttr K CS "now"
  nS_log : NoAttr K CS "log"
  n_len : mg "len" = none
  n_range : mg "range" = none
  n_enumerate : mg "enumerate" = none
  n_zip : mg "zip" = none
  n_all : mg "all" = none
  n_sum : mg "sum" = none
  n_max : mg "max" = none
  n_int : mg "int" = none
  n_list : mg "list" = none
  k_NO_SCHEDULER : Kon mg "NO_SCHEDULER" (.int (-11))
  k_MISSING : Kon mg "MISSING" (.int (-2))
  k_OUT_OF_LIMITS : Kon mg "OUT_OF_LIMITS" (.int (-22))
  k_TOO_MANY : Kon mg "TOO_MANY" (.int (-28))
  k_NOT_REMOVABLE : Kon mg "NOT_REMOVABLE" (.int (-16))
  k_ALREADY_DOWNTIME : Kon mg "ALREADY_DOWNTIME" (.int (-17))
  k_NONE_SUCH : Kon mg "NONE_SUCH" (.int (-33))
  h_require : HasT K mg "require" (top 9) ["is_right", "code"]
  h_entry_fits : HasT K mg "entry_fits" (top 11) ["jobs", "downtime", "hour", "entry"]
  h_meets_all : HasT K mg "meets_all" (top 12) ["jobs", "downtime", "now", "entries"]
  k_DAY : Kon mg "DAY" (.int (24))
  h_chosen : HasT K mg "chosen" (top 15) ["jobs", "left", "hour"]
  h_planned : HasT K mg "planned" (top 16) ["jobs", "downtime", "now"]
  h_hours_of : HasT K mg "hours_of" (top 17) ["entries", "now", "number"]
  h_completion : HasT K mg "completion" (top 18) ["jobs", "entries", "now", "number"]
  h_is_late : HasT K mg "is_late" (top 19) ["jobs", "entries", "now", "number"]
  h_late_jobs : HasT K mg "late_jobs" (top 20) ["jobs", "downtime", "now"]
  h_is_feasible : HasT K mg "is_feasible" (top 21) ["jobs", "downtime", "now"]
  h_longer : HasT K mg "longer" (top 22) ["jobs", "number", "extra"]
  h_changes : HasT K mg "changes" (top 23) ["entries"]
  h_capacity : HasT K mg "capacity" (top 25) ["downtime", "now", "first", "last"]
  h_is_within : HasT K mg "is_within" (top 26) ["job", "now", "first", "last"]
  h_demand : HasT K mg "demand" (top 27) ["jobs", "now", "first", "last"]
  h_first_crowded : HasT K mg "first_crowded" (top 28) ["jobs", "downtime", "now"]
  m_job : HasM K CL "job" "Lot.job" (inClass (top 30) 1) ["self"]
  m_lot_at : HasM K CS "lot_at" "Scheduler.lot_at" (inClass (top 31) 1) ["self", "number"]
  m_jobs : HasM K CS "jobs" "Scheduler.jobs" (inClass (top 31) 2) ["self"]
  m_plan : HasM K CS "plan" "Scheduler.plan" (inClass (top 31) 3) ["self"]
  m_run : HasM K CS "run" "Scheduler.run" (inClass (top 31) 4) ["self"]
  k_MOST_LOTS : Kon mg "MOST_LOTS" (.int (6))
  k_MOST_HOURS : Kon mg "MOST_HOURS" (.int (12))
  h_require_lot : HasT K mg "require_lot" (top 35) ["scheduler", "release", "deadline", "hours"]
  h_add_lot : HasT K mg "add_lot" (top 36) ["scheduler", "release", "deadline", "hours"]
  h_remove_last_lot : HasT K mg "remove_last_lot" (top 37) ["scheduler", "number"]
  h_get_lot : HasT K mg "get_lot" (top 38) ["scheduler", "number"]
  h_add_downtime : HasT K mg "add_downtime" (top 39) ["scheduler", "hour"]
  h_remove_downtime : HasT K mg "remove_downtime" (top 40) ["scheduler", "hour"]
  h_told_plan : HasT K mg "told_plan" (top 41) ["scheduler"]
  h_told_feasible : HasT K mg "told_feasible" (top 42) ["scheduler"]
  h_completion_hour : HasT K mg "completion_hour" (top 43) ["scheduler", "number"]
  h_late_lots : HasT K mg "late_lots" (top 44) ["scheduler"]
  h_crowded_interval : HasT K mg "crowded_interval" (top 45) ["scheduler"]
  h_interval_load : HasT K mg "interval_load" (top 46) ["scheduler", "first", "last"]
  h_check_plan : HasT K mg "check_plan" (top 47) ["scheduler", "entries"]
  h_run_hour : HasT K mg "run_hour" (top 48) ["scheduler"]
  h_run_hours : HasT K mg "run_hours" (top 49) ["scheduler", "many"]
  h_slack : HasT K mg "slack" (top 50) ["scheduler", "number"]
  h_is_feasible_with : HasT K mg "is_feasible_with" (top 51) ["scheduler", "release", "deadline", "hours"]
  h_idle_hours : HasT K mg "idle_hours" (top 52) ["scheduler"]
  h_changeovers : HasT K mg "changeovers" (top 53) ["scheduler"]
  h_get_log : HasT K mg "get_log" (top 54) ["scheduler"]
  h_status : HasT K mg "status" (top 55) ["scheduler"]
  k_CREATE : Kon mg "CREATE" (.int (0))
  h_changed : HasT K mg "changed" (top 58) ["scheduler", "operation", "n"]
  h_told : HasT K mg "told" (top 59) ["scheduler", "operation", "n"]
  h_run_or_told : HasT K mg "run_or_told" (top 60) ["scheduler", "operation", "n"]
  h_performed : HasT K mg "performed" (top 61) ["scheduler", "operation", "n"]
  h_answer : HasT K mg "answer" (top 62) ["scheduler", "operation", "n"]
  h_answers : HasT K mg "answers" (top 63) ["calls"]
end Mill
end
section
set_option Elab.async false
set_option linter.all false
set_option maxRecDepth 100000
set_option maxHeartbeats 2000000
namespace Mill
open PySem PySem.Spec PyProof.Rows L2 Evl
section
variable {P : Program} {w : World} {K : PySem.W.Frag} {mg : Str → Option Value} {base : Heap} {CL CS CR fR : Addr}
theorem pick_succ (js : List Job) (left : List Nat) (hour i : Nat) : pick js left hour (i + 1) = if (jb js i).r ≤ hour ∧ 0 < left.getD i 0 then (match pick js left hour i with
    | none => some i
    | some j => if (jb js i).d < (jb js j).d then some i else some j) else pick js left hour i := rfl
def spChosen : Sp := fun vs H Q _ => ∃ (a l : Addr) (js : List Job) (left : List Nat) (hour : Nat), vs = [.ref a, .ref l, nV hour] ∧ JobsAt H a js ∧ IntsAt H l left ∧ left.length = js.length ∧
  ∀ H', Ex H H' → Q (oV (pick js left hour js.length)) H'
theorem scChosen : FnScope ["jobs", "left", "hour", "found", "number", "release", "deadline", "remaining"] ["jobs", "left", "hour"] (defScope (top 15)) := ⟨rfl, rfl, rfl, by decide +kernel, rfl, by decide +kernel, by decide +kernel⟩
theorem getP {ps : List Addr} {i : Nat} {y : V} (h : (ps.map V.ref)[i]? = some y) : ∃ p, ps[i]? = some p ∧ y = .ref p := by
  rw [List.getElem?_map] at h
  cases e : ps[i]? with
  | none => rw [e] at h; cases h
  | some p => rw [e] at h; exact ⟨p, rfl, (Option.some.inj h).symm⟩
theorem atP_ref {ps : List Addr} {i : Nat} {p : Addr} (h : ps[i]? = some p) : atI (ps.map V.ref) (i : Int) = some (.ref p) := atI_nat (by rw [List.getElem?_map, h]; rfl)
theorem some_at {α : Type} {l : List α} {i : Nat} (h : i < l.length) : ∃ x, l[i]? = some x := ⟨l[i], by simp [h]⟩
theorem ok_chosen (T : Txt K mg CL CS CR fR) : Def P w K mg base CX0 1 "chosen" ["jobs", "left", "hour"] spChosen := by
  refine def_of T.h_chosen scChosen (fun vs H Q E h => ?_) (fun f cdv A outer s H vs Q E hr h => ?_)
  · obtain ⟨a, l, js, left, hour, rfl, _⟩ := h
    rfl
  · obtain ⟨a, l, js, left, hour, rfl, ⟨ps, hA, hlen, hJ⟩, hL, hn, k⟩ := h
    refine ⟨_, pss_cons (ps_set (i := 3) scChosen.nd rfl (Or.inl rfl) pe_non)
      (pss_cons (ps_for PassesOwn.never rfl (pi_enum (by rfl) T.n_enumerate (pa_cons (pv 0) pa_nil))
          (pg_tup rfl (pgs_cons (pg_name (i := 4) scChosen.nd rfl (.inl rfl)) (pgs_cons (pg_tup rfl (pgs_cons (pg_name (i := 5) scChosen.nd rfl (.inl rfl)) (pgs_cons (pg_name (i := 6) scChosen.nd rfl (.inl rfl)) (pgs_cons (pg_name (i := 7) scChosen.nd rfl (.inl rfl)) pgs_nil)))) pgs_nil)))
          (pss_one (ps_if (PW.pt (pw_and (pt_cmpR op_le (pv 5) (pv 2) (nomark _)) (pw_and1 (pt_cmpR op_gt (pe_ix ix_list (pv 1) (pv 4) (fun _ _ => rfl)) pe_int (nomark _)))))
            (pss_one (ps_if (PW.pt (pw_or (pt_cmpR op_isN (pv 3) pe_non (nomark _)) (pw_or1 (pt_cmpR op_lt (pv 6) (pe_ix ix_tup (pe_ix ix_list (pv 0) (pv 3) (fun _ _ => rfl)) pe_int (fun _ _ => rfl)) (nomark _)))))
              (pss_one (ps_set (i := 3) scChosen.nd rfl (Or.inl rfl) (pv 4))) pss_nil)) pss_nil)))
      (pss_one (ps_ret (pv 3)))), ?_⟩
    refine ⟨_, rfl, a, ps.map V.ref, rfl, SqL.of hA, for_it walk_enum (fun i σ' H' => ∃ v4 v5 v6 v7 : Option V, σ' = [some (.ref a), some (.ref l), some (nV hour), some (oV (pick js left hour i)), v4, v5, v6, v7] ∧ Ex H H') ⟨none, none, none, none, rfl, Ex.refl H⟩ (fun i σ' H' _ ⟨_, _, _, _, _, e⟩ => sq_of (e a _ hA)) ?_ ?_⟩
    · rintro i x σ' H1 H2 hi ⟨v4, v5, v6, v7, rfl, e1⟩ ⟨T0, x0, y0, rfl, hT, rfl, hx, hy⟩
      cases hx
      obtain ⟨p0, hp0, rfl⟩ := getP hy
      have e2 : Ex H (upd H1 T0 (.tup [.int (i : Nat), .ref p0])) := e1.trans (Ex.new hT)
      have hi' : i < js.length := by rw [List.length_map] at hi; omega
      have hli : i < left.length := by omega
      refine ⟨T0, _, rfl, SqT.of upd_same, rfl, _, _, rfl, _, _, rfl, p0, _, rfl, SqT.of (e2 _ _ (hJ i p0 hp0)), rfl, _, _, rfl, _, _, rfl, _, _, rfl, rfl, rfl, ?_⟩
      refine s_when (et_and (et_test (ev_op (ev_var rfl) (ev_var rfl) rv_I0)) fun _ => et_test (ev_op (ev_op (ev_var rfl) (ev_var rfl) (rv_ixL (sq_of (e2 l _ hL)) (atI_nat (IntsAt.get hli)))) ev_c rv_I0)) (fun hb H3 e3 => ?_) (fun hb H3 e3 => ?_)
      · have hc : (jb js i).r ≤ hour ∧ 0 < left.getD i 0 := by simpa using hb
        have hs := pick_succ js left hour i
        rw [if_pos hc] at hs
        cases hp : pick js left hour i with
        | none =>
          rw [hp] at hs
          refine s_when (b := true) (et_is (et_or (et_test (ev_op (ev_var rfl) ev_c rv_isN)) (b := true) fun h => nomatch h) rfl) (fun _ H4 e4 => ?_) (fun h => nomatch h)
          refine s_asg (ev_var rfl) fun H5 e5 => ⟨some (nV i), some (nV (jb js i).r), some (nV (jb js i).d), some (nV (jb js i).m), ?_, ((e2.trans e3).trans e4).trans e5⟩
          rw [hs]
          rfl
        | some j =>
          rw [hp] at hs
          have hj : j < js.length := Nat.lt_trans (pick_lt hp) hi'
          obtain ⟨pj, hpj⟩ := some_at (l := ps) (i := j) (by omega)
          have e4 := e2.trans e3
          refine s_when (b := decide (((jb js i).d : Int) < ((jb js j).d : Int))) (et_is (et_or (et_test (ev_op (ev_var rfl) ev_c rv_isN)) fun _ => et_test (ev_op (ev_var rfl) (ev_op (ev_op (ev_var rfl) (ev_var rfl) (rv_ixL (sq_of (e4 a _ hA)) (atP_ref hpj))) ev_c (rv_ixT (st_of (e4 _ _ (hJ j pj hpj))) (atI_nat (j := 1) rfl))) rv_I0)) (by simp [oV])) (fun hd H4 e5 => ?_) (fun hd H4 e5 => ?_)
          · have hd' : (jb js i).d < (jb js j).d := by simpa using hd
            refine s_asg (ev_var rfl) fun H5 e6 => ⟨some (nV i), some (nV (jb js i).r), some (nV (jb js i).d), some (nV (jb js i).m), ?_, (e4.trans e5).trans e6⟩
            rw [hs]
            show _ = [_, _, _, some (oV (if (jb js i).d < (jb js j).d then some i else some j)), _, _, _, _]
            rw [if_pos hd']
            rfl
          · have hd' : ¬ (jb js i).d < (jb js j).d := by simpa using hd
            refine ⟨some (nV i), some (nV (jb js i).r), some (nV (jb js i).d), some (nV (jb js i).m), ?_, e4.trans e5⟩
            rw [hs]
            show _ = [_, _, _, some (oV (if (jb js i).d < (jb js j).d then some i else some j)), _, _, _, _]
            rw [if_neg hd']
            rfl
      · have hc : ¬ ((jb js i).r ≤ hour ∧ 0 < left.getD i 0) := by simpa using hb
        have hs := pick_succ js left hour i
        rw [if_neg hc] at hs
        refine ⟨some (nV i), some (nV (jb js i).r), some (nV (jb js i).d), some (nV (jb js i).m), ?_, e2.trans e3⟩
        rw [hs]
        rfl
    · rintro σ' H1 ⟨v4, v5, v6, v7, rfl, e1⟩
      refine ⟨_, rfl, ?_⟩
      rw [List.length_map, hlen]
      exact k _ e1
end
end Mill
end
section
set_option Elab.async false
set_option linter.all false
set_option maxRecDepth 100000
set_option maxHeartbeats 2000000
namespace Mill
open PySem PySem.Spec PyProof.Rows L2 Evl
theorem et_yes {σ : L2.St} {H : Hp} : EvT tYes σ H true := fun H1 _ _ q => q H1 (Ex.refl H1)
theorem given_all (n : Nat) (v : Nat → V) : given n (fun _ => true) v = (List.range n).map v := by
  unfold given
  rw [List.filter_eq_self.mpr fun _ _ => rfl]
theorem range_jb {α : Type} (g : Job → α) (js : List Job) : (List.range js.length).map (fun i => g (jb js i)) = js.map g := by
  apply List.ext_getElem
  · simp
  · intro i h1 h2
    have : i < js.length := by simpa using h1
    simp [jb, List.getD_eq_getElem?_getD, this]
theorem ev_app {K : PySem.W.Frag} : True := trivial
section
variable {P : Program} {w : World} {K : PySem.W.Frag} {mg : Str → Option Value} {base : Heap} {CL CS CR fR : Addr}
def spPlanned : Sp := fun vs H Q _ => ∃ (a d : Addr) (js : List Job) (dt : List Nat) (now : Nat), vs = [.ref a, .ref d, nV now] ∧ JobsAt H a js ∧ IntsAt H d dt ∧ js.length ≤ 100 ∧ now ≤ 24 ∧
  ∀ p H', H p = none → Ex H H' → IntsAt H' p (planM js dt now) → Q (.ref p) H'
theorem scPlanned : FnScope ["jobs", "downtime", "now", "left", "entries", "hour", "number", "release", "deadline", "remaining"] ["jobs", "downtime", "now"] (defScope (top 16)) := ⟨rfl, rfl, rfl, by decide +kernel, rfl, by decide +kernel, by decide +kernel⟩
theorem ok_planned (T : Txt K mg CL CS CR fR) : Def P w K mg base CX0 2 "planned" ["jobs", "downtime", "now"] spPlanned := by
  refine def_of T.h_planned scPlanned (fun vs H Q E h => ?_) (fun f cdv A outer s H vs Q E hr h => ?_)
  · obtain ⟨a, l, js, left, hour, rfl, _⟩ := h
    rfl
  · obtain ⟨a, d, js, dt, now, rfl, hJA, hD, hz, hnow, k⟩ := h
    have hJA0 := hJA
    obtain ⟨ps, hA, hlen, hJ⟩ := hJA
    refine ⟨_, pss_cons (ps_setLc (i := 3) (own := [("release", 7), ("deadline", 8), ("remaining", 9)]) (g := gTup K 3 (gCons (gName 7) (gCons (gName 8) (gCons (gName 9) gNil)))) (tt := tYes) (te := tVar 9) rfl scPlanned.nd rfl rfl (sw_true rfl rfl rfl (by decide +kernel)) (pi_list (pv 0)) (blkOk_by (N := ["jobs", "downtime", "now", "left", "entries", "hour", "number", "release", "deadline", "remaining"]) (sc := defScope (top 16)) (by decide +kernel))
          (fun _ _ _ _ _ => pg_tup rfl (pgs_cons (pg_name (i := 7) scPlanned.nd rfl (.inl rfl)) (pgs_cons (pg_name (i := 8) scPlanned.nd rfl (.inl rfl)) (pgs_cons (pg_name (i := 9) scPlanned.nd rfl (.inl rfl)) pgs_nil)))) (fun _ _ _ _ _ => pts_nil) (fun _ _ _ _ _ => pv 9))
      (pss_cons (ps_set (i := 4) scPlanned.nd rfl (Or.inl rfl) (pe_lst pa_nil))
      (pss_cons (ps_for PassesOwn.never rfl (pi_range2 (by rfl) T.n_range (pa_cons (pv 2) (pa_cons (pe_kon T.k_DAY (by rfl)) pa_nil))) (pg_name (i := 5) scPlanned.nd rfl (.inl rfl))
          (pss_cons (ps_set (i := 6) scPlanned.nd rfl (Or.inl rfl) (pe_ifExp (pt_cmpR op_in_seq (pv 5) (pv 1) (by rfl)) pe_non (pe_callD (ok_chosen T) hr (by rfl) pass0 (pa_cons (pv 0) (pa_cons (pv 3) (pa_cons (pv 5) pa_nil))))))
          (pss_one (ps_if (pt_cmpR op_isN (pv 6) pe_non (nomark _))
            (pss_one (ps_expr (pe_bm PySem.F.plainAttrs_list PySem.F.slot_list_append PySem.F.type_list_append mt_append (pv 4) (pa_cons pe_int pa_nil))))
            (pss_cons (ps_asg (pe_op op_sub (pe_ix ix_list (pv 3) (pv 6) (fun _ _ => rfl)) pe_int) (pg_sub (pv 3) (pv 6) set_list))
            (pss_one (ps_expr (pe_bm PySem.F.plainAttrs_list PySem.F.slot_list_append PySem.F.type_list_append mt_append (pv 4) (pa_cons (pe_op op_add (pv 6) pe_int) pa_nil)))))))))
      (pss_one (ps_ret (pv 4))))), ?_⟩
    refine q_asgL (el_lcW (fun _ => true) (fun i => nV (jb js i).m) (wi_list (ev_var rfl) (sq_of hA)) (by rw [List.length_map]; omega) ?_) (fun l H1 hl e1 h1 => ?_)
    · rintro i x H1 H2 e hi ⟨rfl, hx⟩ Q q
      obtain ⟨p0, hp0, rfl⟩ := getP hx
      exact ⟨p0, _, rfl, SqT.of (e _ _ (hJ i p0 hp0)), rfl, _, _, rfl, _, _, rfl, _, _, rfl, rfl, q _ _ (Ex.refl _) rfl et_yes fun _ => ev_var rfl⟩
    · rw [given_all, List.length_map, hlen, range_jb (fun j => nV j.m), show js.map (fun j => nV j.m) = (js.map Job.m).map nV by rw [List.map_map]; rfl] at h1
      refine q_asgL (el_lst (vs := []) ea_nil (by decide)) (fun en H2 hen e2 h2 => ?_)
      have hle : l ≠ en := ne_of_none h1 hen
      have e12 := e1.trans e2
      refine q_forR2 (lo := (now : Int)) (n := 24) (ea_cons (ev_var rfl) (ea_cons ev_c ea_nil)) (by omega)
        (fun i σ' H' => (∃ v5 v6 : Option V, σ' = [some (.ref a), some (.ref d), some (nV now), some (.ref l), some (.ref en), v5, v6, none, none, none]) ∧ Ex H H' ∧ IntsAt H' l (runP js dt now i).1 ∧ IntsAt H' en (runP js dt now i).2)
        (fun H3 e3 => ⟨⟨none, none, rfl⟩, e12.trans e3, e3 _ _ (e2 _ _ h1), e3 _ _ h2⟩) ?_ ?_
      · rintro i σ' H3 hi ⟨⟨v5, v6, rfl⟩, e3, hl3, hn3⟩
        have hen0 : H en = none := fresh_back e1 hen
        have hcast : V.int ((now : Int) + (i : Int)) = nV (now + i) := by simp [nV]
        rw [hcast]
        obtain ⟨hr2, hr1⟩ := runP_len js dt now i
        have hstep : runP js dt now (i + 1) = turn js dt (runP js dt now i) (now + i) := rfl
        unfold turn at hstep
        refine q_asg (v := oV (mill js dt (runP js dt now i).1 (now + i))) (ev_if (b := dt.contains (now + i)) (et_is (et_test (ev_op (ev_var rfl) (ev_var rfl) (rv_isL (sq_of (e3 _ _ hD)) rfl (flat_nV dt)))) (in_nV dt _)) (fun c => ?_) (fun c => ?_)) (fun H4 e4 => ?_)
        · unfold mill
          rw [if_pos c]
          exact ev_c
        · unfold mill
          rw [if_neg (by rw [c]; decide)]
          refine ev_call (ea_cons (ev_var rfl) (ea_cons (ev_var rfl) (ea_cons (ev_var rfl) ea_nil))) fun H5 e5 Q q E => ?_
          exact ⟨a, l, js, (runP js dt now i).1, now + i, rfl, hJA0.ex (e3.trans e5), e5 _ _ hl3, hr1, fun H6 e6 => q H6 e6⟩
        · have hl4 := hl3.ex e4
          have hn4 := hn3.ex e4
          cases hm : mill js dt (runP js dt now i).1 (now + i) with
          | none =>
            rw [hm] at hstep
            refine s_if (b := true) (et_is (et_test (ev_op (ev_var rfl) ev_c rv_isN)) rfl) (fun _ H5 e5 => ?_) (fun h => nomatch h)
            refine s_app (e5 _ _ hn4) (ev_var rfl) ev_c (by rw [List.length_map, hr2]; omega) fun H6 e6 => ⟨⟨some (nV (now + i)), some .non, rfl⟩, Ex.mut (((e3.trans e4).trans e5).trans e6) hen0, ?_, ?_⟩
            · rw [hstep]
              show upd H6 en _ l = _
              rw [upd_ne hle]
              exact e6 _ _ (e5 _ _ hl4)
            · rw [hstep]
              show upd H6 en _ en = some (.lst (((runP js dt now i).2 ++ [0]).map nV))
              rw [upd_same, List.map_append]
              rfl
          | some n =>
            rw [hm] at hstep
            have hnl : n < (runP js dt now i).1.length := by
              rw [hr1]
              unfold mill at hm
              split at hm
              · cases hm
              · exact pick_lt hm
            have hpos : 0 < (runP js dt now i).1.getD n 0 := by
              unfold mill at hm
              split at hm
              · cases hm
              · exact pick_left hm
            refine s_if (b := false) (et_is (et_test (ev_op (ev_var rfl) ev_c rv_isN)) (by simp [oV])) (fun h => nomatch h) (fun _ H5 e5 => ?_)
            have hl5 := hl4.ex e5
            have hn5 := hn4.ex e5
            refine q_setL (j := n) (v := nV ((runP js dt now i).1.getD n 0 - 1)) hl5 (ev_is (ev_op (ev_op (ev_var rfl) (ev_var rfl) (rv_ixL (sq_of hl5) (atI_nat (IntsAt.get hnl)))) ev_c rv_I0) (by show V.int _ = V.int _; congr 1; omega)) (ev_var rfl) (ev_var rfl) (by rw [List.length_map]; exact hnl) fun H6 e6 => ?_
            refine s_app (xs := ((runP js dt now i).2).map nV) (v := nV (n + 1)) (by rw [upd_ne (Ne.symm hle)]; exact e6 _ _ hn5) (ev_var rfl) (ev_is (ev_op (ev_var rfl) ev_c rv_I0) (by show V.int _ = V.int _; congr 1)) (by rw [List.length_map, hr2]; omega) fun H7 e7 => ⟨⟨some (nV (now + i)), some (nV n), rfl⟩, ?_, ?_, ?_⟩
            · refine Ex.mut (Ex.trans ?_ e7) hen0
              exact Ex.mut (((e3.trans e4).trans e5).trans e6) hl
            · rw [hstep]
              show upd H7 en _ l = some (.lst (((runP js dt now i).1.set n ((runP js dt now i).1.getD n 0 - 1)).map nV))
              rw [upd_ne hle, List.map_set]
              exact e7 _ _ upd_same
            · rw [hstep]
              show upd H7 en _ en = some (.lst (((runP js dt now i).2 ++ [n + 1]).map nV))
              rw [upd_same, List.map_append]
              rfl
      · rintro σ' H3 ⟨⟨v5, v6, rfl⟩, e3, hl3, hn3⟩
        have ht : ((24 : Int) - (now : Int)).toNat = 24 - now := by omega
        rw [ht] at hn3
        exact ⟨_, rfl, k en H3 (fresh_back e1 hen) e3 hn3⟩
end
end Mill
end
section
set_option Elab.async false
set_option linter.all false
set_option maxRecDepth 100000
set_option maxHeartbeats 2000000
namespace Mill
open PySem PySem.Spec PyProof.Rows L2 Evl
theorem dec_nV {a b : Nat} : decide (nV a = nV b) = decide (a = b) := by
  by_cases h : a = b
  · subst h
    simp
  · rw [decide_eq_false h]
    exact decide_eq_false fun q => h (by have := V.int.inj q; omega)
theorem getN {ns : List Nat} {i : Nat} {y : V} (h : (ns.map nV)[i]? = some y) : i < ns.length ∧ y = nV (ns.getD i 0) := by
  rw [List.getElem?_map] at h
  cases e : ns[i]? with
  | none => rw [e] at h; cases h
  | some p =>
    rw [e] at h
    obtain ⟨h1, h2⟩ := List.getElem?_eq_some_iff.mp e
    exact ⟨h1, by rw [List.getD_eq_getElem?_getD, e]; exact (Option.some.inj h).symm⟩
def RetI (xs : List Nat) (H : Hp) (Q : VK) : Prop := ∀ p H', H p = none → Ex H H' → IntsAt H' p xs → Q (.ref p) H'
section
variable {P : Program} {w : World} {K : PySem.W.Frag} {mg : Str → Option Value} {base : Heap} {CL CS CR fR : Addr}
/-! ### hours_of -/
def spHours : Sp := fun vs H Q _ => ∃ (e : Addr) (es : List Nat) (now n : Nat), vs = [.ref e, nV now, nV n] ∧ IntsAt H e es ∧ es.length ≤ 1000 ∧ RetI (hoursM es now n) H Q
abbrev nHours : List Str := ["entries", "now", "number", "place", "entry"]
theorem scHours : FnScope nHours ["entries", "now", "number"] (defScope (top 17)) := ⟨rfl, rfl, rfl, by decide +kernel, rfl, by decide +kernel, by decide +kernel⟩
theorem ok_hours (T : Txt K mg CL CS CR fR) : Def P w K mg base CX0 1 "hours_of" ["entries", "now", "number"] spHours := by
  refine def_of T.h_hours_of scHours (fun vs H Q E h => ?_) (fun f cdv A outer s H vs Q E hr h => ?_)
  · obtain ⟨e, es, now, n, rfl, _⟩ := h
    rfl
  · obtain ⟨e, es, now, n, rfl, hE, hz, k⟩ := h
    refine ⟨_, pss_one (ps_ret (pe_lc (own := [("place", 3), ("entry", 4)]) (g := gTup K 2 (gCons (gName 3) (gCons (gName 4) gNil))) rfl scHours.nd (pi_enum (by rfl) T.n_enumerate (pa_cons (pv 0) pa_nil)) (blkOk_by (N := nHours) (sc := defScope (top 17)) (by decide +kernel))
          (fun _ _ _ _ _ => pg_tup rfl (pgs_cons (pg_name (i := 3) scHours.nd rfl (.inl rfl)) (pgs_cons (pg_name (i := 4) scHours.nd rfl (.inl rfl)) pgs_nil)))
          (fun _ _ _ _ _ => pts_one (pt_cmpR op_eq (pv 4) (pe_op op_add (pv 2) pe_int) (nomark _))) (fun _ _ _ _ _ => pe_op op_add (pv 1) (pv 3)))), ?_⟩
    refine s_retL (el_lcW (atP es n) (fun i => nV (now + i)) (wi_enum (ev_var rfl) (sq_of hE)) (by rw [List.length_map]; omega) ?_) fun p H1 hp e1 h1 => k p H1 hp e1 ?_
    · rintro i x H1 H2 e hi ⟨T0, x0, y0, rfl, hT, rfl, hx, hy⟩ Q q
      cases hx
      obtain ⟨hi', rfl⟩ := getN hy
      refine ⟨T0, _, rfl, SqT.of upd_same, rfl, _, _, rfl, _, _, rfl, rfl, q _ _ (Ex.new hT) rfl (et_is (et_test (ev_op (ev_var rfl) (ev_is (w := nV (n + 1)) (ev_op (ev_var rfl) ev_c rv_I0) (by simp [nV])) (rv_eq rfl))) dec_nV) fun _ => ev_is (ev_op (ev_var rfl) (ev_var rfl) rv_I0) (by simp [nV])⟩
    · rw [List.length_map] at h1
      show H1 p = some (.lst ((((List.range es.length).filter (atP es n)).map (now + ·)).map nV))
      rw [List.map_map]
      exact h1
/-! ### completion -/
def spCompl : Sp := fun vs H Q _ => ∃ (a e : Addr) (js : List Job) (es : List Nat) (now n : Nat), vs = [.ref a, .ref e, nV now, nV n] ∧ JobsAt H a js ∧ IntsAt H e es ∧ es.length ≤ 1000 ∧ n < js.length ∧
  ∀ H', Ex H H' → Q (oV (completionM js es now n)) H'
theorem scCompl : FnScope ["jobs", "entries", "now", "number", "remaining", "hours"] ["jobs", "entries", "now", "number"] (defScope (top 18)) := ⟨rfl, rfl, rfl, by decide +kernel, rfl, by decide +kernel, by decide +kernel⟩
theorem at_last {ns : List Nat} (h : ns ≠ []) : atI (ns.map nV) (-1) = some (nV (ns.getLastD 0)) := by
  have e : ns = ns.dropLast ++ [ns.getLastD 0] := by
    rw [List.getLastD_eq_getLast?, List.getLast?_eq_some_getLast h]
    exact (List.dropLast_concat_getLast h).symm
  rw [e, List.map_append]
  have e2 : (ns.dropLast ++ [ns.getLastD 0]).getLastD 0 = ns.getLastD 0 := by rw [← e]
  rw [e2]
  exact atI_last _ _
theorem ok_compl (T : Txt K mg CL CS CR fR) : Def P w K mg base CX0 2 "completion" ["jobs", "entries", "now", "number"] spCompl := by
  refine def_of T.h_completion scCompl (fun vs H Q E h => ?_) (fun f cdv A outer s H vs Q E hr h => ?_)
  · obtain ⟨a, e, js, es, now, n, rfl, _⟩ := h
    rfl
  · obtain ⟨a, e, js, es, now, n, rfl, ⟨ps, hA, hlen, hJ⟩, hE, hz, hn, k⟩ := h
    refine ⟨_, pss_cons (ps_set (i := 4) scCompl.nd rfl (Or.inl rfl) (pe_ix ix_tup (pe_ix ix_list (pv 0) (pv 3) (fun _ _ => rfl)) pe_int (fun _ _ => rfl)))
      (pss_cons (ps_if (pt_cmpR op_eq (pv 4) pe_int (nomark _)) (pss_one (ps_ret (pv 2))) pss_nil)
      (pss_cons (ps_set (i := 5) scCompl.nd rfl (Or.inl rfl) (pe_callD (ok_hours T) hr (by rfl) pass0 (pa_cons (pv 1) (pa_cons (pv 2) (pa_cons (pv 3) pa_nil)))))
      (pss_cons (ps_if (pt_cmpR op_lt (pe_callB call_len_seq (by rfl) T.n_len PySem.boot_len (pa_cons (pv 5) pa_nil)) (pv 4) (nomark _)) (pss_one (ps_ret pe_non)) pss_nil)
      (pss_one (ps_ret (pe_op op_add (pe_ix ix_list (pv 5) (pe_un un_neg pe_int) (fun _ _ => rfl)) pe_int)))))), ?_⟩
    obtain ⟨p0, hp0⟩ := some_at (l := ps) (i := n) (by omega)
    refine q_asg (v := nV (jb js n).m) (ev_op (ev_op (ev_var rfl) (ev_var rfl) (rv_ixL (sq_of hA) (atP_ref hp0))) ev_c (rv_ixT (st_of (hJ n p0 hp0)) (atI_nat (j := 2) rfl))) fun H1 e1 => ?_
    refine q_when (b := decide ((jb js n).m = 0)) (et_is (et_test (ev_op (ev_var rfl) ev_c (rv_eq rfl))) (dec_nV (b := 0))) (fun hb H2 e2 => ?_) (fun hb H2 e2 => ?_)
    · have hb' : (jb js n).m = 0 := by simpa using hb
      refine s_ret (v := nV now) (ev_var rfl) fun H3 e3 => ?_
      have q := k H3 ((e1.trans e2).trans e3)
      unfold completionM at q
      rw [if_pos hb'] at q
      exact q
    · have hb' : ¬ (jb js n).m = 0 := by simpa using hb
      have hc : completionM js es now n = if (hoursM es now n).length < (jb js n).m then none else some ((hoursM es now n).getLastD 0 + 1) := by
        unfold completionM
        rw [if_neg hb']
      have e12 := e1.trans e2
      refine q_asgL (xs := (hoursM es now n).map nV) (el_call (ea_cons (ev_var rfl) (ea_cons (ev_var rfl) (ea_cons (ev_var rfl) ea_nil))) fun H3 e3 Q q E => ⟨e, es, now, n, rfl, hE.ex (e12.trans e3), hz, fun p H4 hp e4 h4 => q p H4 hp e4 h4⟩) (fun p H3 hp e3 h3 => ?_)
      refine q_when (b := decide ((hoursM es now n).length < (jb js n).m)) (et_is (et_test (ev_op (ev_len (ev_var rfl) (sq_of h3)) (ev_var rfl) rv_I0)) (by simp)) (fun hd H4 e4 => ?_) (fun hd H4 e4 => ?_)
      · have hd' : (hoursM es now n).length < (jb js n).m := by simpa using hd
        rw [if_pos hd'] at hc
        rw [hc] at k
        exact s_ret ev_c fun H5 e5 => k H5 (((e12.trans e3).trans e4).trans e5)
      · have hd' : ¬ (hoursM es now n).length < (jb js n).m := by simpa using hd
        rw [if_neg hd'] at hc
        rw [hc] at k
        have hne : hoursM es now n ≠ [] := by
          intro z
          rw [z] at hd'
          exact hd' (by show 0 < _; omega)
        exact s_ret (ev_is (ev_op (ev_op (ev_var rfl) (ev_un ev_c ru_neg) (rv_ixL (sq_of (e4 _ _ h3)) (at_last hne))) ev_c rv_I0) (by simp [nV, oV])) fun H5 e5 => k H5 (((e12.trans e3).trans e4).trans e5)
/-! ### is_late -/
def spIsLate : Sp := fun vs H Q _ => ∃ (a e : Addr) (js : List Job) (es : List Nat) (now n : Nat), vs = [.ref a, .ref e, nV now, nV n] ∧ JobsAt H a js ∧ IntsAt H e es ∧ es.length ≤ 1000 ∧ n < js.length ∧
  ∀ H', Ex H H' → Q (.bl (lateM js es now n)) H'
theorem scIsLate : FnScope ["jobs", "entries", "now", "number", "release", "deadline", "remaining", "hour"] ["jobs", "entries", "now", "number"] (defScope (top 19)) := ⟨rfl, rfl, rfl, by decide +kernel, rfl, by decide +kernel, by decide +kernel⟩
theorem ok_isLate (T : Txt K mg CL CS CR fR) : Def P w K mg base CX0 3 "is_late" ["jobs", "entries", "now", "number"] spIsLate := by
  refine def_of T.h_is_late scIsLate (fun vs H Q E h => ?_) (fun f cdv A outer s H vs Q E hr h => ?_)
  · obtain ⟨a, e, js, es, now, n, rfl, _⟩ := h
    rfl
  · obtain ⟨a, e, js, es, now, n, rfl, hJA, hE, hz, hn, k⟩ := h
    have hJA0 := hJA
    obtain ⟨ps, hA, hlen, hJ⟩ := hJA
    refine ⟨_, pss_cons (ps_asg (pe_ix ix_list (pv 0) (pv 3) (fun _ _ => rfl)) (pg_tup rfl (pgs_cons (pg_name (i := 4) scIsLate.nd rfl (.inl rfl)) (pgs_cons (pg_name (i := 5) scIsLate.nd rfl (.inl rfl)) (pgs_cons (pg_name (i := 6) scIsLate.nd rfl (.inl rfl)) pgs_nil)))))
      (pss_cons (ps_if (pt_cmpR op_eq (pv 6) pe_int (nomark _)) (pss_one (ps_ret pe_bl)) pss_nil)
      (pss_cons (ps_set (i := 7) scIsLate.nd rfl (Or.inl rfl) (pe_callD (ok_compl T) hr (by rfl) pass0 (pa_cons (pv 0) (pa_cons (pv 1) (pa_cons (pv 2) (pa_cons (pv 3) pa_nil))))))
      (pss_one (ps_ret (pe_or (pe_cmpR op_isN (pv 7) pe_non (nomark _)) (pe_one (pe_cmpR op_gt (pv 7) (pv 5) (nomark _)))))))), ?_⟩
    obtain ⟨p0, hp0⟩ := some_at (l := ps) (i := n) (by omega)
    refine ⟨_, rfl, _, rfl, a, _, _, .ref p0, rfl, rfl, SqL.of hA, atP_ref hp0, p0, _, rfl, SqT.of (hJ n p0 hp0), rfl, _, _, rfl, _, _, rfl, _, _, rfl, rfl, ?_⟩
    refine q_when (b := decide ((jb js n).m = 0)) (et_is (et_test (ev_op (ev_var rfl) ev_c (rv_eq rfl))) (dec_nV (b := 0))) (fun hb H2 e2 => ?_) (fun hb H2 e2 => ?_)
    · have hb' : (jb js n).m = 0 := by simpa using hb
      refine s_ret ev_c fun H3 e3 => ?_
      have q := k H3 (e2.trans e3)
      unfold lateM at q
      rw [if_pos hb'] at q
      exact q
    · have hb' : ¬ (jb js n).m = 0 := by simpa using hb
      unfold lateM at k
      rw [if_neg hb'] at k
      refine q_asg (v := oV (completionM js es now n)) (ev_call (ea_cons (ev_var rfl) (ea_cons (ev_var rfl) (ea_cons (ev_var rfl) (ea_cons (ev_var rfl) ea_nil)))) fun H3 e3 Q q E => ⟨a, e, js, es, now, n, rfl, hJA0.ex (e2.trans e3), hE.ex (e2.trans e3), hz, hn, fun H4 e4 => q H4 e4⟩) (fun H3 e3 => ?_)
      cases hc : completionM js es now n with
      | none =>
        rw [hc] at k
        exact s_ret (ev_is (ev_orV (a := true) (b := true) (ev_is (ev_op (ev_var rfl) ev_c rv_isN) rfl) (fun h => nomatch h)) rfl) fun H5 e5 => k H5 ((e2.trans e3).trans e5)
      | some t =>
        rw [hc] at k
        exact s_ret (ev_is (ev_orV (a := false) (b := decide ((jb js n).d < t)) (ev_is (ev_op (ev_var rfl) ev_c rv_isN) rfl) (fun _ => ev_is (ev_op (ev_var rfl) (ev_var rfl) rv_I0) (by simp))) (by simp)) fun H5 e5 => k H5 ((e2.trans e3).trans e5)
/-! ### late_jobs -/
def spLate : Sp := fun vs H Q _ => ∃ (a d : Addr) (js : List Job) (dt : List Nat) (now : Nat), vs = [.ref a, .ref d, nV now] ∧ JobsAt H a js ∧ IntsAt H d dt ∧ js.length ≤ 100 ∧ now ≤ 24 ∧ RetI (lateJobs js dt now) H Q
abbrev nLate : List Str := ["jobs", "downtime", "now", "entries", "number"]
theorem scLate : FnScope nLate ["jobs", "downtime", "now"] (defScope (top 20)) := ⟨rfl, rfl, rfl, by decide +kernel, rfl, by decide +kernel, by decide +kernel⟩
theorem ok_late (T : Txt K mg CL CS CR fR) : Def P w K mg base CX0 4 "late_jobs" ["jobs", "downtime", "now"] spLate := by
  refine def_of T.h_late_jobs scLate (fun vs H Q E h => ?_) (fun f cdv A outer s H vs Q E hr h => ?_)
  · obtain ⟨a, d, js, dt, now, rfl, _⟩ := h
    rfl
  · obtain ⟨a, d, js, dt, now, rfl, hJA, hD, hz, hnow, k⟩ := h
    have hJA0 := hJA
    obtain ⟨ps, hA, hlen, hJ⟩ := hJA
    refine ⟨_, pss_cons (ps_set (i := 3) scLate.nd rfl (Or.inr rfl) (pe_callD (ok_planned T) (hr.mono (by decide)) (by rfl) pass0 (pa_cons (pv 0) (pa_cons (pv 1) (pa_cons (pv 2) pa_nil)))))
      (pss_one (ps_ret (pe_lc (own := [("number", 4)]) (g := gName 4) rfl scLate.nd (pi_range1 (by rfl) T.n_range (pa_cons (pe_callB call_len_seq (by rfl) T.n_len PySem.boot_len (pa_cons (pv 0) pa_nil)) pa_nil)) (blkOk_by (N := nLate) (sc := defScope (top 20)) (by decide +kernel))
          (fun _ _ _ _ _ => pg_name (i := 4) scLate.nd rfl (.inl rfl))
          (fun _ _ _ _ _ => pts_one (pt_val (pe_callD (ok_isLate T) hr (by rfl) pass0 (pa_cons (pv 0) (pa_cons (pv 3) (pa_cons (pv 2) (pa_cons (pv 4) pa_nil))))))) (fun _ _ _ _ _ => pv 4)))), ?_⟩
    refine q_asgL (xs := (planM js dt now).map nV) (el_call (ea_cons (ev_var rfl) (ea_cons (ev_var rfl) (ea_cons (ev_var rfl) ea_nil))) fun H1 e1 Q q E => ⟨a, d, js, dt, now, rfl, hJA0.ex e1, hD.ex e1, hz, hnow, fun p H2 hp e2 h2 => q p H2 hp e2 h2⟩) (fun p H1 hp e1 h1 => ?_)
    refine s_retL (el_lcW (lateM js (planM js dt now) now) (fun i => nV i) (wi_rng1 (n := (js.length : Int)) (ea_cons (ev_is (ev_len (ev_var rfl) (sq_of (e1 _ _ hA))) (by rw [List.length_map, hlen])) ea_nil) (by omega)) (by omega) ?_) fun p2 H2 hp2 e2 h2 => k p2 H2 (fresh_back e1 hp2) (e1.trans e2) ?_
    · rintro i x H3 H4 e hi ⟨rfl, rfl⟩ Q q
      have hi' : i < js.length := by omega
      have hc : V.int ((0 : Int) + (i : Int)) = nV i := by simp [nV]
      show gName 4 (V.int ((0 : Int) + (i : Int))) _ _ Q
      rw [hc]
      refine q _ _ (Ex.refl _) rfl (et_B (ev_call (ea_cons (ev_var rfl) (ea_cons (ev_var rfl) (ea_cons (ev_var rfl) (ea_cons (ev_var rfl) ea_nil)))) fun H5 e5 Q q E => ?_)) fun _ => ev_var rfl
      exact ⟨a, p, js, planM js dt now, now, i, rfl, hJA0.ex ((e1.trans e).trans e5), e5 _ _ (e _ _ h1), by rw [planM_len]; omega, hi', fun H6 e6 => q H6 e6⟩
    · have ht : ((js.length : Int)).toNat = js.length := by omega
      rw [ht] at h2
      exact h2
end
end Mill
end
section
set_option Elab.async false
set_option linter.all false
set_option maxRecDepth 100000
set_option maxHeartbeats 2000000
namespace Mill
open PySem PySem.Spec PyProof.Rows L2 Evl
theorem dp_ints {K : PySem.W.Frag} {H : Hp} : ∀ ns : List Nat, DpAll K H (ns.map nV) ((ns.map fun (n : Nat) => (n : Int)).map PyData.int)
  | [] => .nil
  | n :: r => .cons (.int n) (dp_ints r)
theorem cut_take (xs : List V) (n : Nat) (h : n ≤ xs.length) : cutV xs none (some (n : Int)) = xs.take n := by
  unfold cutV
  rw [HT.sIx_none, HT.sIx_nat, List.drop_zero, Nat.min_eq_left h, Nat.sub_zero]
theorem cut_drop (xs : List V) (n : Nat) : cutV xs (some (n : Int)) none = xs.drop n := by
  unfold cutV
  rw [HT.sIx_none, HT.sIx_nat]
  by_cases h : n ≤ xs.length
  · rw [Nat.min_eq_left h]
    exact List.take_of_length_le (by rw [List.length_drop]; omega)
  · rw [Nat.min_eq_right (by omega), List.drop_eq_nil_of_le (Nat.le_refl _), List.drop_eq_nil_of_le (by omega)]
    simp
section
variable {P : Program} {w : World} {K : PySem.W.Frag} {mg : Str → Option Value} {base : Heap} {CL CS CR fR : Addr}
/-! ### is_feasible -/
def spFeas : Sp := fun vs H Q _ => ∃ (a d : Addr) (js : List Job) (dt : List Nat) (now : Nat), vs = [.ref a, .ref d, nV now] ∧ JobsAt H a js ∧ IntsAt H d dt ∧ js.length ≤ 100 ∧ now ≤ 24 ∧ ∀ H', Ex H H' → Q (.bl (feasM js dt now)) H'
theorem scFeas : FnScope ["jobs", "downtime", "now"] ["jobs", "downtime", "now"] (defScope (top 21)) := ⟨rfl, rfl, rfl, by decide +kernel, rfl, by decide +kernel, by decide +kernel⟩
theorem eqv_nil (ns : List Nat) : PyData.eqv (.list ((ns.map fun (n : Nat) => (n : Int)).map PyData.int)) (.list []) = ns.isEmpty := by
  cases ns with
  | nil => simp [PyData.eqv, PyData.eqvAll]
  | cons a r => simp [PyData.eqv, PyData.eqvAll]
theorem ok_feas (T : Txt K mg CL CS CR fR) : Def P w K mg base CX0 5 "is_feasible" ["jobs", "downtime", "now"] spFeas := by
  refine def_of T.h_is_feasible scFeas (fun vs H Q E h => ?_) (fun f cdv A outer s H vs Q E hr h => ?_)
  · obtain ⟨a, d, js, dt, now, rfl, _⟩ := h
    rfl
  · obtain ⟨a, d, js, dt, now, rfl, hJA, hD, hz, hnow, k⟩ := h
    refine ⟨_, pss_one (ps_ret (pe_cmpR (op_eqD hr.units) (pe_callD (ok_late T) hr (by rfl) pass0 (pa_cons (pv 0) (pa_cons (pv 1) (pa_cons (pv 2) pa_nil)))) (pe_lst pa_nil) (nomark _))), ?_⟩
    refine ⟨_, rfl, _, rfl, _, rfl, a, d, js, dt, now, rfl, hJA, hD, hz, hnow, fun p H1 hp e1 h1 => ⟨by show 0 ≤ sizeLine; omega, fun q hq => ?_⟩⟩
    have e2 := Ex.new (o := .lst []) hq
    refine ⟨_, _, Dp.lst (sq_of (e2 _ _ h1)) (dp_ints _), Dp.lst (sq_of upd_same) .nil, PySem.W.shaped_ints _, PySem.W.shaped_ints [], ?_⟩
    show Q (.bl (PyData.eqv _ _)) _
    rw [eqv_nil]
    exact k _ (e1.trans e2)
/-! ### longer -/
def spLonger : Sp := fun vs H Q _ => ∃ (a : Addr) (js : List Job) (n x : Nat), vs = [.ref a, nV n, nV x] ∧ JobsAt H a js ∧ js.length ≤ 100 ∧ n < js.length ∧ ∀ p H', H p = none → Ex H H' → JobsAt H' p (longerM js n x) → Q (.ref p) H'
theorem scLonger : FnScope ["jobs", "number", "extra", "release", "deadline", "remaining"] ["jobs", "number", "extra"] (defScope (top 22)) := ⟨rfl, rfl, rfl, by decide +kernel, rfl, by decide +kernel, by decide +kernel⟩
theorem take_set_drop {α : Type} : ∀ (l : List α) (n : Nat) (x : α), n < l.length → l.take n ++ [x] ++ l.drop (n + 1) = l.set n x
  | [], n, x, h => by simp at h
  | a :: r, 0, x, _ => by simp
  | a :: r, n + 1, x, h => by
    have := take_set_drop r n x (by simpa using h)
    simpa using this
theorem ok_longer (T : Txt K mg CL CS CR fR) : Def P w K mg base CX0 1 "longer" ["jobs", "number", "extra"] spLonger := by
  refine def_of T.h_longer scLonger (fun vs H Q E h => ?_) (fun f cdv A outer s H vs Q E hr h => ?_)
  · obtain ⟨a, js, n, x, rfl, _⟩ := h
    rfl
  · obtain ⟨a, js, n, x, rfl, ⟨ps, hA, hlen, hJ⟩, hz, hn, k⟩ := h
    refine ⟨_, pss_cons (ps_asg (pe_ix ix_list (pv 0) (pv 1) (fun _ _ => rfl)) (pg_tup rfl (pgs_cons (pg_name (i := 3) scLonger.nd rfl (.inl rfl)) (pgs_cons (pg_name (i := 4) scLonger.nd rfl (.inl rfl)) (pgs_cons (pg_name (i := 5) scLonger.nd rfl (.inl rfl)) pgs_nil)))))
      (pss_one (ps_ret (pe_op op_cat (pe_op op_cat (pe_slice sl_list (pv 0) po_none (po_some (pv 1))) (pe_lst (pa_cons (pe_tup (pa_cons (pv 3) (pa_cons (pv 4) (pa_cons (pe_op op_add (pv 5) (pv 2)) pa_nil)))) pa_nil))) (pe_slice sl_list (pv 0) (po_some (pe_op op_add (pv 1) pe_int)) po_none)))), ?_⟩
    have hn' : n < ps.length := by omega
    obtain ⟨p0, hp0⟩ := some_at (l := ps) (i := n) hn'
    refine ⟨_, rfl, _, rfl, a, _, _, .ref p0, rfl, rfl, SqL.of hA, atP_ref hp0, p0, _, rfl, SqT.of (hJ n p0 hp0), rfl, _, _, rfl, _, _, rfl, _, _, rfl, rfl, ?_⟩
    refine ⟨_, rfl, _, rfl, _, rfl, a, _, rfl, SqL.of hA, fun q1 hq1 => ?_⟩
    have e1 := Ex.new (o := .lst (cutV (ps.map V.ref) none (some (n : Int)))) hq1
    refine ⟨_, rfl, _, rfl, _, rfl, _, rfl, _, _, rfl, rfl, by show 3 ≤ sizeLine; decide, fun t ht => ?_⟩
    have e2 := e1.trans (Ex.new (o := .tup [nV (jb js n).r, nV (jb js n).d, .int (((jb js n).m : Int) + (x : Int))]) ht)
    refine ⟨by show 1 ≤ sizeLine; decide, fun q2 hq2 => ?_⟩
    have e3 := e2.trans (Ex.new (o := .lst [.ref t]) hq2)
    have f1 : Ex _ (upd _ t _) := Ex.new (o := .tup [nV (jb js n).r, nV (jb js n).d, .int (((jb js n).m : Int) + (x : Int))]) ht
    have f2 : Ex _ (upd _ q2 _) := Ex.new (o := .lst [.ref t]) hq2
    refine ⟨q1, q2, cutV (ps.map V.ref) none (some (n : Int)), [.ref t], rfl, rfl, f2 _ _ (f1 _ _ upd_same), upd_same, ?_, fun q3 hq3 => ?_⟩
    · have := cutV_length (ps.map V.ref) none (some (n : Int))
      rw [List.length_map] at this
      exact sz_of (by show _ + 1 ≤ _; omega)
    have f3 : Ex _ (upd _ q3 _) := Ex.new (o := .lst (cutV (ps.map V.ref) none (some (n : Int)) ++ [.ref t])) hq3
    have e4 := e3.trans f3
    refine ⟨_, rfl, ⟨_, rfl, _, _, rfl, rfl, _, rfl, a, _, rfl, SqL.of (e4 _ _ hA), fun q4 hq4 => ?_⟩⟩
    have f4 : Ex _ (upd _ q4 _) := Ex.new (o := .lst (cutV (ps.map V.ref) (some ((n : Int) + 1)) none)) hq4
    have e5 := e4.trans f4
    refine ⟨q3, q4, cutV (ps.map V.ref) none (some (n : Int)) ++ [.ref t], cutV (ps.map V.ref) (some ((n : Int) + 1)) none, rfl, rfl, f4 _ _ upd_same, upd_same, ?_, fun q5 hq5 => ?_⟩
    · have h1 := cutV_length (ps.map V.ref) none (some (n : Int))
      have h2 := cutV_length (ps.map V.ref) (some ((n : Int) + 1)) none
      rw [List.length_map] at h1 h2
      exact sz_of (by rw [List.length_append]; show _ + 1 + _ ≤ _; omega)
    have f5 : Ex _ (upd _ q5 _) := Ex.new (o := .lst (cutV (ps.map V.ref) none (some (n : Int)) ++ [.ref t] ++ cutV (ps.map V.ref) (some ((n : Int) + 1)) none)) hq5
    have e6 := e5.trans f5
    refine k q5 _ (fresh_back e5 hq5) e6 ⟨ps.set n t, ?_, by simp [longerM, hlen], fun i p hp => ?_⟩
    · have hcast : ((n : Int) + 1) = ((n + 1 : Nat) : Int) := by simp
      rw [← take_set_drop _ _ _ hn', List.map_append, List.map_append, List.map_take, List.map_drop, ← cut_take _ _ (by rw [List.length_map]; omega), ← cut_drop, ← hcast]
      exact upd_same
    · by_cases hi : i = n
      · subst hi
        rw [List.getElem?_set_self hn'] at hp
        cases hp
        have : jb (longerM js i x) i = ⟨(jb js i).r, (jb js i).d, (jb js i).m + x⟩ := by simp [jb, longerM, List.getD_eq_getElem?_getD, hn]
        rw [this]
        have q := f5 _ _ (f4 _ _ (f3 _ _ (f2 _ _ upd_same)))
        have hm : (V.int (((jb js i).m : Int) + (x : Int))) = nV ((jb js i).m + x) := by simp [nV]
        show _ = some (HO.tup [nV (jb js i).r, nV (jb js i).d, nV ((jb js i).m + x)])
        rw [← hm]
        exact q
      · rw [List.getElem?_set_ne (Ne.symm hi)] at hp
        have : jb (longerM js n x) i = jb js i := by simp [jb, longerM, List.getD_eq_getElem?_getD, List.getElem?_set_ne (Ne.symm hi)]
        rw [this]
        exact e6 _ _ (hJ i p hp)
/-! ### changes -/
def spChanges : Sp := fun vs H Q _ => ∃ (e : Addr) (es : List Nat), vs = [.ref e] ∧ IntsAt H e es ∧ es.length ≤ 1000 ∧ ∀ H', Ex H H' → Q (nV (changesM es)) H'
abbrev nChanges : List Str := ["entries", "milled", "entry", "one", "later"]
theorem scChanges : FnScope nChanges ["entries"] (defScope (top 23)) := ⟨rfl, rfl, rfl, by decide +kernel, rfl, by decide +kernel, by decide +kernel⟩
theorem given_filter (p : Nat → Bool) (ns : List Nat) : given ns.length (fun i => p (ns.getD i 0)) (fun i => nV (ns.getD i 0)) = (ns.filter p).map nV := by
  have e : (List.range ns.length).map (fun i => ns.getD i 0) = ns := by
    apply List.ext_getElem
    · simp
    · intro i h1 h2
      have : i < ns.length := by simpa using h1
      simp [List.getD_eq_getElem?_getD, this]
  unfold given
  conv => rhs; rw [← e]
  rw [List.filter_map, List.map_map]
  rfl
theorem given_length (n : Nat) (f : Nat → Bool) (v : Nat → V) : (given n f v).length = ((List.range n).filter f).length := by
  unfold given
  rw [List.length_map]
theorem ok_changes (T : Txt K mg CL CS CR fR) : Def P w K mg base CX0 1 "changes" ["entries"] spChanges := by
  refine def_of T.h_changes scChanges (fun vs H Q E h => ?_) (fun f cdv A outer s H vs Q E hr h => ?_)
  · obtain ⟨e, es, rfl, _⟩ := h
    rfl
  · obtain ⟨e, es, rfl, hE, hz, k⟩ := h
    refine ⟨_, pss_cons (ps_setLc (i := 1) (own := [("entry", 2)]) (g := gName 2) rfl scChanges.nd rfl rfl (sw_true rfl rfl rfl (by decide +kernel)) (pi_list (pv 0)) (blkOk_by (N := nChanges) (sc := defScope (top 23)) (by decide +kernel))
          (fun _ _ _ _ _ => pg_name (i := 2) scChanges.nd rfl (.inl rfl)) (fun _ _ _ _ _ => pts_one (pt_cmpR op_ne (pv 2) pe_int (nomark _))) (fun _ _ _ _ _ => pv 2))
      (pss_one (ps_ret (pe_callB call_len_seq (by rfl) T.n_len PySem.boot_len (pa_cons (pe_lc (own := [("one", 3), ("later", 4)]) (g := gTup K 2 (gCons (gName 3) (gCons (gName 4) gNil))) rfl scChanges.nd
          (pi_zip (by rfl) T.n_zip (pa_cons (pv 1) (pa_cons (pe_slice sl_list (pv 1) (po_some pe_int) po_none) pa_nil))) (blkOk_by (N := nChanges) (sc := defScope (top 23)) (by decide +kernel))
          (fun _ _ _ _ _ => pg_tup rfl (pgs_cons (pg_name (i := 3) scChanges.nd rfl (.inl rfl)) (pgs_cons (pg_name (i := 4) scChanges.nd rfl (.inl rfl)) pgs_nil)))
          (fun _ _ _ _ _ => pts_one (pt_cmpR op_ne (pv 3) (pv 4) (nomark _))) (fun _ _ _ _ _ => pv 4)) pa_nil)))), ?_⟩
    refine q_asgL (xs := (milledM es).map nV) ?_ (fun p H1 hp e1 h1 => ?_)
    · have q := el_lcW (H := H) (σ := L2.start nChanges [V.ref e]) (g := gName 2) (vs := [2]) (t := tTest (tOp rNe (tVar 2) (tC (.int 0)))) (te := tVar 2) (fun i => decide (es.getD i 0 ≠ 0)) (fun i => nV (es.getD i 0)) (wi_list (K := K) (tl := tVar 0) (ev_var rfl) (sq_of hE)) (by rw [List.length_map]; omega) ?_
      · rw [List.length_map, given_filter (fun e => decide (e ≠ 0)) es] at q
        exact q
      · rintro i x H1 H2 e hi ⟨rfl, hx⟩ Q q
        obtain ⟨hi', rfl⟩ := getN hx
        exact q _ _ (Ex.refl _) rfl (et_is (et_test (ev_op (ev_var rfl) ev_c (rv_ne rfl))) (by rw [show V.int 0 = nV 0 from rfl, dec_nV]; simp)) fun _ => ev_var rfl
    · have hzl : (milledM es).length ≤ 1000 := Nat.le_trans (List.length_filter_le _ _) hz
      refine s_ret (v := nV (changesM es)) (ev_is (ev_lenN (el_lcW (fun i => decide ((milledM es).getD i 0 ≠ (milledM es).getD (i + 1) 0)) (fun i => nV ((milledM es).getD (i + 1) 0)) (n := (milledM es).length - 1) (wi_zip (ys := ((milledM es).map nV).drop 1) (by simp) (ev_var rfl) (sq_of h1) ?_) (by omega) ?_)) ?_) fun H2 e2 => k H2 (e1.trans e2)
      · have q := el_sl (K := K) (H := H1) (te := tVar 1) (ev_var (i := 1) (σ := List.set (L2.start nChanges [V.ref e]) 1 (some (V.ref p))) rfl) (eo_some (i := 1) ev_c) eo_none (sq_of h1)
        rw [show (1 : Int) = ((1 : Nat) : Int) from rfl, cut_drop] at q
        exact q
      · rintro i x H2 H3 e hi ⟨T0, x0, y0, rfl, hT, rfl, hx, hy⟩ Q q
        obtain ⟨hi1, rfl⟩ := getN hx
        have hy' : ((milledM es).map nV)[i + 1]? = some y0 := by
          have : (((milledM es).map nV).drop 1)[i]? = some y0 := hy
          rw [List.getElem?_drop] at this
          rw [Nat.add_comm]
          exact this
        obtain ⟨hi2, rfl⟩ := getN hy'
        exact ⟨T0, _, rfl, SqT.of upd_same, rfl, _, _, rfl, _, _, rfl, rfl, q _ _ (Ex.new hT) rfl (et_is (et_test (ev_op (ev_var rfl) (ev_var rfl) (rv_ne rfl))) (by rw [dec_nV]; simp)) fun _ => ev_var rfl⟩
      · rw [given_length]
        rfl
end
end Mill
end
section
set_option Elab.async false
set_option linter.all false
set_option maxRecDepth 100000
set_option maxHeartbeats 2000000
namespace Mill
open PySem PySem.Spec PyProof.Rows L2 Evl
section
variable {P : Program} {w : World} {K : PySem.W.Frag} {mg : Str → Option Value} {base : Heap} {CL CS CR fR : Addr}
/-! ### capacity -/
def spCap : Sp := fun vs H Q _ => ∃ (d : Addr) (dt : List Nat) (now a b : Nat), vs = [.ref d, nV now, nV a, nV b] ∧ IntsAt H d dt ∧ a ≤ 100 ∧ b ≤ 100 ∧ ∀ H', Ex H H' → Q (nV (capM dt now a b)) H'
abbrev nCap : List Str := ["downtime", "now", "first", "last", "hour"]
theorem scCap : FnScope nCap ["downtime", "now", "first", "last"] (defScope (top 25)) := ⟨rfl, rfl, rfl, by decide +kernel, rfl, by decide +kernel, by decide +kernel⟩
theorem ok_cap (T : Txt K mg CL CS CR fR) : Def P w K mg base CX0 1 "capacity" ["downtime", "now", "first", "last"] spCap := by
  refine def_of T.h_capacity scCap (fun vs H Q E h => ?_) (fun f cdv A outer s H vs Q E hr h => ?_)
  · obtain ⟨d, dt, now, a, b, rfl, _⟩ := h
    rfl
  · obtain ⟨d, dt, now, a, b, rfl, hD, ha, hb, k⟩ := h
    refine ⟨_, pss_one (ps_ret (pe_callB call_len_seq (by rfl) T.n_len PySem.boot_len (pa_cons (pe_lc (own := [("hour", 4)]) (g := gName 4) (tt := tAnd (tTest (tOp (rI0 fun i j => .bl (decide (j ≤ i))) (tVar 4) (tVar 1))) (tTest (tOp (rIn K true) (tVar 4) (tVar 0)))) rfl scCap.nd (pi_range2 (by rfl) T.n_range (pa_cons (pv 2) (pa_cons (pv 3) pa_nil))) (blkOk_by (N := nCap) (sc := defScope (top 25)) (by decide +kernel))
          (fun _ _ _ _ _ => pg_name (i := 4) scCap.nd rfl (.inl rfl))
          (fun _ _ _ _ _ => pts_one (PW.pt (pw_and (pt_cmpR op_ge (pv 4) (pv 1) (nomark _)) (pw_and1 (pt_cmpR op_notIn_seq (pv 4) (pv 0) (by rfl)))))) (fun _ _ _ _ _ => pv 4)) pa_nil))), ?_⟩
    refine s_ret (v := nV (capM dt now a b)) (ev_is (ev_lenN (el_lcW (fun i => freeM dt now (a + i)) (fun i => nV (a + i)) (wi_rng2 (lo := (a : Int)) (n := (b : Int)) (ea_cons (ev_var rfl) (ea_cons (ev_var rfl) ea_nil)) (by omega)) (by omega) ?_)) ?_) fun H2 e2 => k H2 e2
    · rintro i x H1 H2 e hi ⟨rfl, rfl⟩ Q q
      have hc : V.int ((a : Int) + (i : Int)) = nV (a + i) := by simp [nV]
      show gName 4 (V.int ((a : Int) + (i : Int))) _ _ Q
      rw [hc]
      refine q _ _ (Ex.refl _) rfl (et_is (et_and (et_test (ev_op (ev_var rfl) (ev_var rfl) rv_I0)) fun _ => et_test (ev_op (ev_var rfl) (ev_var rfl) (rv_niL (sq_of (e _ _ hD)) rfl (flat_nV dt)))) ?_) fun _ => ev_var rfl
      rw [in_nV]
      show (decide ((now : Int) ≤ ((a + i : Nat) : Int)) && _) = _
      unfold freeM
      simp only [Int.ofNat_le]
    · rw [given_length, show ((b : Int) - (a : Int)).toNat = b - a by omega]
      rfl
/-! ### is_within -/
def spWithin : Sp := fun vs H Q _ => ∃ (p : Addr) (j : Job) (now a b : Nat), vs = [.ref p, nV now, nV a, nV b] ∧ H p = some (.tup (jV j)) ∧ ∀ H', Ex H H' → Q (.bl (withinM now a b j)) H'
theorem scWithin : FnScope ["job", "now", "first", "last", "release", "deadline", "remaining"] ["job", "now", "first", "last"] (defScope (top 26)) := ⟨rfl, rfl, rfl, by decide +kernel, rfl, by decide +kernel, by decide +kernel⟩
theorem ok_within (T : Txt K mg CL CS CR fR) : Def P w K mg base CX0 1 "is_within" ["job", "now", "first", "last"] spWithin := by
  refine def_of T.h_is_within scWithin (fun vs H Q E h => ?_) (fun f cdv A outer s H vs Q E hr h => ?_)
  · obtain ⟨p, j, now, a, b, rfl, _⟩ := h
    rfl
  · obtain ⟨p, j, now, a, b, rfl, hp, k⟩ := h
    refine ⟨_, pss_cons (ps_asg (pv 0) (pg_tup rfl (pgs_cons (pg_name (i := 4) scWithin.nd rfl (.inl rfl)) (pgs_cons (pg_name (i := 5) scWithin.nd rfl (.inl rfl)) (pgs_cons (pg_name (i := 6) scWithin.nd rfl (.inl rfl)) pgs_nil)))))
      (pss_one (ps_ret (pe_and (pe_cmpR op_ge (pe_callB (call_max2 rfl) (by rfl) T.n_max (by decide +kernel) (pa_cons (pv 4) (pa_cons (pv 1) pa_nil))) (pv 2) (nomark _)) (pe_one (pe_cmpR op_le (pv 5) (pv 3) (nomark _)))))), ?_⟩
    refine ⟨_, rfl, p, _, rfl, SqT.of hp, rfl, _, _, rfl, _, _, rfl, _, _, rfl, rfl, ?_⟩
    refine s_ret (v := .bl (withinM now a b j)) (ev_is (ev_andV (ev_op (ev_max2 (ev_var rfl) (ev_var rfl)) (ev_var rfl) rv_I0) fun _ => ev_op (ev_var rfl) (ev_var rfl) rv_I0) ?_) fun H2 e2 => k H2 e2
    unfold withinM
    simp only [Int.ofNat_le]
    congr 2
    rw [decide_eq_decide]
    split <;> omega
/-! ### demand -/
def spDem : Sp := fun vs H Q _ => ∃ (x : Addr) (js : List Job) (now a b : Nat), vs = [.ref x, nV now, nV a, nV b] ∧ JobsAt H x js ∧ js.length ≤ 100 ∧ ∀ H', Ex H H' → Q (nV (demM js now a b)) H'
abbrev nDem : List Str := ["jobs", "now", "first", "last", "job"]
theorem scDem : FnScope nDem ["jobs", "now", "first", "last"] (defScope (top 27)) := ⟨rfl, rfl, rfl, by decide +kernel, rfl, by decide +kernel, by decide +kernel⟩
theorem sum_cast : ∀ l : List Nat, (l.map fun (n : Nat) => (n : Int)).sum = ((l.sum : Nat) : Int)
  | [] => rfl
  | a :: r => by
    rw [List.map_cons, List.sum_cons, List.sum_cons, sum_cast r]
    simp
theorem ev_sum {K : PySem.W.Frag} {σ : L2.St} {H : Hp} {ta : TE} {l : List Nat} (h : EvL ta σ H (l.map nV)) : Ev (tCB (rSum K) (tCons ta tNil)) σ H (nV l.sum) := fun H1 e Q q =>
  h H1 e _ fun p H2 _ e2 h2 => ⟨p, l.map fun (n : Nat) => (n : Int), rfl, sq_of (by rw [List.map_map]; exact h2), by rw [sum_cast]; exact q H2 e2⟩
theorem ok_dem (T : Txt K mg CL CS CR fR) : Def P w K mg base CX0 2 "demand" ["jobs", "now", "first", "last"] spDem := by
  refine def_of T.h_demand scDem (fun vs H Q E h => ?_) (fun f cdv A outer s H vs Q E hr h => ?_)
  · obtain ⟨x, js, now, a, b, rfl, _⟩ := h
    rfl
  · obtain ⟨x, js, now, a, b, rfl, ⟨ps, hA, hlen, hJ⟩, hz, k⟩ := h
    refine ⟨_, pss_one (ps_ret (pe_callB (cr_sum rfl) (by rfl) T.n_sum (by decide +kernel) (pa_cons (pe_lc (own := [("job", 4)]) (g := gName 4) (te := tOp (rIxT K) (tVar 4) (tC (.int 2))) rfl scDem.nd (pi_list (pv 0)) (blkOk_by (N := nDem) (sc := defScope (top 27)) (by decide +kernel))
          (fun _ _ _ _ _ => pg_name (i := 4) scDem.nd rfl (.inl rfl))
          (fun _ _ _ _ _ => pts_one (pt_val (pe_callD (ok_within T) hr (by rfl) pass0 (pa_cons (pv 4) (pa_cons (pv 1) (pa_cons (pv 2) (pa_cons (pv 3) pa_nil))))))) (fun _ _ _ _ _ => pe_ix ix_tup (pv 4) pe_int (fun _ _ => rfl))) pa_nil))), ?_⟩
    refine s_ret (v := nV (demM js now a b)) (ev_sum ?_) fun H2 e2 => k H2 e2
    have hg : given (ps.map V.ref).length (fun i => withinM now a b (jb js i)) (fun i => nV (jb js i).m) = (((List.range js.length).filter fun i => withinM now a b (jb js i)).map fun i => (jb js i).m).map nV := by
      unfold given
      rw [List.length_map, hlen, List.map_map]
      rfl
    rw [← hg]
    refine el_lcW _ _ (wi_list (ev_var rfl) (sq_of hA)) (by rw [List.length_map]; omega) ?_
    rintro i y H1 H2 e hi ⟨rfl, hx⟩ Q q
    obtain ⟨p0, hp0, rfl⟩ := getP hx
    have ht := e _ _ (hJ i p0 hp0)
    exact q _ _ (Ex.refl _) rfl (et_B (ev_call (ea_cons (ev_var rfl) (ea_cons (ev_var rfl) (ea_cons (ev_var rfl) (ea_cons (ev_var rfl) ea_nil)))) fun H5 e5 Q q E => ⟨p0, jb js i, now, a, b, rfl, e5 _ _ ht, fun H6 e6 => q H6 e6⟩)) fun _ => ev_op (ev_var rfl) ev_c (rv_ixT (st_of ht) (atI_nat (j := 2) rfl))
/-! ### first_crowded -/
def over (js : List Job) (dt : List Nat) (now f l : Nat) : Prop := capM dt now f l < demM js now f l
def spCrowd : Sp := fun vs H Q _ => ∃ (x d : Addr) (js : List Job) (dt : List Nat) (now : Nat), vs = [.ref x, .ref d, nV now] ∧ JobsAt H x js ∧ IntsAt H d dt ∧ js.length ≤ 100 ∧ now ≤ 24 ∧
  (∀ f l, now ≤ f → f ≤ l → l ≤ 24 → over js dt now f l → (∀ f' l', now ≤ f' → f' ≤ l' → l' ≤ 24 → (f' < f ∨ (f' = f ∧ l' < l)) → ¬ over js dt now f' l') → ∀ p H', H p = none → Ex H H' → H' p = some (.tup [nV f, nV l, nV (capM dt now f l), nV (demM js now f l)]) → Q (.ref p) H') ∧
  ((∀ f l, now ≤ f → f ≤ l → l ≤ 24 → ¬ over js dt now f l) → ∀ H', Ex H H' → Q .non H')
theorem scCrowd : FnScope ["jobs", "downtime", "now", "first", "last", "room", "wanted"] ["jobs", "downtime", "now"] (defScope (top 28)) := ⟨rfl, rfl, rfl, by decide +kernel, rfl, by decide +kernel, by decide +kernel⟩
theorem ok_crowd (T : Txt K mg CL CS CR fR) : Def P w K mg base CX0 3 "first_crowded" ["jobs", "downtime", "now"] spCrowd := by
  refine def_of T.h_first_crowded scCrowd (fun vs H Q E h => ?_) (fun f cdv A outer s H vs Q E hr h => ?_)
  · obtain ⟨x, d, js, dt, now, rfl, _⟩ := h
    rfl
  · obtain ⟨x, d, js, dt, now, rfl, hJ, hD, hz, hnow, k1, k2⟩ := h
    refine ⟨_, pss_cons (ps_for PassesOwn.never rfl (pi_range2 (by rfl) T.n_range (pa_cons (pv 2) (pa_cons (pe_op op_add (pe_kon T.k_DAY (by rfl)) pe_int) pa_nil))) (pg_name (i := 3) scCrowd.nd rfl (.inl rfl))
        (pss_one (ps_for PassesOwn.never rfl (pi_range2 (by rfl) T.n_range (pa_cons (pv 3) (pa_cons (pe_op op_add (pe_kon T.k_DAY (by rfl)) pe_int) pa_nil))) (pg_name (i := 4) scCrowd.nd rfl (.inl rfl))
          (pss_cons (ps_set (i := 5) scCrowd.nd rfl (Or.inl rfl) (pe_callD (ok_cap T) (hr.mono (by decide)) (by rfl) pass0 (pa_cons (pv 1) (pa_cons (pv 2) (pa_cons (pv 3) (pa_cons (pv 4) pa_nil))))))
          (pss_cons (ps_set (i := 6) scCrowd.nd rfl (Or.inl rfl) (pe_callD (ok_dem T) hr (by rfl) pass0 (pa_cons (pv 0) (pa_cons (pv 2) (pa_cons (pv 3) (pa_cons (pv 4) pa_nil))))))
          (pss_one (ps_if (pt_cmpR op_gt (pv 6) (pv 5) (nomark _)) (pss_one (ps_ret (pe_tup (pa_cons (pv 3) (pa_cons (pv 4) (pa_cons (pv 5) (pa_cons (pv 6) pa_nil))))))) pss_nil)))))))
      (pss_one (ps_ret pe_non)), ?_⟩
    refine q_forR2 (lo := (now : Int)) (n := 25) (ea_cons (ev_var rfl) (ea_cons (ev_is (ev_op ev_c ev_c rv_I0) rfl) ea_nil)) (by omega)
      (fun i σ' H' => (∃ v3 v4 v5 v6 : Option V, σ' = [some (.ref x), some (.ref d), some (nV now), v3, v4, v5, v6]) ∧ Ex H H' ∧ ∀ f l, now ≤ f → f < now + i → f ≤ l → l ≤ 24 → ¬ over js dt now f l)
      (fun H1 e1 => ⟨⟨none, none, none, none, rfl⟩, e1, fun f l h1 h2 => by omega⟩) ?_ ?_
    · rintro i σ' H1 hi ⟨⟨v3, v4, v5, v6, rfl⟩, e1, hno⟩
      have hc : V.int ((now : Int) + (i : Int)) = nV (now + i) := by simp [nV]
      rw [hc]
      refine s_forR2 (lo := ((now + i : Nat) : Int)) (n := 25) (ea_cons (ev_var rfl) (ea_cons (ev_is (ev_op ev_c ev_c rv_I0) rfl) ea_nil)) (by omega)
        (fun j σ' H' => (∃ v4 v5 v6 : Option V, σ' = [some (.ref x), some (.ref d), some (nV now), some (nV (now + i)), v4, v5, v6]) ∧ Ex H H' ∧ ∀ l, now + i ≤ l → l < now + i + j → l ≤ 24 → ¬ over js dt now (now + i) l)
        (fun H2 e2 => ⟨⟨v4, v5, v6, rfl⟩, e1.trans e2, fun l h1 h2 => by omega⟩) ?_ ?_
      · rintro j σ' H2 hj ⟨⟨v4, v5, v6, rfl⟩, e2, hnl⟩
        have hc2 : V.int (((now + i : Nat) : Int) + (j : Int)) = nV (now + i + j) := by simp [nV]
        rw [hc2]
        have hf : now + i ≤ 24 := by omega
        have hl : now + i + j ≤ 24 := by omega
        refine q_asg (v := nV (capM dt now (now + i) (now + i + j))) (ev_call (ea_cons (ev_var rfl) (ea_cons (ev_var rfl) (ea_cons (ev_var rfl) (ea_cons (ev_var rfl) ea_nil)))) fun H3 e3 Q q E => ⟨d, dt, now, now + i, now + i + j, rfl, hD.ex (e2.trans e3), by omega, by omega, fun H4 e4 => q H4 e4⟩) fun H3 e3 => ?_
        refine q_asg (v := nV (demM js now (now + i) (now + i + j))) (ev_call (ea_cons (ev_var rfl) (ea_cons (ev_var rfl) (ea_cons (ev_var rfl) (ea_cons (ev_var rfl) ea_nil)))) fun H4 e4 Q q E => ⟨x, js, now, now + i, now + i + j, rfl, hJ.ex ((e2.trans e3).trans e4), hz, fun H5 e5 => q H5 e5⟩) fun H4 e4 => ?_
        refine s_when (b := decide (capM dt now (now + i) (now + i + j) < demM js now (now + i) (now + i + j))) (et_is (et_test (ev_op (ev_var rfl) (ev_var rfl) rv_I0)) (by simp)) (fun hb H5 e5 => ?_) (fun hb H5 e5 => ?_)
        · have hb' : over js dt now (now + i) (now + i + j) := by simpa [over] using hb
          refine s_retU (eu_tup (ea_cons (ev_var rfl) (ea_cons (ev_var rfl) (ea_cons (ev_var rfl) (ea_cons (ev_var rfl) ea_nil)))) (by show 4 ≤ 100000; decide)) fun p H6 hp e6 h6 => ?_
          have e5' := ((e2.trans e3).trans e4).trans e5
          refine k1 (now + i) (now + i + j) (by omega) (by omega) hl hb' (fun f' l' h1 h2 h3 h4 => ?_) p H6 (fresh_back e5' hp) (e5'.trans e6) h6
          rcases h4 with h4 | ⟨rfl, h4⟩
          · exact hno f' l' h1 (by omega) h2 h3
          · exact hnl l' (by omega) (by omega) h3
        · have hb' : ¬ over js dt now (now + i) (now + i + j) := by simpa [over] using hb
          refine ⟨⟨_, _, _, rfl⟩, ((e2.trans e3).trans e4).trans e5, fun l h1 h2 h3 => ?_⟩
          by_cases z : l = now + i + j
          · rw [z]
            exact hb'
          · exact hnl l h1 (by omega) h3
      · rintro σ' H2 ⟨⟨v4, v5, v6, rfl⟩, e2, hnl⟩
        refine ⟨⟨_, _, _, _, rfl⟩, e2, fun f l h1 h2 h3 h4 => ?_⟩
        by_cases z : f = now + i
        · rw [z]
          exact hnl l (by omega) (by omega) h4
        · exact hno f l h1 (by omega) h3 h4
    · rintro σ' H1 ⟨⟨v3, v4, v5, v6, rfl⟩, e1, hno⟩
      refine s_ret ev_c fun H2 e2 => k2 (fun f l h1 h2 h3 => hno f l h1 (by omega) h2 h3) H2 (e1.trans e2)
end
end Mill
end
section
set_option Elab.async false
set_option linter.all false
set_option maxRecDepth 100000
set_option maxHeartbeats 2000000
namespace Mill
open PySem PySem.Spec PyProof.Rows L2 Evl
section
variable {P : Program} {w : World} {K : PySem.W.Frag} {mg : Str → Option Value} {base : Heap} {CL CS CR fR : Addr}
/-! ### entry_fits -/
def spFits : Sp := fun vs H Q _ => ∃ (x d : Addr) (js : List Job) (dt : List Nat) (hour e : Nat), vs = [.ref x, .ref d, nV hour, nV e] ∧ JobsAt H x js ∧ IntsAt H d dt ∧ ∀ H', Ex H H' → Q (.bl (fits js dt hour e)) H'
theorem scFits : FnScope ["jobs", "downtime", "hour", "entry", "release", "deadline", "remaining"] ["jobs", "downtime", "hour", "entry"] (defScope (top 11)) := ⟨rfl, rfl, rfl, by decide +kernel, rfl, by decide +kernel, by decide +kernel⟩
theorem ok_fits (T : Txt K mg CL CS CR fR) : Def P w K mg base CX0 1 "entry_fits" ["jobs", "downtime", "hour", "entry"] spFits := by
  refine def_of T.h_entry_fits scFits (fun vs H Q E h => ?_) (fun f cdv A outer s H vs Q E hr h => ?_)
  · obtain ⟨x, d, js, dt, hour, e, rfl, _⟩ := h
    rfl
  · obtain ⟨x, d, js, dt, hour, e, rfl, ⟨ps, hA, hlen, hJ⟩, hD, k⟩ := h
    refine ⟨_, pss_cons (ps_if (pt_cmpR op_eq (pv 3) pe_int (nomark _)) (pss_one (ps_ret pe_bl)) pss_nil)
      (pss_cons (ps_if (pt_cmpR op_gt (pv 3) (pe_callB call_len_seq (by rfl) T.n_len PySem.boot_len (pa_cons (pv 0) pa_nil)) (nomark _)) (pss_one (ps_ret pe_bl)) pss_nil)
      (pss_cons (ps_asg (pe_ix ix_list (pv 0) (pe_op op_sub (pv 3) pe_int) (fun _ _ => rfl)) (pg_tup rfl (pgs_cons (pg_name (i := 4) scFits.nd rfl (.inl rfl)) (pgs_cons (pg_name (i := 5) scFits.nd rfl (.inl rfl)) (pgs_cons (pg_name (i := 6) scFits.nd rfl (.inl rfl)) pgs_nil)))))
      (pss_one (ps_ret (pe_and (pe_cmpR op_notIn_seq (pv 2) (pv 1) (by rfl)) (pe_one (pe_chain op_le op_lt (pv 4) (pv 2) (pv 5)))))))), ?_⟩
    unfold fits at k
    refine q_when (b := decide (e = 0)) (et_is (et_test (ev_op (ev_var rfl) ev_c (rv_eq rfl))) (dec_nV (b := 0))) (fun hb H1 e1 => ?_) (fun hb H1 e1 => ?_)
    · have hb' : e = 0 := by simpa using hb
      rw [if_pos hb'] at k
      exact s_ret ev_c fun H2 e2 => k H2 (e1.trans e2)
    · have hb' : ¬ e = 0 := by simpa using hb
      rw [if_neg hb'] at k
      refine q_when (b := decide (js.length < e)) (et_is (et_test (ev_op (ev_var rfl) (ev_len (ev_var rfl) (sq_of (e1 _ _ hA))) rv_I0)) (by rw [List.length_map, hlen]; simp)) (fun hc H2 e2 => ?_) (fun hc H2 e2 => ?_)
      · have hc' : js.length < e := by simpa using hc
        rw [if_pos hc'] at k
        exact s_ret ev_c fun H3 e3 => k H3 ((e1.trans e2).trans e3)
      · have hc' : ¬ js.length < e := by simpa using hc
        rw [if_neg hc'] at k
        have e12 := e1.trans e2
        obtain ⟨p0, hp0⟩ := some_at (l := ps) (i := e - 1) (by omega)
        have hix : atI (ps.map V.ref) ((e : Int) - 1) = some (.ref p0) := by
          rw [show ((e : Int) - 1) = ((e - 1 : Nat) : Int) by omega]
          exact atP_ref hp0
        refine ⟨_, rfl, _, rfl, _, _, rfl, rfl, x, _, _, .ref p0, rfl, rfl, SqL.of (e12 _ _ hA), hix, p0, _, rfl, SqT.of (e12 _ _ (hJ (e - 1) p0 hp0)), rfl, _, _, rfl, _, _, rfl, _, _, rfl, rfl, ?_⟩
        refine s_ret (ev_is (ev_andV (ev_op (ev_var rfl) (ev_var rfl) (rv_niL (sq_of (e12 _ _ hD)) rfl (flat_nV dt))) fun _ => ev_chain (ev_var rfl) (ev_var rfl) (ev_var rfl) rv_I0 rv_I0) ?_) fun H3 e3 => k H3 (e12.trans e3)
        rw [in_nV]
        simp only [Int.ofNat_le, Int.ofNat_lt]
/-! ### meets_all -/
def spMeets : Sp := fun vs H Q _ => ∃ (x d e : Addr) (js : List Job) (dt : List Nat) (now : Nat) (es : List Nat), vs = [.ref x, .ref d, nV now, .ref e] ∧ JobsAt H x js ∧ IntsAt H d dt ∧ IntsAt H e es ∧ js.length ≤ 100 ∧ es.length ≤ 1000 ∧ ∀ H', Ex H H' → Q (.bl (meetsM js dt now es)) H'
abbrev nMeets : List Str := ["jobs", "downtime", "now", "entries", "place", "entry", "number", "job"]
theorem scMeets : FnScope nMeets ["jobs", "downtime", "now", "entries"] (defScope (top 12)) := ⟨rfl, rfl, rfl, by decide +kernel, rfl, by decide +kernel, by decide +kernel⟩
def scOuter : Scope := { kind := .function, names := [(".0", .local), ("number", .cell), ("job", .local), ("len", .globalImplicit), ("entries", .cell)], isGenerator := false, isCoroutine := false, more := [] }
theorem all_of_bls (n : Nat) (f : Nat → Bool) : ((List.range n).map f).all id = (List.range n).all f := by
  rw [List.all_map]
  rfl
theorem ev_all {K : PySem.W.Frag} {σ : L2.St} {H : Hp} {ta : TE} {bs : List Bool} (h : EvL ta σ H (bs.map V.bl)) : Ev (tCB (rAll K) (tCons ta tNil)) σ H (.bl (bs.all id)) := fun H1 e Q q =>
  h H1 e _ fun p H2 _ e2 h2 => ⟨p, bs, rfl, sq_of h2, q H2 e2⟩
theorem ok_meets (T : Txt K mg CL CS CR fR) : Def P w K mg base CX0 2 "meets_all" ["jobs", "downtime", "now", "entries"] spMeets := by
  refine def_of T.h_meets_all scMeets (fun vs H Q E h => ?_) (fun f cdv A outer s H vs Q E hr h => ?_)
  · obtain ⟨x, d, e, js, dt, now, es, rfl, _⟩ := h
    rfl
  · obtain ⟨x, d, e, js, dt, now, es, rfl, hJA, hD, hE, hz, hzE, k⟩ := h
    have hJA0 := hJA
    obtain ⟨ps, hA, hlen, hJ⟩ := hJA
    refine ⟨_, pss_cons (ps_for PassesOwn.never rfl (pi_enum (by rfl) T.n_enumerate (pa_cons (pv 3) pa_nil)) (pg_tup rfl (pgs_cons (pg_name (i := 4) scMeets.nd rfl (.inl rfl)) (pgs_cons (pg_name (i := 5) scMeets.nd rfl (.inl rfl)) pgs_nil)))
        (pss_one (ps_if (pt_not (pt_val (pe_callD (ok_fits T) hr (by rfl) pass0 (pa_cons (pv 0) (pa_cons (pv 1) (pa_cons (pe_op op_add (pv 2) (pv 4)) (pa_cons (pv 5) pa_nil))))))) (pss_one (ps_ret pe_bl)) pss_nil)))
      (pss_one (ps_ret (pe_callB (cr_all rfl) (by rfl) T.n_all (by decide +kernel) (pa_cons (pe_lc (own := [("number", 6), ("job", 7)]) (g := gTup K 2 (gCons (gName 6) (gCons (gName 7) gNil))) (tt := tYes)
          (te := tOp rEq (tCB (rLenS K) (tCons (tLc (iList K (tVar 3)) (gName 5) (tTest (tOp rEq (tVar 5) (tOp (rI0 fun i j => .int (i + j)) (tVar 6) (tC (.int 1))))) (tVar 5) [5]) tNil)) (tOp (rIxT K) (tVar 7) (tC (.int 2))))
          rfl scMeets.nd (pi_enum (by rfl) T.n_enumerate (pa_cons (pv 0) pa_nil)) (blkOk_by (N := nMeets) (sc := defScope (top 12)) (by decide +kernel))
          (fun _ _ _ _ _ => pg_tup rfl (pgs_cons (pg_name (i := 6) scMeets.nd rfl (.inr rfl)) (pgs_cons (pg_name (i := 7) scMeets.nd rfl (.inl rfl)) pgs_nil))) (fun _ _ _ _ _ => pts_nil)
          (fun _ _ _ _ _ => pe_cmpR op_eq (pe_callB call_len_seq (by rfl) T.n_len PySem.boot_len (pa_cons (pe_lc (own := [("entry", 5)]) (g := gName 5) rfl scMeets.nd (pi_list (pv 3)) (blkOk_by (N := nMeets) (sc := scOuter) (by decide +kernel))
            (fun _ _ _ _ _ => pg_name (i := 5) scMeets.nd rfl (.inl rfl)) (fun _ _ _ _ _ => pts_one (pt_cmpR op_eq (pv 5) (pe_op op_add (pv 6) pe_int) (nomark _))) (fun _ _ _ _ _ => pv 5)) pa_nil)) (pe_ix ix_tup (pv 7) pe_int (fun _ _ => rfl)) (nomark _))) pa_nil)))), ?_⟩
    refine ⟨_, rfl, e, es.map nV, rfl, SqL.of hE, for_it walk_enum (fun i σ' H' => (∃ v4 v5 : Option V, σ' = [some (.ref x), some (.ref d), some (nV now), some (.ref e), v4, v5, none, none]) ∧ Ex H H' ∧ ∀ p, p < i → fits js dt (now + p) (es.getD p 0) = true) ⟨⟨none, none, rfl⟩, Ex.refl H, fun p hp => absurd hp (Nat.not_lt_zero _)⟩ (fun i σ' H' _ ⟨_, e1, _⟩ => sq_of (e1 _ _ hE)) ?_ ?_⟩
    · rintro i y σ' H1 H2 hi ⟨⟨v4, v5, rfl⟩, e1, hall⟩ ⟨T0, x0, y0, rfl, hT, rfl, hx, hy⟩
      cases hx
      obtain ⟨hi', rfl⟩ := getN hy
      have e2 : Ex H (upd H1 T0 (.tup [.int (i : Nat), nV (es.getD i 0)])) := e1.trans (Ex.new hT)
      refine ⟨T0, _, rfl, SqT.of upd_same, rfl, _, _, rfl, _, _, rfl, rfl, ?_⟩
      refine s_when (et_not (et_B (ev_call (z := .bl (fits js dt (now + i) (es.getD i 0))) (ea_cons (ev_var rfl) (ea_cons (ev_var rfl) (ea_cons (ev_is (w := nV (now + i)) (ev_op (ev_var rfl) (ev_var rfl) rv_I0) (by simp [nV])) (ea_cons (ev_var rfl) ea_nil)))) fun H3 e3 Q q E => ⟨x, d, js, dt, now + i, es.getD i 0, rfl, hJA0.ex (e2.trans e3), hD.ex (e2.trans e3), fun H4 e4 => q H4 e4⟩))) (fun hb H3 e3 => ?_) (fun hb H3 e3 => ?_)
      · refine s_ret ev_c fun H4 e4 => ?_
        have q := k H4 ((e2.trans e3).trans e4)
        have hf : meetsM js dt now es = false := by
          unfold meetsM
          rw [Bool.and_eq_false_iff]
          left
          rw [List.all_eq_false]
          refine ⟨i, List.mem_range.mpr hi', ?_⟩
          simpa using hb
        rw [hf] at q
        exact q
      · refine ⟨⟨_, _, rfl⟩, e2.trans e3, fun p hp => ?_⟩
        by_cases z : p = i
        · rw [z]
          simpa using hb
        · exact hall p (by omega)
    · rintro σ' H1 ⟨⟨v4, v5, rfl⟩, e1, hall⟩
      rw [List.length_map] at hall
      have hm : meetsM js dt now es = (List.range js.length).all fun n => decide (countM es n = (jb js n).m) := by
        unfold meetsM
        rw [List.all_eq_true.mpr fun p hp => hall p (List.mem_range.mp hp), Bool.true_and]
      rw [hm] at k
      dsimp only
      rw [← all_of_bls] at k
      refine s_ret (ev_all ?_) fun H2 e2 => k H2 (e1.trans e2)
      have hg : ((List.range js.length).map fun n => decide (countM es n = (jb js n).m)).map V.bl = given (ps.map V.ref).length (fun _ => true) (fun n => .bl (decide (countM es n = (jb js n).m))) := by
        rw [given_all, List.length_map, hlen, List.map_map]
        rfl
      rw [hg]
      refine el_lcW (fun _ => true) (fun n => .bl (decide (countM es n = (jb js n).m))) (wi_enum (ev_var rfl) (sq_of (e1 _ _ hA))) (by rw [List.length_map]; omega) ?_
      · rintro i y H3 H4 e' hi ⟨T0, x0, y0, rfl, hT, rfl, hx, hy⟩ Q q
        cases hx
        obtain ⟨p0, hp0, rfl⟩ := getP hy
        have ht := e' _ _ (e1 _ _ (hJ i p0 hp0))
        have hE3 := hE.ex (e1.trans e')
        have hnew : Ex H3 (upd H3 T0 (.tup [.int (i : Nat), .ref p0])) := Ex.new hT
        refine ⟨T0, _, rfl, SqT.of upd_same, rfl, _, _, rfl, _, _, rfl, rfl, q _ _ hnew rfl et_yes fun _ => ev_is (ev_op (ev_is (w := nV (countM es i)) (ev_lenN (el_lcW (atP es i) (fun p => nV (es.getD p 0)) (wi_list (ev_var rfl) (sq_of (hnew _ _ hE3))) (by rw [List.length_map]; omega) ?_)) ?_) (ev_op (ev_var rfl) ev_c (rv_ixT (st_of (hnew _ _ ht)) (atI_nat (j := 2) rfl))) (rv_eq rfl)) ?_⟩
        · rintro p y H5 H6 e5 hp ⟨rfl, hx⟩ Q q
          obtain ⟨hp', rfl⟩ := getN hx
          exact q _ _ (Ex.refl _) rfl (et_is (et_test (ev_op (ev_var rfl) (ev_is (w := nV (i + 1)) (ev_op (ev_var rfl) ev_c rv_I0) (by simp [nV])) (rv_eq rfl))) dec_nV) fun _ => ev_var rfl
        · rw [given_length, List.length_map]
          rfl
        · rw [dec_nV]
end
end Mill
end
section
set_option Elab.async false
set_option linter.all false
set_option maxRecDepth 100000
set_option maxHeartbeats 2000000
namespace Mill
open PySem PySem.Spec PyProof.Rows L2 Evl
open Kp413 (Lot Scheduler lotAt remaining nextLot encode)
/-! ### the lots and the scheduler in the heap -/
def lF (l : Lot) : List (Str × V) := [("release", nV l.release), ("deadline", nV l.deadline), ("hours", nV l.hours), ("done", nV l.done)]
def sF (l d g : Addr) (now : Nat) : List (Str × V) := [("lots", .ref l), ("downtime", .ref d), ("now", nV now), ("log", .ref g)]
theorem lk_here {k : Str} {v : V} {r : List (Str × V)} : List.lookup k ((k, v) :: r) = some v := by
  have e : (k == k) = true := beq_self_eq_true k
  simp only [List.lookup, e]
theorem lk_past {k g : Str} {v : V} {r : List (Str × V)} (h : (k == g) = false) : List.lookup k ((g, v) :: r) = List.lookup k r := by
  simp only [List.lookup, h]
theorem put_here {f : Str} {v x : V} {r : List (Str × V)} : putF f v ((f, x) :: r) = (f, v) :: r := if_pos rfl
theorem put_past {f g : Str} {v x : V} {r : List (Str × V)} (h : ¬ g = f) : putF f v ((g, x) :: r) = (g, x) :: putF f v r := if_neg h
theorem lF_release (l : Lot) : (lF l).lookup ("release" : Str) = some (nV l.release) := lk_here
theorem lF_deadline (l : Lot) : (lF l).lookup ("deadline" : Str) = some (nV l.deadline) := (lk_past (by decide +kernel)).trans lk_here
theorem lF_hours (l : Lot) : (lF l).lookup ("hours" : Str) = some (nV l.hours) := (lk_past (by decide +kernel)).trans ((lk_past (by decide +kernel)).trans lk_here)
theorem lF_done (l : Lot) : (lF l).lookup ("done" : Str) = some (nV l.done) := (lk_past (by decide +kernel)).trans ((lk_past (by decide +kernel)).trans ((lk_past (by decide +kernel)).trans lk_here))
theorem lF_job (l : Lot) : (lF l).lookup ("job" : Str) = none := (lk_past (by decide +kernel)).trans ((lk_past (by decide +kernel)).trans ((lk_past (by decide +kernel)).trans ((lk_past (by decide +kernel)).trans rfl)))
theorem lF_put (l : Lot) (n : Nat) : putF "done" (nV n) (lF l) = lF { l with done := n } := (put_past (by decide +kernel)).trans (congrArg _ ((put_past (by decide +kernel)).trans (congrArg _ ((put_past (by decide +kernel)).trans (congrArg _ put_here)))))
theorem lF_new (r d h : Nat) : putF "done" (.int 0) (putF "hours" (nV h) (putF "deadline" (nV d) (putF "release" (nV r) []))) = lF ⟨r, d, h, 0⟩ := by
  show putF "done" (.int 0) (putF "hours" (nV h) (putF "deadline" (nV d) [("release", nV r)])) = _
  rw [put_past (f := "deadline") (by decide +kernel)]
  show putF "done" (.int 0) (putF "hours" (nV h) [("release", nV r), ("deadline", nV d)]) = _
  rw [put_past (f := "hours") (by decide +kernel), put_past (f := "hours") (by decide +kernel)]
  show putF "done" (.int 0) [("release", nV r), ("deadline", nV d), ("hours", nV h)] = _
  rw [put_past (f := "done") (by decide +kernel), put_past (f := "done") (by decide +kernel), put_past (f := "done") (by decide +kernel)]
  rfl
section
variable {l d g : Addr} {now : Nat}
theorem sF_lots : (sF l d g now).lookup ("lots" : Str) = some (.ref l) := lk_here
theorem sF_downtime : (sF l d g now).lookup ("downtime" : Str) = some (.ref d) := (lk_past (by decide +kernel)).trans lk_here
theorem sF_now : (sF l d g now).lookup ("now" : Str) = some (nV now) := (lk_past (by decide +kernel)).trans ((lk_past (by decide +kernel)).trans lk_here)
theorem sF_log : (sF l d g now).lookup ("log" : Str) = some (.ref g) := (lk_past (by decide +kernel)).trans ((lk_past (by decide +kernel)).trans ((lk_past (by decide +kernel)).trans lk_here))
theorem sF_none {m : Str} (h1 : (m == ("lots" : Str)) = false) (h2 : (m == ("downtime" : Str)) = false) (h3 : (m == ("now" : Str)) = false) (h4 : (m == ("log" : Str)) = false) : (sF l d g now).lookup m = none :=
  (lk_past h1).trans ((lk_past h2).trans ((lk_past h3).trans ((lk_past h4).trans rfl)))
theorem sF_put (n : Nat) : putF "now" (nV n) (sF l d g now) = sF l d g n := (put_past (by decide +kernel)).trans (congrArg _ ((put_past (by decide +kernel)).trans (congrArg _ put_here)))
theorem sF_new : putF "log" (.ref g) (putF "now" (.int 0) (putF "downtime" (.ref d) (putF "lots" (.ref l) []))) = sF l d g 0 := by
  show putF "log" (.ref g) (putF "now" (.int 0) (putF "downtime" (.ref d) [("lots", .ref l)])) = _
  rw [put_past (f := "downtime") (by decide +kernel)]
  show putF "log" (.ref g) (putF "now" (.int 0) [("lots", .ref l), ("downtime", .ref d)]) = _
  rw [put_past (f := "now") (by decide +kernel), put_past (f := "now") (by decide +kernel)]
  show putF "log" (.ref g) [("lots", .ref l), ("downtime", .ref d), ("now", .int 0)] = _
  rw [put_past (f := "log") (by decide +kernel), put_past (f := "log") (by decide +kernel), put_past (f := "log") (by decide +kernel)]
  rfl
end
def LotAt (CL : Addr) (H : Hp) (p : Addr) (l : Lot) : Prop := ∃ dx, H p = some (.ins CL dx (lF l))
structure SchedAt (CL CS : Addr) (H : Hp) (a l d g : Addr) (as : List Addr) (s : Scheduler) : Prop where
  self : ∃ dx, H a = some (.ins CS dx (sF l d g s.now))
  lots : H l = some (.lst (as.map V.ref))
  len : as.length = s.lots.length
  lot : ∀ i p, as[i]? = some p → LotAt CL H p (lotAt s i)
  dt : IntsAt H d s.downtime
  log : IntsAt H g (s.log.map encode)
  nd : as.Nodup
  ld : l ≠ d
  lg : l ≠ g
  dg : d ≠ g
theorem SchedAt.ex {CL CS : Addr} {H H' : Hp} {a l d g : Addr} {as : List Addr} {s : Scheduler} (h : SchedAt CL CS H a l d g as s) (e : Ex H H') : SchedAt CL CS H' a l d g as s := by
  obtain ⟨⟨dx, h1⟩, h2, h3, h4, h5, h6, h7, h8, h9, h10⟩ := h
  exact ⟨⟨dx, e _ _ h1⟩, e _ _ h2, h3, fun i p q => by
    obtain ⟨dy, z⟩ := h4 i p q
    exact ⟨dy, e _ _ z⟩, h5.ex e, h6.ex e, h7, h8, h9, h10⟩
/-- what holds of a scheduler between two calls -/
structure Good (s : Scheduler) : Prop where
  now : s.now ≤ 24
  dn : s.downtime.Nodup
  dl : ∀ h ∈ s.downtime, h < 24
  ln : s.log.length = s.now
  six : s.lots.length ≤ 6
  dh : ∀ i, i < s.lots.length → (lotAt s i).done ≤ (lotAt s i).hours
def Fra (H H' : Hp) (fp : List Addr) : Prop := ∀ b o, H b = some o → b ∉ fp → H' b = some o
theorem Fra.of_ex {H H' : Hp} {fp : List Addr} (e : Ex H H') : Fra H H' fp := fun b o h _ => e b o h
def Bad (CR : Addr) (c : Int) (H : Hp) (E : XK) : Prop := ∀ e H', H e = none → Ex H H' → H' e = some (.xd [(("code" : Str), .int c)]) → E (.ref CR) (some e) H'
theorem Bad.ex {CR : Addr} {c : Int} {H H' : Hp} {E : XK} (b : Bad CR c H E) (e : Ex H H') : Bad CR c H' E := fun x H2 h1 h2 h3 => b x H2 (fresh_back e h1) (e.trans h2) h3
theorem nodup_len : ∀ (n : Nat) (l : List Nat), l.Nodup → (∀ x ∈ l, x < n) → l.length ≤ n
  | 0, l, _, h => by
    cases l with
    | nil => exact Nat.le_refl _
    | cons a r => exact absurd (h a List.mem_cons_self) (Nat.not_lt_zero _)
  | n + 1, l, hn, h => by
    have ih := nodup_len n (l.erase n) (hn.erase n) fun x hx => by
      have h1 := h x (List.mem_of_mem_erase hx)
      have h2 : x ≠ n := fun e => by
        subst e
        exact (List.Nodup.mem_erase_iff hn).mp hx |>.1 rfl
      omega
    have := List.length_erase_le (a := n) (l := l)
    by_cases hm : n ∈ l
    · rw [List.length_erase_of_mem hm] at ih
      omega
    · rw [List.erase_of_not_mem hm] at ih
      omega
theorem Good.dt24 {s : Scheduler} (G : Good s) : s.downtime.length ≤ 24 := nodup_len 24 _ G.dn G.dl
section
variable {K : PySem.W.Frag} {σ : L2.St} {H : Hp} {ta tv te tj : TE} {C a dx : Addr} {fs : List (Str × V)} {f m : Str} {v y z : V} {D : Ends} {tz : TS} {sp : Sp} {E : XK} {t tr : TA} {vs xs : List V} {js : List Job} {CR : Addr}
theorem ev_fld (h : Ev ta σ H (.ref a)) (ho : H a = some (.ins C dx fs)) (hc : Cls K C) (hn : NoAttr K C f) (hl : fs.lookup f = some v) : Ev (tFld K ta f) σ H v := fun H1 e Q q =>
  h H1 e _ fun H2 e2 => ⟨a, C, dx, fs, v, rfl, e2 _ _ (e _ _ ho), hc, hn, hl, q H2 e2⟩
theorem s_fld (hv : Ev tv σ H y) (ha : Ev ta σ H (.ref a)) (ho : H a = some (.ins C dx fs)) (hc : Cls K C) (hn : NoAttr K C f) (hl : fs.length < 1000) (k : ∀ H1, Ex H H1 → D.nx σ (upd H1 a (.ins C dx (putF f y fs)))) : sFld K ta tv f D σ H :=
  hv H (Ex.refl H) _ fun H1 e1 => ha H1 e1 _ fun H2 e2 => ⟨a, C, dx, fs, rfl, e2 _ _ (e1 _ _ ho), hc, hn, hl, k H2 (e1.trans e2)⟩
theorem q_fld (hv : Ev tv σ H y) (ha : Ev ta σ H (.ref a)) (ho : H a = some (.ins C dx fs)) (hc : Cls K C) (hn : NoAttr K C f) (hl : fs.length < 1000) (k : ∀ H1, Ex H H1 → tz D σ (upd H1 a (.ins C dx (putF f y fs)))) : tSeq (sFld K ta tv f) tz D σ H :=
  s_fld (D := { D with nx := tz D }) hv ha ho hc hn hl k
theorem ev_meth (h : Ev ta σ H (.ref a)) (ho : H a = some (.ins C dx fs)) (hl : fs.lookup m = none) (hA : EvA t σ H vs) (hs : SpV sp (.ref a :: (vs ++ [])) H z) : Ev (tMeth C m sp [] E ta t) σ H z := fun H1 e Q q =>
  h H1 e _ fun H2 e2 => ⟨a, dx, fs, rfl, e2 _ _ (e _ _ ho), hl, hA H2 (e.trans e2) _ fun H3 e3 => hs H3 ((e.trans e2).trans e3) Q (fun H4 e4 => q H4 ((e2.trans e3).trans e4)) E⟩
theorem el_meth (h : Ev ta σ H (.ref a)) (ho : H a = some (.ins C dx fs)) (hl : fs.lookup m = none) (hA : EvA t σ H vs) (hs : SpL sp (.ref a :: (vs ++ [])) H xs) : EvL (tMeth C m sp [] E ta t) σ H xs := fun H1 e Q q =>
  h H1 e _ fun H2 e2 => ⟨a, dx, fs, rfl, e2 _ _ (e _ _ ho), hl, hA H2 (e.trans e2) _ fun H3 e3 => hs H3 ((e.trans e2).trans e3) Q (fun p H4 hp e4 h4 => q p H4 (fresh_back (e2.trans e3) hp) ((e2.trans e3).trans e4) h4) E⟩
/-- jobs made on the way -/
def EvJ (te : TE) (σ : L2.St) (H : Hp) (js : List Job) : Prop := ∀ H1, Ex H H1 → ∀ Q : VK, (∀ p H2, H1 p = none → Ex H1 H2 → JobsAt H2 p js → Q (.ref p) H2) → te σ H1 Q
def SpJ (sp : Sp) (vs : List V) (H : Hp) (js : List Job) : Prop := ∀ H1, Ex H H1 → ∀ Q : VK, (∀ p H2, H1 p = none → Ex H1 H2 → JobsAt H2 p js → Q (.ref p) H2) → ∀ E : XK, sp vs H1 Q E
theorem ej_meth (h : Ev ta σ H (.ref a)) (ho : H a = some (.ins C dx fs)) (hl : fs.lookup m = none) (hA : EvA t σ H vs) (hs : SpJ sp (.ref a :: (vs ++ [])) H js) : EvJ (tMeth C m sp [] E ta t) σ H js := fun H1 e Q q =>
  h H1 e _ fun H2 e2 => ⟨a, dx, fs, rfl, e2 _ _ (e _ _ ho), hl, hA H2 (e.trans e2) _ fun H3 e3 => hs H3 ((e.trans e2).trans e3) Q (fun p H4 hp e4 h4 => q p H4 (fresh_back (e2.trans e3) hp) ((e2.trans e3).trans e4) h4) E⟩
theorem ej_call (hA : EvA t σ H vs) (hs : SpJ sp (vs ++ []) H js) : EvJ (tCall sp [] E t) σ H js := fun H1 e Q q =>
  hA H1 e _ fun H2 e2 => hs H2 (e.trans e2) Q (fun p H3 hp e3 h3 => q p H3 (fresh_back e2 hp) (e2.trans e3) h3) E
theorem ev_callJ (h : EvJ tj σ H js) (hr : EvA tr σ H vs) (hs : ∀ p H1, Ex H H1 → JobsAt H1 p js → SpV sp (.ref p :: (vs ++ [])) H1 z) : Ev (tCall sp [] E (tCons tj tr)) σ H z := fun H1 e Q q =>
  h H1 e _ fun p H2 _ e2 hJ => hr H2 (e.trans e2) _ fun H3 e3 => hs p H3 ((e.trans e2).trans e3) (hJ.ex e3) H3 (Ex.refl _) Q (fun H4 e4 => q H4 ((e2.trans e3).trans e4)) E
theorem el_callJ (h : EvJ tj σ H js) (hr : EvA tr σ H vs) (hs : ∀ p H1, Ex H H1 → JobsAt H1 p js → SpL sp (.ref p :: (vs ++ [])) H1 xs) : EvL (tCall sp [] E (tCons tj tr)) σ H xs := fun H1 e Q q =>
  h H1 e _ fun p H2 _ e2 hJ => hr H2 (e.trans e2) _ fun H3 e3 => hs p H3 ((e.trans e2).trans e3) (hJ.ex e3) H3 (Ex.refl _) Q (fun r H4 hr4 e4 h4 => q r H4 (fresh_back (e2.trans e3) hr4) ((e2.trans e3).trans e4) h4) E
/-- require(test, code) -/
def spReq (CR : Addr) : Sp := fun vs H Q E => ∃ (b : Bool) (c : Int), vs = [.bl b, .int c] ∧ (b = true → ∀ H', Ex H H' → Q .non H') ∧ (b = false → Bad CR c H E)
theorem q_req {b : Bool} {c : Int} (h : Ev te σ H (.bl b)) (h1 : b = true → ∀ H1, Ex H H1 → tz D σ H1) (h2 : b = false → Bad CR c H E) : tSeq (tDrop (tCall (spReq CR) [] E (tCons te (tCons (tC (.int c)) tNil)))) tz D σ H :=
  h H (Ex.refl H) _ fun H1 e1 => ⟨b, c, rfl, fun hb H2 e2 => h1 hb H2 (e1.trans e2), fun hb => (h2 hb).ex e1⟩
end
end Mill
end
section
set_option Elab.async false
set_option linter.all false
set_option maxRecDepth 100000
set_option maxHeartbeats 2000000
namespace Mill
open PySem PySem.Spec PyProof.Rows L2 Evl
open Kp413 (Lot Scheduler lotAt remaining nextLot encode)
theorem lot_ne_self {x : Lot} {l d g : Addr} {n : Nat} {C C' dx dy : Addr} : HO.ins C dx (lF x) ≠ HO.ins C' dy (sF l d g n) := fun z => by
  have h : lF x = sF l d g n := by
    injection z
  have h2 := congrArg (fun fs : List (Str × V) => fs.head?.map (·.1)) h
  exact absurd (show (some "release" : Option Str) = some "lots" from h2) (by decide +kernel)
section
variable {K : PySem.W.Frag} {σ : L2.St} {H : Hp} {ta tv te tl : TE} {C a dx : Addr} {fs : List (Str × V)} {f m : Str} {v y z : V} {D : Ends} {tz : TS} {xs ys : List V} {js : List Job}
theorem s_fldL (hv : EvL tv σ H ys) (ha : Ev ta σ H (.ref a)) (ho : H a = some (.ins C dx fs)) (hc : Cls K C) (hn : NoAttr K C f) (hl : fs.length < 1000) (k : ∀ p H1, H p = none → Ex H H1 → H1 p = some (.lst ys) → D.nx σ (upd H1 a (.ins C dx (putF f (.ref p) fs)))) : sFld K ta tv f D σ H :=
  hv H (Ex.refl H) _ fun p H1 hp e1 h1 => ha H1 e1 _ fun H2 e2 => ⟨a, C, dx, fs, rfl, e2 _ _ (e1 _ _ ho), hc, hn, hl, k p H2 hp (e1.trans e2) (e2 _ _ h1)⟩
theorem q_fldL (hv : EvL tv σ H ys) (ha : Ev ta σ H (.ref a)) (ho : H a = some (.ins C dx fs)) (hc : Cls K C) (hn : NoAttr K C f) (hl : fs.length < 1000) (k : ∀ p H1, H p = none → Ex H H1 → H1 p = some (.lst ys) → tz D σ (upd H1 a (.ins C dx (putF f (.ref p) fs)))) : tSeq (sFld K ta tv f) tz D σ H :=
  s_fldL (D := { D with nx := tz D }) hv ha ho hc hn hl k
/-- [lot.job() for lot in lots] -/
theorem ej_lc {l : Addr} {as : List Addr} {vs : List Nat} {j : Nat} (h : Ev tl σ H (.ref l)) (hx : SqL K H l (as.map V.ref)) (hlen : as.length = js.length) (hz : as.length ≤ 40000) (hw : ∀ x, wipe ((wipe σ vs).set j (some x)) vs = wipe σ vs)
    (he : ∀ i p H1, Ex H H1 → as[i]? = some p → EvU te ((wipe σ vs).set j (some (.ref p))) H1 (jV (jb js i))) : EvJ (tLc (iList K tl) (gName j) tYes te vs) σ H js := fun H0 e Q q =>
  h H0 e _ fun H1 e1 => ⟨l, rfl, ⟨_, ex_l (e.trans e1) hx⟩, fun Dl hD =>
    lc_list (xs := as.map V.ref) (fun i H' => Ex H1 H' ∧ ∃ ps : List Addr, H' Dl = some (.lst (ps.map V.ref)) ∧ ps.length = i ∧ ∀ k p, ps[k]? = some p → H' p = some (.tup (jV (jb js k))))
      ⟨Ex.new hD, [], upd_same, rfl, fun k p z => by simp at z⟩ (fun i H' _ p => ex_l ((e.trans e1).trans p.1) hx) (fun i x H' hi ⟨p1, ps, p2, p3, p4⟩ => by
        obtain ⟨p0, hp0, rfl⟩ := getP hi
        have hi' := (List.getElem?_eq_some_iff.mp hp0).1
        refine ⟨hw _, ?_⟩
        show te _ H' fun y H4 => ∃ acc, H4 Dl = some (.lst acc) ∧ acc.length < sizeLine ∧ _
        refine he i p0 H' ((e.trans e1).trans p1) hp0 H' (Ex.refl _) _ fun t H4 ht e4 h4 => ⟨ps.map V.ref, e4 _ _ p2, sz_lt (by rw [List.length_map]; omega), Ex.mut (p1.trans e4) hD, ps ++ [t], ?_, by simp [p3], fun k p hk => ?_⟩
        · rw [upd_same, List.map_append]
          rfl
        · by_cases hk2 : k < ps.length
          · rw [List.getElem?_append_left hk2] at hk
            have z := e4 _ _ (p4 k p hk)
            rw [upd_ne (ne_of z (e4 _ _ p2) (by intro z; cases z))]
            exact z
          · have hk3 : k = ps.length := by
              have := (List.getElem?_eq_some_iff.mp hk).1
              rw [List.length_append] at this
              simp at this
              omega
            subst hk3
            simp at hk
            subst hk
            rw [upd_ne (ne_of h4 (e4 _ _ p2) (by intro z; cases z)), p3]
            exact h4) (fun H' ⟨p1, ps, p2, p3, p4⟩ => q Dl H' (fresh_back e1 hD) (e1.trans p1) ⟨ps, p2, by rw [p3, List.length_map, hlen], p4⟩)⟩
end
theorem jb_of (s : Scheduler) {i : Nat} (h : i < s.lots.length) : jb (jobsOf s) i = jobOf (lotAt s i) := jb_jobsOf h
section
variable {P : Program} {w : World} {K : PySem.W.Frag} {mg : Str → Option Value} {base : Heap} {CL CS CR fR : Addr}
/-! ### require -/
theorem scReq : FnScope ["is_right", "code"] ["is_right", "code"] (defScope (top 9)) := ⟨rfl, rfl, rfl, by decide +kernel, rfl, by decide +kernel, by decide +kernel⟩
theorem ok_req (T : Txt K mg CL CS CR fR) : Def P w K mg base (L2.CX P w) 1 "require" ["is_right", "code"] (spReq CR) := by
  refine def_ofX T.h_require scReq (fun vs H Q E h => ?_) (fun f cdv A outer s H vs Q E hr h => ?_)
  · obtain ⟨b, c, rfl, _⟩ := h
    rfl
  · obtain ⟨b, c, rfl, k1, k2⟩ := h
    refine ⟨_, pss_one (ps_if (pt_not (pt_val (pv 0))) (pss_one (ps_raiseRef rfl T.ref hr (takes_of rfl rfl rfl rfl) (by exact (pa_cons (pv 1) pa_nil)))) pss_nil), ?_⟩
    refine s_when (et_not (et_B (ev_var rfl))) (fun hb H1 e1 => ?_) (fun hb H1 e1 => ?_)
    · have hb' : b = false := by simpa using hb
      exact ⟨_, rfl, _, rfl, fun d hd => k2 hb' d _ (fresh_back e1 hd) (e1.trans (Ex.new hd)) upd_same⟩
    · exact k1 (by simpa using hb) H1 e1
/-! ### Lot -/
def spLotI (CL : Addr) : Sp := fun vs H Q _ => ∃ (p dx : Addr) (r d h : Nat), vs = [.ref p, nV r, nV d, nV h] ∧ H p = some (.ins CL dx []) ∧
  ∀ H' : Hp, LotAt CL H' p ⟨r, d, h, 0⟩ → (∀ b o, H b = some o → b ≠ p → H' b = some o) → Q .non H'
theorem scLotI : FnScope ["self", "release", "deadline", "hours"] ["self", "release", "deadline", "hours"] (defScope (inClass (top 30) 0)) := ⟨rfl, rfl, rfl, by decide +kernel, rfl, by decide +kernel, by decide +kernel⟩
theorem ok_lotI {f : Addr} {fd : FuncData} (F : Fun K "__init__" "Lot.__init__" (inClass (top 30) 0) f fd) (T : Txt K mg CL CS CR fR) : FnOk P w K mg base CX0 1 f fd ["self", "release", "deadline", "hours"] (spLotI CL) := by
  refine F.ok scLotI (fun vs H Q E h => ?_) (fun cdv A outer s H vs Q E hr h => ?_)
  · obtain ⟨p, dx, r, d, h, rfl, _⟩ := h
    rfl
  · obtain ⟨p, dx, r, d, h, rfl, hp, k⟩ := h
    refine ⟨_, pss_cons (ps_fld (pv 0) (pv 1) rfl) (pss_cons (ps_fld (pv 0) (pv 2) rfl) (pss_cons (ps_fld (pv 0) (pv 3) rfl) (pss_one (ps_fld (pv 0) pe_int rfl)))), ?_⟩
    refine q_fld (ev_var rfl) (ev_var rfl) hp T.clL T.nL_release (by show 0 < 1000; decide) fun H1 e1 => ?_
    refine q_fld (ev_var rfl) (ev_var rfl) upd_same T.clL T.nL_deadline (Nat.lt_of_le_of_lt (length_putF _ _ _) (by show 1 < 1000; decide)) fun H2 e2 => ?_
    refine q_fld (ev_var rfl) (ev_var rfl) upd_same T.clL T.nL_hours (Nat.lt_of_le_of_lt (length_putF _ _ _) (Nat.lt_of_le_of_lt (Nat.succ_le_succ (length_putF _ _ _)) (by show 2 < 1000; decide))) fun H3 e3 => ?_
    refine s_fld ev_c (ev_var rfl) upd_same T.clL T.nL_done (Nat.lt_of_le_of_lt (length_putF _ _ _) (Nat.lt_of_le_of_lt (Nat.succ_le_succ (length_putF _ _ _)) (Nat.lt_of_le_of_lt (Nat.succ_le_succ (Nat.succ_le_succ (length_putF _ _ _))) (by show 3 < 1000; decide)))) fun H4 e4 => ?_
    refine k _ ⟨dx, ?_⟩ fun b o e hb => ?_
    · rw [upd_same]
      exact congrArg (fun q => some (HO.ins CL dx q)) (lF_new r d h)
    · rw [upd_ne hb]
      refine e4 _ _ ?_
      rw [upd_ne hb]
      refine e3 _ _ ?_
      rw [upd_ne hb]
      refine e2 _ _ ?_
      rw [upd_ne hb]
      exact e1 _ _ e
def spJob (CL : Addr) : Sp := fun vs H Q _ => ∃ (p : Addr) (x : Lot), vs = [.ref p] ∧ LotAt CL H p x ∧ x.done ≤ x.hours ∧ ∀ t H', H t = none → Ex H H' → H' t = some (.tup (jV (jobOf x))) → Q (.ref t) H'
theorem scJob : FnScope ["self"] ["self"] (defScope (inClass (top 30) 1)) := ⟨rfl, rfl, rfl, by decide +kernel, rfl, by decide +kernel, by decide +kernel⟩
theorem ok_job (T : Txt K mg CL CS CR fR) : MDef P w K mg base CX0 CL 1 "job" ["self"] (spJob CL) := by
  refine mdef_of T.m_job scJob (fun vs H Q E h => ?_) (fun f cdv A outer s H vs Q E hr h => ?_)
  · obtain ⟨p, x, rfl, _⟩ := h
    rfl
  · obtain ⟨p, x, rfl, ⟨dx, hp⟩, hd, k⟩ := h
    refine ⟨_, pss_one (ps_ret (pe_tup (pa_cons (pe_fld (pv 0) rfl) (pa_cons (pe_fld (pv 0) rfl) (pa_cons (pe_op op_sub (pe_fld (pv 0) rfl) (pe_fld (pv 0) rfl)) pa_nil))))), ?_⟩
    refine s_retU (xs := jV (jobOf x)) (eu_tup (ea_cons (ev_fld (ev_var rfl) hp T.clL T.nL_release (lF_release x)) (ea_cons (ev_fld (ev_var rfl) hp T.clL T.nL_deadline (lF_deadline x)) (ea_cons (ev_is (ev_op (ev_fld (ev_var rfl) hp T.clL T.nL_hours (lF_hours x)) (ev_fld (ev_var rfl) hp T.clL T.nL_done (lF_done x)) rv_I0) ?_) ea_nil))) (by show 3 ≤ 100000; decide)) fun t H1 ht e1 h1 => k t H1 ht e1 h1
    show V.int _ = V.int _
    congr 1
    show ((x.hours : Int) - (x.done : Int)) = ((x.hours - x.done : Nat) : Int)
    omega
/-! ### Scheduler -/
def spSchI (CL CS : Addr) : Sp := fun vs H Q _ => ∃ (p dx : Addr), vs = [.ref p] ∧ H p = some (.ins CS dx []) ∧
  ∀ (H' : Hp) (l d g : Addr), H l = none → H d = none → H g = none → SchedAt CL CS H' p l d g [] ⟨[], [], 0, []⟩ → (∀ b o, H b = some o → b ≠ p → H' b = some o) → Q .non H'
theorem scSchI : FnScope ["self"] ["self"] (defScope (inClass (top 31) 0)) := ⟨rfl, rfl, rfl, by decide +kernel, rfl, by decide +kernel, by decide +kernel⟩
theorem ok_schI {f : Addr} {fd : FuncData} (F : Fun K "__init__" "Scheduler.__init__" (inClass (top 31) 0) f fd) (T : Txt K mg CL CS CR fR) : FnOk P w K mg base CX0 1 f fd ["self"] (spSchI CL CS) := by
  refine F.ok scSchI (fun vs H Q E h => ?_) (fun cdv A outer s H vs Q E hr h => ?_)
  · obtain ⟨p, dx, rfl, _⟩ := h
    rfl
  · obtain ⟨p, dx, rfl, hp, k⟩ := h
    refine ⟨_, pss_cons (ps_fld (pv 0) (pe_lst pa_nil) rfl) (pss_cons (ps_fld (pv 0) (pe_lst pa_nil) rfl) (pss_cons (ps_fld (pv 0) pe_int rfl) (pss_one (ps_fld (pv 0) (pe_lst pa_nil) rfl)))), ?_⟩
    refine q_fldL (el_lst (vs := []) ea_nil (by decide)) (ev_var rfl) hp T.clS T.nS_lots (by show 0 < 1000; decide) fun l H1 hl e1 h1 => ?_
    have back : ∀ {G : Hp} {o : HO} {q : Addr}, upd G p o q = none → G q = none ∧ q ≠ p := fun {G o q} z => by
      by_cases e : q = p
      · rw [e, upd_same] at z
        cases z
      · rw [upd_ne e] at z
        exact ⟨z, e⟩
    have hlp : l ≠ p := fun z => by rw [z, hp] at hl; cases hl
    refine q_fldL (el_lst (vs := []) ea_nil (by decide)) (ev_var rfl) upd_same T.clS T.nS_downtime (Nat.lt_of_le_of_lt (length_putF _ _ _) (by show 1 < 1000; decide)) fun d H2 hd e2 h2 => ?_
    obtain ⟨hd1, hdp⟩ := back hd
    have hld : l ≠ d := ne_of_none h1 hd1
    have hl2 : H2 l = some (.lst []) := e2 _ _ (by rw [upd_ne hlp]; exact h1)
    refine q_fld ev_c (ev_var rfl) upd_same T.clS T.nS_now (Nat.lt_of_le_of_lt (length_putF _ _ _) (Nat.lt_of_le_of_lt (Nat.succ_le_succ (length_putF _ _ _)) (by show 2 < 1000; decide))) fun H3 e3 => ?_
    have hl3 : H3 l = some (.lst []) := e3 _ _ (by rw [upd_ne hlp]; exact hl2)
    have hd3 : H3 d = some (.lst []) := e3 _ _ (by rw [upd_ne hdp]; exact h2)
    refine s_fldL (el_lst (vs := []) ea_nil (by decide)) (ev_var rfl) upd_same T.clS T.nS_log (Nat.lt_of_le_of_lt (length_putF _ _ _) (Nat.lt_of_le_of_lt (Nat.succ_le_succ (length_putF _ _ _)) (Nat.lt_of_le_of_lt (Nat.succ_le_succ (Nat.succ_le_succ (length_putF _ _ _))) (by show 3 < 1000; decide)))) fun g H4 hg e4 h4 => ?_
    obtain ⟨hg3, hgp⟩ := back hg
    have hl4 : H4 l = some (.lst []) := e4 _ _ (by rw [upd_ne hlp]; exact hl3)
    have hd4 : H4 d = some (.lst []) := e4 _ _ (by rw [upd_ne hdp]; exact hd3)
    have hd0 : H d = none := fresh_back e1 hd1
    have hg0 : H g = none := by
      have z2 := back (fresh_back e3 hg3)
      have z1 := back (fresh_back e2 z2.1)
      exact fresh_back e1 z1.1
    refine k _ l d g hl hd0 hg0 ⟨⟨dx, ?_⟩, ?_, rfl, fun i q z => by simp at z, ?_, ?_, List.nodup_nil, hld, ne_of_none hl3 hg3, ne_of_none hd3 hg3⟩ fun b o e hb => ?_
    · rw [upd_same]
      exact congrArg (fun q => some (HO.ins CS dx q)) sF_new
    · rw [upd_ne hlp]
      exact hl4
    · show upd H4 p _ d = _
      rw [upd_ne hdp]
      exact hd4
    · show upd H4 p _ g = _
      rw [upd_ne hgp]
      exact h4
    · rw [upd_ne hb]
      refine e4 _ _ ?_
      rw [upd_ne hb]
      refine e3 _ _ ?_
      rw [upd_ne hb]
      refine e2 _ _ ?_
      rw [upd_ne hb]
      exact e1 _ _ e
/-! ### lot_at, jobs, plan -/
def spLotAt (CL CS CR : Addr) : Sp := fun vs H Q E => ∃ (a l d g : Addr) (as : List Addr) (s : Scheduler) (n : Nat), vs = [.ref a, nV n] ∧ SchedAt CL CS H a l d g as s ∧
  (n < s.lots.length → ∀ p, as[n]? = some p → ∀ H', Ex H H' → Q (.ref p) H') ∧ (¬ n < s.lots.length → Bad CR (-2) H E)
theorem scLotAt : FnScope ["self", "number"] ["self", "number"] (defScope (inClass (top 31) 1)) := ⟨rfl, rfl, rfl, by decide +kernel, rfl, by decide +kernel, by decide +kernel⟩
theorem ok_lotAt (T : Txt K mg CL CS CR fR) : MDef P w K mg base (L2.CX P w) CS 2 "lot_at" ["self", "number"] (spLotAt CL CS CR) := by
  refine mdef_ofX T.m_lot_at scLotAt (fun vs H Q E h => ?_) (fun f cdv A outer s0 H vs Q E hr h => ?_)
  · obtain ⟨a, l, d, g, as, s, n, rfl, _⟩ := h
    rfl
  · obtain ⟨a, l, d, g, as, s, n, rfl, hS, k1, k2⟩ := h
    obtain ⟨dx, hself⟩ := hS.self
    refine ⟨_, pss_cons (ps_expr (pe_callD (ok_req T) hr (by rfl) (passes_call (E := E) (takes_of rfl rfl rfl rfl) (fun _ _ _ _ h => h)) (pa_cons (pe_cmpR op_lt (pv 1) (pe_callB call_len_seq (by rfl) T.n_len PySem.boot_len (pa_cons (pe_fld (pv 0) rfl) pa_nil)) (nomark _)) (pa_cons (pe_kon T.k_MISSING (by rfl)) pa_nil))))
      (pss_one (ps_ret (pe_ix ix_list (pe_fld (pv 0) rfl) (pv 1) (fun _ _ => rfl)))), ?_⟩
    refine q_req (b := decide (n < s.lots.length)) (ev_is (ev_op (ev_var rfl) (ev_len (ev_fld (ev_var rfl) hself T.clS T.nS_lots sF_lots) (sq_of hS.lots)) rv_I0) (by rw [List.length_map, hS.len]; simp)) (fun hb H1 e1 => ?_) (fun hb => k2 (by simpa using hb))
    have hn : n < s.lots.length := by simpa using hb
    obtain ⟨p, hp⟩ := some_at (l := as) (i := n) (by rw [hS.len]; exact hn)
    exact s_ret (ev_op (ev_fld (ev_var rfl) (e1 _ _ hself) T.clS T.nS_lots sF_lots) (ev_var rfl) (rv_ixL (sq_of (e1 _ _ hS.lots)) (atP_ref hp))) fun H2 e2 => k1 hn p hp H2 (e1.trans e2)
def spJobs (CL CS : Addr) : Sp := fun vs H Q _ => ∃ (a l d g : Addr) (as : List Addr) (s : Scheduler), vs = [.ref a] ∧ SchedAt CL CS H a l d g as s ∧ Good s ∧ ∀ p H', H p = none → Ex H H' → JobsAt H' p (jobsOf s) → Q (.ref p) H'
theorem scJobs : FnScope ["self", "lot"] ["self"] (defScope (inClass (top 31) 2)) := ⟨rfl, rfl, rfl, by decide +kernel, rfl, by decide +kernel, by decide +kernel⟩
theorem ok_jobs (T : Txt K mg CL CS CR fR) : MDef P w K mg base CX0 CS 2 "jobs" ["self"] (spJobs CL CS) := by
  refine mdef_of T.m_jobs scJobs (fun vs H Q E h => ?_) (fun f cdv A outer s0 H vs Q E hr h => ?_)
  · obtain ⟨a, l, d, g, as, s, rfl, _⟩ := h
    rfl
  · obtain ⟨a, l, d, g, as, s, rfl, hS, hG, k⟩ := h
    obtain ⟨dx, hself⟩ := hS.self
    refine ⟨_, pss_one (ps_ret (pe_lc (own := [("lot", 1)]) (g := gName 1) (tt := tYes) (te := tMeth CL "job" (spJob CL) [] E0 (tVar 1) tNil) rfl scJobs.nd (pi_list (pe_fld (pv 0) rfl)) (blkOk_by (N := ["self", "lot"]) (sc := defScope (inClass (top 31) 2)) (by decide +kernel))
          (fun _ _ _ _ _ => pg_name (i := 1) scJobs.nd rfl (.inl rfl)) (fun _ _ _ _ _ => pts_nil) (fun _ _ _ _ _ => pe_methD0 (pv 1) T.clL (ok_job T) hr pass0))), ?_⟩
    have q := ej_lc (K := K) (σ := L2.start ["self", "lot"] [V.ref a]) (te := tMeth CL "job" (spJob CL) [] E0 (tVar 1) tNil) (js := jobsOf s) (vs := [1]) (j := 1) (ev_fld (K := K) (ev_var (i := 0) rfl) hself T.clS T.nS_lots sF_lots) (sq_of hS.lots) (by rw [hS.len, jobsOf_length]) (by rw [hS.len]; have := hG.six; omega) (fun x => rfl) (fun i p H1 e1 hp => ?_)
    · exact q H (Ex.refl H) _ fun p H1 hp e1 hJ => k p H1 hp e1 hJ
    · have hi : i < s.lots.length := by rw [← hS.len]; exact (List.getElem?_eq_some_iff.mp hp).1
      obtain ⟨dy, hlot⟩ := hS.lot i p hp
      rw [jb_of s hi]
      intro H2 e2 Q q
      exact ⟨_, rfl, p, dy, _, rfl, e2 _ _ (e1 _ _ hlot), lF_job _, p, lotAt s i, rfl, ⟨dy, e2 _ _ (e1 _ _ hlot)⟩, hG.dh i hi, fun t H3 ht e3 h3 => q t H3 ht e3 h3⟩
def spPlan (CL CS : Addr) : Sp := fun vs H Q _ => ∃ (a l d g : Addr) (as : List Addr) (s : Scheduler), vs = [.ref a] ∧ SchedAt CL CS H a l d g as s ∧ Good s ∧ RetI (planM (jobsOf s) s.downtime s.now) H Q
theorem scPlan : FnScope ["self"] ["self"] (defScope (inClass (top 31) 3)) := ⟨rfl, rfl, rfl, by decide +kernel, rfl, by decide +kernel, by decide +kernel⟩
theorem ej_jobs {σ : L2.St} {H : Hp} {ta : TE} {a l d g : Addr} {as : List Addr} {s : Scheduler} {E : XK} (h : Ev ta σ H (.ref a)) (hS : SchedAt CL CS H a l d g as s) (hG : Good s) : EvJ (tMeth CS "jobs" (spJobs CL CS) [] E ta tNil) σ H (jobsOf s) := by
  obtain ⟨dx, hself⟩ := hS.self
  exact ej_meth h hself (sF_none (by decide +kernel) (by decide +kernel) (by decide +kernel) (by decide +kernel)) ea_nil fun H1 e1 Q q E => ⟨a, l, d, g, as, s, rfl, hS.ex e1, hG, fun p H2 hp e2 hJ => q p H2 hp e2 hJ⟩
theorem six100 {s : Scheduler} (hG : Good s) : (jobsOf s).length ≤ 100 := by
  rw [jobsOf_length]
  have := hG.six
  omega
theorem ok_plan (T : Txt K mg CL CS CR fR) : MDef P w K mg base CX0 CS 3 "plan" ["self"] (spPlan CL CS) := by
  refine mdef_of T.m_plan scPlan (fun vs H Q E h => ?_) (fun f cdv A outer s0 H vs Q E hr h => ?_)
  · obtain ⟨a, l, d, g, as, s, rfl, _⟩ := h
    rfl
  · obtain ⟨a, l, d, g, as, s, rfl, hS, hG, k⟩ := h
    obtain ⟨dx, hself⟩ := hS.self
    refine ⟨_, pss_one (ps_ret (pe_callD (ok_planned T) hr (by rfl) pass0 (pa_cons (pe_methD0 (pv 0) T.clS (ok_jobs T) hr pass0) (pa_cons (pe_fld (pv 0) rfl) (pa_cons (pe_fld (pv 0) rfl) pa_nil))))), ?_⟩
    refine s_retL (xs := (planM (jobsOf s) s.downtime s.now).map nV) (el_callJ (ej_jobs (ev_var rfl) hS hG) (ea_cons (ev_fld (ev_var rfl) hself T.clS T.nS_downtime sF_downtime) (ea_cons (ev_fld (ev_var rfl) hself T.clS T.nS_now sF_now) ea_nil)) fun p H1 e1 hJ H2 e2 Q q E => ?_) fun p H1 hp e1 h1 => k p H1 hp e1 h1
    exact ⟨p, d, jobsOf s, s.downtime, s.now, rfl, hJ.ex e2, hS.dt.ex (e1.trans e2), six100 hG, hG.now, fun r H3 hr3 e3 h3 => q r H3 hr3 e3 h3⟩
theorem el_plan {σ : L2.St} {H : Hp} {ta : TE} {a l d g : Addr} {as : List Addr} {s : Scheduler} {E : XK} (h : Ev ta σ H (.ref a)) (hS : SchedAt CL CS H a l d g as s) (hG : Good s) : EvL (tMeth CS "plan" (spPlan CL CS) [] E ta tNil) σ H ((planM (jobsOf s) s.downtime s.now).map nV) := by
  obtain ⟨dx, hself⟩ := hS.self
  exact el_meth h hself (sF_none (by decide +kernel) (by decide +kernel) (by decide +kernel) (by decide +kernel)) ea_nil fun H1 e1 Q q E => ⟨a, l, d, g, as, s, rfl, hS.ex e1, hG, fun p H2 hp e2 hJ => q p H2 hp e2 hJ⟩
end
end Mill
end
section
set_option Elab.async false
set_option linter.all false
set_option maxRecDepth 100000
set_option maxHeartbeats 2000000
namespace Mill
open PySem PySem.Spec PyProof.Rows L2 Evl
open Kp413 (Lot Scheduler lotAt remaining nextLot encode)
theorem runP_head (js : List Job) (dt : List Nat) (now : Nat) : ∀ k, (runP js dt now (k + 1)).2.getD 0 0 = encode (mill js dt (js.map Job.m) now)
  | 0 => by
    show (turn js dt (js.map Job.m, []) now).2.getD 0 0 = _
    unfold turn
    cases mill js dt (js.map Job.m) now <;> rfl
  | k + 1 => by
    have ih := runP_head js dt now k
    have hl := (runP_len js dt now (k + 1)).1
    show (turn js dt (runP js dt now (k + 1)) (now + (k + 1))).2.getD 0 0 = _
    rw [← ih]
    unfold turn
    have h0 : 0 < (runP js dt now (k + 1)).2.length := by omega
    split <;> simp only [List.getD_eq_getElem?_getD, List.getElem?_append_left h0]
theorem alike0 (s : Scheduler) : Alike s (jobsOf s) ((jobsOf s).map Job.m) := (went s 0).al
theorem next_mill (s : Scheduler) (h : Nat) : nextLot s h = mill (jobsOf s) s.downtime ((jobsOf s).map Job.m) h := next_eq (alike0 s) h
theorem plan_head {s : Scheduler} (h : s.now < 24) : (planM (jobsOf s) s.downtime s.now).getD 0 0 = encode (nextLot s s.now) := by
  unfold planM
  have e : 24 - s.now = (23 - s.now) + 1 := by omega
  rw [e, runP_head, ← next_mill s s.now]
theorem next_lt {s : Scheduler} {h i : Nat} (e : nextLot s h = some i) : i < s.lots.length := by
  rw [next_mill s h] at e
  unfold mill at e
  split at e
  · cases e
  · have := pick_lt e
    rw [jobsOf_length] at this
    exact this
theorem next_left {s : Scheduler} {h i : Nat} (e : nextLot s h = some i) : 0 < remaining (lotAt s i) := by
  have hi := next_lt e
  rw [next_mill s h] at e
  unfold mill at e
  split at e
  · cases e
  · have := pick_left e
    rw [(alike0 s).l i hi] at this
    exact this
theorem runHour_none {s : Scheduler} (e : nextLot s s.now = none) : Kp413.runHour s = { s with now := s.now + 1, log := s.log ++ [none] } := by
  unfold Kp413.runHour
  rw [e]
theorem runHour_some {s : Scheduler} {i : Nat} (e : nextLot s s.now = some i) : Kp413.runHour s = { s with lots := s.lots.set i { lotAt s i with done := (lotAt s i).done + 1 }, now := s.now + 1, log := s.log ++ [some i] } := by
  unfold Kp413.runHour
  rw [e]
theorem good_run {s : Scheduler} (G : Good s) (h : s.now < 24) : Good (Kp413.runHour s) := by
  cases e : nextLot s s.now with
  | none =>
    rw [runHour_none e]
    exact ⟨by show s.now + 1 ≤ 24; omega, G.dn, G.dl, by show (s.log ++ [none]).length = s.now + 1; rw [List.length_append, G.ln]; rfl, G.six, G.dh⟩
  | some i =>
    have hi := next_lt e
    have hl := next_left e
    rw [runHour_some e]
    refine ⟨by show s.now + 1 ≤ 24; omega, G.dn, G.dl, by show (s.log ++ [some i]).length = s.now + 1; rw [List.length_append, G.ln]; rfl, by show (s.lots.set i _).length ≤ 6; rw [List.length_set]; exact G.six, fun j hj => ?_⟩
    have hj' : j < s.lots.length := by simpa using hj
    show ((s.lots.set i _).getD j ⟨0, 0, 0, 0⟩).done ≤ ((s.lots.set i _).getD j ⟨0, 0, 0, 0⟩).hours
    rw [lotAt_set hi]
    split
    · rename_i z
      unfold remaining at hl
      show (lotAt s i).done + 1 ≤ (lotAt s i).hours
      omega
    · exact G.dh j hj'
section
variable {P : Program} {w : World} {K : PySem.W.Frag} {mg : Str → Option Value} {base : Heap} {CL CS CR fR : Addr}
def spRun (CL CS : Addr) : Sp := fun vs H Q _ => ∃ (a l d g : Addr) (as : List Addr) (s : Scheduler), vs = [.ref a] ∧ SchedAt CL CS H a l d g as s ∧ Good s ∧ s.now < 24 ∧
  ∀ H', Fra H H' (a :: l :: d :: g :: as) → SchedAt CL CS H' a l d g as (Kp413.runHour s) → Q (nV (encode (nextLot s s.now))) H'
theorem scRun : FnScope ["self", "entry", "lot"] ["self"] (defScope (inClass (top 31) 4)) := ⟨rfl, rfl, rfl, by decide +kernel, rfl, by decide +kernel, by decide +kernel⟩
/-- the rest of run: log, now -/
theorem run_tail {C1 : Addr} (T : Txt K mg CL CS CR fR) {H2 : Hp} {v2 : Option V} {a l d g : Addr} {as : List Addr} {s2 : Scheduler} {x : Option Nat} {Q : VK}
    (hS : SchedAt CL CS H2 a l d g as s2) (hlen : s2.log.length ≤ 100)
    (k : ∀ H', Fra H2 H' [a, g] → SchedAt CL CS H' a l d g as { s2 with now := s2.now + 1, log := s2.log ++ [x] } → Q (nV (encode x)) H') :
    tSeq (tDrop (tBM K "list" rAppend (tFld K (tVar 0) "log") (tCons (tVar 1) tNil))) (tSeq (sFld K (tVar 0) (tOp (rI0 fun i j => .int (i + j)) (tFld K (tVar 0) "now") (tC (.int 1))) "now") (tRet (tVar 1))) { nx := fun _ H' => Q .non H', rt := Q } [some (.ref a), some (nV (encode x)), v2] H2 := by
  obtain ⟨dx, hself⟩ := hS.self
  have hag : a ≠ g := ne_of hself hS.log (by intro z; cases z)
  refine q_app (xs := (s2.log.map encode).map nV) hS.log (ev_fld (ev_var rfl) hself T.clS T.nS_log sF_log) (ev_var rfl) (by rw [List.length_map, List.length_map]; omega) fun H3 e3 => ?_
  have hself3 : upd H3 g (.lst ((s2.log.map encode).map nV ++ [nV (encode x)])) a = some (.ins CS dx (sF l d g s2.now)) := by
    rw [upd_ne hag]
    exact e3 _ _ hself
  refine q_fld (y := nV (s2.now + 1)) (ev_is (ev_op (ev_fld (ev_var rfl) hself3 T.clS T.nS_now sF_now) ev_c rv_I0) (by simp [nV])) (ev_var rfl) hself3 T.clS T.nS_now (by show 4 < 1000; decide) fun H4 e4 => ?_
  refine s_ret (ev_var rfl) fun H5 e5 => ?_
  have keep : ∀ b o, H2 b = some o → b ≠ a → b ≠ g → H5 b = some o := fun b o h h1 h2 => by
    refine e5 _ _ ?_
    rw [upd_ne h1]
    refine e4 _ _ ?_
    rw [upd_ne h2]
    exact e3 _ _ h
  have hg5 : H5 g = some (.lst ((s2.log.map encode).map nV ++ [nV (encode x)])) := by
    refine e5 _ _ ?_
    rw [upd_ne (Ne.symm hag)]
    exact e4 _ _ upd_same
  refine k H5 (fun b o h hb => keep b o h (fun z => hb (by rw [z]; exact List.mem_cons_self)) (fun z => hb (by rw [z]; exact List.mem_cons_of_mem _ List.mem_cons_self))) ⟨⟨dx, ?_⟩, ?_, hS.len, fun i p hp => ?_, ?_, ?_, hS.nd, hS.ld, hS.lg, hS.dg⟩
  · refine e5 _ _ ?_
    rw [upd_same, sF_put]
  · exact keep _ _ hS.lots (ne_of hS.lots hself (by intro z; cases z)) hS.lg
  · obtain ⟨dy, hlot⟩ := hS.lot i p hp
    exact ⟨dy, keep _ _ hlot (ne_of hlot hself lot_ne_self) (ne_of hlot hS.log (by intro z; cases z))⟩
  · exact keep _ _ hS.dt (ne_of hS.dt hself (by intro z; cases z)) hS.dg
  · show H5 g = some (.lst (((s2.log ++ [x]).map encode).map nV))
    rw [hg5, List.map_append, List.map_append]
    rfl
theorem ok_run (T : Txt K mg CL CS CR fR) : MDef P w K mg base CX0 CS 4 "run" ["self"] (spRun CL CS) := by
  refine mdef_of T.m_run scRun (fun vs H Q E h => ?_) (fun f cdv A outer s0 H vs Q E hr h => ?_)
  · obtain ⟨a, l, d, g, as, s, rfl, _⟩ := h
    rfl
  · obtain ⟨a, l, d, g, as, s, rfl, hS, hG, hnow, k⟩ := h
    have hSS := hS
    obtain ⟨dx, hself⟩ := hS.self
    refine ⟨_, pss_cons (ps_set (i := 1) scRun.nd rfl (Or.inl rfl) (pe_ix ix_list (pe_methD0 (pv 0) T.clS (ok_plan T) hr pass0) pe_int (fun _ _ => rfl)))
      (pss_cons (ps_if (pt_cmpR op_gt (pv 1) pe_int (nomark _))
        (pss_cons (ps_set (i := 2) scRun.nd rfl (Or.inl rfl) (pe_ix ix_list (pe_fld (pv 0) rfl) (pe_op op_sub (pv 1) pe_int) (fun _ _ => rfl)))
        (pss_one (ps_fld (pv 2) (pe_op op_add (pe_fld (pv 2) rfl) pe_int) rfl))) pss_nil)
      (pss_cons (ps_expr (pe_bm PySem.F.plainAttrs_list PySem.F.slot_list_append PySem.F.type_list_append mt_append (pe_fld (pv 0) rfl) (pa_cons (pv 1) pa_nil)))
      (pss_cons (ps_fld (pv 0) (pe_op op_add (pe_fld (pv 0) rfl) pe_int) rfl)
      (pss_one (ps_ret (pv 1)))))), ?_⟩
    have hpl : (planM (jobsOf s) s.downtime s.now).length = 24 - s.now := planM_len _ _ _
    have hlog : s.log.length ≤ 100 := by
      rw [hG.ln]
      omega
    refine q_asg (v := nV (encode (nextLot s s.now))) (ev_opL1 (el_plan (ev_var rfl) hS hG) (fun _ _ => ev_c) fun p H1 h1 e1 => rv_ixL (sq_of h1) (by rw [← plan_head hnow]; exact atI_nat (j := 0) (IntsAt.get (by rw [hpl]; omega)))) fun H1 e1 => ?_
    have hS1 := hS.ex e1
    cases hx : nextLot s s.now with
    | none =>
      rw [hx] at k
      refine q_when (b := false) (et_is (et_test (ev_op (ev_var rfl) ev_c rv_I0)) (by simp [encode])) (fun h => nomatch h) (fun _ H2 e2 => ?_)
      refine run_tail (C1 := CL) (x := none) T (hS1.ex e2) hlog fun H' hF hS' => k H' (fun b o h hb => hF b o (e2 _ _ (e1 _ _ h)) fun z => hb ?_) (by rw [runHour_none hx]; exact hS')
      rcases List.mem_cons.mp z with z | z
      · rw [z]
        exact List.mem_cons_self
      · have := List.mem_singleton.mp z
        rw [this]
        simp
    | some i =>
      rw [hx] at k
      have hi := next_lt hx
      refine q_when (b := true) (et_is (et_test (ev_op (ev_var rfl) ev_c rv_I0)) (by simp [encode])) (fun _ H2 e2 => ?_) (fun h => nomatch h)
      have hS2 := hS1.ex e2
      obtain ⟨p, hp⟩ := some_at (l := as) (i := i) (by rw [hS.len]; exact hi)
      obtain ⟨dy, hlot⟩ := hS2.lot i p hp
      have hself2 := e2 _ _ (e1 _ _ hself)
      refine q_asg (v := .ref p) (ev_op (ev_fld (ev_var rfl) hself2 T.clS T.nS_lots sF_lots) (ev_is (w := nV i) (ev_op (ev_var rfl) ev_c rv_I0) (by simp [encode, nV])) (rv_ixL (sq_of hS2.lots) (atP_ref hp))) fun H3 e3 => ?_
      have hlot3 := e3 _ _ hlot
      refine s_fld (y := nV ((lotAt s i).done + 1)) (ev_is (ev_op (ev_fld (ev_var rfl) hlot3 T.clL T.nL_done (lF_done _)) ev_c rv_I0) (by simp [nV])) (ev_var rfl) hlot3 T.clL T.nL_done (by show 4 < 1000; decide) fun H4 e4 => ?_
      have hS4 := (hS2.ex e3).ex e4
      rw [lF_put]
      have keep : ∀ b o, H4 b = some o → b ≠ p → upd H4 p (.ins CL dy (lF { lotAt s i with done := (lotAt s i).done + 1 })) b = some o := fun b o h hb => by
        rw [upd_ne hb]
        exact h
      have hlot4 := e4 _ _ hlot3
      have hself4 := e4 _ _ (e3 _ _ hself2)
      have hS5 : SchedAt CL CS (upd H4 p (.ins CL dy (lF { lotAt s i with done := (lotAt s i).done + 1 }))) a l d g as { s with lots := s.lots.set i { lotAt s i with done := (lotAt s i).done + 1 } } := by
        refine ⟨⟨dx, keep _ _ hself4 (fun z => (ne_of hlot4 hself4 lot_ne_self) z.symm)⟩, keep _ _ hS4.lots (ne_of hS4.lots hlot4 (by intro z; cases z)), by show as.length = (s.lots.set i _).length; rw [List.length_set]; exact hS.len, fun j q hq => ?_,
          keep _ _ hS4.dt (ne_of hS4.dt hlot4 (by intro z; cases z)), keep _ _ hS4.log (ne_of hS4.log hlot4 (by intro z; cases z)), hS.nd, hS.ld, hS.lg, hS.dg⟩
        show LotAt CL _ q ((s.lots.set i _).getD j ⟨0, 0, 0, 0⟩)
        rw [lotAt_set hi]
        by_cases hj : j = i
        · subst hj
          rw [hp] at hq
          cases hq
          rw [if_pos rfl]
          exact ⟨dy, upd_same⟩
        · rw [if_neg hj]
          obtain ⟨dz, hz⟩ := hS4.lot j q hq
          exact ⟨dz, keep _ _ hz fun z => hj (nd_ix hS.nd (by rw [← z]; exact hq) hp)⟩
      refine run_tail (C1 := CL) (x := some i) T hS5 hlog fun H' hF hS' => k H' (fun b o h hb => hF b o (keep b o (e4 _ _ (e3 _ _ (e2 _ _ (e1 _ _ h)))) fun z => hb ?_) fun z => hb ?_) (by rw [runHour_some hx]; exact hS')
      · rw [z]
        exact List.mem_cons_of_mem _ (List.mem_cons_of_mem _ (List.mem_cons_of_mem _ (List.mem_cons_of_mem _ (List.mem_of_getElem? hp))))
      · rcases List.mem_cons.mp z with z | z
        · rw [z]
          exact List.mem_cons_self
        · have := List.mem_singleton.mp z
          rw [this]
          simp
end
end Mill
end
section
set_option Elab.async false
set_option linter.all false
set_option maxRecDepth 100000
set_option maxHeartbeats 2000000
namespace Mill
open PySem PySem.Spec PyProof.Rows L2 Evl
open Kp413 (Lot Scheduler lotAt remaining nextLot encode)
/-! ### what an operation owes -/
structure Due (CL CS CR a l d g : Addr) (as : List Addr) (H : Hp) (s : Scheduler) (c : Kp413.Call) (Q : VK) (E : XK) : Prop where
  ret : ∀ s' x, Kp413.step (some s) c = (some s', x) → ∀ p H' as', H p = none → Fra H H' (a :: l :: d :: g :: as) → (∀ q ∈ as', q ∈ as ∨ H q = none) → SchedAt CL CS H' a l d g as' s' → H' p = some (.lst ((x.num :: x.nums).map V.int)) → Q (.ref p) H'
  bad : ∀ n, Kp413.step (some s) c = (some s, Kp413.single n) → Bad CR n H E
theorem Due.pure {CL CS CR a l d g : Addr} {as : List Addr} {H : Hp} {s : Scheduler} {c : Kp413.Call} {Q : VK} {E : XK} {x : Kp413.Ans} (D : Due CL CS CR a l d g as H s c Q E) (hS : SchedAt CL CS H a l d g as s) (hst : Kp413.step (some s) c = (some s, x)) {p : Addr} {H' : Hp} {ys : List V}
    (hp : H p = none) (e : Ex H H') (h : H' p = some (.lst ys)) (hy : ys = (x.num :: x.nums).map V.int) : Q (.ref p) H' := D.ret s x hst p H' as hp (Fra.of_ex e) (fun q hq => .inl hq) (hS.ex e) (by rw [← hy]; exact h)
def spOp0 (CL CS CR : Addr) (c : Kp413.Call) : Sp := fun vs H Q E => ∃ (a l d g : Addr) (as : List Addr) (s : Scheduler), vs = [.ref a] ∧ SchedAt CL CS H a l d g as s ∧ Good s ∧ Due CL CS CR a l d g as H s c Q E
def spOp1 (CL CS CR : Addr) (c : Nat → Kp413.Call) : Sp := fun vs H Q E => ∃ (a l d g : Addr) (as : List Addr) (s : Scheduler) (x : Nat), vs = [.ref a, nV x] ∧ SchedAt CL CS H a l d g as s ∧ Good s ∧ Due CL CS CR a l d g as H s (c x) Q E
def spOp2 (CL CS CR : Addr) (c : Nat → Nat → Kp413.Call) : Sp := fun vs H Q E => ∃ (a l d g : Addr) (as : List Addr) (s : Scheduler) (x y : Nat), vs = [.ref a, nV x, nV y] ∧ SchedAt CL CS H a l d g as s ∧ Good s ∧ Due CL CS CR a l d g as H s (c x y) Q E
def spOp3 (CL CS CR : Addr) (c : Nat → Nat → Nat → Kp413.Call) : Sp := fun vs H Q E => ∃ (a l d g : Addr) (as : List Addr) (s : Scheduler) (x y z : Nat), vs = [.ref a, nV x, nV y, nV z] ∧ SchedAt CL CS H a l d g as s ∧ Good s ∧ Due CL CS CR a l d g as H s (c x y z) Q E
section
variable {σ : L2.St} {H : Hp} {te : TE} {D : Ends} {E : XK} {CR : Addr}
theorem s_req {b : Bool} {c : Int} (h : Ev te σ H (.bl b)) (h1 : b = true → ∀ H1, Ex H H1 → D.nx σ H1) (h2 : b = false → Bad CR c H E) : tDrop (tCall (spReq CR) [] E (tCons te (tCons (tC (.int c)) tNil))) D σ H :=
  h H (Ex.refl H) _ fun H1 e1 => ⟨b, c, rfl, fun hb H2 e2 => h1 hb H2 (e1.trans e2), fun hb => (h2 hb).ex e1⟩
end
theorem vint {i : Int} {n : Nat} (h : i = (n : Int)) : V.int i = nV n := by rw [h]
section
variable {P : Program} {w : World} {K : PySem.W.Frag} {mg : Str → Option Value} {base : Heap} {CL CS CR fR : Addr}
/-! ### require_lot -/
def spReqLot (CL CS CR : Addr) : Sp := fun vs H Q E => ∃ (a l d g : Addr) (as : List Addr) (s : Scheduler) (r dl h : Nat), vs = [.ref a, nV r, nV dl, nV h] ∧ SchedAt CL CS H a l d g as s ∧
  (Kp413.validLot s r dl h = true → ∀ H', Ex H H' → Q .non H') ∧ (Kp413.validLot s r dl h = false → Bad CR (-22) H E)
theorem scReqLot : FnScope ["scheduler", "release", "deadline", "hours"] ["scheduler", "release", "deadline", "hours"] (defScope (top 35)) := ⟨rfl, rfl, rfl, by decide +kernel, rfl, by decide +kernel, by decide +kernel⟩
theorem valid_iff {s : Scheduler} {r dl h : Nat} : Kp413.validLot s r dl h = true ↔ (s.now ≤ r ∧ r < dl ∧ dl ≤ 24) ∧ 1 ≤ h ∧ h ≤ 12 := by
  unfold Kp413.validLot Kp413.horizon
  simp
  omega
theorem ok_reqLot (T : Txt K mg CL CS CR fR) : Def P w K mg base (L2.CX P w) 2 "require_lot" ["scheduler", "release", "deadline", "hours"] (spReqLot CL CS CR) := by
  refine def_ofX T.h_require_lot scReqLot (fun vs H Q E h => ?_) (fun f cdv A outer s0 H vs Q E hr h => ?_)
  · obtain ⟨a, l, d, g, as, s, r, dl, h, rfl, _⟩ := h
    rfl
  · obtain ⟨a, l, d, g, as, s, r, dl, h, rfl, hS, k1, k2⟩ := h
    obtain ⟨dx, hself⟩ := hS.self
    refine ⟨_, pss_cons (ps_expr (pe_callD (ok_req T) hr (by rfl) (passes_call (E := E) (takes_of rfl rfl rfl rfl) (fun _ _ _ _ h => h)) (pa_cons (pe_chain3 op_le op_lt op_le (pe_fld (pv 0) rfl) (pv 1) (pv 2) (pe_kon T.k_DAY (by rfl))) (pa_cons (pe_kon T.k_OUT_OF_LIMITS (by rfl)) pa_nil))))
      (pss_one (ps_expr (pe_callD (ok_req T) hr (by rfl) (passes_call (E := E) (takes_of rfl rfl rfl rfl) (fun _ _ _ _ h => h)) (pa_cons (pe_chain op_le op_le pe_int (pv 3) (pe_kon T.k_MOST_HOURS (by rfl))) (pa_cons (pe_kon T.k_OUT_OF_LIMITS (by rfl)) pa_nil))))), ?_⟩
    refine q_req (b := decide (s.now ≤ r ∧ r < dl ∧ dl ≤ 24)) (ev_is (ev_chain3 (ev_fld (ev_var rfl) hself T.clS T.nS_now sF_now) (ev_var rfl) (ev_var rfl) ev_c rv_I0 rv_I0 rv_I0) (congrArg V.bl (by rw [Bool.eq_iff_iff]; simp; omega))) (fun hb H1 e1 => ?_) (fun hb => k2 ?_)
    · have hb' : s.now ≤ r ∧ r < dl ∧ dl ≤ 24 := by simpa using hb
      refine s_req (b := decide (1 ≤ h ∧ h ≤ 12)) (ev_is (ev_chain ev_c (ev_var rfl) ev_c rv_I0 rv_I0) (congrArg V.bl (by rw [Bool.eq_iff_iff]; simp; omega))) (fun hc H2 e2 => ?_) (fun hc => (k2 ?_).ex e1)
      · have hc' : 1 ≤ h ∧ h ≤ 12 := by simpa using hc
        exact k1 (valid_iff.mpr ⟨hb', hc'⟩) H2 (e1.trans e2)
      · rw [Bool.eq_false_iff]
        intro z
        have := (valid_iff.mp z).2
        simp at hc
        omega
    · rw [Bool.eq_false_iff]
      intro z
      have := (valid_iff.mp z).1
      simp at hb
      omega
theorem step_add (s : Scheduler) (r dl h : Nat) : Kp413.step (some s) (.addLot r dl h) = if Kp413.validLot s r dl h = false then (some s, Kp413.single (-22)) else if 6 ≤ s.lots.length then (some s, Kp413.single (-28)) else (some (Kp413.withLot s r dl h), Kp413.single (s.lots.length : Nat)) := rfl
/-! ### add_lot -/
theorem scAddLot : FnScope ["scheduler", "release", "deadline", "hours"] ["scheduler", "release", "deadline", "hours"] (defScope (top 36)) := ⟨rfl, rfl, rfl, by decide +kernel, rfl, by decide +kernel, by decide +kernel⟩
theorem ok_addLot (T : Txt K mg CL CS CR fR) : Def P w K mg base (L2.CX P w) 3 "add_lot" ["scheduler", "release", "deadline", "hours"] (spOp3 CL CS CR .addLot) := by
  refine def_ofX T.h_add_lot scAddLot (fun vs H Q E h => ?_) (fun f cdv A outer s0 H vs Q E hr h => ?_)
  · obtain ⟨a, l, d, g, as, s, r, dl, h, rfl, _⟩ := h
    rfl
  · obtain ⟨a, l, d, g, as, s, r, dl, h, rfl, hS, hG, D⟩ := h
    obtain ⟨dx, hself⟩ := hS.self
    obtain ⟨fL, ML, fdL, FL, bL⟩ := T.mkL
    have hst := step_add s r dl h
    refine ⟨_, pss_cons (ps_expr (pe_callD (ok_reqLot T) hr (by rfl) (passes_call (E := E) (takes_of rfl rfl rfl rfl) (fun _ _ _ _ h => h)) (pa_cons (pv 0) (pa_cons (pv 1) (pa_cons (pv 2) (pa_cons (pv 3) pa_nil))))))
      (pss_cons (ps_expr (pe_callD (ok_req T) (hr.mono (by decide)) (by rfl) (passes_call (E := E) (takes_of rfl rfl rfl rfl) (fun _ _ _ _ h => h)) (pa_cons (pe_cmpR op_lt (pe_callB call_len_seq (by rfl) T.n_len PySem.boot_len (pa_cons (pe_fld (pv 0) rfl) pa_nil)) (pe_kon T.k_MOST_LOTS (by rfl)) (nomark _)) (pa_cons (pe_kon T.k_TOO_MANY (by rfl)) pa_nil))))
      (pss_cons (ps_expr (pe_bm PySem.F.plainAttrs_list PySem.F.slot_list_append PySem.F.type_list_append mt_append (pe_fld (pv 0) rfl) (pa_cons (pe_make ML (ok_lotI (P := P) (w := w) (base := base) FL T) hr rfl T.gL bL .nil pass0 (pa_cons (pv 1) (pa_cons (pv 2) (pa_cons (pv 3) pa_nil)))) pa_nil)))
      (pss_one (ps_ret (pe_lst (pa_cons (pe_op op_sub (pe_callB call_len_seq (by rfl) T.n_len PySem.boot_len (pa_cons (pe_fld (pv 0) rfl) pa_nil)) pe_int) pa_nil)))))), ?_⟩
    refine ⟨_, rfl, _, rfl, _, rfl, _, rfl, a, l, d, g, as, s, r, dl, h, rfl, hS, fun hv H1 e1 => ?_, fun hv => D.bad (-22) (by rw [hst, if_pos hv])⟩
    rw [if_neg (by rw [hv]; decide)] at hst
    have hS1 := hS.ex e1
    have hself1 := e1 _ _ hself
    refine q_req (b := decide (s.lots.length < 6)) (ev_is (ev_op (ev_len (ev_fld (ev_var rfl) hself1 T.clS T.nS_lots sF_lots) (sq_of hS1.lots)) ev_c rv_I0) (congrArg V.bl (by rw [List.length_map, hS.len, Bool.eq_iff_iff]; simp; omega))) (fun hb H2 e2 => ?_) (fun hb => (D.bad (-28) (by rw [hst, if_pos (by simpa using hb)])).ex e1)
    have hb' : s.lots.length < 6 := by simpa using hb
    rw [if_neg (by omega)] at hst
    have hS2 := hS1.ex e2
    have hself2 := e2 _ _ hself1
    have e12 := e1.trans e2
    refine ⟨_, rfl, a, CS, dx, _, _, rfl, hself2, T.clS, T.nS_lots, sF_lots, Or.inl ⟨rfl, _, sq_of hS2.lots⟩, _, rfl, _, rfl, _, rfl, fun x dy nx nd ne => ⟨x, dy, r, dl, h, rfl, upd_same, fun H3 J kp => ⟨rfl, ?_⟩⟩⟩
    have e3 : Ex H2 H3 := fun b o q => kp b o (by rw [upd_ne (ne_of_none q nx), upd_ne (ne_of_none q nd)]; exact q) (ne_of_none q nx)
    have hS3 := hS2.ex e3
    have hself3 := e3 _ _ hself2
    refine ⟨l, as.map V.ref, .ref x, rfl, rfl, hS3.lots, sz_lt (by rw [List.length_map, hS.len]; omega), ?_⟩
    have hxas : x ∉ as := fun z => by
      obtain ⟨i, hi⟩ := List.getElem?_of_mem z
      obtain ⟨dz, hz⟩ := hS2.lot i x hi
      rw [nx] at hz
      cases hz
    have hx0 : H x = none := fresh_back e12 nx
    obtain ⟨dz, J⟩ := J
    have keep : ∀ b o, H3 b = some o → b ≠ l → upd H3 l (.lst (as.map V.ref ++ [.ref x])) b = some o := fun b o q hb => by
      rw [upd_ne hb]
      exact q
    have hself4 := keep _ _ hself3 (ne_of hself3 hS3.lots (by intro z; cases z))
    have hS4 : SchedAt CL CS (upd H3 l (.lst (as.map V.ref ++ [.ref x]))) a l d g (as ++ [x]) (Kp413.withLot s r dl h) := by
      refine ⟨⟨dx, hself4⟩, ?_, by simp [Kp413.withLot, hS.len], fun i p hp => ?_, keep _ _ hS3.dt (Ne.symm hS.ld), keep _ _ hS3.log (Ne.symm hS.lg), ?_, hS.ld, hS.lg, hS.dg⟩
      · rw [upd_same, List.map_append]
        rfl
      · by_cases hi : i < as.length
        · rw [List.getElem?_append_left hi] at hp
          obtain ⟨dw, hw⟩ := hS3.lot i p hp
          have : lotAt (Kp413.withLot s r dl h) i = lotAt s i := by
            unfold lotAt Kp413.withLot
            rw [hS.len] at hi
            simp [List.getD_eq_getElem?_getD, List.getElem?_append_left hi]
          rw [this]
          exact ⟨dw, keep _ _ hw (ne_of hw hS3.lots (by intro z; cases z))⟩
        · have hi2 : i = as.length := by
            have := (List.getElem?_eq_some_iff.mp hp).1
            rw [List.length_append] at this
            simp at this
            omega
          subst hi2
          simp at hp
          subst hp
          have : lotAt (Kp413.withLot s r dl h) as.length = ⟨r, dl, h, 0⟩ := by
            unfold lotAt Kp413.withLot
            rw [hS.len]
            simp [List.getD_eq_getElem?_getD]
          rw [this]
          exact ⟨dz, keep _ _ J (ne_of J hS3.lots (by intro z; cases z))⟩
      · rw [List.nodup_append]
        refine ⟨hS.nd, List.nodup_cons.mpr ⟨by simp, List.nodup_nil⟩, fun y hy z hz e => ?_⟩
        have := List.mem_singleton.mp hz
        rw [e, this] at hy
        exact hxas hy
    refine s_retL (el_lst (ea_cons (ev_is (w := nV s.lots.length) (ev_op (ev_len (ev_fld (ev_var rfl) hself4 T.clS T.nS_lots sF_lots) (sq_of hS4.lots)) ev_c rv_I0) (vint (by rw [List.length_map, List.length_append, hS.len]; simp))) ea_nil) (by show 1 ≤ 100000; decide)) fun p H5 hp e5 h5 => ?_
    have hp3 : H3 p = none := by
      by_cases z : p = l
      · rw [z, upd_same] at hp
        cases hp
      · rw [upd_ne z] at hp
        exact hp
    refine D.ret _ _ hst p H5 (as ++ [x]) (fresh_back e12 (fresh_back e3 hp3)) (fun b o q hb => e5 _ _ (keep b o (e3 _ _ (e12 _ _ q)) fun z => hb (by rw [z]; simp))) (fun q hq => ?_) (hS4.ex e5) h5
    rcases List.mem_append.mp hq with z | z
    · exact .inl z
    · have := List.mem_singleton.mp z
      rw [this]
      exact .inr hx0
end
end Mill
end
section
set_option Elab.async false
set_option linter.all false
set_option maxRecDepth 100000
set_option maxHeartbeats 2000000
namespace Mill
open PySem PySem.Spec PyProof.Rows L2 Evl
open Kp413 (Lot Scheduler lotAt remaining nextLot encode)
section
variable {P : Program} {w : World} {K : PySem.W.Frag} {mg : Str → Option Value} {base : Heap} {CL CS CR fR : Addr}
theorem isLot_iff {s : Scheduler} {n : Nat} : Kp413.isLot s n = true ↔ n < s.lots.length := by
  unfold Kp413.isLot
  simp
theorem isLot_false {s : Scheduler} {n : Nat} (h : ¬ n < s.lots.length) : Kp413.isLot s n = false := by
  rw [Bool.eq_false_iff]
  exact fun z => h (isLot_iff.mp z)
theorem isLot_true {s : Scheduler} {n : Nat} (h : n < s.lots.length) : ¬ Kp413.isLot s n = false := by
  rw [isLot_iff.mpr h]
  decide
theorem isLot_not {s : Scheduler} {n : Nat} (h : ¬ n < s.lots.length) : ¬ Kp413.isLot s n = true := fun z => h (isLot_iff.mp z)
/-! ### get_lot -/
theorem step_get (s : Scheduler) (n : Nat) : Kp413.step (some s) (.getLot n) = (some s, if Kp413.isLot s n = true then Kp413.natResult (lotAt s n).release [(lotAt s n).deadline, (lotAt s n).hours, (lotAt s n).done] else Kp413.single (-2)) := rfl
theorem scGetLot : FnScope ["scheduler", "number", "lot"] ["scheduler", "number"] (defScope (top 38)) := ⟨rfl, rfl, rfl, by decide +kernel, rfl, by decide +kernel, by decide +kernel⟩
theorem ok_getLot (T : Txt K mg CL CS CR fR) : Def P w K mg base (L2.CX P w) 3 "get_lot" ["scheduler", "number"] (spOp1 CL CS CR .getLot) := by
  refine def_ofX T.h_get_lot scGetLot (fun vs H Q E h => ?_) (fun f cdv A outer s0 H vs Q E hr h => ?_)
  · obtain ⟨a, l, d, g, as, s, n, rfl, _⟩ := h
    rfl
  · obtain ⟨a, l, d, g, as, s, n, rfl, hS, hG, D⟩ := h
    obtain ⟨dx, hself⟩ := hS.self
    have hst := step_get s n
    refine ⟨_, pss_cons (ps_set (i := 2) scGetLot.nd rfl (Or.inl rfl) (pe_methD (pv 0) T.clS (ok_lotAt T) hr (passes_call (E := E) (takes_of rfl rfl rfl rfl) (fun _ _ _ _ h => h)) (by exact (pa_cons (pv 1) pa_nil))))
      (pss_one (ps_ret (pe_lst (pa_cons (pe_fld (pv 2) rfl) (pa_cons (pe_fld (pv 2) rfl) (pa_cons (pe_fld (pv 2) rfl) (pa_cons (pe_fld (pv 2) rfl) pa_nil))))))), ?_⟩
    refine ⟨_, rfl, a, dx, _, rfl, hself, sF_none (by decide +kernel) (by decide +kernel) (by decide +kernel) (by decide +kernel), _, rfl, a, l, d, g, as, s, n, rfl, hS, fun hn p hp H1 e1 => ?_, fun hn => D.bad (-2) (by rw [hst, if_neg (isLot_not hn)])⟩
    rw [if_pos (isLot_iff.mpr hn)] at hst
    obtain ⟨dy, hlot⟩ := (hS.ex e1).lot n p hp
    exact s_retL (el_lst (ea_cons (ev_fld (ev_var rfl) hlot T.clL T.nL_release (lF_release _)) (ea_cons (ev_fld (ev_var rfl) hlot T.clL T.nL_deadline (lF_deadline _)) (ea_cons (ev_fld (ev_var rfl) hlot T.clL T.nL_hours (lF_hours _)) (ea_cons (ev_fld (ev_var rfl) hlot T.clL T.nL_done (lF_done _)) ea_nil)))) (by show 4 ≤ 100000; decide)) fun q H2 hq e2 h2 => D.pure hS hst (fresh_back e1 hq) (e1.trans e2) h2 rfl
/-! ### remove_last_lot -/
theorem step_remove (s : Scheduler) (n : Nat) : Kp413.step (some s) (.removeLastLot n) = if Kp413.isLot s n = false then (some s, Kp413.single (-2)) else if n + 1 ≠ s.lots.length ∨ 0 < (lotAt s n).done then (some s, Kp413.single (-16)) else (some { s with lots := s.lots.dropLast }, Kp413.single (s.lots.length - 1 : Nat)) := rfl
theorem scRemove : FnScope ["scheduler", "number", "lot"] ["scheduler", "number"] (defScope (top 37)) := ⟨rfl, rfl, rfl, by decide +kernel, rfl, by decide +kernel, by decide +kernel⟩
theorem ok_remove (T : Txt K mg CL CS CR fR) : Def P w K mg base (L2.CX P w) 3 "remove_last_lot" ["scheduler", "number"] (spOp1 CL CS CR .removeLastLot) := by
  refine def_ofX T.h_remove_last_lot scRemove (fun vs H Q E h => ?_) (fun f cdv A outer s0 H vs Q E hr h => ?_)
  · obtain ⟨a, l, d, g, as, s, n, rfl, _⟩ := h
    rfl
  · obtain ⟨a, l, d, g, as, s, n, rfl, hS, hG, D⟩ := h
    obtain ⟨dx, hself⟩ := hS.self
    have hst := step_remove s n
    refine ⟨_, pss_cons (ps_set (i := 2) scRemove.nd rfl (Or.inl rfl) (pe_methD (pv 0) T.clS (ok_lotAt T) hr (passes_call (E := E) (takes_of rfl rfl rfl rfl) (fun _ _ _ _ h => h)) (by exact (pa_cons (pv 1) pa_nil))))
      (pss_cons (ps_expr (pe_callD (ok_req T) (hr.mono (by decide)) (by rfl) (passes_call (E := E) (takes_of rfl rfl rfl rfl) (fun _ _ _ _ h => h)) (pa_cons (pe_and (pe_cmpR op_eq (pv 1) (pe_op op_sub (pe_callB call_len_seq (by rfl) T.n_len PySem.boot_len (pa_cons (pe_fld (pv 0) rfl) pa_nil)) pe_int) (nomark _)) (pe_one (pe_cmpR op_eq (pe_fld (pv 2) rfl) pe_int (nomark _)))) (pa_cons (pe_kon T.k_NOT_REMOVABLE (by rfl)) pa_nil))))
      (pss_cons (ps_expr (pe_bm0 PySem.F.plainAttrs_list PySem.F.slot_list_pop PySem.F.type_list_pop mt_pop (pe_fld (pv 0) rfl)))
      (pss_one (ps_ret (pe_lst (pa_cons (pe_callB call_len_seq (by rfl) T.n_len PySem.boot_len (pa_cons (pe_fld (pv 0) rfl) pa_nil)) pa_nil)))))), ?_⟩
    refine ⟨_, rfl, a, dx, _, rfl, hself, sF_none (by decide +kernel) (by decide +kernel) (by decide +kernel) (by decide +kernel), _, rfl, a, l, d, g, as, s, n, rfl, hS, fun hn p hp H1 e1 => ?_, fun hn => D.bad (-2) (by rw [hst, if_pos (isLot_false hn)])⟩
    rw [if_neg (isLot_true hn)] at hst
    have hS1 := hS.ex e1
    have hself1 := e1 _ _ hself
    obtain ⟨dy, hlot⟩ := hS1.lot n p hp
    refine q_req (b := decide (n + 1 = s.lots.length) && decide ((lotAt s n).done = 0)) (ev_andV (ev_is (ev_op (ev_var rfl) (ev_is (w := nV (s.lots.length - 1)) (ev_op (ev_len (ev_fld (ev_var rfl) hself1 T.clS T.nS_lots sF_lots) (sq_of hS1.lots)) ev_c rv_I0) (vint (by rw [List.length_map, hS.len]; omega))) (rv_eq rfl)) (congrArg V.bl (by rw [dec_nV, decide_eq_decide]; omega))) fun _ => ev_is (ev_op (ev_fld (ev_var rfl) hlot T.clL T.nL_done (lF_done _)) ev_c (rv_eq rfl)) (congrArg V.bl (dec_nV (b := 0)))) (fun hb H2 e2 => ?_) (fun hb => (D.bad (-16) ?_).ex e1)
    · have hb' : n + 1 = s.lots.length ∧ (lotAt s n).done = 0 := by simpa using hb
      rw [if_neg (by omega)] at hst
      have hS2 := hS1.ex e2
      have hself2 := e2 _ _ hself1
      have e12 := e1.trans e2
      have hlen : as.length = n + 1 := by rw [hS.len]; exact hb'.1.symm
      refine ⟨_, rfl, a, CS, dx, _, _, rfl, hself2, T.clS, T.nS_lots, sF_lots, Or.inl ⟨rfl, _, sq_of hS2.lots⟩, l, as.map V.ref, .ref p, rfl, rfl, hS2.lots, ?_, ?_⟩
      · rw [List.length_map, hlen, List.getElem?_map]
        show (as[n]?).map V.ref = _
        rw [hp]
        rfl
      · have keep : ∀ b o, H2 b = some o → b ≠ l → upd H2 l (.lst (as.map V.ref).dropLast) b = some o := fun b o q hb => by
          rw [upd_ne hb]
          exact q
        have hself4 := keep _ _ hself2 (ne_of hself2 hS2.lots (by intro z; cases z))
        have hS4 : SchedAt CL CS (upd H2 l (.lst (as.map V.ref).dropLast)) a l d g as.dropLast { s with lots := s.lots.dropLast } := by
          refine ⟨⟨dx, hself4⟩, ?_, by simp [hS.len], fun i q hq => ?_, keep _ _ hS2.dt (Ne.symm hS.ld), keep _ _ hS2.log (Ne.symm hS.lg), hS.nd.sublist (List.dropLast_sublist _), hS.ld, hS.lg, hS.dg⟩
          · rw [upd_same, List.map_dropLast]
          · have hi : i < as.length - 1 := by
              have := (List.getElem?_eq_some_iff.mp hq).1
              rw [List.length_dropLast] at this
              exact this
            have hq' : as[i]? = some q := by
              rw [List.getElem?_dropLast, if_pos hi] at hq
              exact hq
            obtain ⟨dw, hw⟩ := hS2.lot i q hq'
            have : lotAt { s with lots := s.lots.dropLast } i = lotAt s i := by
              unfold lotAt
              show s.lots.dropLast.getD i _ = _
              rw [List.getD_eq_getElem?_getD, List.getElem?_dropLast, if_pos (by rw [← hS.len]; exact hi), ← List.getD_eq_getElem?_getD]
            rw [this]
            exact ⟨dw, keep _ _ hw (ne_of hw hS2.lots (by intro z; cases z))⟩
        refine s_retL (el_lst (ea_cons (ev_is (w := nV (s.lots.length - 1)) (ev_len (ev_fld (ev_var rfl) hself4 T.clS T.nS_lots sF_lots) (sq_of hS4.lots)) (vint (by rw [List.length_map, List.length_dropLast, hS.len]))) ea_nil) (by show 1 ≤ 100000; decide)) fun q H5 hq e5 h5 => ?_
        have hq3 : H2 q = none := by
          by_cases z : q = l
          · rw [z, upd_same] at hq
            cases hq
          · rw [upd_ne z] at hq
            exact hq
        exact D.ret _ _ hst q H5 as.dropLast (fresh_back e12 hq3) (fun b o q hb => e5 _ _ (keep b o (e12 _ _ q) fun z => hb (by rw [z]; simp))) (fun q hq => .inl (List.dropLast_subset _ hq)) (hS4.ex e5) h5
    · rw [hst, if_pos ?_]
      simp at hb
      omega
/-! ### add_downtime -/
theorem step_addDown (s : Scheduler) (t : Nat) : Kp413.step (some s) (.addDowntime t) = if 24 ≤ t ∨ t < s.now then (some s, Kp413.single (-22)) else if s.downtime.contains t = true then (some s, Kp413.single (-17)) else (some { s with downtime := s.downtime ++ [t] }, Kp413.single (s.downtime.length + 1 : Nat)) := rfl
theorem scAddDown : FnScope ["scheduler", "hour"] ["scheduler", "hour"] (defScope (top 39)) := ⟨rfl, rfl, rfl, by decide +kernel, rfl, by decide +kernel, by decide +kernel⟩
theorem ok_addDown (T : Txt K mg CL CS CR fR) : Def P w K mg base (L2.CX P w) 2 "add_downtime" ["scheduler", "hour"] (spOp1 CL CS CR .addDowntime) := by
  refine def_ofX T.h_add_downtime scAddDown (fun vs H Q E h => ?_) (fun f cdv A outer s0 H vs Q E hr h => ?_)
  · obtain ⟨a, l, d, g, as, s, n, rfl, _⟩ := h
    rfl
  · obtain ⟨a, l, d, g, as, s, n, rfl, hS, hG, D⟩ := h
    obtain ⟨dx, hself⟩ := hS.self
    have hst := step_addDown s n
    refine ⟨_, pss_cons (ps_expr (pe_callD (ok_req T) hr (by rfl) (passes_call (E := E) (takes_of rfl rfl rfl rfl) (fun _ _ _ _ h => h)) (pa_cons (pe_chain op_le op_lt (pe_fld (pv 0) rfl) (pv 1) (pe_kon T.k_DAY (by rfl))) (pa_cons (pe_kon T.k_OUT_OF_LIMITS (by rfl)) pa_nil))))
      (pss_cons (ps_expr (pe_callD (ok_req T) hr (by rfl) (passes_call (E := E) (takes_of rfl rfl rfl rfl) (fun _ _ _ _ h => h)) (pa_cons (pe_cmpR op_notIn_seq (pv 1) (pe_fld (pv 0) rfl) (by rfl)) (pa_cons (pe_kon T.k_ALREADY_DOWNTIME (by rfl)) pa_nil))))
      (pss_cons (ps_expr (pe_bm PySem.F.plainAttrs_list PySem.F.slot_list_append PySem.F.type_list_append mt_append (pe_fld (pv 0) rfl) (pa_cons (pv 1) pa_nil)))
      (pss_one (ps_ret (pe_lst (pa_cons (pe_callB call_len_seq (by rfl) T.n_len PySem.boot_len (pa_cons (pe_fld (pv 0) rfl) pa_nil)) pa_nil)))))), ?_⟩
    refine q_req (b := decide (s.now ≤ n ∧ n < 24)) (ev_is (ev_chain (ev_fld (ev_var rfl) hself T.clS T.nS_now sF_now) (ev_var rfl) ev_c rv_I0 rv_I0) (congrArg V.bl (by rw [Bool.eq_iff_iff]; simp; omega))) (fun hb H1 e1 => ?_) (fun hb => D.bad (-22) (by rw [hst, if_pos (by simp at hb; omega)]))
    have hb' : s.now ≤ n ∧ n < 24 := by simpa using hb
    rw [if_neg (by omega)] at hst
    have hS1 := hS.ex e1
    have hself1 := e1 _ _ hself
    refine q_req (b := !s.downtime.contains n) (ev_is (ev_op (ev_var rfl) (ev_fld (ev_var rfl) hself1 T.clS T.nS_downtime sF_downtime) (rv_niL (sq_of hS1.dt) rfl (flat_nV _))) (by rw [in_nV])) (fun hc H2 e2 => ?_) (fun hc => (D.bad (-17) (by rw [hst, if_pos (by simpa using hc)])).ex e1)
    have hc' : ¬ s.downtime.contains n = true := by simpa using hc
    rw [if_neg hc'] at hst
    have hS2 := hS1.ex e2
    have hself2 := e2 _ _ hself1
    have e12 := e1.trans e2
    refine q_app hS2.dt (ev_fld (ev_var rfl) hself2 T.clS T.nS_downtime sF_downtime) (ev_var rfl) (by rw [List.length_map]; have := hG.dt24; omega) fun H3 e3 => ?_
    have hS3 := hS2.ex e3
    have hself3 := e3 _ _ hself2
    have keep : ∀ b o, H3 b = some o → b ≠ d → upd H3 d (.lst (s.downtime.map nV ++ [nV n])) b = some o := fun b o q hb => by
      rw [upd_ne hb]
      exact q
    have hself4 := keep _ _ hself3 (ne_of hself3 hS3.dt (by intro z; cases z))
    have hS4 : SchedAt CL CS (upd H3 d (.lst (s.downtime.map nV ++ [nV n]))) a l d g as { s with downtime := s.downtime ++ [n] } := by
      refine ⟨⟨dx, hself4⟩, keep _ _ hS3.lots hS.ld, hS.len, fun i q hq => ?_, ?_, keep _ _ hS3.log (Ne.symm hS.dg), hS.nd, hS.ld, hS.lg, hS.dg⟩
      · obtain ⟨dw, hw⟩ := hS3.lot i q hq
        exact ⟨dw, keep _ _ hw (ne_of hw hS3.dt (by intro z; cases z))⟩
      · show upd H3 d _ d = some (.lst ((s.downtime ++ [n]).map nV))
        rw [upd_same, List.map_append]
        rfl
    refine s_retL (el_lst (ea_cons (ev_is (w := nV (s.downtime.length + 1)) (ev_len (ev_fld (ev_var rfl) hself4 T.clS T.nS_downtime sF_downtime) (sq_of hS4.dt)) (vint (by simp))) ea_nil) (by show 1 ≤ 100000; decide)) fun q H5 hq e5 h5 => ?_
    have hq3 : H3 q = none := by
      by_cases z : q = d
      · rw [z, upd_same] at hq
        cases hq
      · rw [upd_ne z] at hq
        exact hq
    exact D.ret _ _ hst q H5 as (fresh_back e12 (fresh_back e3 hq3)) (fun b o q hb => e5 _ _ (keep b o (e3 _ _ (e12 _ _ q)) fun z => hb (by rw [z]; simp))) (fun q hq => .inl hq) (hS4.ex e5) h5
/-! ### remove_downtime -/
theorem step_remDown (s : Scheduler) (t : Nat) : Kp413.step (some s) (.removeDowntime t) = if s.downtime.contains t = false ∨ t < s.now then (some s, Kp413.single (-2)) else (some { s with downtime := s.downtime.filter fun x => x != t }, Kp413.single (s.downtime.length - 1 : Nat)) := rfl
theorem scRemDown : FnScope ["scheduler", "hour"] ["scheduler", "hour"] (defScope (top 40)) := ⟨rfl, rfl, rfl, by decide +kernel, rfl, by decide +kernel, by decide +kernel⟩
/-- the place of a number in a list that bears no number twice -/
theorem place_of : ∀ (l : List Nat) (t : Nat), l.Nodup → t ∈ l → ∃ j, l[j]? = some t ∧ (∀ m, m < j → l[m]? ≠ some t) ∧ l.eraseIdx j = l.filter (fun x => x != t)
  | [], t, _, h => by cases h
  | a :: r, t, hn, h => by
    obtain ⟨ha, hr⟩ := List.nodup_cons.mp hn
    by_cases e : a = t
    · subst e
      refine ⟨0, rfl, fun m hm => absurd hm (Nat.not_lt_zero _), ?_⟩
      have : r.filter (fun x => x != a) = r := List.filter_eq_self.mpr fun x hx => by
        have : x ≠ a := fun z => ha (z ▸ hx)
        simpa using this
      simp [this]
    · have ht : t ∈ r := by
        rcases List.mem_cons.mp h with z | z
        · exact absurd z.symm e
        · exact z
      obtain ⟨j, h1, h2, h3⟩ := place_of r t hr ht
      refine ⟨j + 1, by simpa using h1, fun m hm => ?_, ?_⟩
      · cases m with
        | zero =>
          intro z
          exact e (Option.some.inj (by simpa using z))
        | succ m => simpa using h2 m (by omega)
      · simp [h3, e]
theorem erase_map {α β : Type} (f : α → β) : ∀ (l : List α) (j : Nat), (l.map f).eraseIdx j = (l.eraseIdx j).map f
  | [], j => by simp
  | a :: r, 0 => by simp
  | a :: r, j + 1 => by
    have ih := erase_map f r j
    simp [ih]
theorem ok_remDown (T : Txt K mg CL CS CR fR) : Def P w K mg base (L2.CX P w) 2 "remove_downtime" ["scheduler", "hour"] (spOp1 CL CS CR .removeDowntime) := by
  refine def_ofX T.h_remove_downtime scRemDown (fun vs H Q E h => ?_) (fun f cdv A outer s0 H vs Q E hr h => ?_)
  · obtain ⟨a, l, d, g, as, s, n, rfl, _⟩ := h
    rfl
  · obtain ⟨a, l, d, g, as, s, n, rfl, hS, hG, D⟩ := h
    obtain ⟨dx, hself⟩ := hS.self
    have hst := step_remDown s n
    refine ⟨_, pss_cons (ps_expr (pe_callD (ok_req T) hr (by rfl) (passes_call (E := E) (takes_of rfl rfl rfl rfl) (fun _ _ _ _ h => h)) (pa_cons (pe_and (pe_cmpR op_le (pe_fld (pv 0) rfl) (pv 1) (nomark _)) (pe_one (pe_cmpR op_in_seq (pv 1) (pe_fld (pv 0) rfl) (by rfl)))) (pa_cons (pe_kon T.k_MISSING (by rfl)) pa_nil))))
      (pss_cons (ps_expr (pe_bm PySem.F.plainAttrs_list PySem.F.slot_list_remove PySem.F.type_list_remove mt_remove (pe_fld (pv 0) rfl) (pa_cons (pv 1) pa_nil)))
      (pss_one (ps_ret (pe_lst (pa_cons (pe_callB call_len_seq (by rfl) T.n_len PySem.boot_len (pa_cons (pe_fld (pv 0) rfl) pa_nil)) pa_nil))))), ?_⟩
    refine q_req (b := decide (s.now ≤ n) && s.downtime.contains n) (ev_is (ev_andV (ev_op (ev_fld (ev_var rfl) hself T.clS T.nS_now sF_now) (ev_var rfl) rv_I0) fun _ => ev_op (ev_var rfl) (ev_fld (ev_var rfl) hself T.clS T.nS_downtime sF_downtime) (rv_isL (sq_of hS.dt) rfl (flat_nV _))) (by rw [in_nV]; simp)) (fun hb H1 e1 => ?_) (fun hb => D.bad (-2) (by
        rw [hst, if_pos]
        rw [Bool.and_eq_false_iff] at hb
        rcases hb with hb | hb
        · right
          simpa using hb
        · exact .inl hb))
    obtain ⟨hb1, hb2⟩ := Bool.and_eq_true_iff.mp hb
    have hb1' : s.now ≤ n := by simpa using hb1
    rw [if_neg (by rw [hb2]; simp; omega)] at hst
    have hS1 := hS.ex e1
    have hself1 := e1 _ _ hself
    obtain ⟨j, hj1, hj2, hj3⟩ := place_of s.downtime n hG.dn (by simpa using hb2)
    have hdt : H1 d = some (.lst ((s.downtime.map fun (n : Nat) => (n : Int)).map V.int)) := by
      rw [List.map_map]
      exact hS1.dt
    refine ⟨_, rfl, a, CS, dx, _, _, rfl, hself1, T.clS, T.nS_downtime, sF_downtime, Or.inl ⟨rfl, _, sq_of hS1.dt⟩, _, rfl, d, s.downtime.map fun (n : Nat) => (n : Int), (n : Int), j, rfl, rfl, hdt, by rw [List.getElem?_map, hj1]; rfl, fun m hm z => ?_, ?_⟩
    · rw [List.getElem?_map] at z
      cases q : s.downtime[m]? with
      | none => rw [q] at z; cases z
      | some y =>
        rw [q] at z
        have : y = n := by
          have := Option.some.inj z
          exact Int.ofNat.inj this
        rw [this] at q
        exact hj2 m hm q
    · have hnew : (((s.downtime.map fun (n : Nat) => (n : Int)).eraseIdx j).map V.int) = (s.downtime.filter fun x => x != n).map nV := by
        rw [← hj3, erase_map, List.map_map]
        rfl
      rw [hnew]
      have keep : ∀ b o, H1 b = some o → b ≠ d → upd H1 d (.lst ((s.downtime.filter fun x => x != n).map nV)) b = some o := fun b o q hb => by
        rw [upd_ne hb]
        exact q
      have hself4 := keep _ _ hself1 (ne_of hself1 hS1.dt (by intro z; cases z))
      have hS4 : SchedAt CL CS (upd H1 d (.lst ((s.downtime.filter fun x => x != n).map nV))) a l d g as { s with downtime := s.downtime.filter fun x => x != n } := by
        refine ⟨⟨dx, hself4⟩, keep _ _ hS1.lots hS.ld, hS.len, fun i q hq => ?_, upd_same, keep _ _ hS1.log (Ne.symm hS.dg), hS.nd, hS.ld, hS.lg, hS.dg⟩
        obtain ⟨dw, hw⟩ := hS1.lot i q hq
        exact ⟨dw, keep _ _ hw (ne_of hw hS1.dt (by intro z; cases z))⟩
      have hj4 : j < s.downtime.length := (List.getElem?_eq_some_iff.mp hj1).1
      refine s_retL (el_lst (ea_cons (ev_is (w := nV (s.downtime.length - 1)) (ev_len (ev_fld (ev_var rfl) hself4 T.clS T.nS_downtime sF_downtime) (sq_of hS4.dt)) (vint (by
          show (((s.downtime.filter fun x => x != n).map nV).length : Int) = _
          rw [List.length_map, ← hj3, List.length_eraseIdx, if_pos hj4]))) ea_nil) (by show 1 ≤ 100000; decide)) fun q H5 hq e5 h5 => ?_
      have hq3 : H1 q = none := by
        by_cases z : q = d
        · rw [z, upd_same] at hq
          cases hq
        · rw [upd_ne z] at hq
          exact hq
      exact D.ret _ _ hst q H5 as (fresh_back e1 hq3) (fun b o q hb => e5 _ _ (keep b o (e1 _ _ q) fun z => hb (by rw [z]; simp))) (fun q hq => .inl hq) (hS4.ex e5) h5
end
end Mill
end
section
set_option Elab.async false
set_option linter.all false
set_option maxRecDepth 100000
set_option maxHeartbeats 2000000
namespace Mill
open PySem PySem.Spec PyProof.Rows L2 Evl
open Kp413 (Lot Scheduler lotAt remaining nextLot encode)
theorem list_ans (l : List Nat) : ((Kp413.listResult l).num :: (Kp413.listResult l).nums).map V.int = nV l.length :: l.map nV := by
  simp [Kp413.listResult, Kp413.natResult]
theorem bool_ans (b : Bool) : ((Kp413.boolResult b).num :: (Kp413.boolResult b).nums).map V.int = [nV (if b then 1 else 0)] := by
  cases b <;> rfl
section
variable {K : PySem.W.Frag} {σ : L2.St} {H : Hp} {ta tb tj td tn te : TE} {xs ys : List V} {b : Addr} {js : List Job} {dt es : List Nat} {now : Nat} {d : Addr} {E : XK}
theorem el_cat (ha : EvL ta σ H xs) (hb : Ev tb σ H (.ref b)) (hB : H b = some (.lst ys)) (hz : xs.length + ys.length ≤ 100000) : EvL (tOp rCat ta tb) σ H (xs ++ ys) := fun H1 e Q q =>
  ha H1 e _ fun p H2 _ e2 h2 => hb H2 (e.trans e2) _ fun H3 e3 => ⟨p, b, xs, ys, rfl, rfl, e3 _ _ h2, e3 _ _ (e2 _ _ (e _ _ hB)), sz_of hz, fun r hr => q r _ (fresh_back (e2.trans e3) hr) ((e2.trans e3).trans (Ex.new hr)) upd_same⟩
def rInt1 : List V → Hp → VK → Prop := fun xs H Q => (∃ i, xs = [.int i] ∧ Q (.int i) H) ∨ ∃ k, xs = [.bl k] ∧ Q (.int (if k then 1 else 0)) H
theorem call_int {X : Cx} : CallR X (.type "int") rInt1 := call_int1
theorem ev_int {v : Bool} (h : Ev ta σ H (.bl v)) : Ev (tCB rInt1 (tCons ta tNil)) σ H (nV (if v then 1 else 0)) := fun H1 e Q q =>
  h H1 e _ fun H2 e2 => .inr ⟨v, rfl, by
    have := q H2 e2
    cases v <;> exact this⟩
theorem ev_feas (hJ : EvJ tj σ H js) (hd : Ev td σ H (.ref d)) (hn : Ev tn σ H (nV now)) (hD : IntsAt H d dt) (hz : js.length ≤ 100) (hnow : now ≤ 24) : Ev (tCall spFeas [] E (tCons tj (tCons td (tCons tn tNil)))) σ H (.bl (feasM js dt now)) :=
  ev_callJ hJ (ea_cons hd (ea_cons hn ea_nil)) fun p H1 e1 hJ1 H2 e2 Q q E => ⟨p, d, js, dt, now, rfl, hJ1.ex e2, hD.ex (e1.trans e2), hz, hnow, fun H3 e3 => q H3 e3⟩
end
section
variable {P : Program} {w : World} {K : PySem.W.Frag} {mg : Str → Option Value} {base : Heap} {CL CS CR fR : Addr}
/-! ### plan -/
theorem scTold : FnScope ["scheduler", "entries"] ["scheduler"] (defScope (top 41)) := ⟨rfl, rfl, rfl, by decide +kernel, rfl, by decide +kernel, by decide +kernel⟩
theorem ok_told (T : Txt K mg CL CS CR fR) : Def P w K mg base CX0 4 "told_plan" ["scheduler"] (spOp0 CL CS CR .plan) := by
  refine def_of T.h_told_plan scTold (fun vs H Q E h => ?_) (fun f cdv A outer s0 H vs Q E hr h => ?_)
  · obtain ⟨a, l, d, g, as, s, rfl, _⟩ := h
    rfl
  · obtain ⟨a, l, d, g, as, s, rfl, hS, hG, D⟩ := h
    refine ⟨_, pss_cons (ps_set (i := 1) scTold.nd rfl (Or.inl rfl) (pe_methD0 (pv 0) T.clS (ok_plan T) hr pass0))
      (pss_one (ps_ret (pe_op op_cat (pe_lst (pa_cons (pe_callB call_len_seq (by rfl) T.n_len PySem.boot_len (pa_cons (pv 1) pa_nil)) pa_nil)) (pv 1)))), ?_⟩
    have hpl : (planM (jobsOf s) s.downtime s.now).length = 24 - s.now := planM_len _ _ _
    refine q_asgL (el_plan (ev_var rfl) hS hG) fun p H1 hp e1 h1 => ?_
    refine s_retL (el_cat (el_lst (ea_cons (ev_len (ev_var rfl) (sq_of h1)) ea_nil) (by show 1 ≤ 100000; decide)) (ev_var rfl) h1 (by rw [List.length_map, hpl]; show 1 + _ ≤ _; omega)) fun q H2 hq e2 h2 => D.pure (x := Kp413.listResult ((Kp413.plan s).map encode)) hS rfl (fresh_back e1 hq) (e1.trans e2) h2 ?_
    rw [list_ans, plan_eq, List.length_map]
    rfl
/-! ### is_feasible -/
theorem scToldF : FnScope ["scheduler"] ["scheduler"] (defScope (top 42)) := ⟨rfl, rfl, rfl, by decide +kernel, rfl, by decide +kernel, by decide +kernel⟩
theorem ok_toldF (T : Txt K mg CL CS CR fR) : Def P w K mg base CX0 6 "told_feasible" ["scheduler"] (spOp0 CL CS CR .isFeasible) := by
  refine def_of T.h_told_feasible scToldF (fun vs H Q E h => ?_) (fun f cdv A outer s0 H vs Q E hr h => ?_)
  · obtain ⟨a, l, d, g, as, s, rfl, _⟩ := h
    rfl
  · obtain ⟨a, l, d, g, as, s, rfl, hS, hG, D⟩ := h
    obtain ⟨dx, hself⟩ := hS.self
    refine ⟨_, pss_one (ps_ret (pe_lst (pa_cons (pe_callTy call_int (by rfl) T.n_int (by decide +kernel) (pa_cons (pe_callD (ok_feas T) hr (by rfl) pass0 (pa_cons (pe_methD0 (pv 0) T.clS (ok_jobs T) (hr.mono (by decide)) pass0) (pa_cons (pe_fld (pv 0) rfl) (pa_cons (pe_fld (pv 0) rfl) pa_nil)))) pa_nil)) pa_nil))), ?_⟩
    refine s_retL (el_lst (ea_cons (ev_int (ev_feas (ej_jobs (ev_var rfl) hS hG) (ev_fld (ev_var rfl) hself T.clS T.nS_downtime sF_downtime) (ev_fld (ev_var rfl) hself T.clS T.nS_now sF_now) hS.dt (six100 hG) hG.now)) ea_nil) (by show 1 ≤ 100000; decide)) fun q H2 hq e2 h2 => D.pure (x := Kp413.boolResult (Kp413.isFeasible s)) hS rfl hq e2 h2 ?_
    rw [bool_ans, feas_eq]
/-! ### completion_hour -/
theorem step_compl (s : Scheduler) (i : Nat) : Kp413.step (some s) (.completionHour i) = (some s, if Kp413.isLot s i = false then Kp413.single (-2) else match Kp413.completionHour s i with
    | none => Kp413.single (-33)
    | some t => Kp413.single (t : Nat)) := rfl
theorem scComplH : FnScope ["scheduler", "number", "hour"] ["scheduler", "number"] (defScope (top 43)) := ⟨rfl, rfl, rfl, by decide +kernel, rfl, by decide +kernel, by decide +kernel⟩
theorem ok_complH (T : Txt K mg CL CS CR fR) : Def P w K mg base (L2.CX P w) 4 "completion_hour" ["scheduler", "number"] (spOp1 CL CS CR .completionHour) := by
  refine def_ofX T.h_completion_hour scComplH (fun vs H Q E h => ?_) (fun f cdv A outer s0 H vs Q E hr h => ?_)
  · obtain ⟨a, l, d, g, as, s, n, rfl, _⟩ := h
    rfl
  · obtain ⟨a, l, d, g, as, s, n, rfl, hS, hG, D⟩ := h
    obtain ⟨dx, hself⟩ := hS.self
    have hst := step_compl s n
    refine ⟨_, pss_cons (ps_expr (pe_methD (pv 0) T.clS (ok_lotAt T) (hr.mono (by decide)) (passes_call (E := E) (takes_of rfl rfl rfl rfl) (fun _ _ _ _ h => h)) (by exact (pa_cons (pv 1) pa_nil))))
      (pss_cons (ps_set (i := 2) scComplH.nd rfl (Or.inl rfl) (pe_callD (ok_compl T) (hr.mono (by decide)) (by rfl) pass0 (pa_cons (pe_methD0 (pv 0) T.clS (ok_jobs T) (hr.mono (by decide)) pass0) (pa_cons (pe_methD0 (pv 0) T.clS (ok_plan T) hr pass0) (pa_cons (pe_fld (pv 0) rfl) (pa_cons (pv 1) pa_nil))))))
      (pss_cons (ps_expr (pe_callD (ok_req T) (hr.mono (by decide)) (by rfl) (passes_call (E := E) (takes_of rfl rfl rfl rfl) (fun _ _ _ _ h => h)) (pa_cons (pe_cmpR op_notN (pv 2) pe_non (nomark _)) (pa_cons (pe_kon T.k_NONE_SUCH (by rfl)) pa_nil))))
      (pss_one (ps_ret (pe_lst (pa_cons (pv 2) pa_nil)))))), ?_⟩
    refine ⟨_, rfl, a, dx, _, rfl, hself, sF_none (by decide +kernel) (by decide +kernel) (by decide +kernel) (by decide +kernel), _, rfl, a, l, d, g, as, s, n, rfl, hS, fun hn p hp H1 e1 => ?_, fun hn => D.bad (-2) (by rw [hst, if_pos (isLot_false hn)])⟩
    rw [if_neg (isLot_true hn), compl_eq hn] at hst
    have hS1 := hS.ex e1
    have hself1 := e1 _ _ hself
    dsimp only
    refine q_asg (v := oV (completionM (jobsOf s) (planM (jobsOf s) s.downtime s.now) s.now n)) (fun H2 e2 Q q => ?_) fun H2 e2 => ?_
    · refine ej_jobs (ev_var rfl) hS1 hG H2 e2 _ fun p H3 _ e3 hJ => ?_
      refine el_plan (ev_var rfl) hS1 hG H3 (e2.trans e3) _ fun r H4 _ e4 h4 => ?_
      refine ev_fld (ev_var rfl) hself1 T.clS T.nS_now sF_now H4 ((e2.trans e3).trans e4) _ fun H5 e5 => ⟨_, rfl, p, r, jobsOf s, planM (jobsOf s) s.downtime s.now, s.now, n, rfl, (hJ.ex e4).ex e5, e5 _ _ h4, by rw [planM_len]; omega, by rw [jobsOf_length]; exact hn, fun H6 e6 => q H6 (((e3.trans e4).trans e5).trans e6)⟩
    · have e12 := e1.trans e2
      cases hc : completionM (jobsOf s) (planM (jobsOf s) s.downtime s.now) s.now n with
      | none =>
        rw [hc] at hst
        refine q_req (b := false) (ev_is (ev_op (ev_var rfl) ev_c rv_notN) rfl) (fun h => nomatch h) (fun _ => (D.bad (-33) hst).ex e12)
      | some t =>
        rw [hc] at hst
        refine q_req (b := true) (ev_is (ev_op (ev_var rfl) ev_c rv_notN) rfl) (fun _ H3 e3 => ?_) (fun h => nomatch h)
        exact s_retL (el_lst (ea_cons (ev_var rfl) ea_nil) (by show 1 ≤ 100000; decide)) fun q H4 hq e4 h4 => D.pure hS hst (fresh_back e12 (fresh_back e3 hq)) ((e12.trans e3).trans e4) h4 rfl
/-! ### late_lots -/
theorem scLateL : FnScope ["scheduler", "late"] ["scheduler"] (defScope (top 44)) := ⟨rfl, rfl, rfl, by decide +kernel, rfl, by decide +kernel, by decide +kernel⟩
theorem ok_lateL (T : Txt K mg CL CS CR fR) : Def P w K mg base CX0 5 "late_lots" ["scheduler"] (spOp0 CL CS CR .lateLots) := by
  refine def_of T.h_late_lots scLateL (fun vs H Q E h => ?_) (fun f cdv A outer s0 H vs Q E hr h => ?_)
  · obtain ⟨a, l, d, g, as, s, rfl, _⟩ := h
    rfl
  · obtain ⟨a, l, d, g, as, s, rfl, hS, hG, D⟩ := h
    obtain ⟨dx, hself⟩ := hS.self
    refine ⟨_, pss_cons (ps_set (i := 1) scLateL.nd rfl (Or.inl rfl) (pe_callD (ok_late T) hr (by rfl) pass0 (pa_cons (pe_methD0 (pv 0) T.clS (ok_jobs T) (hr.mono (by decide)) pass0) (pa_cons (pe_fld (pv 0) rfl) (pa_cons (pe_fld (pv 0) rfl) pa_nil)))))
      (pss_one (ps_ret (pe_op op_cat (pe_lst (pa_cons (pe_callB call_len_seq (by rfl) T.n_len PySem.boot_len (pa_cons (pv 1) pa_nil)) pa_nil)) (pv 1)))), ?_⟩
    have hll : (lateJobs (jobsOf s) s.downtime s.now).length ≤ 100 := Nat.le_trans (List.length_filter_le _ _) (by rw [List.length_range]; exact six100 hG)
    refine q_asgL (xs := (lateJobs (jobsOf s) s.downtime s.now).map nV) (el_callJ (ej_jobs (ev_var rfl) hS hG) (ea_cons (ev_fld (ev_var rfl) hself T.clS T.nS_downtime sF_downtime) (ea_cons (ev_fld (ev_var rfl) hself T.clS T.nS_now sF_now) ea_nil)) fun p H1 e1 hJ H2 e2 Q q E => ⟨p, d, jobsOf s, s.downtime, s.now, rfl, hJ.ex e2, hS.dt.ex (e1.trans e2), six100 hG, hG.now, fun r H3 hr3 e3 h3 => q r H3 hr3 e3 h3⟩) fun p H1 hp e1 h1 => ?_
    refine s_retL (el_cat (el_lst (ea_cons (ev_len (ev_var rfl) (sq_of h1)) ea_nil) (by show 1 ≤ 100000; decide)) (ev_var rfl) h1 (by rw [List.length_map]; show 1 + _ ≤ _; omega)) fun q H2 hq e2 h2 => D.pure (x := Kp413.listResult ((List.range s.lots.length).filter (Kp413.isLate s))) hS rfl (fresh_back e1 hq) (e1.trans e2) h2 ?_
    rw [list_ans, lateLots_eq, List.length_map]
    rfl
/-! ### overloaded_interval -/
theorem step_over (s : Scheduler) : Kp413.step (some s) .overloadedInterval = (some s, match Kp413.overloadedInterval s with
    | none => Kp413.single (-33)
    | some x => Kp413.natResult x.1 [x.2, Kp413.capacity s x.1 x.2, Kp413.demand s x.1 x.2]) := rfl
theorem scOverI : FnScope ["scheduler", "found"] ["scheduler"] (defScope (top 45)) := ⟨rfl, rfl, rfl, by decide +kernel, rfl, by decide +kernel, by decide +kernel⟩
def rListOf (K : PySem.W.Frag) : List V → Hp → VK → Prop := fun xs H Q => ∃ p ys, xs = [.ref p] ∧ (SqL K H p ys ∨ SqT K H p ys) ∧ ∀ l, H l = none → Q (.ref l) (upd H l (.lst ys))
theorem call_listOf {X : Cx} : CallR X (.type "list") (rListOf X.K) := call_list_of
theorem ok_overI (T : Txt K mg CL CS CR fR) : Def P w K mg base (L2.CX P w) 4 "crowded_interval" ["scheduler"] (spOp0 CL CS CR .overloadedInterval) := by
  refine def_ofX T.h_crowded_interval scOverI (fun vs H Q E h => ?_) (fun f cdv A outer s0 H vs Q E hr h => ?_)
  · obtain ⟨a, l, d, g, as, s, rfl, _⟩ := h
    rfl
  · obtain ⟨a, l, d, g, as, s, rfl, hS, hG, D⟩ := h
    obtain ⟨dx, hself⟩ := hS.self
    have hst := step_over s
    refine ⟨_, pss_cons (ps_set (i := 1) scOverI.nd rfl (Or.inl rfl) (pe_callD (ok_crowd T) hr (by rfl) pass0 (pa_cons (pe_methD0 (pv 0) T.clS (ok_jobs T) (hr.mono (by decide)) pass0) (pa_cons (pe_fld (pv 0) rfl) (pa_cons (pe_fld (pv 0) rfl) pa_nil)))))
      (pss_cons (ps_expr (pe_callD (ok_req T) (hr.mono (by decide)) (by rfl) (passes_call (E := E) (takes_of rfl rfl rfl rfl) (fun _ _ _ _ h => h)) (pa_cons (pe_cmpR op_notN (pv 1) pe_non (nomark _)) (pa_cons (pe_kon T.k_NONE_SUCH (by rfl)) pa_nil))))
      (pss_one (ps_ret (pe_callTy call_listOf (by rfl) T.n_list (by decide +kernel) (pa_cons (pv 1) pa_nil))))), ?_⟩
    refine ej_jobs (ev_var rfl) hS hG H (Ex.refl H) _ fun p H1 hp e1 hJ => ?_
    refine ev_fld (ev_var rfl) (e1 _ _ hself) T.clS T.nS_downtime sF_downtime H1 (Ex.refl _) _ fun H2 e2 => ?_
    refine ev_fld (ev_var rfl) (e2 _ _ (e1 _ _ hself)) T.clS T.nS_now sF_now H2 (Ex.refl _) _ fun H3 e3 => ?_
    have e13 := (e1.trans e2).trans e3
    refine ⟨p, d, jobsOf s, s.downtime, s.now, rfl, (hJ.ex e2).ex e3, hS.dt.ex e13, six100 hG, hG.now, fun f' l' h1 h2 h3 ho hno t H4 ht e4 h4 => ?_, fun hno H4 e4 => ?_⟩
    · have hst2 : Kp413.step (some s) .overloadedInterval = (some s, Kp413.natResult f' [l', capM s.downtime s.now f' l', demM (jobsOf s) s.now f' l']) := by
        rw [step_over, overl_some h1 h2 h3 ho hno, ← cap_eq, ← dem_eq] <;> rfl
      refine q_req (b := true) (ev_is (ev_op (ev_var rfl) ev_c rv_notN) rfl) (fun _ H5 e5 => ?_) (fun h => nomatch h)
      have e15 := (e13.trans e4).trans e5
      refine s_retL (xs := [nV f', nV l', nV (capM s.downtime s.now f' l'), nV (demM (jobsOf s) s.now f' l')]) (el_cb (ea_cons (ev_var rfl) ea_nil) fun H6 e6 Q q => ⟨t, _, rfl, .inr (st_of (e6 _ _ (e5 _ _ h4))), fun r hr => q r _ hr (Ex.new hr) upd_same⟩) fun q H6 hq e6 h6 => D.pure hS hst2 (fresh_back e15 hq) (e15.trans e6) h6 rfl
    · rw [overl_none hno] at hst
      exact q_req (b := false) (ev_is (ev_op (ev_var rfl) ev_c rv_notN) rfl) (fun h => nomatch h) (fun _ => (D.bad (-33) hst).ex (e13.trans e4))
/-! ### interval_load -/
theorem step_load (s : Scheduler) (x y : Nat) : Kp413.step (some s) (.intervalLoad x y) = (some s, if y < x ∨ 24 < y ∨ x < s.now then Kp413.single (-22) else Kp413.natResult (Kp413.capacity s x y) [Kp413.demand s x y]) := rfl
theorem scLoad : FnScope ["scheduler", "first", "last", "room"] ["scheduler", "first", "last"] (defScope (top 46)) := ⟨rfl, rfl, rfl, by decide +kernel, rfl, by decide +kernel, by decide +kernel⟩
theorem ok_load (T : Txt K mg CL CS CR fR) : Def P w K mg base (L2.CX P w) 4 "interval_load" ["scheduler", "first", "last"] (spOp2 CL CS CR .intervalLoad) := by
  refine def_ofX T.h_interval_load scLoad (fun vs H Q E h => ?_) (fun f cdv A outer s0 H vs Q E hr h => ?_)
  · obtain ⟨a, l, d, g, as, s, x, y, rfl, _⟩ := h
    rfl
  · obtain ⟨a, l, d, g, as, s, x, y, rfl, hS, hG, D⟩ := h
    obtain ⟨dx, hself⟩ := hS.self
    have hst := step_load s x y
    refine ⟨_, pss_cons (ps_expr (pe_callD (ok_req T) (hr.mono (by decide)) (by rfl) (passes_call (E := E) (takes_of rfl rfl rfl rfl) (fun _ _ _ _ h => h)) (pa_cons (pe_chain3 op_le op_le op_le (pe_fld (pv 0) rfl) (pv 1) (pv 2) (pe_kon T.k_DAY (by rfl))) (pa_cons (pe_kon T.k_OUT_OF_LIMITS (by rfl)) pa_nil))))
      (pss_cons (ps_set (i := 3) scLoad.nd rfl (Or.inl rfl) (pe_callD (ok_cap T) (hr.mono (by decide)) (by rfl) pass0 (pa_cons (pe_fld (pv 0) rfl) (pa_cons (pe_fld (pv 0) rfl) (pa_cons (pv 1) (pa_cons (pv 2) pa_nil))))))
      (pss_one (ps_ret (pe_lst (pa_cons (pv 3) (pa_cons (pe_callD (ok_dem T) (hr.mono (by decide)) (by rfl) pass0 (pa_cons (pe_methD0 (pv 0) T.clS (ok_jobs T) (hr.mono (by decide)) pass0) (pa_cons (pe_fld (pv 0) rfl) (pa_cons (pv 1) (pa_cons (pv 2) pa_nil))))) pa_nil)))))), ?_⟩
    refine q_req (b := decide (s.now ≤ x ∧ x ≤ y ∧ y ≤ 24)) (ev_is (ev_chain3 (ev_fld (ev_var rfl) hself T.clS T.nS_now sF_now) (ev_var rfl) (ev_var rfl) ev_c rv_I0 rv_I0 rv_I0) (congrArg V.bl (by rw [Bool.eq_iff_iff]; simp; omega))) (fun hb H1 e1 => ?_) (fun hb => D.bad (-22) (by rw [hst, if_pos (by simp at hb; omega)]))
    have hb' : s.now ≤ x ∧ x ≤ y ∧ y ≤ 24 := by simpa using hb
    rw [if_neg (by omega)] at hst
    have hS1 := hS.ex e1
    have hself1 := e1 _ _ hself
    refine q_asg (v := nV (capM s.downtime s.now x y)) (ev_call (ea_cons (ev_fld (ev_var rfl) hself1 T.clS T.nS_downtime sF_downtime) (ea_cons (ev_fld (ev_var rfl) hself1 T.clS T.nS_now sF_now) (ea_cons (ev_var rfl) (ea_cons (ev_var rfl) ea_nil)))) fun H2 e2 Q q E => ⟨d, s.downtime, s.now, x, y, rfl, hS1.dt.ex e2, by omega, by omega, fun H3 e3 => q H3 e3⟩) fun H2 e2 => ?_
    have hS2 := hS1.ex e2
    have hself2 := e2 _ _ hself1
    refine s_retL (el_lst (ea_cons (ev_var rfl) (ea_cons (ev_callJ (z := nV (demM (jobsOf s) s.now x y)) (ej_jobs (ev_var rfl) hS2 hG) (ea_cons (ev_fld (ev_var rfl) hself2 T.clS T.nS_now sF_now) (ea_cons (ev_var rfl) (ea_cons (ev_var rfl) ea_nil))) fun p H3 e3 hJ H4 e4 Q q E => ⟨p, jobsOf s, s.now, x, y, rfl, hJ.ex e4, six100 hG, fun H5 e5 => q H5 e5⟩) ea_nil)) (by show 2 ≤ 100000; decide)) fun q H4 hq e4 h4 => D.pure hS hst (fresh_back (e1.trans e2) hq) ((e1.trans e2).trans e4) h4 ?_
    rw [cap_eq, dem_eq]
    rfl
/-! ### check_plan -/
def spCheck (CL CS CR : Addr) : Sp := fun vs H Q E => ∃ (a l d g e : Addr) (as : List Addr) (s : Scheduler) (es : List Nat), vs = [.ref a, .ref e] ∧ SchedAt CL CS H a l d g as s ∧ Good s ∧ IntsAt H e es ∧ es.length ≤ 1000 ∧ Due CL CS CR a l d g as H s (.checkPlan es) Q E
theorem step_check (s : Scheduler) (es : List Nat) : Kp413.step (some s) (.checkPlan es) = (some s, if es.length = 24 - s.now then Kp413.boolResult (Kp413.meetsDeadlines s (es.map Kp413.decode)) else Kp413.single (-22)) := rfl
theorem scCheck : FnScope ["scheduler", "entries"] ["scheduler", "entries"] (defScope (top 47)) := ⟨rfl, rfl, rfl, by decide +kernel, rfl, by decide +kernel, by decide +kernel⟩
theorem ok_check (T : Txt K mg CL CS CR fR) : Def P w K mg base (L2.CX P w) 4 "check_plan" ["scheduler", "entries"] (spCheck CL CS CR) := by
  refine def_ofX T.h_check_plan scCheck (fun vs H Q E h => ?_) (fun f cdv A outer s0 H vs Q E hr h => ?_)
  · obtain ⟨a, l, d, g, e, as, s, es, rfl, _⟩ := h
    rfl
  · obtain ⟨a, l, d, g, e, as, s, es, rfl, hS, hG, hE, hz, D⟩ := h
    obtain ⟨dx, hself⟩ := hS.self
    have hst := step_check s es
    refine ⟨_, pss_cons (ps_expr (pe_callD (ok_req T) (hr.mono (by decide)) (by rfl) (passes_call (E := E) (takes_of rfl rfl rfl rfl) (fun _ _ _ _ h => h)) (pa_cons (pe_cmpR op_eq (pe_callB call_len_seq (by rfl) T.n_len PySem.boot_len (pa_cons (pv 1) pa_nil)) (pe_op op_sub (pe_kon T.k_DAY (by rfl)) (pe_fld (pv 0) rfl)) (nomark _)) (pa_cons (pe_kon T.k_OUT_OF_LIMITS (by rfl)) pa_nil))))
      (pss_one (ps_ret (pe_lst (pa_cons (pe_callTy call_int (by rfl) T.n_int (by decide +kernel) (pa_cons (pe_callD (ok_meets T) (hr.mono (by decide)) (by rfl) pass0 (pa_cons (pe_methD0 (pv 0) T.clS (ok_jobs T) (hr.mono (by decide)) pass0) (pa_cons (pe_fld (pv 0) rfl) (pa_cons (pe_fld (pv 0) rfl) (pa_cons (pv 1) pa_nil))))) pa_nil)) pa_nil)))), ?_⟩
    have hnow := hG.now
    refine q_req (b := decide (es.length = 24 - s.now)) (ev_is (ev_op (ev_is (w := nV es.length) (ev_len (ev_var rfl) (sq_of hE)) (vint (by rw [List.length_map]))) (ev_is (w := nV (24 - s.now)) (ev_op ev_c (ev_fld (ev_var rfl) hself T.clS T.nS_now sF_now) rv_I0) (vint (by omega))) (rv_eq rfl)) (congrArg V.bl dec_nV)) (fun hb H1 e1 => ?_) (fun hb => D.bad (-22) (by rw [hst, if_neg (by simpa using hb)]))
    rw [if_pos (by simpa using hb)] at hst
    have hS1 := hS.ex e1
    have hself1 := e1 _ _ hself
    refine s_retL (el_lst (ea_cons (ev_int (v := meetsM (jobsOf s) s.downtime s.now es) (ev_callJ (ej_jobs (ev_var rfl) hS1 hG) (ea_cons (ev_fld (ev_var rfl) hself1 T.clS T.nS_downtime sF_downtime) (ea_cons (ev_fld (ev_var rfl) hself1 T.clS T.nS_now sF_now) (ea_cons (ev_var rfl) ea_nil))) fun p H3 e3 hJ H4 e4 Q q E => ⟨p, d, e, jobsOf s, s.downtime, s.now, es, rfl, hJ.ex e4, hS1.dt.ex (e3.trans e4), (hE.ex e1).ex (e3.trans e4), six100 hG, hz, fun H5 e5 => q H5 e5⟩)) ea_nil) (by show 1 ≤ 100000; decide)) fun q H4 hq e4 h4 => D.pure hS hst (fresh_back e1 hq) (e1.trans e4) h4 ?_
    rw [bool_ans, meets_eq]
end
end Mill
end
section
set_option Elab.async false
set_option linter.all false
set_option maxRecDepth 100000
set_option maxHeartbeats 2000000
namespace Mill
open PySem PySem.Spec PyProof.Rows L2 Evl
open Kp413 (Lot Scheduler lotAt remaining nextLot encode)
theorem fresh_fra {CL CS : Addr} {H H' : Hp} {a l d g p : Addr} {as : List Addr} {s : Scheduler} (hF : Fra H H' (a :: l :: d :: g :: as)) (hS : SchedAt CL CS H' a l d g as s) (hp : H' p = none) : H p = none := by
  cases e : H p with
  | none => rfl
  | some o =>
    exfalso
    by_cases hm : p ∈ (a :: l :: d :: g :: as)
    · obtain ⟨dx, h1⟩ := hS.self
      rcases List.mem_cons.mp hm with z | hm
      · rw [z, h1] at hp; cases hp
      rcases List.mem_cons.mp hm with z | hm
      · rw [z, hS.lots] at hp; cases hp
      rcases List.mem_cons.mp hm with z | hm
      · rw [z, hS.dt] at hp; cases hp
      rcases List.mem_cons.mp hm with z | hm
      · rw [z, hS.log] at hp; cases hp
      obtain ⟨i, hi⟩ := List.getElem?_of_mem hm
      obtain ⟨dy, h2⟩ := hS.lot i p hi
      rw [h2] at hp
      cases hp
    · rw [hF p o e hm] at hp
      cases hp
theorem SchedAt.keepOn {CL CS : Addr} {H H' : Hp} {a l d g : Addr} {as : List Addr} {s : Scheduler} (h : SchedAt CL CS H a l d g as s) (k : ∀ b o, H b = some o → b ∈ (a :: l :: d :: g :: as) → H' b = some o) : SchedAt CL CS H' a l d g as s := by
  obtain ⟨⟨dx, h1⟩, h2, h3, h4, h5, h6, h7, h8, h9, h10⟩ := h
  exact ⟨⟨dx, k _ _ h1 (by simp)⟩, k _ _ h2 (by simp), h3, fun i p q => by
    obtain ⟨dy, z⟩ := h4 i p q
    exact ⟨dy, k _ _ z (by simp [List.mem_of_getElem? q])⟩, k _ _ h5 (by simp), k _ _ h6 (by simp), h7, h8, h9, h10⟩
theorem runHour_log (s : Scheduler) : (Kp413.runHour s).log = s.log ++ [nextLot s s.now] := by
  cases e : nextLot s s.now with
  | none => rw [runHour_none e]
  | some i => rw [runHour_some e]
theorem runHour_now (s : Scheduler) : (Kp413.runHour s).now = s.now + 1 := by
  cases e : nextLot s s.now with
  | none => rw [runHour_none e]
  | some i => rw [runHour_some e]
theorem good_runs {s : Scheduler} (G : Good s) : ∀ k, s.now + k ≤ 24 → Good (Kp413.runHours s k) ∧ (Kp413.runHours s k).now = s.now + k
  | 0, _ => ⟨G, rfl⟩
  | k + 1, h => by
    obtain ⟨g1, g2⟩ := good_runs G k (by omega)
    rw [runHours_succ]
    exact ⟨good_run g1 (by omega), by rw [runHour_now, g2]; omega⟩
section
variable {K : PySem.W.Frag} {σ : L2.St} {H : Hp} {tj te : TE} {t : TT} {js : List Job}
theorem ev_feasV {td tn : TE} {x d : Addr} {dt : List Nat} {now : Nat} {E : XK} (hx : Ev tj σ H (.ref x)) (hJ : JobsAt H x js) (hd : Ev td σ H (.ref d)) (hn : Ev tn σ H (nV now)) (hD : IntsAt H d dt) (hz : js.length ≤ 100) (hnow : now ≤ 24) : Ev (tCall spFeas [] E (tCons tj (tCons td (tCons tn tNil)))) σ H (.bl (feasM js dt now)) :=
  ev_call (ea_cons hx (ea_cons hd (ea_cons hn ea_nil))) fun H1 e Q q E => ⟨x, d, js, dt, now, rfl, hJ.ex e, hD.ex e, hz, hnow, fun H2 e2 => q H2 e2⟩
/-- over jobs made on the way -/
theorem el_lcJ {g : TG} {vs : List Nat} (f : Nat → Bool) (v : Nat → V) (hJ : EvJ tj σ H js) (hz : js.length ≤ 40000)
    (hg : ∀ i p H1, Ex H H1 → i < js.length → H1 p = some (.tup (jV (jb js i))) → ∀ Q : L2.St → Hp → Prop, (∀ σ2 H3, Ex H1 H3 → wipe σ2 vs = wipe σ vs → EvT t σ2 H3 (f i) → (f i = true → Ev te σ2 H3 (v i)) → Q σ2 H3) → g (.ref p) (wipe σ vs) H1 Q) :
    EvL (tLc (iList K tj) g t te vs) σ H (given js.length f v) := fun H0 e Q q => hJ H0 e _ fun a H1 ha e1 hA => by
  obtain ⟨ps, hA, hlen, hT⟩ := hA
  have q2 := el_lcW (σ := σ) (H := H1) (g := g) (t := t) (te := te) (vs := vs) f v (wi_list (K := K) (tl := tC (.ref a)) (xs := ps.map V.ref) ev_c (sq_of hA)) (by rw [List.length_map, hlen]; exact hz) (fun i x H2 H3 e2 hi y Q q => by
    obtain ⟨rfl, hx⟩ := y
    obtain ⟨p0, hp0, rfl⟩ := getP hx
    rw [List.length_map, hlen] at hi
    exact hg i p0 _ ((e.trans e1).trans e2) hi (e2 _ _ (hT i p0 hp0)) Q q)
  rw [List.length_map, hlen] at q2
  exact q2 H1 (Ex.refl _) Q fun p H2 hp e2 h2 => q p H2 (fresh_back e1 hp) (e1.trans e2) h2
end
section
variable {P : Program} {w : World} {K : PySem.W.Frag} {mg : Str → Option Value} {base : Heap} {CL CS CR fR : Addr}
/-! ### run_hour -/
theorem step_runH (s : Scheduler) : Kp413.step (some s) .runHour = if 24 ≤ s.now then (some s, Kp413.single (-28)) else (some (Kp413.runHour s), Kp413.single (encode ((Kp413.runHour s).log.getLastD none) : Nat)) := rfl
theorem scRunH : FnScope ["scheduler"] ["scheduler"] (defScope (top 48)) := ⟨rfl, rfl, rfl, by decide +kernel, rfl, by decide +kernel, by decide +kernel⟩
theorem ok_runH (T : Txt K mg CL CS CR fR) : Def P w K mg base (L2.CX P w) 5 "run_hour" ["scheduler"] (spOp0 CL CS CR .runHour) := by
  refine def_ofX T.h_run_hour scRunH (fun vs H Q E h => ?_) (fun f cdv A outer s0 H vs Q E hr h => ?_)
  · obtain ⟨a, l, d, g, as, s, rfl, _⟩ := h
    rfl
  · obtain ⟨a, l, d, g, as, s, rfl, hS, hG, D⟩ := h
    obtain ⟨dx, hself⟩ := hS.self
    have hst := step_runH s
    refine ⟨_, pss_cons (ps_expr (pe_callD (ok_req T) (hr.mono (by decide)) (by rfl) (passes_call (E := E) (takes_of rfl rfl rfl rfl) (fun _ _ _ _ h => h)) (pa_cons (pe_cmpR op_lt (pe_fld (pv 0) rfl) (pe_kon T.k_DAY (by rfl)) (nomark _)) (pa_cons (pe_kon T.k_TOO_MANY (by rfl)) pa_nil))))
      (pss_one (ps_ret (pe_lst (pa_cons (pe_methD0 (pv 0) T.clS (ok_run T) hr pass0) pa_nil)))), ?_⟩
    refine q_req (b := decide (s.now < 24)) (ev_is (ev_op (ev_fld (ev_var rfl) hself T.clS T.nS_now sF_now) ev_c rv_I0) (congrArg V.bl (by rw [decide_eq_decide]; omega))) (fun hb H1 e1 => ?_) (fun hb => D.bad (-28) (by rw [hst, if_pos (by simpa using hb)]))
    have hb' : s.now < 24 := by simpa using hb
    rw [if_neg (by omega)] at hst
    have hS1 := hS.ex e1
    refine ⟨_, rfl, a, dx, _, rfl, e1 _ _ hself, sF_none (by decide +kernel) (by decide +kernel) (by decide +kernel) (by decide +kernel), a, l, d, g, as, s, rfl, hS1, hG, hb', fun H2 hF hS2 => ⟨by show 1 ≤ sizeLine; decide, fun p hp => ?_⟩⟩
    refine D.ret _ _ hst p _ as (fresh_back e1 (fresh_fra hF hS2 hp)) (fun b o q hb => Ex.new hp _ _ (hF b o (e1 _ _ q) hb)) (fun q hq => .inl hq) (hS2.ex (Ex.new hp)) ?_
    rw [upd_same, runHour_log]
    simp [Kp413.single, List.getLastD_eq_getLast?]
/-! ### run_hours -/
theorem step_runHs (s : Scheduler) (n : Nat) : Kp413.step (some s) (.runHours n) = if n < 1 ∨ 24 < s.now + n then (some s, Kp413.single (-22)) else (some (Kp413.runHours s n), Kp413.listResult (((Kp413.runHours s n).log.drop s.log.length).map encode)) := rfl
theorem scRunHs : FnScope ["scheduler", "many", "entries", "turn"] ["scheduler", "many"] (defScope (top 49)) := ⟨rfl, rfl, rfl, by decide +kernel, rfl, by decide +kernel, by decide +kernel⟩
theorem ok_runHs (T : Txt K mg CL CS CR fR) : Def P w K mg base (L2.CX P w) 5 "run_hours" ["scheduler", "many"] (spOp1 CL CS CR .runHours) := by
  refine def_ofX T.h_run_hours scRunHs (fun vs H Q E h => ?_) (fun f cdv A outer s0 H vs Q E hr h => ?_)
  · obtain ⟨a, l, d, g, as, s, n, rfl, _⟩ := h
    rfl
  · obtain ⟨a, l, d, g, as, s, n, rfl, hS, hG, D⟩ := h
    obtain ⟨dx, hself⟩ := hS.self
    have hst := step_runHs s n
    refine ⟨_, pss_cons (ps_expr (pe_callD (ok_req T) (hr.mono (by decide)) (by rfl) (passes_call (E := E) (takes_of rfl rfl rfl rfl) (fun _ _ _ _ h => h)) (pa_cons (pe_and (pe_cmpR op_gt (pv 1) pe_int (nomark _)) (pe_one (pe_cmpR op_le (pe_op op_add (pe_fld (pv 0) rfl) (pv 1)) (pe_kon T.k_DAY (by rfl)) (nomark _)))) (pa_cons (pe_kon T.k_OUT_OF_LIMITS (by rfl)) pa_nil))))
      (pss_cons (ps_set (i := 2) scRunHs.nd rfl (Or.inl rfl) (pe_lst pa_nil))
      (pss_cons (ps_for (passes_of rfl) rfl (pi_range1 (by rfl) T.n_range (pa_cons (pv 1) pa_nil)) (pg_name (i := 3) scRunHs.nd rfl (.inl rfl))
        (pss_one (ps_expr (pe_bm PySem.F.plainAttrs_list PySem.F.slot_list_append PySem.F.type_list_append mt_append (pv 2) (pa_cons (pe_methD0 (pv 0) T.clS (ok_run T) hr pass0) pa_nil)))))
      (pss_one (ps_ret (pe_op op_cat (pe_lst (pa_cons (pv 1) pa_nil)) (pv 2)))))), ?_⟩
    refine q_req (b := decide (0 < n) && decide (s.now + n ≤ 24)) (ev_is (ev_andV (ev_op (ev_var rfl) ev_c rv_I0) fun _ => ev_op (ev_op (ev_fld (ev_var rfl) hself T.clS T.nS_now sF_now) (ev_var rfl) rv_I0) ev_c rv_I0) (congrArg V.bl (by rw [Bool.eq_iff_iff]; simp; omega))) (fun hb H1 e1 => ?_) (fun hb => D.bad (-22) (by rw [hst, if_pos (by simp at hb; omega)]))
    have hb' : 0 < n ∧ s.now + n ≤ 24 := by simpa using hb
    rw [if_neg (by omega)] at hst
    have hS1 := hS.ex e1
    refine q_asgL (el_lst (vs := []) ea_nil (by decide)) fun e H2 he e2 h2 => ?_
    have hS2 := hS1.ex e2
    have e12 := e1.trans e2
    have hefp : e ∉ (a :: l :: d :: g :: as) := fun hm => by
      have q := fresh_fra (CL := CL) (CS := CS) (fun b o h _ => h) hS1 he
      obtain ⟨dx1, h1⟩ := hS1.self
      rcases List.mem_cons.mp hm with z | hm
      · rw [z, h1] at he; cases he
      rcases List.mem_cons.mp hm with z | hm
      · rw [z, hS1.lots] at he; cases he
      rcases List.mem_cons.mp hm with z | hm
      · rw [z, hS1.dt] at he; cases he
      rcases List.mem_cons.mp hm with z | hm
      · rw [z, hS1.log] at he; cases he
      obtain ⟨i, hi⟩ := List.getElem?_of_mem hm
      obtain ⟨dy, h2⟩ := hS1.lot i e hi
      rw [h2] at he
      cases he
    have he0 : H e = none := fresh_back e1 he
    refine q_forR1 (n := (n : Int)) (ea_cons (ev_var rfl) ea_nil) (by omega)
      (fun i σ' H' => (∃ v3 : Option V, σ' = [some (.ref a), some (nV n), some (.ref e), v3]) ∧ Fra H2 H' (e :: a :: l :: d :: g :: as) ∧ SchedAt CL CS H' a l d g as (Kp413.runHours s i) ∧ IntsAt H' e (((Kp413.runHours s i).log.drop s.log.length).map encode))
      (fun H3 e3 => ⟨⟨none, rfl⟩, Fra.of_ex e3, hS2.ex e3, by
        have : (((Kp413.runHours s 0).log.drop s.log.length).map encode) = [] := by simp [Kp413.runHours]
        rw [this]
        exact e3 _ _ h2⟩) ?_ ?_
    · rintro i σ' H3 hi ⟨⟨v3, rfl⟩, hF3, hS3, hE3⟩
      have hi' : i < n := by omega
      obtain ⟨gi, ni⟩ := good_runs hG i (by omega)
      obtain ⟨ext, hl, _⟩ := (went s i).log
      obtain ⟨dz, hself3⟩ := hS3.self
      have hlen : ((Kp413.runHours s i).log.drop s.log.length).length ≤ 24 := by
        rw [List.length_drop, gi.ln, ni]
        omega
      refine ⟨_, rfl, Or.inl ⟨rfl, _, sq_of hE3⟩, _, rfl, a, dz, _, rfl, hself3, sF_none (by decide +kernel) (by decide +kernel) (by decide +kernel) (by decide +kernel), a, l, d, g, as, Kp413.runHours s i, rfl, hS3, gi, by omega, fun H4 hF4 hS4 => ?_⟩
      have hE4 : H4 e = _ := hF4 _ _ hE3 hefp
      refine ⟨e, _, _, rfl, rfl, hE4, sz_lt (by rw [List.length_map, List.length_map]; omega), ⟨_, rfl⟩, fun b o q hb => ?_, ?_, ?_⟩
      · have hb1 : b ≠ e := fun z => hb (by rw [z]; simp)
        rw [upd_ne hb1]
        exact hF4 _ _ (hF3 _ _ q hb) fun z => hb (List.mem_cons_of_mem _ z)
      · rw [runHours_succ]
        refine hS4.keepOn fun b o q hb => ?_
        rw [upd_ne (fun z => hefp (by rw [← z]; exact hb))]
        exact q
      · rw [runHours_succ, runHour_log, hl, List.append_assoc, List.drop_left, List.drop_left, List.map_append]
        show upd H4 e _ e = some (.lst ((ext.map encode ++ [encode (nextLot (Kp413.runHours s i) (Kp413.runHours s i).now)]).map nV))
        rw [upd_same, List.map_append]
        rfl
    · rintro σ' H3 ⟨⟨v3, rfl⟩, hF3, hS3, hE3⟩
      have hn : ((n : Int)).toNat = n := by omega
      rw [hn] at hS3 hE3
      obtain ⟨gi, ni⟩ := good_runs hG n hb'.2
      have hlen : ((Kp413.runHours s n).log.drop s.log.length).length = n := by
        rw [List.length_drop, gi.ln, ni, hG.ln]
        omega
      refine s_retL (el_cat (el_lst (ea_cons (ev_var rfl) ea_nil) (by show 1 ≤ 100000; decide)) (ev_var rfl) hE3 (by rw [List.length_map, List.length_map, hlen]; show 1 + _ ≤ _; omega)) fun q H4 hq e4 h4 => ?_
      have hq0 : H q = none := by
        cases z : H q with
        | none => rfl
        | some o =>
          exfalso
          have z2 := e12 _ _ z
          by_cases hm : q ∈ (e :: a :: l :: d :: g :: as)
          · rcases List.mem_cons.mp hm with z3 | hm
            · rw [z3, he0] at z; cases z
            · have hfr := fresh_fra (H := H) (H' := H3) (p := q) (fun b o h hb => by
                by_cases hbe : b = e
                · rw [hbe, he0] at h; cases h
                · exact hF3 _ _ (e12 _ _ h) fun z => by
                    rcases List.mem_cons.mp z with z | z
                    · exact hbe z
                    · exact hb z) hS3 hq
              rw [hfr] at z
              cases z
          · rw [hF3 _ _ z2 hm] at hq
            cases hq
      refine D.ret _ _ hst q H4 as hq0 (fun b o h hb => e4 _ _ ?_) (fun q hq => .inl hq) (hS3.ex e4) ?_
      · by_cases hbe : b = e
        · rw [hbe, he0] at h; cases h
        · exact hF3 _ _ (e12 _ _ h) fun z => by
            rcases List.mem_cons.mp z with z | z
            · exact hbe z
            · exact hb z
      · rw [list_ans, List.length_map, hlen]
        exact h4
/-! ### slack -/
theorem step_slack (s : Scheduler) (i : Nat) : Kp413.step (some s) (.slack i) = (some s, if Kp413.isLot s i = false then Kp413.single (-2) else if Kp413.isFeasible s = true then Kp413.single (Kp413.slackOf s i : Nat) else Kp413.single (-33)) := rfl
theorem scSlack : FnScope ["scheduler", "number", "jobs", "found", "extra"] ["scheduler", "number"] (defScope (top 50)) := ⟨rfl, rfl, rfl, by decide +kernel, rfl, by decide +kernel, by decide +kernel⟩
theorem longerM_length (js : List Job) (n x : Nat) : (longerM js n x).length = js.length := by simp [longerM]
theorem ok_slack (T : Txt K mg CL CS CR fR) : Def P w K mg base (L2.CX P w) 6 "slack" ["scheduler", "number"] (spOp1 CL CS CR .slack) := by
  refine def_ofX T.h_slack scSlack (fun vs H Q E h => ?_) (fun f cdv A outer s0 H vs Q E hr h => ?_)
  · obtain ⟨a, l, d, g, as, s, n, rfl, _⟩ := h
    rfl
  · obtain ⟨a, l, d, g, as, s, n, rfl, hS, hG, D⟩ := h
    obtain ⟨dx, hself⟩ := hS.self
    have hst := step_slack s n
    refine ⟨_, pss_cons (ps_expr (pe_methD (pv 0) T.clS (ok_lotAt T) (hr.mono (by decide)) (passes_call (E := E) (takes_of rfl rfl rfl rfl) (fun _ _ _ _ h => h)) (by exact (pa_cons (pv 1) pa_nil))))
      (pss_cons (ps_set (i := 2) scSlack.nd rfl (Or.inl rfl) (pe_methD0 (pv 0) T.clS (ok_jobs T) (hr.mono (by decide)) pass0))
      (pss_cons (ps_expr (pe_callD (ok_req T) (hr.mono (by decide)) (by rfl) (passes_call (E := E) (takes_of rfl rfl rfl rfl) (fun _ _ _ _ h => h)) (pa_cons (pe_callD (ok_feas T) hr (by rfl) pass0 (pa_cons (pv 2) (pa_cons (pe_fld (pv 0) rfl) (pa_cons (pe_fld (pv 0) rfl) pa_nil)))) (pa_cons (pe_kon T.k_NONE_SUCH (by rfl)) pa_nil))))
      (pss_cons (ps_set (i := 3) scSlack.nd rfl (Or.inl rfl) pe_int)
      (pss_cons (ps_for (passes_of rfl) rfl (pi_range2 (by rfl) T.n_range (pa_cons pe_int (pa_cons (pe_op op_add (pe_kon T.k_MOST_HOURS (by rfl)) pe_int) pa_nil))) (pg_name (i := 4) scSlack.nd rfl (.inl rfl))
        (pss_one (ps_if (pt_val (pe_callD (ok_feas T) hr (by rfl) pass0 (pa_cons (pe_callD (ok_longer T) (hr.mono (by decide)) (by rfl) pass0 (pa_cons (pv 2) (pa_cons (pv 1) (pa_cons (pv 4) pa_nil)))) (pa_cons (pe_fld (pv 0) rfl) (pa_cons (pe_fld (pv 0) rfl) pa_nil)))))
          (pss_one (ps_set (i := 3) scSlack.nd rfl (Or.inl rfl) (pv 4))) pss_nil)))
      (pss_one (ps_ret (pe_lst (pa_cons (pv 3) pa_nil)))))))), ?_⟩
    refine ⟨_, rfl, a, dx, _, rfl, hself, sF_none (by decide +kernel) (by decide +kernel) (by decide +kernel) (by decide +kernel), _, rfl, a, l, d, g, as, s, n, rfl, hS, fun hn p hp H1 e1 => ?_, fun hn => D.bad (-2) (by rw [hst, if_pos (isLot_false hn)])⟩
    rw [if_neg (isLot_true hn), slack_eq hn (hG.dh n hn), feas_eq] at hst
    have hS1 := hS.ex e1
    have hself1 := e1 _ _ hself
    refine ej_jobs (ev_var rfl) hS1 hG H1 (Ex.refl _) _ fun x H2 hx e2 hJ => ?_
    have hS2 := hS1.ex e2
    have hself2 := e2 _ _ hself1
    have e12 := e1.trans e2
    have hlen := six100 hG
    have hn' : n < (jobsOf s).length := by rw [jobsOf_length]; exact hn
    refine q_req (b := feasM (jobsOf s) s.downtime s.now) (ev_feasV (ev_var rfl) hJ (ev_fld (ev_var rfl) hself2 T.clS T.nS_downtime sF_downtime) (ev_fld (ev_var rfl) hself2 T.clS T.nS_now sF_now) hS2.dt hlen hG.now) (fun hb H3 e3 => ?_) (fun hb => (D.bad (-33) (by rw [hst, if_neg (by rw [hb]; decide)])).ex e12)
    rw [if_pos hb] at hst
    refine q_asg (v := nV 0) ev_c fun H4 e4 => ?_
    have e24 := e3.trans e4
    refine q_forR2 (lo := 1) (n := 13) (ea_cons ev_c (ea_cons (ev_is (ev_op ev_c ev_c rv_I0) rfl) ea_nil)) (by omega)
      (fun i σ' H' => (∃ v4 : Option V, σ' = [some (.ref a), some (nV n), some (.ref x), some (nV (slackM (jobsOf s) s.downtime s.now n i)), v4]) ∧ Ex H2 H')
      (fun H5 e5 => ⟨⟨none, rfl⟩, e24.trans e5⟩) ?_ ?_
    · rintro i σ' H5 hi ⟨⟨v4, rfl⟩, e5⟩
      have hc : V.int ((1 : Int) + (i : Int)) = nV (i + 1) := vint (by omega)
      rw [hc]
      have hS5 := hS2.ex e5
      have hself5 := e5 _ _ hself2
      have hsl : slackM (jobsOf s) s.downtime s.now n (i + 1) = if feasM (longerM (jobsOf s) n (i + 1)) s.downtime s.now = true then i + 1 else slackM (jobsOf s) s.downtime s.now n i := rfl
      refine s_when (b := feasM (longerM (jobsOf s) n (i + 1)) s.downtime s.now) (et_B (ev_feas (ej_call (ea_cons (ev_var rfl) (ea_cons (ev_var rfl) (ea_cons (ev_var rfl) ea_nil))) fun H6 e6 Q q E => ⟨x, jobsOf s, n, i + 1, rfl, (hJ.ex e5).ex e6, hlen, hn', fun p H7 hp e7 h7 => q p H7 hp e7 h7⟩) (ev_fld (ev_var rfl) hself5 T.clS T.nS_downtime sF_downtime) (ev_fld (ev_var rfl) hself5 T.clS T.nS_now sF_now) hS5.dt (by rw [longerM_length]; exact hlen) hG.now)) (fun hb H6 e6 => ?_) (fun hb H6 e6 => ?_)
      · rw [if_pos hb] at hsl
        rw [hsl]
        exact s_asg (ev_var rfl) fun H7 e7 => ⟨⟨_, rfl⟩, (e5.trans e6).trans e7⟩
      · rw [if_neg (by rw [hb]; decide)] at hsl
        rw [hsl]
        exact ⟨⟨_, rfl⟩, e5.trans e6⟩
    · rintro σ' H5 ⟨⟨v4, rfl⟩, e5⟩
      exact s_retL (el_lst (ea_cons (ev_var rfl) ea_nil) (by show 1 ≤ 100000; decide)) fun q H6 hq e6 h6 => D.pure hS hst (fresh_back (e12.trans e5) hq) ((e12.trans e5).trans e6) h6 rfl
/-! ### is_feasible_with -/
theorem step_with (s : Scheduler) (r dl h : Nat) : Kp413.step (some s) (.isFeasibleWith r dl h) = (some s, if Kp413.validLot s r dl h = true then Kp413.boolResult (Kp413.isFeasible (Kp413.withLot s r dl h)) else Kp413.single (-22)) := rfl
theorem scWith : FnScope ["scheduler", "release", "deadline", "hours", "jobs"] ["scheduler", "release", "deadline", "hours"] (defScope (top 51)) := ⟨rfl, rfl, rfl, by decide +kernel, rfl, by decide +kernel, by decide +kernel⟩
theorem ok_with (T : Txt K mg CL CS CR fR) : Def P w K mg base (L2.CX P w) 6 "is_feasible_with" ["scheduler", "release", "deadline", "hours"] (spOp3 CL CS CR .isFeasibleWith) := by
  refine def_ofX T.h_is_feasible_with scWith (fun vs H Q E h => ?_) (fun f cdv A outer s0 H vs Q E hr h => ?_)
  · obtain ⟨a, l, d, g, as, s, r, dl, h, rfl, _⟩ := h
    rfl
  · obtain ⟨a, l, d, g, as, s, r, dl, h, rfl, hS, hG, D⟩ := h
    obtain ⟨dx, hself⟩ := hS.self
    have hst := step_with s r dl h
    refine ⟨_, pss_cons (ps_expr (pe_callD (ok_reqLot T) (hr.mono (by decide)) (by rfl) (passes_call (E := E) (takes_of rfl rfl rfl rfl) (fun _ _ _ _ h => h)) (pa_cons (pv 0) (pa_cons (pv 1) (pa_cons (pv 2) (pa_cons (pv 3) pa_nil))))))
      (pss_cons (ps_set (i := 4) scWith.nd rfl (Or.inl rfl) (pe_op op_cat (pe_methD0 (pv 0) T.clS (ok_jobs T) (hr.mono (by decide)) pass0) (pe_lst (pa_cons (pe_tup (pa_cons (pv 1) (pa_cons (pv 2) (pa_cons (pv 3) pa_nil)))) pa_nil))))
      (pss_one (ps_ret (pe_lst (pa_cons (pe_callTy call_int (by rfl) T.n_int (by decide +kernel) (pa_cons (pe_callD (ok_feas T) hr (by rfl) pass0 (pa_cons (pv 4) (pa_cons (pe_fld (pv 0) rfl) (pa_cons (pe_fld (pv 0) rfl) pa_nil)))) pa_nil)) pa_nil))))), ?_⟩
    refine ⟨_, rfl, _, rfl, _, rfl, _, rfl, a, l, d, g, as, s, r, dl, h, rfl, hS, fun hv H1 e1 => ?_, fun hv => D.bad (-22) (by rw [hst, if_neg (by rw [hv]; decide)])⟩
    rw [if_pos hv, feas_eq, jobsOf_withLot] at hst
    have hS1 := hS.ex e1
    have hself1 := e1 _ _ hself
    refine ej_jobs (ev_var rfl) hS1 hG H1 (Ex.refl _) _ fun x H2 hx e2 hJ => ?_
    obtain ⟨ps, hA, hlen, hT⟩ := hJ
    refine ⟨_, rfl, _, rfl, _, rfl, by show 3 ≤ sizeLine; decide, fun t ht => ⟨by show 1 ≤ sizeLine; decide, fun u hu => ?_⟩⟩
    have f1 : Ex _ (upd _ t _) := Ex.new (o := .tup [nV r, nV dl, nV h]) ht
    have f2 : Ex _ (upd _ u _) := Ex.new (o := .lst [.ref t]) hu
    have hpl : ps.length ≤ 6 := by rw [hlen, jobsOf_length]; exact hG.six
    refine ⟨x, u, ps.map V.ref, [.ref t], rfl, rfl, f2 _ _ (f1 _ _ hA), upd_same, sz_of (by rw [List.length_map]; show _ + 1 ≤ _; omega), fun y hy => ?_⟩
    have f3 : Ex _ (upd _ y _) := Ex.new (o := .lst (ps.map V.ref ++ [.ref t])) hy
    have e15 := (((e1.trans e2).trans f1).trans f2).trans f3
    have e25 := (f1.trans f2).trans f3
    have hS5 := hS.ex e15
    have hself5 := e15 _ _ hself
    have hJ5 : JobsAt (upd (upd (upd H2 t (.tup [nV r, nV dl, nV h])) u (.lst [.ref t])) y (.lst (ps.map V.ref ++ [.ref t]))) y (jobsOf s ++ [⟨r, dl, h⟩]) := ⟨ps ++ [t], by rw [List.map_append]; exact upd_same, by simp [hlen], fun i p hp => by
      by_cases hi : i < ps.length
      · rw [List.getElem?_append_left hi] at hp
        have : jb (jobsOf s ++ [⟨r, dl, h⟩]) i = jb (jobsOf s) i := by
          unfold jb
          rw [hlen] at hi
          simp [List.getD_eq_getElem?_getD, List.getElem?_append_left hi]
        rw [this]
        exact e25 _ _ (hT i p hp)
      · have hi2 : i = ps.length := by
          have := (List.getElem?_eq_some_iff.mp hp).1
          rw [List.length_append] at this
          simp at this
          omega
        subst hi2
        simp at hp
        subst hp
        have : jb (jobsOf s ++ [⟨r, dl, h⟩]) ps.length = ⟨r, dl, h⟩ := by
          unfold jb
          rw [hlen]
          simp [List.getD_eq_getElem?_getD]
        rw [this]
        exact f3 _ _ (f2 _ _ upd_same)⟩
    refine s_retL (el_lst (ea_cons (ev_int (ev_feasV (ev_var rfl) hJ5 (ev_fld (ev_var rfl) hself5 T.clS T.nS_downtime sF_downtime) (ev_fld (ev_var rfl) hself5 T.clS T.nS_now sF_now) hS5.dt (by rw [List.length_append, ← hlen]; show _ + 1 ≤ _; omega) hG.now)) ea_nil) (by show 1 ≤ 100000; decide)) fun q H6 hq e6 h6 => D.pure hS hst (fresh_back e15 hq) (e15.trans e6) h6 ?_
    rw [bool_ans]
    rfl
/-! ### idle_hours, changeovers, get_log, status -/
abbrev nIdle : List Str := ["scheduler", "entry"]
theorem scIdle : FnScope nIdle ["scheduler"] (defScope (top 52)) := ⟨rfl, rfl, rfl, by decide +kernel, rfl, by decide +kernel, by decide +kernel⟩
theorem ok_idle (T : Txt K mg CL CS CR fR) : Def P w K mg base CX0 4 "idle_hours" ["scheduler"] (spOp0 CL CS CR .idleHours) := by
  refine def_of T.h_idle_hours scIdle (fun vs H Q E h => ?_) (fun f cdv A outer s0 H vs Q E hr h => ?_)
  · obtain ⟨a, l, d, g, as, s, rfl, _⟩ := h
    rfl
  · obtain ⟨a, l, d, g, as, s, rfl, hS, hG, D⟩ := h
    refine ⟨_, pss_one (ps_ret (pe_lst (pa_cons (pe_callB call_len_seq (by rfl) T.n_len PySem.boot_len (pa_cons (pe_lc (own := [("entry", 1)]) (g := gName 1) rfl scIdle.nd (pi_list (pe_methD0 (pv 0) T.clS (ok_plan T) hr pass0)) (blkOk_by (N := nIdle) (sc := defScope (top 52)) (by decide +kernel))
          (fun _ _ _ _ _ => pg_name (i := 1) scIdle.nd rfl (.inl rfl)) (fun _ _ _ _ _ => pts_one (pt_cmpR op_eq (pv 1) pe_int (nomark _))) (fun _ _ _ _ _ => pv 1)) pa_nil)) pa_nil))), ?_⟩
    have hpl : (planM (jobsOf s) s.downtime s.now).length = 24 - s.now := planM_len _ _ _
    refine s_retL (el_lst (ea_cons (ev_lenN (el_lcW (fun i => decide ((planM (jobsOf s) s.downtime s.now).getD i 0 = 0)) (fun i => nV ((planM (jobsOf s) s.downtime s.now).getD i 0)) (wi_listN (el_plan (ev_var rfl) hS hG)) (by rw [List.length_map, hpl]; omega) ?_)) ea_nil) (by show 1 ≤ 100000; decide)) fun q H2 hq e2 h2 => D.pure (x := Kp413.single (((Kp413.plan s).filter fun x => x == none).length : Nat)) hS rfl hq e2 h2 ?_
    · rintro i x H1 H2 e hi ⟨rfl, hx⟩ Q q
      obtain ⟨hi', rfl⟩ := getN hx
      exact q _ _ (Ex.refl _) rfl (et_is (et_test (ev_op (ev_var rfl) ev_c (rv_eq rfl))) (dec_nV (b := 0))) fun _ => ev_var rfl
    · rw [List.length_map, given_filter (fun e => decide (e = 0)), List.length_map, idle_eq, plan_eq]
      rfl
theorem scChg : FnScope ["scheduler"] ["scheduler"] (defScope (top 53)) := ⟨rfl, rfl, rfl, by decide +kernel, rfl, by decide +kernel, by decide +kernel⟩
theorem ok_chg (T : Txt K mg CL CS CR fR) : Def P w K mg base CX0 4 "changeovers" ["scheduler"] (spOp0 CL CS CR .changeovers) := by
  refine def_of T.h_changeovers scChg (fun vs H Q E h => ?_) (fun f cdv A outer s0 H vs Q E hr h => ?_)
  · obtain ⟨a, l, d, g, as, s, rfl, _⟩ := h
    rfl
  · obtain ⟨a, l, d, g, as, s, rfl, hS, hG, D⟩ := h
    refine ⟨_, pss_one (ps_ret (pe_lst (pa_cons (pe_callD (ok_changes T) (hr.mono (by decide)) (by rfl) pass0 (pa_cons (pe_methD0 (pv 0) T.clS (ok_plan T) hr pass0) pa_nil)) pa_nil))), ?_⟩
    refine s_retL (el_lst (ea_cons (x := nV (changesM (planM (jobsOf s) s.downtime s.now))) (fun H1 e1 Q q => ?_) ea_nil) (by show 1 ≤ 100000; decide)) fun q H2 hq e2 h2 => D.pure (x := Kp413.single (Kp413.changeoverCount (Kp413.plan s) : Nat)) hS rfl hq e2 h2 ?_
    · refine el_plan (ev_var rfl) hS hG H1 e1 _ fun p H2 hp e2 h2 => ⟨p, planM (jobsOf s) s.downtime s.now, rfl, h2, by rw [planM_len]; omega, fun H3 e3 => q H3 (e2.trans e3)⟩
    · rw [changes_eq, plan_eq]
      rfl
theorem scLog : FnScope ["scheduler"] ["scheduler"] (defScope (top 54)) := ⟨rfl, rfl, rfl, by decide +kernel, rfl, by decide +kernel, by decide +kernel⟩
theorem ok_log (T : Txt K mg CL CS CR fR) : Def P w K mg base CX0 1 "get_log" ["scheduler"] (spOp0 CL CS CR .getLog) := by
  refine def_of T.h_get_log scLog (fun vs H Q E h => ?_) (fun f cdv A outer s0 H vs Q E hr h => ?_)
  · obtain ⟨a, l, d, g, as, s, rfl, _⟩ := h
    rfl
  · obtain ⟨a, l, d, g, as, s, rfl, hS, hG, D⟩ := h
    obtain ⟨dx, hself⟩ := hS.self
    have hnow := hG.now
    refine ⟨_, pss_one (ps_ret (pe_op op_cat (pe_lst (pa_cons (pe_fld (pv 0) rfl) pa_nil)) (pe_fld (pv 0) rfl))), ?_⟩
    refine s_retL (el_cat (el_lst (ea_cons (ev_fld (ev_var rfl) hself T.clS T.nS_now sF_now) ea_nil) (by show 1 ≤ 100000; decide)) (ev_fld (ev_var rfl) hself T.clS T.nS_log sF_log) hS.log (by rw [List.length_map, List.length_map, hG.ln]; show 1 + _ ≤ _; omega)) fun q H2 hq e2 h2 => D.pure (x := Kp413.listResult (s.log.map encode)) hS rfl hq e2 h2 ?_
    rw [list_ans, List.length_map, hG.ln]
    rfl
abbrev nStatus : List Str := ["scheduler", "milled", "left", "lot", "release", "deadline", "remaining"]
theorem scStatus : FnScope nStatus ["scheduler"] (defScope (top 55)) := ⟨rfl, rfl, rfl, by decide +kernel, rfl, by decide +kernel, by decide +kernel⟩
theorem range_lot {α : Type} (f : Lot → α) (s : Scheduler) : (List.range s.lots.length).map (fun i => f (lotAt s i)) = s.lots.map f := by
  apply List.ext_getElem
  · simp
  · intro i h1 h2
    have : i < s.lots.length := by simpa using h1
    simp [lotAt, List.getD_eq_getElem?_getD, this]
theorem ok_status (T : Txt K mg CL CS CR fR) : Def P w K mg base CX0 3 "status" ["scheduler"] (spOp0 CL CS CR .status) := by
  refine def_of T.h_status scStatus (fun vs H Q E h => ?_) (fun f cdv A outer s0 H vs Q E hr h => ?_)
  · obtain ⟨a, l, d, g, as, s, rfl, _⟩ := h
    rfl
  · obtain ⟨a, l, d, g, as, s, rfl, hS, hG, D⟩ := h
    obtain ⟨dx, hself⟩ := hS.self
    refine ⟨_, pss_cons (ps_set (i := 1) scStatus.nd rfl (Or.inl rfl) (pe_callB (cr_sum rfl) (by rfl) T.n_sum (by decide +kernel) (pa_cons (pe_lc (own := [("lot", 3)]) (g := gName 3) (tt := tYes) (te := tFld K (tVar 3) "done") rfl scStatus.nd (pi_list (pe_fld (pv 0) rfl)) (blkOk_by (N := nStatus) (sc := defScope (top 55)) (by decide +kernel))
          (fun _ _ _ _ _ => pg_name (i := 3) scStatus.nd rfl (.inl rfl)) (fun _ _ _ _ _ => pts_nil) (fun _ _ _ _ _ => pe_fld (pv 3) rfl)) pa_nil)))
      (pss_cons (ps_set (i := 2) scStatus.nd rfl (Or.inl rfl) (pe_callB (cr_sum rfl) (by rfl) T.n_sum (by decide +kernel) (pa_cons (pe_lc (own := [("release", 4), ("deadline", 5), ("remaining", 6)]) (g := gTup K 3 (gCons (gName 4) (gCons (gName 5) (gCons (gName 6) gNil)))) (tt := tYes) (te := tVar 6) rfl scStatus.nd (pi_list (pe_methD0 (pv 0) T.clS (ok_jobs T) hr pass0)) (blkOk_by (N := nStatus) (sc := defScope (top 55)) (by decide +kernel))
          (fun _ _ _ _ _ => pg_tup rfl (pgs_cons (pg_name (i := 4) scStatus.nd rfl (.inl rfl)) (pgs_cons (pg_name (i := 5) scStatus.nd rfl (.inl rfl)) (pgs_cons (pg_name (i := 6) scStatus.nd rfl (.inl rfl)) pgs_nil)))) (fun _ _ _ _ _ => pts_nil) (fun _ _ _ _ _ => pv 6)) pa_nil)))
      (pss_one (ps_ret (pe_lst (pa_cons (pe_fld (pv 0) rfl) (pa_cons (pe_callB call_len_seq (by rfl) T.n_len PySem.boot_len (pa_cons (pe_fld (pv 0) rfl) pa_nil)) (pa_cons (pv 1) (pa_cons (pv 2) pa_nil)))))))), ?_⟩
    have hg1 : (s.lots.map Lot.done).map nV = given (as.map V.ref).length (fun _ => true) (fun i => nV (lotAt s i).done) := by
      rw [given_all, List.length_map, hS.len, range_lot (fun x => nV x.done), List.map_map]
      rfl
    have hg2 : ((s.lots.map remaining).map nV) = given (jobsOf s).length (fun _ => true) (fun i => nV (jb (jobsOf s) i).m) := by
      rw [given_all, range_jb (fun j => nV j.m), List.map_map]
      unfold jobsOf
      rw [List.map_map]
      rfl
    refine q_asg (v := nV (s.lots.map Lot.done).sum) (ev_sum ?_) fun H1 e1 => ?_
    · rw [hg1]
      refine el_lcW (fun _ => true) (fun i => nV (lotAt s i).done) (wi_list (ev_fld (ev_var rfl) hself T.clS T.nS_lots sF_lots) (sq_of hS.lots)) (by rw [List.length_map, hS.len]; have := hG.six; omega) ?_
      rintro i x H1 H2 e hi ⟨rfl, hx⟩ Q q
      obtain ⟨p0, hp0, rfl⟩ := getP hx
      obtain ⟨dy, hlot⟩ := (hS.ex e).lot i p0 hp0
      exact q _ _ (Ex.refl _) rfl et_yes fun _ => ev_fld (ev_var rfl) hlot T.clL T.nL_done (lF_done _)
    · have hS1 := hS.ex e1
      have hself1 := e1 _ _ hself
      refine q_asg (v := nV (s.lots.map remaining).sum) (ev_sum ?_) fun H2 e2 => ?_
      · rw [hg2]
        refine el_lcJ (fun _ => true) (fun i => nV (jb (jobsOf s) i).m) (ej_jobs (ev_var rfl) hS1 hG) (by have := six100 hG; omega) ?_
        rintro i p H2 e hi hp Q q
        exact ⟨p, _, rfl, SqT.of hp, rfl, _, _, rfl, _, _, rfl, _, _, rfl, rfl, q _ _ (Ex.refl _) rfl et_yes fun _ => ev_var rfl⟩
      · have hS2 := hS1.ex e2
        have hself2 := e2 _ _ hself1
        refine s_retL (el_lst (ea_cons (ev_fld (ev_var rfl) hself2 T.clS T.nS_now sF_now) (ea_cons (ev_len (ev_fld (ev_var rfl) hself2 T.clS T.nS_lots sF_lots) (sq_of hS2.lots)) (ea_cons (ev_var rfl) (ea_cons (ev_var rfl) ea_nil)))) (by show 4 ≤ 100000; decide)) fun q H3 hq e3 h3 => D.pure (x := Kp413.natResult s.now [s.lots.length, (s.lots.map Lot.done).sum, (s.lots.map remaining).sum]) hS rfl (fresh_back (e1.trans e2) hq) ((e1.trans e2).trans e3) h3 ?_
        rw [List.length_map, hS.len]
        rfl
end
end Mill
end
section
set_option Elab.async false
set_option linter.all false
set_option maxRecDepth 100000
set_option maxHeartbeats 2000000
namespace Mill
open PySem PySem.Spec PyProof.Rows L2 Evl
open Kp413 (Lot Scheduler lotAt remaining nextLot encode)
theorem op_le (c : Kp413.Call) : opOf c ≤ 20 := by cases c <;> simp [opOf]
theorem op_1 {c : Kp413.Call} (h : opOf c = 1) : ∃ r d h, c = .addLot r d h := by cases c <;> first | exact ⟨_, _, _, rfl⟩ | cases h
theorem op_2 {c : Kp413.Call} (h : opOf c = 2) : ∃ n, c = .removeLastLot n := by cases c <;> first | exact ⟨_, rfl⟩ | cases h
theorem op_3 {c : Kp413.Call} (h : opOf c = 3) : ∃ n, c = .getLot n := by cases c <;> first | exact ⟨_, rfl⟩ | cases h
theorem op_4 {c : Kp413.Call} (h : opOf c = 4) : ∃ n, c = .addDowntime n := by cases c <;> first | exact ⟨_, rfl⟩ | cases h
theorem op_5 {c : Kp413.Call} (h : opOf c = 5) : ∃ n, c = .removeDowntime n := by cases c <;> first | exact ⟨_, rfl⟩ | cases h
theorem op_6 {c : Kp413.Call} (h : opOf c = 6) : c = .plan := by cases c <;> first | rfl | cases h
theorem op_7 {c : Kp413.Call} (h : opOf c = 7) : c = .isFeasible := by cases c <;> first | rfl | cases h
theorem op_8 {c : Kp413.Call} (h : opOf c = 8) : ∃ n, c = .completionHour n := by cases c <;> first | exact ⟨_, rfl⟩ | cases h
theorem op_9 {c : Kp413.Call} (h : opOf c = 9) : c = .lateLots := by cases c <;> first | rfl | cases h
theorem op_10 {c : Kp413.Call} (h : opOf c = 10) : c = .overloadedInterval := by cases c <;> first | rfl | cases h
theorem op_11 {c : Kp413.Call} (h : opOf c = 11) : ∃ x y, c = .intervalLoad x y := by cases c <;> first | exact ⟨_, _, rfl⟩ | cases h
theorem op_12 {c : Kp413.Call} (h : opOf c = 12) : ∃ l, c = .checkPlan l := by cases c <;> first | exact ⟨_, rfl⟩ | cases h
theorem op_13 {c : Kp413.Call} (h : opOf c = 13) : c = .runHour := by cases c <;> first | rfl | cases h
theorem op_14 {c : Kp413.Call} (h : opOf c = 14) : ∃ n, c = .runHours n := by cases c <;> first | exact ⟨_, rfl⟩ | cases h
theorem op_15 {c : Kp413.Call} (h : opOf c = 15) : ∃ n, c = .slack n := by cases c <;> first | exact ⟨_, rfl⟩ | cases h
theorem op_16 {c : Kp413.Call} (h : opOf c = 16) : ∃ r d h, c = .isFeasibleWith r d h := by cases c <;> first | exact ⟨_, _, _, rfl⟩ | cases h
theorem op_17 {c : Kp413.Call} (h : opOf c = 17) : c = .idleHours := by cases c <;> first | rfl | cases h
theorem op_18 {c : Kp413.Call} (h : opOf c = 18) : c = .changeovers := by cases c <;> first | rfl | cases h
theorem op_19 {c : Kp413.Call} (h : opOf c = 19) : c = .getLog := by cases c <;> first | rfl | cases h
theorem op_20 {c : Kp413.Call} (h : opOf c = 20) : c = .status := by cases c <;> first | rfl | cases h
theorem Due.ex {CL CS CR a l d g : Addr} {as : List Addr} {H H1 : Hp} {s : Scheduler} {c : Kp413.Call} {Q : VK} {E : XK} (D : Due CL CS CR a l d g as H s c Q E) (e : Ex H H1) : Due CL CS CR a l d g as H1 s c Q E :=
  ⟨fun s' x hst p H' as' hp hF hnew hS h => D.ret s' x hst p H' as' (fresh_back e hp) (fun b o q hb => hF b o (e b o q) hb) (fun q hq => (hnew q hq).imp id (fresh_back e)) hS h, fun n hst => (D.bad n hst).ex e⟩
section
variable {K : PySem.W.Frag} {σ : L2.St} {H : Hp} {ta : TE} {D : Ends} {E : XK} {t : TA} {vs : List V} {sp : Sp}
theorem et_op {i a : Nat} (k : Nat) (h : σ[i]? = some (some (nV a))) : EvT (tTest (tOp rEq (tVar i) (tC (.int k)))) σ H (decide (a = k)) := et_is (et_test (ev_op (ev_var h) ev_c (rv_eq rfl))) dec_nV
theorem et_lt {i a : Nat} (k : Nat) (h : σ[i]? = some (some (nV a))) : EvT (tTest (tOp (rI0 fun i j => .bl (decide (i < j))) (tVar i) (tC (.int k)))) σ H (decide (a < k)) := et_is (et_test (ev_op (ev_var h) ev_c rv_I0)) (by rw [decide_eq_decide]; omega)
theorem s_retD (hA : EvA t σ H vs) (k : ∀ H1, Ex H H1 → sp (vs ++ []) H1 D.rt E) : tRet (tCall sp [] E t) D σ H := hA H (Ex.refl H) _ fun H1 e1 => k H1 e1
theorem ev_ix {n : Addr} {ns : List Nat} (i : Nat) {x : Nat} (h : Ev ta σ H (.ref n)) (hN : IntsAt H n ns) (hx : ns[i]? = some x) : Ev (tOp (rIxL K) ta (tC (.int i))) σ H (nV x) := ev_op h ev_c (rv_ixL (sq_of hN) (atI_nat (by rw [List.getElem?_map, hx]; rfl)))
end
/-- nothing leaves such a def, whatever is wished -/
theorem passE {X : Cx} {E : XK} : Passes CX0 X E := fun _ _ _ _ _ _ _ h => h.elim
/-- a dispatcher's promise: the calls whose number is from lo to hi -/
def spDisp (CL CS CR : Addr) (lo hi : Nat) : Sp := fun vs H Q E => ∃ (a l d g n : Addr) (as : List Addr) (s : Scheduler) (c : Kp413.Call), vs = [.ref a, nV (opOf c), .ref n] ∧ SchedAt CL CS H a l d g as s ∧ Good s ∧ IntsAt H n (argsOf c) ∧ (argsOf c).length ≤ 1000 ∧ lo ≤ opOf c ∧ opOf c ≤ hi ∧ Due CL CS CR a l d g as H s c Q E
section
variable {P : Program} {w : World} {K : PySem.W.Frag} {mg : Str → Option Value} {base : Heap} {CL CS CR fR : Addr}
/-! ### changed -/
theorem scChanged : FnScope ["scheduler", "operation", "n"] ["scheduler", "operation", "n"] (defScope (top 58)) := ⟨rfl, rfl, rfl, by decide +kernel, rfl, by decide +kernel, by decide +kernel⟩
theorem ok_changed (T : Txt K mg CL CS CR fR) : Def P w K mg base (L2.CX P w) 4 "changed" ["scheduler", "operation", "n"] (spDisp CL CS CR 1 5) := by
  refine def_ofX T.h_changed scChanged (fun vs H Q E h => ?_) (fun f cdv A outer s0 H vs Q E hr h => ?_)
  · obtain ⟨a, l, d, g, n, as, s, c, rfl, _⟩ := h
    rfl
  · obtain ⟨a, l, d, g, n, as, s, c, rfl, hS, hG, hN, hz, hlo, hhi, D⟩ := h
    refine ⟨_, pss_cons (ps_if (pt_cmpR op_eq (pv 1) pe_int (nomark _)) (pss_one (ps_ret (pe_callD (ok_addLot T) hr (by rfl) (passes_call (E := E) (takes_of rfl rfl rfl rfl) (fun _ _ _ _ h => h)) (by exact (pa_cons (pv 0) (pa_cons (pe_ix ix_list (pv 2) pe_int (fun _ _ => rfl)) (pa_cons (pe_ix ix_list (pv 2) pe_int (fun _ _ => rfl)) (pa_cons (pe_ix ix_list (pv 2) pe_int (fun _ _ => rfl)) pa_nil)))))))) pss_nil)
      (pss_cons (ps_if (pt_cmpR op_eq (pv 1) pe_int (nomark _)) (pss_one (ps_ret (pe_callD (ok_remove T) hr (by rfl) (passes_call (E := E) (takes_of rfl rfl rfl rfl) (fun _ _ _ _ h => h)) (by exact (pa_cons (pv 0) (pa_cons (pe_ix ix_list (pv 2) pe_int (fun _ _ => rfl)) pa_nil)))))) pss_nil)
      (pss_cons (ps_if (pt_cmpR op_eq (pv 1) pe_int (nomark _)) (pss_one (ps_ret (pe_callD (ok_getLot T) hr (by rfl) (passes_call (E := E) (takes_of rfl rfl rfl rfl) (fun _ _ _ _ h => h)) (by exact (pa_cons (pv 0) (pa_cons (pe_ix ix_list (pv 2) pe_int (fun _ _ => rfl)) pa_nil)))))) pss_nil)
      (pss_cons (ps_if (pt_cmpR op_eq (pv 1) pe_int (nomark _)) (pss_one (ps_ret (pe_callD (ok_addDown T) (hr.mono (by decide)) (by rfl) (passes_call (E := E) (takes_of rfl rfl rfl rfl) (fun _ _ _ _ h => h)) (by exact (pa_cons (pv 0) (pa_cons (pe_ix ix_list (pv 2) pe_int (fun _ _ => rfl)) pa_nil)))))) pss_nil)
      (pss_one (ps_ret (pe_callD (ok_remDown T) (hr.mono (by decide)) (by rfl) (passes_call (E := E) (takes_of rfl rfl rfl rfl) (fun _ _ _ _ h => h)) (by exact (pa_cons (pv 0) (pa_cons (pe_ix ix_list (pv 2) pe_int (fun _ _ => rfl)) pa_nil))))))))), ?_⟩
    refine q_when (et_op 1 rfl) (fun hb H1 e1 => ?_) (fun hb1 H1 e1 => ?_)
    · obtain ⟨r, dl, h, rfl⟩ := op_1 (of_decide_eq_true hb)
      exact s_retD (ea_cons (ev_var rfl) (ea_cons (ev_ix 0 (ev_var rfl) (hN.ex e1) rfl) (ea_cons (ev_ix 1 (ev_var rfl) (hN.ex e1) rfl) (ea_cons (ev_ix 2 (ev_var rfl) (hN.ex e1) rfl) ea_nil)))) fun H2 e2 => ⟨a, l, d, g, as, s, r, dl, h, rfl, (hS.ex e1).ex e2, hG, (D.ex e1).ex e2⟩
    refine q_when (et_op 2 rfl) (fun hb H2 e2 => ?_) (fun hb2 H2 e2 => ?_)
    · obtain ⟨x, rfl⟩ := op_2 (of_decide_eq_true hb)
      exact s_retD (ea_cons (ev_var rfl) (ea_cons (ev_ix 0 (ev_var rfl) ((hN.ex e1).ex e2) rfl) ea_nil)) fun H3 e3 => ⟨a, l, d, g, as, s, x, rfl, ((hS.ex e1).ex e2).ex e3, hG, ((D.ex e1).ex e2).ex e3⟩
    have e12 := e1.trans e2
    refine q_when (et_op 3 rfl) (fun hb H3 e3 => ?_) (fun hb3 H3 e3 => ?_)
    · obtain ⟨x, rfl⟩ := op_3 (of_decide_eq_true hb)
      exact s_retD (ea_cons (ev_var rfl) (ea_cons (ev_ix 0 (ev_var rfl) ((hN.ex e12).ex e3) rfl) ea_nil)) fun H4 e4 => ⟨a, l, d, g, as, s, x, rfl, ((hS.ex e12).ex e3).ex e4, hG, ((D.ex e12).ex e3).ex e4⟩
    have e13 := e12.trans e3
    refine q_when (et_op 4 rfl) (fun hb H4 e4 => ?_) (fun hb4 H4 e4 => ?_)
    · obtain ⟨x, rfl⟩ := op_4 (of_decide_eq_true hb)
      exact s_retD (ea_cons (ev_var rfl) (ea_cons (ev_ix 0 (ev_var rfl) ((hN.ex e13).ex e4) rfl) ea_nil)) fun H5 e5 => ⟨a, l, d, g, as, s, x, rfl, ((hS.ex e13).ex e4).ex e5, hG, ((D.ex e13).ex e4).ex e5⟩
    have e14 := e13.trans e4
    obtain ⟨x, rfl⟩ := op_5 (c := c) (by
      have h1 := of_decide_eq_false hb1
      have h2 := of_decide_eq_false hb2
      have h3 := of_decide_eq_false hb3
      have h4 := of_decide_eq_false hb4
      omega)
    exact s_retD (ea_cons (ev_var rfl) (ea_cons (ev_ix 0 (ev_var rfl) (hN.ex e14) rfl) ea_nil)) fun H5 e5 => ⟨a, l, d, g, as, s, x, rfl, (hS.ex e14).ex e5, hG, (D.ex e14).ex e5⟩
/-! ### told -/
theorem scToldD : FnScope ["scheduler", "operation", "n"] ["scheduler", "operation", "n"] (defScope (top 59)) := ⟨rfl, rfl, rfl, by decide +kernel, rfl, by decide +kernel, by decide +kernel⟩
theorem ok_toldD (T : Txt K mg CL CS CR fR) : Def P w K mg base (L2.CX P w) 7 "told" ["scheduler", "operation", "n"] (spDisp CL CS CR 6 12) := by
  refine def_ofX T.h_told scToldD (fun vs H Q E h => ?_) (fun f cdv A outer s0 H vs Q E hr h => ?_)
  · obtain ⟨a, l, d, g, n, as, s, c, rfl, _⟩ := h
    rfl
  · obtain ⟨a, l, d, g, n, as, s, c, rfl, hS, hG, hN, hz, hlo, hhi, D⟩ := h
    refine ⟨_, pss_cons (ps_if (pt_cmpR op_eq (pv 1) pe_int (nomark _)) (pss_one (ps_ret (pe_callD (ok_told (CR := CR) T) (hr.mono (by decide)) (by rfl) (passE (E := E)) (by exact (pa_cons (pv 0) pa_nil))))) pss_nil)
      (pss_cons (ps_if (pt_cmpR op_eq (pv 1) pe_int (nomark _)) (pss_one (ps_ret (pe_callD (ok_toldF (CR := CR) T) hr (by rfl) (passE (E := E)) (by exact (pa_cons (pv 0) pa_nil))))) pss_nil)
      (pss_cons (ps_if (pt_cmpR op_eq (pv 1) pe_int (nomark _)) (pss_one (ps_ret (pe_callD (ok_complH T) (hr.mono (by decide)) (by rfl) (passes_call (E := E) (takes_of rfl rfl rfl rfl) (fun _ _ _ _ h => h)) (by exact (pa_cons (pv 0) (pa_cons (pe_ix ix_list (pv 2) pe_int (fun _ _ => rfl)) pa_nil)))))) pss_nil)
      (pss_cons (ps_if (pt_cmpR op_eq (pv 1) pe_int (nomark _)) (pss_one (ps_ret (pe_callD (ok_lateL (CR := CR) T) (hr.mono (by decide)) (by rfl) (passE (E := E)) (by exact (pa_cons (pv 0) pa_nil))))) pss_nil)
      (pss_cons (ps_if (pt_cmpR op_eq (pv 1) pe_int (nomark _)) (pss_one (ps_ret (pe_callD (ok_overI T) (hr.mono (by decide)) (by rfl) (passes_call (E := E) (takes_of rfl rfl rfl rfl) (fun _ _ _ _ h => h)) (by exact (pa_cons (pv 0) pa_nil))))) pss_nil)
      (pss_cons (ps_if (pt_cmpR op_eq (pv 1) pe_int (nomark _)) (pss_one (ps_ret (pe_callD (ok_load T) (hr.mono (by decide)) (by rfl) (passes_call (E := E) (takes_of rfl rfl rfl rfl) (fun _ _ _ _ h => h)) (by exact (pa_cons (pv 0) (pa_cons (pe_ix ix_list (pv 2) pe_int (fun _ _ => rfl)) (pa_cons (pe_ix ix_list (pv 2) pe_int (fun _ _ => rfl)) pa_nil))))))) pss_nil)
      (pss_one (ps_ret (pe_callD (ok_check T) (hr.mono (by decide)) (by rfl) (passes_call (E := E) (takes_of rfl rfl rfl rfl) (fun _ _ _ _ h => h)) (by exact (pa_cons (pv 0) (pa_cons (pv 2) pa_nil))))))))))), ?_⟩
    refine q_when (et_op 6 rfl) (fun hb H1 e1 => ?_) (fun hb1 H1 e1 => ?_)
    · obtain rfl := op_6 (of_decide_eq_true hb)
      exact s_retD (ea_cons (ev_var rfl) ea_nil) fun H2 e2 => ⟨a, l, d, g, as, s, rfl, (hS.ex e1).ex e2, hG, ⟨((D.ex e1).ex e2).ret, ((D.ex e1).ex e2).bad⟩⟩
    refine q_when (et_op 7 rfl) (fun hb H2 e2 => ?_) (fun hb2 H2 e2 => ?_)
    · obtain rfl := op_7 (of_decide_eq_true hb)
      exact s_retD (ea_cons (ev_var rfl) ea_nil) fun H3 e3 => ⟨a, l, d, g, as, s, rfl, ((hS.ex e1).ex e2).ex e3, hG, ((D.ex e1).ex e2).ex e3⟩
    have e12 := e1.trans e2
    refine q_when (et_op 8 rfl) (fun hb H3 e3 => ?_) (fun hb3 H3 e3 => ?_)
    · obtain ⟨x, rfl⟩ := op_8 (of_decide_eq_true hb)
      exact s_retD (ea_cons (ev_var rfl) (ea_cons (ev_ix 0 (ev_var rfl) ((hN.ex e12).ex e3) rfl) ea_nil)) fun H4 e4 => ⟨a, l, d, g, as, s, x, rfl, ((hS.ex e12).ex e3).ex e4, hG, ((D.ex e12).ex e3).ex e4⟩
    have e13 := e12.trans e3
    refine q_when (et_op 9 rfl) (fun hb H4 e4 => ?_) (fun hb4 H4 e4 => ?_)
    · obtain rfl := op_9 (of_decide_eq_true hb)
      exact s_retD (ea_cons (ev_var rfl) ea_nil) fun H5 e5 => ⟨a, l, d, g, as, s, rfl, ((hS.ex e13).ex e4).ex e5, hG, ((D.ex e13).ex e4).ex e5⟩
    have e14 := e13.trans e4
    refine q_when (et_op 10 rfl) (fun hb H5 e5 => ?_) (fun hb5 H5 e5 => ?_)
    · obtain rfl := op_10 (of_decide_eq_true hb)
      exact s_retD (ea_cons (ev_var rfl) ea_nil) fun H6 e6 => ⟨a, l, d, g, as, s, rfl, ((hS.ex e14).ex e5).ex e6, hG, ((D.ex e14).ex e5).ex e6⟩
    have e15 := e14.trans e5
    refine q_when (et_op 11 rfl) (fun hb H6 e6 => ?_) (fun hb6 H6 e6 => ?_)
    · obtain ⟨x, y, rfl⟩ := op_11 (of_decide_eq_true hb)
      exact s_retD (ea_cons (ev_var rfl) (ea_cons (ev_ix 0 (ev_var rfl) ((hN.ex e15).ex e6) rfl) (ea_cons (ev_ix 1 (ev_var rfl) ((hN.ex e15).ex e6) rfl) ea_nil))) fun H7 e7 => ⟨a, l, d, g, as, s, x, y, rfl, ((hS.ex e15).ex e6).ex e7, hG, ((D.ex e15).ex e6).ex e7⟩
    have e16 := e15.trans e6
    obtain ⟨es, rfl⟩ := op_12 (c := c) (by
      have h1 := of_decide_eq_false hb1
      have h2 := of_decide_eq_false hb2
      have h3 := of_decide_eq_false hb3
      have h4 := of_decide_eq_false hb4
      have h5 := of_decide_eq_false hb5
      have h6 := of_decide_eq_false hb6
      omega)
    exact s_retD (ea_cons (ev_var rfl) (ea_cons (ev_var rfl) ea_nil)) fun H7 e7 => ⟨a, l, d, g, n, as, s, es, rfl, (hS.ex e16).ex e7, hG, (hN.ex e16).ex e7, hz, (D.ex e16).ex e7⟩
/-! ### run_or_told -/
theorem scRunT : FnScope ["scheduler", "operation", "n"] ["scheduler", "operation", "n"] (defScope (top 60)) := ⟨rfl, rfl, rfl, by decide +kernel, rfl, by decide +kernel, by decide +kernel⟩
theorem ok_runT (T : Txt K mg CL CS CR fR) : Def P w K mg base (L2.CX P w) 7 "run_or_told" ["scheduler", "operation", "n"] (spDisp CL CS CR 13 20) := by
  refine def_ofX T.h_run_or_told scRunT (fun vs H Q E h => ?_) (fun f cdv A outer s0 H vs Q E hr h => ?_)
  · obtain ⟨a, l, d, g, n, as, s, c, rfl, _⟩ := h
    rfl
  · obtain ⟨a, l, d, g, n, as, s, c, rfl, hS, hG, hN, hz, hlo, hhi, D⟩ := h
    refine ⟨_, pss_cons (ps_if (pt_cmpR op_eq (pv 1) pe_int (nomark _)) (pss_one (ps_ret (pe_callD (ok_runH T) (hr.mono (by decide)) (by rfl) (passes_call (E := E) (takes_of rfl rfl rfl rfl) (fun _ _ _ _ h => h)) (by exact (pa_cons (pv 0) pa_nil))))) pss_nil)
      (pss_cons (ps_if (pt_cmpR op_eq (pv 1) pe_int (nomark _)) (pss_one (ps_ret (pe_callD (ok_runHs T) (hr.mono (by decide)) (by rfl) (passes_call (E := E) (takes_of rfl rfl rfl rfl) (fun _ _ _ _ h => h)) (by exact (pa_cons (pv 0) (pa_cons (pe_ix ix_list (pv 2) pe_int (fun _ _ => rfl)) pa_nil)))))) pss_nil)
      (pss_cons (ps_if (pt_cmpR op_eq (pv 1) pe_int (nomark _)) (pss_one (ps_ret (pe_callD (ok_slack T) hr (by rfl) (passes_call (E := E) (takes_of rfl rfl rfl rfl) (fun _ _ _ _ h => h)) (by exact (pa_cons (pv 0) (pa_cons (pe_ix ix_list (pv 2) pe_int (fun _ _ => rfl)) pa_nil)))))) pss_nil)
      (pss_cons (ps_if (pt_cmpR op_eq (pv 1) pe_int (nomark _)) (pss_one (ps_ret (pe_callD (ok_with T) hr (by rfl) (passes_call (E := E) (takes_of rfl rfl rfl rfl) (fun _ _ _ _ h => h)) (by exact (pa_cons (pv 0) (pa_cons (pe_ix ix_list (pv 2) pe_int (fun _ _ => rfl)) (pa_cons (pe_ix ix_list (pv 2) pe_int (fun _ _ => rfl)) (pa_cons (pe_ix ix_list (pv 2) pe_int (fun _ _ => rfl)) pa_nil)))))))) pss_nil)
      (pss_cons (ps_if (pt_cmpR op_eq (pv 1) pe_int (nomark _)) (pss_one (ps_ret (pe_callD (ok_idle (CR := CR) T) (hr.mono (by decide)) (by rfl) (passE (E := E)) (by exact (pa_cons (pv 0) pa_nil))))) pss_nil)
      (pss_cons (ps_if (pt_cmpR op_eq (pv 1) pe_int (nomark _)) (pss_one (ps_ret (pe_callD (ok_chg (CR := CR) T) (hr.mono (by decide)) (by rfl) (passE (E := E)) (by exact (pa_cons (pv 0) pa_nil))))) pss_nil)
      (pss_cons (ps_if (pt_cmpR op_eq (pv 1) pe_int (nomark _)) (pss_one (ps_ret (pe_callD (ok_log (CR := CR) T) (hr.mono (by decide)) (by rfl) (passE (E := E)) (by exact (pa_cons (pv 0) pa_nil))))) pss_nil)
      (pss_one (ps_ret (pe_callD (ok_status (CR := CR) T) (hr.mono (by decide)) (by rfl) (passE (E := E)) (by exact (pa_cons (pv 0) pa_nil))))))))))), ?_⟩
    refine q_when (et_op 13 rfl) (fun hb H1 e1 => ?_) (fun hb1 H1 e1 => ?_)
    · obtain rfl := op_13 (of_decide_eq_true hb)
      exact s_retD (ea_cons (ev_var rfl) ea_nil) fun H2 e2 => ⟨a, l, d, g, as, s, rfl, (hS.ex e1).ex e2, hG, (D.ex e1).ex e2⟩
    refine q_when (et_op 14 rfl) (fun hb H2 e2 => ?_) (fun hb2 H2 e2 => ?_)
    · obtain ⟨x, rfl⟩ := op_14 (of_decide_eq_true hb)
      exact s_retD (ea_cons (ev_var rfl) (ea_cons (ev_ix 0 (ev_var rfl) ((hN.ex e1).ex e2) rfl) ea_nil)) fun H3 e3 => ⟨a, l, d, g, as, s, x, rfl, ((hS.ex e1).ex e2).ex e3, hG, ((D.ex e1).ex e2).ex e3⟩
    have e12 := e1.trans e2
    refine q_when (et_op 15 rfl) (fun hb H3 e3 => ?_) (fun hb3 H3 e3 => ?_)
    · obtain ⟨x, rfl⟩ := op_15 (of_decide_eq_true hb)
      exact s_retD (ea_cons (ev_var rfl) (ea_cons (ev_ix 0 (ev_var rfl) ((hN.ex e12).ex e3) rfl) ea_nil)) fun H4 e4 => ⟨a, l, d, g, as, s, x, rfl, ((hS.ex e12).ex e3).ex e4, hG, ((D.ex e12).ex e3).ex e4⟩
    have e13 := e12.trans e3
    refine q_when (et_op 16 rfl) (fun hb H4 e4 => ?_) (fun hb4 H4 e4 => ?_)
    · obtain ⟨r, dl, h, rfl⟩ := op_16 (of_decide_eq_true hb)
      exact s_retD (ea_cons (ev_var rfl) (ea_cons (ev_ix 0 (ev_var rfl) ((hN.ex e13).ex e4) rfl) (ea_cons (ev_ix 1 (ev_var rfl) ((hN.ex e13).ex e4) rfl) (ea_cons (ev_ix 2 (ev_var rfl) ((hN.ex e13).ex e4) rfl) ea_nil)))) fun H5 e5 => ⟨a, l, d, g, as, s, r, dl, h, rfl, ((hS.ex e13).ex e4).ex e5, hG, ((D.ex e13).ex e4).ex e5⟩
    have e14 := e13.trans e4
    refine q_when (et_op 17 rfl) (fun hb H5 e5 => ?_) (fun hb5 H5 e5 => ?_)
    · obtain rfl := op_17 (of_decide_eq_true hb)
      exact s_retD (ea_cons (ev_var rfl) ea_nil) fun H6 e6 => ⟨a, l, d, g, as, s, rfl, ((hS.ex e14).ex e5).ex e6, hG, ((D.ex e14).ex e5).ex e6⟩
    have e15 := e14.trans e5
    refine q_when (et_op 18 rfl) (fun hb H6 e6 => ?_) (fun hb6 H6 e6 => ?_)
    · obtain rfl := op_18 (of_decide_eq_true hb)
      exact s_retD (ea_cons (ev_var rfl) ea_nil) fun H7 e7 => ⟨a, l, d, g, as, s, rfl, ((hS.ex e15).ex e6).ex e7, hG, ((D.ex e15).ex e6).ex e7⟩
    have e16 := e15.trans e6
    refine q_when (et_op 19 rfl) (fun hb H7 e7 => ?_) (fun hb7 H7 e7 => ?_)
    · obtain rfl := op_19 (of_decide_eq_true hb)
      exact s_retD (ea_cons (ev_var rfl) ea_nil) fun H8 e8 => ⟨a, l, d, g, as, s, rfl, ((hS.ex e16).ex e7).ex e8, hG, ((D.ex e16).ex e7).ex e8⟩
    have e17 := e16.trans e7
    obtain rfl := op_20 (c := c) (by
      have h1 := of_decide_eq_false hb1
      have h2 := of_decide_eq_false hb2
      have h3 := of_decide_eq_false hb3
      have h4 := of_decide_eq_false hb4
      have h5 := of_decide_eq_false hb5
      have h6 := of_decide_eq_false hb6
      have h7 := of_decide_eq_false hb7
      omega)
    exact s_retD (ea_cons (ev_var rfl) ea_nil) fun H8 e8 => ⟨a, l, d, g, as, s, rfl, (hS.ex e17).ex e8, hG, (D.ex e17).ex e8⟩
end
end Mill
end
section
set_option Elab.async false
set_option linter.all false
set_option maxRecDepth 100000
set_option maxHeartbeats 2000000
namespace Mill
open PySem PySem.Spec PyProof.Rows L2 Evl
open Kp413 (Lot Scheduler lotAt remaining nextLot encode)
section
variable {P : Program} {w : World} {K : PySem.W.Frag} {mg : Str → Option Value} {base : Heap} {CL CS CR fR : Addr}
/-! ### performed -/
def spPerf (CL CS CR : Addr) : Sp := fun vs H Q E => (∃ (op : Nat) (n : Addr), vs = [.non, nV op, .ref n] ∧ Bad CR (-11) H E) ∨ spDisp CL CS CR 1 20 vs H Q E
theorem scPerf : FnScope ["scheduler", "operation", "n"] ["scheduler", "operation", "n"] (defScope (top 61)) := ⟨rfl, rfl, rfl, by decide +kernel, rfl, by decide +kernel, by decide +kernel⟩
theorem ok_perf (T : Txt K mg CL CS CR fR) : Def P w K mg base (L2.CX P w) 8 "performed" ["scheduler", "operation", "n"] (spPerf CL CS CR) := by
  refine def_ofX T.h_performed scPerf (fun vs H Q E h => ?_) (fun f cdv A outer s0 H vs Q E hr h => ?_)
  · rcases h with ⟨op, n, rfl, _⟩ | ⟨a, l, d, g, n, as, s, c, rfl, _⟩ <;> rfl
  · refine ⟨_, pss_cons (ps_expr (pe_callD (ok_req T) (hr.mono (by decide)) (by rfl) (passes_call (E := E) (takes_of rfl rfl rfl rfl) (fun _ _ _ _ h => h)) (pa_cons (pe_cmpR op_notN (pv 0) pe_non (nomark _)) (pa_cons (pe_kon T.k_NO_SCHEDULER (by rfl)) pa_nil))))
      (pss_cons (ps_if (pt_cmpR op_lt (pv 1) pe_int (nomark _)) (pss_one (ps_ret (pe_callD (ok_changed T) (hr.mono (by decide)) (by rfl) (passes_call (E := E) (takes_of rfl rfl rfl rfl) (fun _ _ _ _ h => h)) (by exact (pa_cons (pv 0) (pa_cons (pv 1) (pa_cons (pv 2) pa_nil))))))) pss_nil)
      (pss_cons (ps_if (pt_cmpR op_lt (pv 1) pe_int (nomark _)) (pss_one (ps_ret (pe_callD (ok_toldD T) hr (by rfl) (passes_call (E := E) (takes_of rfl rfl rfl rfl) (fun _ _ _ _ h => h)) (by exact (pa_cons (pv 0) (pa_cons (pv 1) (pa_cons (pv 2) pa_nil))))))) pss_nil)
      (pss_one (ps_ret (pe_callD (ok_runT T) hr (by rfl) (passes_call (E := E) (takes_of rfl rfl rfl rfl) (fun _ _ _ _ h => h)) (by exact (pa_cons (pv 0) (pa_cons (pv 1) (pa_cons (pv 2) pa_nil))))))))), ?_⟩
    rcases h with ⟨op, n, rfl, hB⟩ | ⟨a, l, d, g, n, as, s, c, rfl, hS, hG, hN, hz, hlo, hhi, D⟩
    · exact q_req (b := false) (ev_is (ev_op (ev_var rfl) ev_c rv_notN) rfl) (fun h => nomatch h) (fun _ => hB)
    · refine q_req (b := true) (ev_is (ev_op (ev_var rfl) ev_c rv_notN) rfl) (fun _ H1 e1 => ?_) (fun h => nomatch h)
      refine q_when (et_lt 6 rfl) (fun hb H2 e2 => ?_) (fun hb H2 e2 => ?_)
      · have h6 := of_decide_eq_true hb
        have e12 := e1.trans e2
        exact s_retD (ea_cons (ev_var rfl) (ea_cons (ev_var rfl) (ea_cons (ev_var rfl) ea_nil))) fun H3 e3 => ⟨a, l, d, g, n, as, s, c, rfl, (hS.ex e12).ex e3, hG, (hN.ex e12).ex e3, hz, hlo, by omega, (D.ex e12).ex e3⟩
      have h6 := of_decide_eq_false hb
      have e12 := e1.trans e2
      refine q_when (et_lt 13 rfl) (fun hb H3 e3 => ?_) (fun hb H3 e3 => ?_)
      · have h13 := of_decide_eq_true hb
        have e13 := e12.trans e3
        exact s_retD (ea_cons (ev_var rfl) (ea_cons (ev_var rfl) (ea_cons (ev_var rfl) ea_nil))) fun H4 e4 => ⟨a, l, d, g, n, as, s, c, rfl, (hS.ex e13).ex e4, hG, (hN.ex e13).ex e4, hz, by omega, by omega, (D.ex e13).ex e4⟩
      have h13 := of_decide_eq_false hb
      have e13 := e12.trans e3
      exact s_retD (ea_cons (ev_var rfl) (ea_cons (ev_var rfl) (ea_cons (ev_var rfl) ea_nil))) fun H4 e4 => ⟨a, l, d, g, n, as, s, c, rfl, (hS.ex e13).ex e4, hG, (hN.ex e13).ex e4, hz, by omega, by omega, (D.ex e13).ex e4⟩
/-! ### answer -/
def spAnswer (CL CS CR : Addr) : Sp := fun vs H Q _ => (∃ (op : Nat) (n : Addr), vs = [.non, nV op, .ref n] ∧ ∀ p H', H p = none → Ex H H' → H' p = some (.lst [.int (-11)]) → Q (.ref p) H') ∨
  (∃ (a l d g n : Addr) (as : List Addr) (s : Scheduler) (c : Kp413.Call), vs = [.ref a, nV (opOf c), .ref n] ∧ SchedAt CL CS H a l d g as s ∧ Good s ∧ IntsAt H n (argsOf c) ∧ (argsOf c).length ≤ 1000 ∧ 1 ≤ opOf c ∧
    ∀ s' x, Kp413.step (some s) c = (some s', x) → ∀ p H' as', H p = none → Fra H H' (a :: l :: d :: g :: as) → (∀ q ∈ as', q ∈ as ∨ H q = none) → SchedAt CL CS H' a l d g as' s' → H' p = some (.lst ((x.num :: x.nums).map V.int)) → Q (.ref p) H')
theorem scAnswer : FnScope ["scheduler", "operation", "n", "found", "e"] ["scheduler", "operation", "n"] (defScope (top 62)) := ⟨rfl, rfl, rfl, by decide +kernel, rfl, by decide +kernel, by decide +kernel⟩
/-- found = [e.code] -/
def t_suite (CR : Addr) : Addr → Value → Option Addr → TS := fun a cls d => tAsg (tLst (tCons (tCode CR a cls d (tVar 4)) tNil)) (gName 3)
theorem ok_answer (T : Txt K mg CL CS CR fR) : Def P w K mg base CX0 9 "answer" ["scheduler", "operation", "n"] (spAnswer CL CS CR) := by
  refine def_of T.h_answer scAnswer (fun vs H Q E h => ?_) (fun f cdv A outer s0 H vs Q E hr h => ?_)
  · rcases h with ⟨op, n, rfl, _⟩ | ⟨a, l, d, g, n, as, s, c, rfl, _⟩ <;> rfl
  · obtain ⟨fp, fdp, GP, gp, kp, bp⟩ := ok_perf (P := P) (w := w) (base := base) T
    refine ⟨_, pss_cons (ps_try_as (i := 4) (tb := fun W => tAsg (tCallS (spPerf CL CS CR) (WE W) (tCons (tVar 0) (tCons (tVar 1) (tCons (tVar 2) tNil)))) (gName 3)) (ts := t_suite CR) (Wout := fun _ _ _ _ => False) rfl rfl scAnswer.nd rfl rfl ⟨rfl, by decide, Or.inl T.ref.gC⟩ takes0
          (fun W pn xe tk _ => pss_one (ps_set (i := 3) scAnswer.nd rfl (Or.inl rfl) (by exact (pe_callS GP hr rfl gp kp bp (fun σ => passAt tk σ) (by exact (pa_cons (pv 0) (pa_cons (pv 1) (pa_cons (pv 2) pa_nil))))))))
          (fun a oe cls d pn hz hf => pss_one (ps_set (i := 3) scAnswer.nd rfl (Or.inl rfl) (by exact (pe_lst (pa_cons (pe_code T.ref hz hf (pv 4)) pa_nil))))))
      (pss_one (ps_ret (pv 3))), ?_⟩
    rcases h with ⟨op, n, rfl, k⟩ | ⟨a, l, d, g, n, as, s, c, rfl, hS, hG, hN, hz, hlo, k⟩
    · refine ⟨_, rfl, _, rfl, _, rfl, .inl ⟨op, n, rfl, fun e H1 he e1 h1 => ?_⟩⟩
      refine ⟨true, T.ref.te, fun _ a0 ha0 => ?_, fun q => Bool.noConfusion q⟩
      refine ⟨_, rfl, rfl, rfl, e, _, rfl, h1, by show 1 ≤ sizeLine; decide, fun p hp => ?_⟩
      exact ⟨_, rfl, k p _ (fresh_back e1 hp) (e1.trans (Ex.new hp)) upd_same⟩
    · refine ⟨_, rfl, _, rfl, _, rfl, .inr ⟨a, l, d, g, n, as, s, c, rfl, hS, hG, hN, hz, hlo, op_le c, ⟨fun s' x hst p H' as' hp hF hnew hS' h => ⟨_, rfl, k s' x hst p H' as' hp hF hnew hS' h⟩, fun m hst e H1 he e1 h1 => ?_⟩⟩⟩
      refine ⟨true, T.ref.te, fun _ a0 ha0 => ?_, fun q => Bool.noConfusion q⟩
      refine ⟨_, rfl, rfl, rfl, e, _, rfl, h1, by show 1 ≤ sizeLine; decide, fun p hp => ?_⟩
      have e2 := e1.trans (Ex.new (o := .lst [.int m]) hp)
      exact ⟨_, rfl, k s _ hst p _ as (fresh_back e1 hp) (Fra.of_ex e2) (fun q hq => .inl hq) (hS.ex e2) upd_same⟩
end
end Mill
end
section
set_option Elab.async false
set_option linter.all false
set_option maxRecDepth 100000
set_option maxHeartbeats 2000000
namespace Mill
open PySem PySem.Spec PyProof.Rows L2 Evl
open Kp413 (Lot Scheduler lotAt remaining nextLot encode)
theorem good0 : Good ⟨[], [], 0, []⟩ := ⟨by decide, List.nodup_nil, (fun h z => by cases z), rfl, by decide, fun i h => absurd h (Nat.not_lt_zero _)⟩
/-- a call leaves a scheduler, and a good one -/
theorem step_good {s : Scheduler} (G : Good s) (c : Kp413.Call) : ∃ s' x, Kp413.step (some s) c = (some s', x) ∧ Good s' := by
  cases c with
  | create => exact ⟨_, _, rfl, good0⟩
  | addLot r d h =>
    rw [step_add]
    by_cases h1 : Kp413.validLot s r d h = false
    · rw [if_pos h1]
      exact ⟨_, _, rfl, G⟩
    · rw [if_neg h1]
      by_cases h2 : 6 ≤ s.lots.length
      · rw [if_pos h2]
        exact ⟨_, _, rfl, G⟩
      · rw [if_neg h2]
        refine ⟨_, _, rfl, ⟨G.now, G.dn, G.dl, G.ln, ?_, fun i hi => ?_⟩⟩
        · show (s.lots ++ [_]).length ≤ 6
          rw [List.length_append]
          show _ + 1 ≤ 6
          omega
        · unfold lotAt Kp413.withLot at *
          by_cases hi2 : i < s.lots.length
          · have := G.dh i hi2
            unfold lotAt at this
            simp only [List.getD_eq_getElem?_getD, List.getElem?_append_left hi2] at this ⊢
            exact this
          · have : i = s.lots.length := by
              simp at hi
              omega
            subst this
            simp [List.getD_eq_getElem?_getD]
  | removeLastLot n =>
    rw [step_remove]
    by_cases h1 : Kp413.isLot s n = false
    · rw [if_pos h1]
      exact ⟨_, _, rfl, G⟩
    · rw [if_neg h1]
      by_cases h2 : n + 1 ≠ s.lots.length ∨ 0 < (lotAt s n).done
      · rw [if_pos h2]
        exact ⟨_, _, rfl, G⟩
      · rw [if_neg h2]
        refine ⟨_, _, rfl, ⟨G.now, G.dn, G.dl, G.ln, ?_, fun i hi => ?_⟩⟩
        · show s.lots.dropLast.length ≤ 6
          have := G.six
          rw [List.length_dropLast]
          omega
        · have hi' : i < s.lots.length - 1 := by simpa using hi
          have := G.dh i (by omega)
          unfold lotAt at this ⊢
          show (s.lots.dropLast.getD i _).done ≤ (s.lots.dropLast.getD i _).hours
          simp only [List.getD_eq_getElem?_getD, List.getElem?_dropLast, if_pos hi'] at this ⊢
          exact this
  | getLot n => exact ⟨s, _, rfl, G⟩
  | addDowntime t =>
    rw [step_addDown]
    by_cases h1 : 24 ≤ t ∨ t < s.now
    · rw [if_pos h1]
      exact ⟨_, _, rfl, G⟩
    · rw [if_neg h1]
      by_cases h2 : s.downtime.contains t = true
      · rw [if_pos h2]
        exact ⟨_, _, rfl, G⟩
      · rw [if_neg h2]
        refine ⟨_, _, rfl, ⟨G.now, ?_, fun x hx => ?_, G.ln, G.six, G.dh⟩⟩
        · show (s.downtime ++ [t]).Nodup
          rw [List.nodup_append]
          refine ⟨G.dn, List.nodup_cons.mpr ⟨by simp, List.nodup_nil⟩, fun y hy z hz e => ?_⟩
          have := List.mem_singleton.mp hz
          rw [e, this] at hy
          exact h2 (by simpa using hy)
        · rcases List.mem_append.mp (show x ∈ s.downtime ++ [t] from hx) with z | z
          · exact G.dl x z
          · have := List.mem_singleton.mp z
            omega
  | removeDowntime t =>
    rw [step_remDown]
    by_cases h1 : s.downtime.contains t = false ∨ t < s.now
    · rw [if_pos h1]
      exact ⟨_, _, rfl, G⟩
    · rw [if_neg h1]
      exact ⟨_, _, rfl, ⟨G.now, G.dn.sublist List.filter_sublist, fun x hx => G.dl x (List.mem_filter.mp hx).1, G.ln, G.six, G.dh⟩⟩
  | plan => exact ⟨s, _, rfl, G⟩
  | isFeasible => exact ⟨s, _, rfl, G⟩
  | completionHour n => exact ⟨s, _, rfl, G⟩
  | lateLots => exact ⟨s, _, rfl, G⟩
  | overloadedInterval => exact ⟨s, _, rfl, G⟩
  | intervalLoad x y => exact ⟨s, _, rfl, G⟩
  | checkPlan l => exact ⟨s, _, rfl, G⟩
  | runHour =>
    rw [step_runH]
    by_cases h1 : 24 ≤ s.now
    · rw [if_pos h1]
      exact ⟨_, _, rfl, G⟩
    · rw [if_neg h1]
      exact ⟨_, _, rfl, good_run G (by omega)⟩
  | runHours n =>
    rw [step_runHs]
    by_cases h1 : n < 1 ∨ 24 < s.now + n
    · rw [if_pos h1]
      exact ⟨_, _, rfl, G⟩
    · rw [if_neg h1]
      exact ⟨_, _, rfl, (good_runs G n (by omega)).1⟩
  | slack n => exact ⟨s, _, rfl, G⟩
  | isFeasibleWith r d h => exact ⟨s, _, rfl, G⟩
  | idleHours => exact ⟨s, _, rfl, G⟩
  | changeovers => exact ⟨s, _, rfl, G⟩
  | getLog => exact ⟨s, _, rfl, G⟩
  | status => exact ⟨s, _, rfl, G⟩
theorem step_none {c : Kp413.Call} (h : opOf c ≠ 0) : Kp413.step none c = (none, Kp413.single (-11)) := by
  cases c <;> first | rfl | exact absurd rfl h
theorem op_0 {c : Kp413.Call} (h : opOf c = 0) : c = .create := by cases c <;> first | rfl | cases h
theorem step_create (st : Kp413.State) : Kp413.step st .create = (some ⟨[], [], 0, []⟩, Kp413.single 0) := by cases st <;> rfl
theorem flat_app (p q : List Kp413.Call) : flat (p ++ q) = flat p ++ flat q := by simp [flat]
theorem flat_cons (c : Kp413.Call) (r : List Kp413.Call) : flat (c :: r) = flat1 c ++ flat r := by simp [flat]
theorem flat1_len (c : Kp413.Call) : (flat1 c).length = (argsOf c).length + 3 := by simp [flat1]
theorem cut_mid (xs : List V) {lo hi : Nat} (h1 : lo ≤ hi) (h2 : hi ≤ xs.length) : cutV xs (some (lo : Int)) (some (hi : Int)) = (xs.drop lo).take (hi - lo) := by
  unfold cutV
  rw [HT.sIx_nat, HT.sIx_nat, Nat.min_eq_left h2, Nat.min_eq_left (by omega)]
theorem flat_at0 (p : List Kp413.Call) (c : Kp413.Call) (r : List Kp413.Call) : (flat (p ++ c :: r))[(flat p).length]? = some (opOf c) := by
  rw [flat_app, flat_cons, List.getElem?_append_right (Nat.le_refl _), Nat.sub_self]
  rfl
theorem flat_at1 (p : List Kp413.Call) (c : Kp413.Call) (r : List Kp413.Call) : (flat (p ++ c :: r))[(flat p).length + 1]? = some (argsOf c).length := by
  rw [flat_app, flat_cons, List.getElem?_append_right (by omega), show (flat p).length + 1 - (flat p).length = 1 by omega]
  rfl
theorem flat_mid (p : List Kp413.Call) (c : Kp413.Call) (r : List Kp413.Call) : cutV ((flat (p ++ c :: r)).map nV) (some (((flat p).length + 2 : Nat) : Int)) (some (((flat p).length + 2 + (argsOf c).length : Nat) : Int)) = (argsOf c).map nV := by
  have hl : (flat (p ++ c :: r)).length = (flat p).length + ((argsOf c).length + 3 + (flat r).length) := by
    rw [flat_app, flat_cons, List.length_append, List.length_append, flat1_len]
  rw [cut_mid _ (by omega) (by rw [List.length_map, hl]; omega), ← List.map_drop, ← List.map_take, show (flat p).length + 2 + (argsOf c).length - ((flat p).length + 2) = (argsOf c).length by omega]
  congr 1
  rw [flat_app, flat_cons, List.drop_append, List.drop_eq_nil_of_le (by omega), List.nil_append, show (flat p).length + 2 - (flat p).length = 2 by omega]
  show ((argsOf c ++ [0] ++ flat r)).take (argsOf c).length = argsOf c
  rw [List.append_assoc, List.take_left]
/-- the scheduler between two calls -/
def StAt (CL CS : Addr) (H0 H : Hp) (f : Addr) (st : Kp413.State) (sch : V) : Prop := (st = none ∧ sch = .non) ∨
  ∃ (s : Scheduler) (a l d g : Addr) (as : List Addr), st = some s ∧ sch = .ref a ∧ SchedAt CL CS H a l d g as s ∧ Good s ∧ (∀ x ∈ (a :: l :: d :: g :: as), H0 x = none) ∧ f ∉ (a :: l :: d :: g :: as)
theorem StAt.keep {CL CS : Addr} {H0 H H' : Hp} {f : Addr} {st : Kp413.State} {sch : V} (h : StAt CL CS H0 H f st sch) (k : ∀ b o, H b = some o → b ≠ f → H' b = some o) : StAt CL CS H0 H' f st sch := by
  rcases h with h | ⟨s, a, l, d, g, as, h1, h2, h3, h4, h5, h6⟩
  · exact .inl h
  · exact .inr ⟨s, a, l, d, g, as, h1, h2, h3.keepOn fun b o q hb => k b o q fun z => h6 (by rw [← z]; exact hb), h4, h5, h6⟩
theorem StAt.ex {CL CS : Addr} {H0 H H' : Hp} {f : Addr} {st : Kp413.State} {sch : V} (h : StAt CL CS H0 H f st sch) (e : Ex H H') : StAt CL CS H0 H' f st sch := h.keep fun b o q _ => e b o q
section
variable {P : Program} {w : World} {K : PySem.W.Frag} {mg : Str → Option Value} {base : Heap} {CL CS CR fR : Addr}
def spTop (K : PySem.W.Frag) : Sp := fun vs H Q _ => ∃ (c0 : Addr) (cs : List Kp413.Call), vs = [.ref c0] ∧ SqL K H c0 ((flat cs).map nV) ∧ (∀ x ∈ cs, (argsOf x).length ≤ 30) ∧ (due none cs).length ≤ 10000000 ∧
  ∀ (H' : Hp) (p : Addr), H' p = some (.lst ((due none cs).map V.int)) → Q (.ref p) H'
theorem scTop : FnScope ["calls", "scheduler", "found", "at", "operation", "behind", "one"] ["calls"] (defScope (top 63)) := ⟨rfl, rfl, rfl, by decide +kernel, rfl, by decide +kernel, by decide +kernel⟩
/-- the loop's word -/
def LoopW (CL CS : Addr) (H : Hp) (c0 f : Addr) (cs : List Kp413.Call) (m : Nat) (σ' : L2.St) (H' : Hp) : Prop := ∃ (pre rest : List Kp413.Call) (st : Kp413.State) (sch : V) (outs : List Int) (v4 v5 v6 : Option V), rest.length = m ∧ cs = pre ++ rest ∧ σ' = [some (.ref c0), some sch, some (.ref f), some (nV (flat pre).length), v4, v5, v6] ∧ Ex H H' ∧ H' f = some (.lst (outs.map V.int)) ∧ outs ++ due st rest = due none cs ∧ StAt CL CS H H' f st sch
/-- the rest of a turn: found, at -/
theorem top_tail {H0 H2 : Hp} {f p c0 : Addr} {outs ys : List Int} {sch v4 : V} {at0 behind : Nat} {D : Ends} {st' : Kp413.State}
    (hex : Ex H0 H2) (hf0 : H0 f = none) (hf : H2 f = some (.lst (outs.map V.int))) (hp : H2 p = some (.lst (ys.map V.int))) (hpf : p ≠ f) (hz : outs.length + 1 + ys.length ≤ 10000000) (hSt : StAt CL CS H0 H2 f st' sch)
    (k : ∀ H', Ex H0 H' → H' f = some (.lst ((outs ++ ((ys.length : Int) :: ys)).map V.int)) → StAt CL CS H0 H' f st' sch → D.nx [some (.ref c0), some sch, some (.ref f), some (nV (behind + 1)), some v4, some (nV behind), some (.ref p)] H') :
    tSeq (tDrop (tBM K "list" rAppend (tVar 2) (tCons (tCB (fun xs H Q => ∃ p ys, xs = [.ref p] ∧ (SqL K H p ys ∨ SqT K H p ys) ∧ Q (.int (ys.length : Nat)) H) (tCons (tVar 6) tNil)) tNil))) (tSeq (tDrop (tBM K "list" rExtend (tVar 2) (tCons (tVar 6) tNil))) (tAsg (tOp (rI0 fun i j => .int (i + j)) (tVar 5) (tC (.int 1))) (gName 3)))
      D [some (.ref c0), some sch, some (.ref f), some (nV at0), some v4, some (nV behind), some (.ref p)] H2 := by
  have hline : sizeLine = 16777216 := sizeLine_eq
  refine ⟨_, rfl, Or.inl ⟨rfl, _, sq_of hf⟩, _, rfl, p, ys.map V.int, rfl, .inl (sq_of hp), f, outs.map V.int, _, rfl, rfl, hf, by rw [List.length_map, hline]; omega, ?_⟩
  have hp3 : upd H2 f (.lst (outs.map V.int ++ [.int ((ys.map V.int).length : Nat)])) p = some (.lst (ys.map V.int)) := by
    rw [upd_ne hpf]
    exact hp
  refine ⟨_, rfl, Or.inl ⟨rfl, _, sq_of upd_same⟩, _, rfl, f, p, outs.map V.int ++ [.int ((ys.map V.int).length : Nat)], ys.map V.int, rfl, rfl, upd_same, hp3, by simp [hline]; omega, ?_⟩
  rw [upd_upd]
  refine s_asg (v := nV (behind + 1)) (ev_is (ev_op (ev_var rfl) ev_c rv_I0) (vint (by simp))) fun H5 e5 => k H5 (fun b o q => e5 _ _ ?_) (e5 _ _ ?_) (hSt.keep fun b o q hb => e5 _ _ ?_)
  · rw [upd_ne (fun z => by rw [z, hf0] at q; cases q)]
    exact hex _ _ q
  · rw [upd_same]
    simp
  · rw [upd_ne hb]
    exact q
theorem ok_top {fa : Addr} {fd : FuncData} (F : Fun K "answers" "answers" (top 63) fa fd) (T : Txt K mg CL CS CR fR) : FnOk P w K mg base CX0 10 fa fd ["calls"] (spTop K) := by
  refine F.ok scTop (fun vs H Q E h => ?_) (fun cdv A outer s0 H vs Q E hr h => ?_)
  · obtain ⟨c0, cs, rfl, _⟩ := h
    rfl
  · obtain ⟨c0, cs, rfl, hC, hargs, hdue, k⟩ := h
    obtain ⟨fS, MS, fdS, FS, bS⟩ := T.mkS
    refine ⟨_, pss_cons (ps_set (i := 1) scTop.nd rfl (Or.inl rfl) pe_non)
      (pss_cons (ps_set (i := 2) scTop.nd rfl (Or.inl rfl) (pe_lst pa_nil))
      (pss_cons (ps_set (i := 3) scTop.nd rfl (Or.inl rfl) pe_int)
      (pss_cons (ps_while PassesOwn.never (pt_cmpR op_lt (pv 3) (pe_callB call_len_seq (by rfl) T.n_len PySem.boot_len (pa_cons (pv 0) pa_nil)) (nomark _))
        (pss_cons (ps_set (i := 4) scTop.nd rfl (Or.inl rfl) (pe_ix ix_list (pv 0) (pv 3) (fun _ _ => rfl)))
        (pss_cons (ps_set (i := 5) scTop.nd rfl (Or.inl rfl) (pe_op op_add (pe_op op_add (pv 3) pe_int) (pe_ix ix_list (pv 0) (pe_op op_add (pv 3) pe_int) (fun _ _ => rfl))))
        (pss_cons (ps_if (pt_cmpR op_eq (pv 4) (pe_kon T.k_CREATE (by rfl)) (nomark _))
            (pss_cons (ps_set (i := 1) scTop.nd rfl (Or.inl rfl) (pe_make0 MS (ok_schI (P := P) (w := w) (base := base) FS T) (hr.mono (by decide)) rfl T.gS bS .nil pass0))
              (pss_one (ps_set (i := 6) scTop.nd rfl (Or.inl rfl) (pe_lst (pa_cons pe_int pa_nil)))))
            (pss_one (ps_set (i := 6) scTop.nd rfl (Or.inl rfl) (pe_callD (ok_answer T) hr (by rfl) pass0 (by exact (pa_cons (pv 1) (pa_cons (pv 4) (pa_cons (pe_slice sl_list (pv 0) (po_some (pe_op op_add (pv 3) pe_int)) (po_some (pv 5))) pa_nil))))))))
        (pss_cons (ps_expr (pe_bm PySem.F.plainAttrs_list PySem.F.slot_list_append PySem.F.type_list_append mt_append (pv 2) (pa_cons (pe_callB call_len_seq (by rfl) T.n_len PySem.boot_len (pa_cons (pv 6) pa_nil)) pa_nil)))
        (pss_cons (ps_expr (pe_bm PySem.F.plainAttrs_list PySem.F.slot_list_extend PySem.F.type_list_extend mt_extend (pv 2) (pa_cons (pv 6) pa_nil)))
        (pss_one (ps_set (i := 3) scTop.nd rfl (Or.inl rfl) (pe_op op_add (pv 5) pe_int)))))))))
      (pss_one (ps_ret (pv 2)))))), ?_⟩
    refine q_asg (v := .non) ev_c fun H1 e1 => ?_
    refine q_asgL (el_lst (vs := []) ea_nil (by decide)) fun f H2 hf e2 h2 => ?_
    refine q_asg (v := nV 0) ev_c fun H3 e3 => ?_
    have hf0 : H f = none := fresh_back e1 hf
    refine q_while (LoopW CL CS H c0 f cs) cs.length
      ⟨[], cs, none, .non, [], none, none, none, rfl, rfl, rfl, (e1.trans e2).trans e3, e3 _ _ h2, rfl, .inl ⟨rfl, rfl⟩⟩ ?_
    rintro m σ' H4 ⟨pre, rest, st, sch, outs, v4, v5, v6, hm, hcs, rfl, e4, h4, hd, hSt⟩
    have hC4 := ex_l e4 hC
    refine ⟨decide ((flat pre).length < (flat cs).length), et_is (et_test (ev_op (ev_var rfl) (ev_len (ev_var rfl) hC4) rv_I0)) (by rw [List.length_map, decide_eq_decide]; omega), fun hb H5 e5 => ?_, fun hb H5 e5 => ?_⟩
    · have hb' : (flat pre).length < (flat cs).length := of_decide_eq_true hb
      cases rest with
      | nil =>
        rw [hcs, List.append_nil] at hb'
        exact absurd hb' (Nat.lt_irrefl _)
      | cons c r =>
        refine ⟨_, fun σ2 H2 n => n, ?_⟩
        have e45 := e4.trans e5
        have hC5 := ex_l e45 hC
        have hSt5 := hSt.ex e5
        have h5 := e5 _ _ h4
        have hc0 := flat_at0 pre c r
        have hc1 := flat_at1 pre c r
        have hcm := flat_mid pre c r
        rw [← hcs] at hc0 hc1 hcm
        have hcl : (argsOf c).length ≤ 30 := hargs c (by rw [hcs]; simp)
        have hnext : (flat (pre ++ [c])).length = (flat pre).length + 2 + (argsOf c).length + 1 := by
          rw [flat_app, flat_cons, List.length_append, List.length_append, flat1_len]
          simp [flat]
          omega
        refine q_asg (v := nV (opOf c)) (ev_op (ev_var rfl) (ev_var rfl) (rv_ixL hC5 (atI_nat (by rw [List.getElem?_map, hc0]; rfl)))) fun H6 e6 => ?_
        refine q_asg (v := nV ((flat pre).length + 2 + (argsOf c).length)) (ev_is (ev_op (ev_op (ev_var rfl) ev_c rv_I0) (ev_op (ev_var rfl) (ev_is (w := nV ((flat pre).length + 1)) (ev_op (ev_var rfl) ev_c rv_I0) (vint (by simp))) (rv_ixL (ex_l e6 hC5) (atI_nat (v := nV (argsOf c).length) (by rw [List.getElem?_map, hc1]; rfl)))) rv_I0) (vint (by simp))) fun H7 e7 => ?_
        have e47 := (e45.trans e6).trans e7
        have hC7 := ex_l e47 hC
        have hSt7 := (hSt5.ex e6).ex e7
        have h7 := e7 _ _ (e6 _ _ h5)
        have hlen : ∀ (y : Kp413.Ans) (st2 : Kp413.State), Kp413.step st c = (st2, y) → outs.length + 1 + (y.num :: y.nums).length ≤ 10000000 := fun y st2 hy => by
          have := congrArg List.length hd
          rw [List.length_append] at this
          simp only [due, hy, List.length_append, List.length_cons] at this
          simp only [List.length_cons]
          omega
        have goal : ∀ (st2 : Kp413.State) (y : Kp413.Ans), Kp413.step st c = (st2, y) → ∀ (H' : Hp) (sch2 w4 w5 w6 : V), Ex H H' → H' f = some (.lst ((outs ++ (((y.num :: y.nums).length : Int) :: (y.num :: y.nums))).map V.int)) → StAt CL CS H H' f st2 sch2 →
            ∃ m', m' < m ∧ LoopW CL CS H c0 f cs m' [some (.ref c0), some sch2, some (.ref f), some (nV ((flat pre).length + 2 + (argsOf c).length + 1)), some w4, some w5, some w6] H' := fun st2 y hy H' sch2 w4 w5 w6 e q hS' => by
          refine ⟨r.length, by rw [← hm]; exact Nat.lt_succ_self _, pre ++ [c], r, st2, sch2, _, _, _, _, rfl, by rw [hcs, List.append_assoc]; rfl, by rw [hnext], e, q, ?_, hS'⟩
          rw [← hd, List.append_assoc]
          show _ = outs ++ ((((Kp413.step st c).2.nums.length + 1 : Nat) : Int) :: (Kp413.step st c).2.num :: (Kp413.step st c).2.nums ++ due (Kp413.step st c).1 r)
          rw [hy]
          rfl
        refine q_if (et_op 0 rfl) (fun hb H8 e8 => ?_) (fun hb H8 e8 => ?_)
        · obtain rfl := op_0 (of_decide_eq_true hb)
          have e48 := e47.trans e8
          have h8 := e8 _ _ h7
          have hstep := step_create st
          refine fun x dx nx nd ne => ⟨x, dx, rfl, upd_same, fun H9 l d g hl hd' hg hS9 kp => ⟨rfl, ?_⟩⟩
          have back : ∀ {q : Addr}, upd (upd H8 dx (.own x)) x (.ins CS dx []) q = none → H8 q = none := fun {q} z => by
            by_cases z1 : q = x
            · rw [z1]
              exact nx
            · rw [upd_ne z1] at z
              by_cases z2 : q = dx
              · rw [z2]
                exact nd
              · rw [upd_ne z2] at z
                exact z
          have e9 : Ex H8 H9 := fun b o q => kp b o (by rw [upd_ne (ne_of_none q nx), upd_ne (ne_of_none q nd)]; exact q) (ne_of_none q nx)
          have e49 := e48.trans e9
          have h9 := e9 _ _ h8
          have hfp : ∀ z ∈ [x, l, d, g], H8 z = none := fun z hz => by
            simp only [List.mem_cons, List.not_mem_nil, or_false] at hz
            rcases hz with z1 | z1 | z1 | z1
            · rw [z1]; exact nx
            · rw [z1]; exact back hl
            · rw [z1]; exact back hd'
            · rw [z1]; exact back hg
          refine s_asgL (el_lst (vs := [.int 0]) (ea_cons ev_c ea_nil) (by show 1 ≤ 100000; decide)) fun p H10 hp e10 h10 => ?_
          refine top_tail (K := K) (CL := CL) (CS := CS) (H0 := H) (ys := [0]) (st' := some ⟨[], [], 0, []⟩) (e49.trans e10) hf0 (e10 _ _ h9) h10 (fun z => by rw [z, h9] at hp; cases hp) (hlen _ _ hstep)
            (.inr ⟨_, x, l, d, g, [], rfl, rfl, hS9.ex e10, good0, fun z hz => fresh_back e48 (hfp z hz), fun hz => by have := hfp f hz; rw [h8] at this; cases this⟩) fun H' e q hS' => goal _ _ hstep H' _ _ _ _ e q hS'
        · have hop : opOf c ≠ 0 := of_decide_eq_false hb
          have e48 := e47.trans e8
          have h8 := e8 _ _ h7
          have hC8 := ex_l e8 hC7
          have hSt8 := hSt7.ex e8
          refine ⟨_, rfl, _, rfl, ?_⟩
          refine el_sl (lo := some (((flat pre).length + 2 : Nat) : Int)) (hi := some (((flat pre).length + 2 + (argsOf c).length : Nat) : Int)) (ev_var rfl) (eo_some (ev_is (ev_op (ev_var rfl) ev_c rv_I0) (vint (by simp)))) (eo_some (ev_var rfl)) hC8 H8 (Ex.refl _) _ fun n H9 hn e9 h9 => ?_
          rw [hcm] at h9
          have e49 := e48.trans e9
          have hf9 := e9 _ _ h8
          have hSt9 := hSt8.ex e9
          rcases hSt9 with ⟨rfl, rfl⟩ | ⟨s, a, l, d, g, as, rfl, rfl, hS9, hG9, hfr, hnf⟩
          · have hstep := step_none hop
            refine .inl ⟨opOf c, n, rfl, fun p H10 hp e10 h10 => ?_⟩
            exact top_tail (K := K) (CL := CL) (CS := CS) (H0 := H) (ys := [-11]) (st' := none) (e49.trans e10) hf0 (e10 _ _ hf9) h10 (fun z => by rw [z, hf9] at hp; cases hp) (hlen _ _ hstep) (.inl ⟨rfl, rfl⟩) fun H' e q hS' => goal _ _ hstep H' _ _ _ _ e q hS'
          · refine .inr ⟨a, l, d, g, n, as, s, c, rfl, hS9, hG9, h9, by omega, by omega, fun s' y hst p H10 as' hp hF hnew hS' h10 => ?_⟩
            obtain ⟨s2, y2, hst2, hG2⟩ := step_good hG9 c
            rw [hst] at hst2
            obtain ⟨h1, _⟩ := Prod.mk.inj hst2
            obtain rfl := Option.some.inj h1
            have e10 : Ex H H10 := fun b o q => hF b o (e49 b o q) fun hm => by rw [hfr b hm] at q; cases q
            have hm' : ∀ z ∈ (a :: l :: d :: g :: as'), z ∈ (a :: l :: d :: g :: as) ∨ H9 z = none := fun z hz => by
              simp only [List.mem_cons] at hz ⊢
              rcases hz with z1 | z1 | z1 | z1 | z1
              · exact .inl (.inl z1)
              · exact .inl (.inr (.inl z1))
              · exact .inl (.inr (.inr (.inl z1)))
              · exact .inl (.inr (.inr (.inr (.inl z1))))
              · rcases hnew z z1 with z2 | z2
                · exact .inl (.inr (.inr (.inr (.inr z2))))
                · exact .inr z2
            refine top_tail (K := K) (CL := CL) (CS := CS) (H0 := H) (ys := y.num :: y.nums) (st' := some s') e10 hf0 (hF _ _ hf9 hnf) h10 (fun z => by rw [z, hf9] at hp; cases hp) (hlen _ _ hst)
              (.inr ⟨s', a, l, d, g, as', rfl, rfl, hS', hG2, fun z hz => ?_, fun hz => ?_⟩) fun H' e q hS' => goal _ _ hst H' _ _ _ _ e q hS'
            · rcases hm' z hz with z1 | z1
              · exact hfr z z1
              · exact fresh_back e49 z1
            · rcases hm' f hz with z1 | z1
              · exact hnf z1
              · rw [hf9] at z1
                cases z1
    · have hb' : ¬ (flat pre).length < (flat cs).length := of_decide_eq_false hb
      have hr0 : rest = [] := by
        cases rest with
        | nil => rfl
        | cons c r =>
          exfalso
          apply hb'
          rw [hcs, flat_app, flat_cons, List.length_append, List.length_append, flat1_len]
          omega
      subst hr0
      have hd' : outs = due none cs := by
        rw [← hd]
        simp [due]
      refine s_ret (ev_var rfl) fun H6 e6 => k H6 f ?_
      rw [← hd']
      exact e6 _ _ (e5 _ _ h4)
end
end Mill
end
section
set_option Elab.async false
set_option linter.all false
set_option maxRecDepth 100000
set_option maxHeartbeats 2000000
namespace Mill
open PySem PySem.Spec PyProof.Rows L2
theorem exm_self {K : PySem.W.Frag} {S : Addr} (h1 : PySem.W.subIn K (.ref S) (.type "BaseException") = some true) (h2 : PySem.W.isClsIn K S = true) (h3 : PySem.W.typeIn K (.ref S) = some (.type "type")) (h4 : PySem.W.subIn K (.ref S) (.ref S) = some true) :
    PySem.W.exmOne K (.ref S) (.ref S) = some true := by
  have e1 : (PySem.W.subIn K (.ref S) (.type "BaseException") == some true) = true := by rw [h1] <;> rfl
  have e2 : ((PySem.W.clsIn K S).isSome && PySem.W.typeIn K (.ref S) == some (.type "type")) = true := by
    have h2' : (PySem.W.clsIn K S).isSome = true := h2
    rw [h2', h3] <;> rfl
  show (if (PySem.W.subIn K (.ref S) (.type "BaseException") == some true) = true then (if ((PySem.W.clsIn K S).isSome && PySem.W.typeIn K (.ref S) == some (.type "type")) = true then PySem.W.subIn K (.ref S) (.ref S) else none) else none) = some true
  rw [if_pos e1, if_pos e2]
  exact h4
theorem ref_mk {K : PySem.W.Frag} {h : Heap} {mg : Str → Option Value} {C f1 : Addr} (X : K.In h) (G : h.Ns mainGlobals mg)
    {nm q : Str} {N : Addr} {bs : List Value} {sn : List Str} {sub : List Value} {ab : Bool} {col : Option Bool} {dd : Option Addr} {m0 m1 m2 m3 m5 : Option Value}
    {od1 an1 : Option Addr} {sl1 : Array (Option Value)} {oc1 dc1 pm1 cd1 ct1 : Value}
    (aC : PySem.W.nsIn K mainGlobals "Refused" = some (some (.ref C))) (gE : PySem.W.nsIn K mainGlobals "Exception" = some none)
    (vE : PySem.W.findCls K (.type "Exception") (.type "type") "__init__" = some (.val (.builtin "Exception.__init__")))
    (xL : K.lookup C = some (excClassObj nm q C N bs [.type "Exception", .type "BaseException", .type "object"] true sn sub ab col dd m0 m1 m2 m3 m5 "Exception.__new__"))
    (sa : PySem.W.findIn K (.ref C) "__setattr__" = some (some (.builtin "object.__setattr__"))) (ga : PySem.W.findIn K (.ref C) "__getattribute__" = some (some (.builtin "BaseException.__getattribute__"))) (gg : PySem.W.findIn K (.ref C) "__getattr__" = some none) (nb : PySem.W.findIn K (.ref C) "code" = some none)
    (a1 : PySem.W.findIn K (.ref C) "__init__" = some (some (.ref f1))) (t1 : PySem.W.typeIn K (.ref f1) = some (.type "function"))
    (l1 : K.lookup f1 = some ⟨oc1, od1, .func (PySem.W.fnOf "__init__" "Refused.__init__" (L2.defArgs Mill.sRefI) (L2.defBody Mill.sRefI) (L2.defScope Mill.sRefI) .none .none dc1 pm1 an1 cd1 ct1), sl1⟩) (c1 : PySem.W.codeIn K cd1 "Refused.__init__" = true)
    (kC : PySem.W.keepIn K (.ref C) = true) (eC : PySem.W.subIn K (.ref C) (.type "BaseException") = some true) (tC : PySem.W.typeIn K (.ref C) = some (.type "type")) (hC : PySem.W.hasDictIn K C = true) (iC : PySem.W.isClsIn K C = true) (sC : PySem.W.subIn K (.ref C) (.ref C) = some true) :
    PySem.RefX.RefTxt K mg C f1 :=
  { gC := PySem.W.mg_of X G aC, gE := PySem.W.mg_none_of X G gE, vE := vE, cls := ⟨nm, q, N, bs, sn, sub, ab, col, dd, m0, m1, m2, m3, m5, xL⟩, sa := sa, ga := ga, gg := gg, noN := nb, iC := a1, tC := t1, kC := kC, exC := eC, tyC := tC, hdC := hC, te := exm_self eC iC tC sC,
    fn := ⟨_, _, _, _, _, _, _, _, l1, c1⟩ }
theorem cls_mk {K : PySem.W.Frag} {C : Addr} (a : PySem.W.plainGet K C Str.empty = true) (b : PySem.W.hasDictIn K C = true) (c : PySem.W.plainOver K C = true) (d : PySem.W.findIn K (.ref C) "__setattr__" = some (some (.builtin "object.__setattr__"))) : Cls K C := ⟨a, b, c, d⟩
theorem mk_mk {K : PySem.W.Frag} {C : Addr} {qual : Str} {st : Stmt} {ps : List Str} {f : Addr} {od an : Option Addr} {sl : Array (Option Value)} {oc kV dc pm cd ct : Value}
    (m : PySem.W.makesIn K C = true) (a : PySem.W.findIn K (.ref C) "__init__" = some (some (.ref f))) (i : PySem.W.isFn K (.ref f) = true) (kc : PySem.W.keepIn K (.ref C) = true)
    (l : K.lookup f = some ⟨oc, od, .func (PySem.W.fnOf "__init__" qual (defArgs st) (defBody st) (defScope st) .none kV dc pm an cd ct), sl⟩) (c : PySem.W.codeIn K cd qual = true) (k : PySem.W.keepIn K (.ref f) = true)
    (b : ∀ (kV doc pm : Value) (an : Option Addr) (cdv ct : Value) (us : List Value), us.length = ps.length → bindArgs (PySem.W.fnOf "__init__" qual (defArgs st) (defBody st) (defScope st) .none kV doc pm an cdv ct) ⟨us, []⟩ = pure (ps.zip us)) :
    ∃ f, Mk K C f ∧ ∃ fd, Fun K "__init__" qual st f fd ∧ Binds K fd ps [] :=
  have F := fun_mk (st := st) l c k
  ⟨f, ⟨m, a, i, kc⟩, _, F, F.binds b⟩
theorem free_mk {K : PySem.W.Frag} {h : Heap} {mg : Str → Option Value} {x : Str} (X : K.In h) (G : h.Ns mainGlobals mg) (a : PySem.W.nsIn K mainGlobals x = some none) : mg x = none := PySem.W.mg_none_of X G a
theorem glob_mk {K : PySem.W.Frag} {h : Heap} {mg : Str → Option Value} {x : Str} {C : Addr} (X : K.In h) (G : h.Ns mainGlobals mg) (a : PySem.W.nsIn K mainGlobals x = some (some (.ref C))) : mg x = some (.ref C) := PySem.W.mg_of X G a
theorem kon_mk {K : PySem.W.Frag} {h : Heap} {mg : Str → Option Value} {x : Str} {v : V} {u : Value} (X : K.In h) (G : h.Ns mainGlobals mg) (a : PySem.W.nsIn K mainGlobals x = some (some u)) (r : RelV v u) : Kon mg x v := ⟨u, PySem.W.mg_of X G a, r⟩
/-- the last def, as the statement asks it -/
theorem top_end {P : Program} {w : World} {K : PySem.W.Frag} {mg : Str → Option Value} {fa CL CS CR fR : Addr} (hfa : mg "answers" = some (.ref fa)) (T : Txt K mg CL CS CR fR) :
    ∃ fd : FuncData, (∀ (s : Shared) (us : List Value), us.length = (["calls"] : List Str).length → BindsTo s fd ⟨us, []⟩ ((["calls"] : List Str).zip us)) ∧ ∀ base : Heap, K.In base → base.Ns mainGlobals mg → FnOk P w K mg base CX0 10 fa fd ["calls"] (spTop K) := by
  obtain ⟨f, fd, F, g, _⟩ := T.h_answers
  have e := hfa.symm.trans g
  cases e
  refine ⟨fd, fun s us hu => ?_, fun base _ _ => ok_top F T⟩
  obtain ⟨oc, od, kV, doc, pm, an, cdv, ct, osl, rfl, lk, hcd⟩ := F.ex
  exact match us, hu with | [_], _ => .of_eq rfl
end Mill
end
open PySem PySem.W PyProof.Rows
set_option maxRecDepth 100000 in
set_option maxHeartbeats 0 in
theorem PySem.Challenge.cw_millhoursworks_s01_answers_holds : PySem.Challenge.rw_millhoursworks_s01_answers.Holds := by
  w_on; k_headS; (case hw => exact ⟨[.list [.int 0, .int 0, .int 0]], by decide +kernel, by decide +kernel⟩)
  k_fillS
  refine L2.walk_specK (r := PySem.Challenge.rw_millhoursworks_s01_answers) (k := 10) (CX := L2.CX0) (ps := ["calls"]) (sp := Mill.spTop) (by decide +kernel) rfl rfl ⟨rfl, by decide, by decide⟩ (fun w h Y => PySem.W.kIn_of Y) ?F ?S (fun _ _ _ _ z => z)
  case F =>
    intro w mg fa h Y KX G hmg
    refine' Mill.top_end hmg { ref := ?ref, gL := ?gL, clL := ?clL, gS := ?gS, clS := ?clS, mkL := ?mkL, mkS := ?mkS, nL_release := ?nL_release, nL_deadline := ?nL_deadline, nL_hours := ?nL_hours, nL_done := ?nL_done, nS_lots := ?nS_lots, nS_downtime := ?nS_downtime, nS_now := ?nS_now, nS_log := ?nS_log, n_len := ?n_len, n_range := ?n_range, n_enumerate := ?n_enumerate, n_zip := ?n_zip, n_all := ?n_all, n_sum := ?n_sum, n_max := ?n_max, n_int := ?n_int, n_list := ?n_list, k_NO_SCHEDULER := ?k_NO_SCHEDULER, k_MISSING := ?k_MISSING, k_OUT_OF_LIMITS := ?k_OUT_OF_LIMITS, k_TOO_MANY := ?k_TOO_MANY, k_NOT_REMOVABLE := ?k_NOT_REMOVABLE, k_ALREADY_DOWNTIME := ?k_ALREADY_DOWNTIME, k_NONE_SUCH := ?k_NONE_SUCH, k_DAY := ?k_DAY, k_MOST_LOTS := ?k_MOST_LOTS, k_MOST_HOURS := ?k_MOST_HOURS, k_CREATE := ?k_CREATE, h_require := ?h_require, h_entry_fits := ?h_entry_fits, h_meets_all := ?h_meets_all, h_chosen := ?h_chosen, h_planned := ?h_planned, h_hours_of := ?h_hours_of, h_completion := ?h_completion, h_is_late := ?h_is_late, h_late_jobs := ?h_late_jobs, h_is_feasible := ?h_is_feasible, h_longer := ?h_longer, h_changes := ?h_changes, h_capacity := ?h_capacity, h_is_within := ?h_is_within, h_demand := ?h_demand, h_first_crowded := ?h_first_crowded, h_require_lot := ?h_require_lot, h_add_lot := ?h_add_lot, h_remove_last_lot := ?h_remove_last_lot, h_get_lot := ?h_get_lot, h_add_downtime := ?h_add_downtime, h_remove_downtime := ?h_remove_downtime, h_told_plan := ?h_told_plan, h_told_feasible := ?h_told_feasible, h_completion_hour := ?h_completion_hour, h_late_lots := ?h_late_lots, h_crowded_interval := ?h_crowded_interval, h_interval_load := ?h_interval_load, h_check_plan := ?h_check_plan, h_run_hour := ?h_run_hour, h_run_hours := ?h_run_hours, h_slack := ?h_slack, h_is_feasible_with := ?h_is_feasible_with, h_idle_hours := ?h_idle_hours, h_changeovers := ?h_changeovers, h_get_log := ?h_get_log, h_status := ?h_status, h_changed := ?h_changed, h_told := ?h_told, h_run_or_told := ?h_run_or_told, h_performed := ?h_performed, h_answer := ?h_answer, h_answers := ?h_answers, m_job := ?m_job, m_lot_at := ?m_lot_at, m_jobs := ?m_jobs, m_plan := ?m_plan, m_run := ?m_run }
    (case ref => refine' Mill.ref_mk KX G ?aC ?gE ?vE ?xL ?sa ?ga ?gg ?nb ?a1 ?t1 ?l1 ?c1 ?kC ?eC ?tC ?hC ?iC ?sC; (case aC => k_is); (case gE => k_is); (case vE => k_is); (case xL => k_is); (case sa => k_is); (case ga => k_is); (case gg => k_is); (case nb => k_is); (case a1 => k_is); (case t1 => k_is); (case l1 => k_is); (case c1 => k_is); (case kC => k_is); (case eC => k_is); (case tC => k_is); (case hC => k_is); (case iC => k_is); (case sC => first | rfl | k_is))
    (case gL => refine' Mill.glob_mk KX G ?a; (case a => k_is))
    (case clL => refine' Mill.cls_mk ?a ?b ?c ?d; (case a => k_is); (case b => k_is); (case c => k_is); (case d => k_is))
    (case gS => refine' Mill.glob_mk KX G ?a; (case a => k_is))
    (case clS => refine' Mill.cls_mk ?a ?b ?c ?d; (case a => k_is); (case b => k_is); (case c => k_is); (case d => k_is))
    (case mkL => refine' Mill.mk_mk ?m ?a ?i ?e ?l ?c ?k ?b; (case m => k_is); (case a => k_is); (case i => k_is); (case e => k_is); (case l => k_is); (case c => k_is); (case k => k_is); (case b => exact fun _ _ _ _ _ _ us hl => match us, hl with | [_, _, _, _], _ => rfl))
    (case mkS => refine' Mill.mk_mk ?m ?a ?i ?e ?l ?c ?k ?b; (case m => k_is); (case a => k_is); (case i => k_is); (case e => k_is); (case l => k_is); (case c => k_is); (case k => k_is); (case b => exact fun _ _ _ _ _ _ us hl => match us, hl with | [_], _ => rfl))
    (case nL_release => unfold L2.NoAttr; k_is)
    (case nL_deadline => unfold L2.NoAttr; k_is)
    (case nL_hours => unfold L2.NoAttr; k_is)
    (case nL_done => unfold L2.NoAttr; k_is)
    (case nS_lots => unfold L2.NoAttr; k_is)
    (case nS_downtime => unfold L2.NoAttr; k_is)
    (case nS_now => unfold L2.NoAttr; k_is)
    (case nS_log => unfold L2.NoAttr; k_is)
    (case n_len => refine' Mill.free_mk KX G ?a; (case a => k_is))
    (case n_range => refine' Mill.free_mk KX G ?a; (case a => k_is))
    (case n_enumerate => refine' Mill.free_mk KX G ?a; (case a => k_is))
    (case n_zip => refine' Mill.free_mk KX G ?a; (case a => k_is))
    (case n_all => refine' Mill.free_mk KX G ?a; (case a => k_is))
    (case n_sum => refine' Mill.free_mk KX G ?a; (case a => k_is))
    (case n_max => refine' Mill.free_mk KX G ?a; (case a => k_is))
    (case n_int => refine' Mill.free_mk KX G ?a; (case a => k_is))
    (case n_list => refine' Mill.free_mk KX G ?a; (case a => k_is))
    (case k_NO_SCHEDULER => refine' Mill.kon_mk KX G ?a ?b; (case a => k_is); (case b => exact ⟨_, rfl⟩))
    (case k_MISSING => refine' Mill.kon_mk KX G ?a ?b; (case a => k_is); (case b => exact ⟨_, rfl⟩))
    (case k_OUT_OF_LIMITS => refine' Mill.kon_mk KX G ?a ?b; (case a => k_is); (case b => exact ⟨_, rfl⟩))
    (case k_TOO_MANY => refine' Mill.kon_mk KX G ?a ?b; (case a => k_is); (case b => exact ⟨_, rfl⟩))
    (case k_NOT_REMOVABLE => refine' Mill.kon_mk KX G ?a ?b; (case a => k_is); (case b => exact ⟨_, rfl⟩))
    (case k_ALREADY_DOWNTIME => refine' Mill.kon_mk KX G ?a ?b; (case a => k_is); (case b => exact ⟨_, rfl⟩))
    (case k_NONE_SUCH => refine' Mill.kon_mk KX G ?a ?b; (case a => k_is); (case b => exact ⟨_, rfl⟩))
    (case k_DAY => refine' Mill.kon_mk KX G ?a ?b; (case a => k_is); (case b => exact ⟨_, rfl⟩))
    (case k_MOST_LOTS => refine' Mill.kon_mk KX G ?a ?b; (case a => k_is); (case b => exact ⟨_, rfl⟩))
    (case k_MOST_HOURS => refine' Mill.kon_mk KX G ?a ?b; (case a => k_is); (case b => exact ⟨_, rfl⟩))
    (case k_CREATE => refine' Mill.kon_mk KX G ?a ?b; (case a => k_is); (case b => exact ⟨_, rfl⟩))
    (case h_require => refine' Mill.hasT_mk KX G ?a ?l ?c ?k ?b; (case a => k_is); (case l => k_is); (case c => k_is); (case k => k_is); (case b => exact fun _ _ _ _ _ _ us hl => match us, hl with | [_, _], _ => rfl))
    (case h_entry_fits => refine' Mill.hasT_mk KX G ?a ?l ?c ?k ?b; (case a => k_is); (case l => k_is); (case c => k_is); (case k => k_is); (case b => exact fun _ _ _ _ _ _ us hl => match us, hl with | [_, _, _, _], _ => rfl))
    (case h_meets_all => refine' Mill.hasT_mk KX G ?a ?l ?c ?k ?b; (case a => k_is); (case l => k_is); (case c => k_is); (case k => k_is); (case b => exact fun _ _ _ _ _ _ us hl => match us, hl with | [_, _, _, _], _ => rfl))
    (case h_chosen => refine' Mill.hasT_mk KX G ?a ?l ?c ?k ?b; (case a => k_is); (case l => k_is); (case c => k_is); (case k => k_is); (case b => exact fun _ _ _ _ _ _ us hl => match us, hl with | [_, _, _], _ => rfl))
    (case h_planned => refine' Mill.hasT_mk KX G ?a ?l ?c ?k ?b; (case a => k_is); (case l => k_is); (case c => k_is); (case k => k_is); (case b => exact fun _ _ _ _ _ _ us hl => match us, hl with | [_, _, _], _ => rfl))
    (case h_hours_of => refine' Mill.hasT_mk KX G ?a ?l ?c ?k ?b; (case a => k_is); (case l => k_is); (case c => k_is); (case k => k_is); (case b => exact fun _ _ _ _ _ _ us hl => match us, hl with | [_, _, _], _ => rfl))
    (case h_completion => refine' Mill.hasT_mk KX G ?a ?l ?c ?k ?b; (case a => k_is); (case l => k_is); (case c => k_is); (case k => k_is); (case b => exact fun _ _ _ _ _ _ us hl => match us, hl with | [_, _, _, _], _ => rfl))
    (case h_is_late => refine' Mill.hasT_mk KX G ?a ?l ?c ?k ?b; (case a => k_is); (case l => k_is); (case c => k_is); (case k => k_is); (case b => exact fun _ _ _ _ _ _ us hl => match us, hl with | [_, _, _, _], _ => rfl))
    (case h_late_jobs => refine' Mill.hasT_mk KX G ?a ?l ?c ?k ?b; (case a => k_is); (case l => k_is); (case c => k_is); (case k => k_is); (case b => exact fun _ _ _ _ _ _ us hl => match us, hl with | [_, _, _], _ => rfl))
    (case h_is_feasible => refine' Mill.hasT_mk KX G ?a ?l ?c ?k ?b; (case a => k_is); (case l => k_is); (case c => k_is); (case k => k_is); (case b => exact fun _ _ _ _ _ _ us hl => match us, hl with | [_, _, _], _ => rfl))
    (case h_longer => refine' Mill.hasT_mk KX G ?a ?l ?c ?k ?b; (case a => k_is); (case l => k_is); (case c => k_is); (case k => k_is); (case b => exact fun _ _ _ _ _ _ us hl => match us, hl with | [_, _, _], _ => rfl))
    (case h_changes => refine' Mill.hasT_mk KX G ?a ?l ?c ?k ?b; (case a => k_is); (case l => k_is); (case c => k_is); (case k => k_is); (case b => exact fun _ _ _ _ _ _ us hl => match us, hl with | [_], _ => rfl))
    (case h_capacity => refine' Mill.hasT_mk KX G ?a ?l ?c ?k ?b; (case a => k_is); (case l => k_is); (case c => k_is); (case k => k_is); (case b => exact fun _ _ _ _ _ _ us hl => match us, hl with | [_, _, _, _], _ => rfl))
    (case h_is_within => refine' Mill.hasT_mk KX G ?a ?l ?c ?k ?b; (case a => k_is); (case l => k_is); (case c => k_is); (case k => k_is); (case b => exact fun _ _ _ _ _ _ us hl => match us, hl with | [_, _, _, _], _ => rfl))
    (case h_demand => refine' Mill.hasT_mk KX G ?a ?l ?c ?k ?b; (case a => k_is); (case l => k_is); (case c => k_is); (case k => k_is); (case b => exact fun _ _ _ _ _ _ us hl => match us, hl with | [_, _, _, _], _ => rfl))
    (case h_first_crowded => refine' Mill.hasT_mk KX G ?a ?l ?c ?k ?b; (case a => k_is); (case l => k_is); (case c => k_is); (case k => k_is); (case b => exact fun _ _ _ _ _ _ us hl => match us, hl with | [_, _, _], _ => rfl))
    (case h_require_lot => refine' Mill.hasT_mk KX G ?a ?l ?c ?k ?b; (case a => k_is); (case l => k_is); (case c => k_is); (case k => k_is); (case b => exact fun _ _ _ _ _ _ us hl => match us, hl with | [_, _, _, _], _ => rfl))
    (case h_add_lot => refine' Mill.hasT_mk KX G ?a ?l ?c ?k ?b; (case a => k_is); (case l => k_is); (case c => k_is); (case k => k_is); (case b => exact fun _ _ _ _ _ _ us hl => match us, hl with | [_, _, _, _], _ => rfl))
    (case h_remove_last_lot => refine' Mill.hasT_mk KX G ?a ?l ?c ?k ?b; (case a => k_is); (case l => k_is); (case c => k_is); (case k => k_is); (case b => exact fun _ _ _ _ _ _ us hl => match us, hl with | [_, _], _ => rfl))
    (case h_get_lot => refine' Mill.hasT_mk KX G ?a ?l ?c ?k ?b; (case a => k_is); (case l => k_is); (case c => k_is); (case k => k_is); (case b => exact fun _ _ _ _ _ _ us hl => match us, hl with | [_, _], _ => rfl))
    (case h_add_downtime => refine' Mill.hasT_mk KX G ?a ?l ?c ?k ?b; (case a => k_is); (case l => k_is); (case c => k_is); (case k => k_is); (case b => exact fun _ _ _ _ _ _ us hl => match us, hl with | [_, _], _ => rfl))
    (case h_remove_downtime => refine' Mill.hasT_mk KX G ?a ?l ?c ?k ?b; (case a => k_is); (case l => k_is); (case c => k_is); (case k => k_is); (case b => exact fun _ _ _ _ _ _ us hl => match us, hl with | [_, _], _ => rfl))
    (case h_told_plan => refine' Mill.hasT_mk KX G ?a ?l ?c ?k ?b; (case a => k_is); (case l => k_is); (case c => k_is); (case k => k_is); (case b => exact fun _ _ _ _ _ _ us hl => match us, hl with | [_], _ => rfl))
    (case h_told_feasible => refine' Mill.hasT_mk KX G ?a ?l ?c ?k ?b; (case a => k_is); (case l => k_is); (case c => k_is); (case k => k_is); (case b => exact fun _ _ _ _ _ _ us hl => match us, hl with | [_], _ => rfl))
    (case h_completion_hour => refine' Mill.hasT_mk KX G ?a ?l ?c ?k ?b; (case a => k_is); (case l => k_is); (case c => k_is); (case k => k_is); (case b => exact fun _ _ _ _ _ _ us hl => match us, hl with | [_, _], _ => rfl))
    (case h_late_lots => refine' Mill.hasT_mk KX G ?a ?l ?c ?k ?b; (case a => k_is); (case l => k_is); (case c => k_is); (case k => k_is); (case b => exact fun _ _ _ _ _ _ us hl => match us, hl with | [_], _ => rfl))
    (case h_crowded_interval => refine' Mill.hasT_mk KX G ?a ?l ?c ?k ?b; (case a => k_is); (case l => k_is); (case c => k_is); (case k => k_is); (case b => exact fun _ _ _ _ _ _ us hl => match us, hl with | [_], _ => rfl))
    (case h_interval_load => refine' Mill.hasT_mk KX G ?a ?l ?c ?k ?b; (case a => k_is); (case l => k_is); (case c => k_is); (case k => k_is); (case b => exact fun _ _ _ _ _ _ us hl => match us, hl with | [_, _, _], _ => rfl))
    (case h_check_plan => refine' Mill.hasT_mk KX G ?a ?l ?c ?k ?b; (case a => k_is); (case l => k_is); (case c => k_is); (case k => k_is); (case b => exact fun _ _ _ _ _ _ us hl => match us, hl with | [_, _], _ => rfl))
    (case h_run_hour => refine' Mill.hasT_mk KX G ?a ?l ?c ?k ?b; (case a => k_is); (case l => k_is); (case c => k_is); (case k => k_is); (case b => exact fun _ _ _ _ _ _ us hl => match us, hl with | [_], _ => rfl))
    (case h_run_hours => refine' Mill.hasT_mk KX G ?a ?l ?c ?k ?b; (case a => k_is); (case l => k_is); (case c => k_is); (case k => k_is); (case b => exact fun _ _ _ _ _ _ us hl => match us, hl with | [_, _], _ => rfl))
    (case h_slack => refine' Mill.hasT_mk KX G ?a ?l ?c ?k ?b; (case a => k_is); (case l => k_is); (case c => k_is); (case k => k_is); (case b => exact fun _ _ _ _ _ _ us hl => match us, hl with | [_, _], _ => rfl))
    (case h_is_feasible_with => refine' Mill.hasT_mk KX G ?a ?l ?c ?k ?b; (case a => k_is); (case l => k_is); (case c => k_is); (case k => k_is); (case b => exact fun _ _ _ _ _ _ us hl => match us, hl with | [_, _, _, _], _ => rfl))
    (case h_idle_hours => refine' Mill.hasT_mk KX G ?a ?l ?c ?k ?b; (case a => k_is); (case l => k_is); (case c => k_is); (case k => k_is); (case b => exact fun _ _ _ _ _ _ us hl => match us, hl with | [_], _ => rfl))
    (case h_changeovers => refine' Mill.hasT_mk KX G ?a ?l ?c ?k ?b; (case a => k_is); (case l => k_is); (case c => k_is); (case k => k_is); (case b => exact fun _ _ _ _ _ _ us hl => match us, hl with | [_], _ => rfl))
    (case h_get_log => refine' Mill.hasT_mk KX G ?a ?l ?c ?k ?b; (case a => k_is); (case l => k_is); (case c => k_is); (case k => k_is); (case b => exact fun _ _ _ _ _ _ us hl => match us, hl with | [_], _ => rfl))
    (case h_status => refine' Mill.hasT_mk KX G ?a ?l ?c ?k ?b; (case a => k_is); (case l => k_is); (case c => k_is); (case k => k_is); (case b => exact fun _ _ _ _ _ _ us hl => match us, hl with | [_], _ => rfl))
    (case h_changed => refine' Mill.hasT_mk KX G ?a ?l ?c ?k ?b; (case a => k_is); (case l => k_is); (case c => k_is); (case k => k_is); (case b => exact fun _ _ _ _ _ _ us hl => match us, hl with | [_, _, _], _ => rfl))
    (case h_told => refine' Mill.hasT_mk KX G ?a ?l ?c ?k ?b; (case a => k_is); (case l => k_is); (case c => k_is); (case k => k_is); (case b => exact fun _ _ _ _ _ _ us hl => match us, hl with | [_, _, _], _ => rfl))
    (case h_run_or_told => refine' Mill.hasT_mk KX G ?a ?l ?c ?k ?b; (case a => k_is); (case l => k_is); (case c => k_is); (case k => k_is); (case b => exact fun _ _ _ _ _ _ us hl => match us, hl with | [_, _, _], _ => rfl))
    (case h_performed => refine' Mill.hasT_mk KX G ?a ?l ?c ?k ?b; (case a => k_is); (case l => k_is); (case c => k_is); (case k => k_is); (case b => exact fun _ _ _ _ _ _ us hl => match us, hl with | [_, _, _], _ => rfl))
    (case h_answer => refine' Mill.hasT_mk KX G ?a ?l ?c ?k ?b; (case a => k_is); (case l => k_is); (case c => k_is); (case k => k_is); (case b => exact fun _ _ _ _ _ _ us hl => match us, hl with | [_, _, _], _ => rfl))
    (case h_answers => refine' Mill.hasT_mk KX G ?a ?l ?c ?k ?b; (case a => k_is); (case l => k_is); (case c => k_is); (case k => k_is); (case b => exact fun _ _ _ _ _ _ us hl => match us, hl with | [_], _ => rfl))
    (case m_job => refine' Mill.hasM_mk ?a ?i ?l ?c ?k ?b; (case a => k_is); (case i => k_is); (case l => k_is); (case c => k_is); (case k => k_is); (case b => exact fun _ _ _ _ _ _ us hl => match us, hl with | [_], _ => rfl))
    (case m_lot_at => refine' Mill.hasM_mk ?a ?i ?l ?c ?k ?b; (case a => k_is); (case i => k_is); (case l => k_is); (case c => k_is); (case k => k_is); (case b => exact fun _ _ _ _ _ _ us hl => match us, hl with | [_, _], _ => rfl))
    (case m_jobs => refine' Mill.hasM_mk ?a ?i ?l ?c ?k ?b; (case a => k_is); (case i => k_is); (case l => k_is); (case c => k_is); (case k => k_is); (case b => exact fun _ _ _ _ _ _ us hl => match us, hl with | [_], _ => rfl))
    (case m_plan => refine' Mill.hasM_mk ?a ?i ?l ?c ?k ?b; (case a => k_is); (case i => k_is); (case l => k_is); (case c => k_is); (case k => k_is); (case b => exact fun _ _ _ _ _ _ us hl => match us, hl with | [_], _ => rfl))
    (case m_run => refine' Mill.hasM_mk ?a ?i ?l ?c ?k ?b; (case a => k_is); (case i => k_is); (case l => k_is); (case c => k_is); (case k => k_is); (case b => exact fun _ _ _ _ _ _ us hl => match us, hl with | [_], _ => rfl))
  case S =>
    intro K H xs a hO hwi hask hx
    cases hx with
    | cons h1 h2 =>
      cases h2
      cases h1 with
      | lst hs ha =>
        have e := L2.ints_dw a.1 _ ha
        subst e
        obtain ⟨cs, hl, hargs, hans, hdue⟩ := Mill.request hask
        have hc : a.1.map L2.V.int = (Mill.flat cs).map Mill.nV := by
          have hl' : a.1 = (Mill.flat cs).map (fun (n : Nat) => (n : Int)) := hl
          rw [hl', List.map_map]
          rfl
        refine ⟨_, cs, rfl, ?_, hargs, hdue, fun H' p hp => ?_⟩
        · rw [← hc]
          exact hs
        · have hd := L2.dw_ints (K := K) (H := H') (Mill.due none cs)
          rw [← hans] at hd hp
          exact .lst (L2.SqL.of hp) hd
#print axioms PySem.Challenge.cw_millhoursworks_s01_answers_holds
