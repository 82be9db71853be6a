import PyProof.Rows.All
import SctDay
import Wide.All
import OpenK.AllK
import Wide.FinOn
import Open.SpecLaws
import KE.OsGo
import HandS.ForSpec
import HandS.ForMost
import HandS.More
import HandS.SortInts
import HandS.TupLe
import HandS.Zip
import HandS.ExcInit
import HandS.ExcField
import PySem.Challenge.RW_bandays_s01_answers
import HandS.NoneIn
import HandS.Style
import HandS.Evl
import HandS.Walk
import PyWrsctd
set_option Elab.async false
set_option linter.all false
set_option maxRecDepth 100000
set_option maxHeartbeats 4000000
namespace Bd
open SctDay
/-! ### strictly rising lists -/
theorem sorted_unique : ∀ {l l' : List Nat}, l.Pairwise (· < ·) → l'.Pairwise (· < ·) → (∀ x, x ∈ l ↔ x ∈ l') → l = l'
  | [], [], _, _, _ => rfl
  | [], b :: l', _, _, m => absurd ((m b).mpr List.mem_cons_self) (by simp)
  | a :: l, [], _, _, m => absurd ((m a).mp List.mem_cons_self) (by simp)
  | a :: l, b :: l', h, h', m => by
    have h1 := List.pairwise_cons.mp h
    have h2 := List.pairwise_cons.mp h'
    have e : a = b := by
      have ma := (m a).mp List.mem_cons_self
      have mb := (m b).mpr List.mem_cons_self
      rcases List.mem_cons.mp ma with e | q
      · exact e
      · rcases List.mem_cons.mp mb with e | q2
        · exact e.symm
        · have x := h1.1 b q2
          have y := h2.1 a q
          omega
    subst e
    refine congrArg (a :: ·) (sorted_unique h1.2 h2.2 fun x => ⟨fun hx => ?_, fun hx => ?_⟩)
    · rcases List.mem_cons.mp ((m x).mp (List.mem_cons_of_mem _ hx)) with e | q
      · have := h1.1 x hx
        omega
      · exact q
    · rcases List.mem_cons.mp ((m x).mpr (List.mem_cons_of_mem _ hx)) with e | q
      · have := h2.1 x hx
        omega
      · exact q
def dd (l : List Nat) : List Nat := l.foldr (fun (t : Nat) (r : List Nat) => if r.head? = some t then r else t :: r) []
theorem dd_ok : ∀ {l : List Nat}, l.Pairwise (· ≤ ·) → (dd l).Pairwise (· < ·) ∧ ∀ x, x ∈ dd l ↔ x ∈ l
  | [], _ => ⟨List.Pairwise.nil, fun x => Iff.rfl⟩
  | a :: l, h => by
    have h1 := List.pairwise_cons.mp h
    obtain ⟨i1, i2⟩ := dd_ok h1.2
    have e : dd (a :: l) = if (dd l).head? = some a then dd l else a :: dd l := rfl
    rw [e]
    split
    · rename_i c
      refine ⟨i1, fun x => ?_⟩
      rw [i2, List.mem_cons]
      refine ⟨Or.inr, fun q => ?_⟩
      rcases q with q | q
      · subst q
        exact (i2 x).mp (List.mem_of_head? c)
      · exact q
    · rename_i c
      refine ⟨List.pairwise_cons.mpr ⟨fun b hb => ?_, i1⟩, fun x => ?_⟩
      · have le := h1.1 b ((i2 b).mp hb)
        cases hr : dd l with
        | nil => rw [hr] at hb; cases hb
        | cons d r =>
          rw [hr] at hb c i1
          have dn : d ≠ a := fun z => c (by rw [z]; rfl)
          have ld := h1.1 d ((i2 d).mp (by rw [hr]; exact List.mem_cons_self))
          rcases List.mem_cons.mp hb with e | q
          · omega
          · have := (List.pairwise_cons.mp i1).1 b q
            omega
      · rw [List.mem_cons, List.mem_cons, i2]
theorem ms_sorted (l : List Nat) : (l.mergeSort fun (a b : Nat) => decide (a ≤ b)).Pairwise (· ≤ ·) := by
  have h := List.pairwise_mergeSort (le := fun (a b : Nat) => decide (a ≤ b)) (fun a b c h1 h2 => by
    have := of_decide_eq_true h1; have := of_decide_eq_true h2; exact decide_eq_true (by omega)) (fun a b => by
    rcases Nat.le_total a b with h | h
    · rw [decide_eq_true h]; rfl
    · rw [decide_eq_true h, Bool.or_true]) l
  exact h.imp fun h => of_decide_eq_true h
theorem ms_mem (l : List Nat) (x : Nat) : x ∈ (l.mergeSort fun (a b : Nat) => decide (a ≤ b)) ↔ x ∈ l := (List.mergeSort_perm l _).mem_iff
theorem behind_sorted (n : Nat) (l : List Nat) : (behind n l).Pairwise (· < ·) := (dd_ok (ms_sorted _)).1
theorem behind_mem (n : Nat) (l : List Nat) (x : Nat) : x ∈ behind n l ↔ x ∈ l ∧ n < x ∧ x ≤ DAYS := by
  have h := (dd_ok (ms_sorted (l.filter fun (t : Nat) => decide (n < t) && decide (t ≤ DAYS)))).2 x
  refine Iff.trans h ?_
  rw [ms_mem, List.mem_filter, Bool.and_eq_true, decide_eq_true_iff, decide_eq_true_iff]
/-- all days behind one -/
def rng (n : Nat) : List Nat := List.range' (n + 1) (DAYS - n)
theorem mem_rng {n t : Nat} : t ∈ rng n ↔ n < t ∧ t ≤ DAYS := by
  unfold rng
  rw [List.mem_range'_1]
  omega
theorem rng_sorted (n : Nat) : (rng n).Pairwise (· < ·) := List.pairwise_lt_range'
theorem behind_eq (n : Nat) (l : List Nat) : behind n l = (rng n).filter fun t => decide (t ∈ l) :=
  sorted_unique (behind_sorted n l) ((rng_sorted n).filter _) fun x => by
    rw [behind_mem, List.mem_filter, mem_rng, decide_eq_true_iff]
    exact And.comm
/-! ### stretches -/
def stp (f : Nat → Nat) (r : List (Nat × Nat)) (t : Nat) : List (Nat × Nat) := if (r.getLast?.map fun (y : Nat × Nat) => y.2) = some (f t) then r else r ++ [(t, f t)]
theorem stretches_is (f : Nat → Nat) (n : Nat) (l : List Nat) : stretches f n l = (behind n l).foldl (stp f) [(n, f n)] := rfl
theorem stp_yes {f : Nat → Nat} {r : List (Nat × Nat)} {t : Nat} (h : (r.getLast?.map fun (y : Nat × Nat) => y.2) = some (f t)) : stp f r t = r := if_pos h
theorem stp_no {f : Nat → Nat} {r : List (Nat × Nat)} {t : Nat} (h : ¬ (r.getLast?.map fun (y : Nat × Nat) => y.2) = some (f t)) : stp f r t = r ++ [(t, f t)] := if_neg h
theorem stp_last (f : Nat → Nat) (r : List (Nat × Nat)) (t : Nat) : ((stp f r t).getLast?.map fun (y : Nat × Nat) => y.2) = some (f t) := by
  by_cases h : (r.getLast?.map fun (y : Nat × Nat) => y.2) = some (f t)
  · rw [stp_yes h]; exact h
  · rw [stp_no h, List.getLast?_append]
    rfl
theorem fold_filter {f : Nat → Nat} {p : Nat → Bool} : ∀ (len t0 : Nat) (r : List (Nat × Nat)), (r.getLast?.map fun (y : Nat × Nat) => y.2) = some (f t0) → (∀ t, t0 < t → t ≤ t0 + len → p t = false → f (t - 1) = f t) →
    (List.range' (t0 + 1) len).foldl (stp f) r = ((List.range' (t0 + 1) len).filter p).foldl (stp f) r
  | 0, _, _, _, _ => rfl
  | len + 1, t0, r, hl, hc => by
    rw [List.range'_succ, List.foldl_cons, List.filter_cons]
    cases hp : p (t0 + 1) with
    | true =>
      rw [if_pos rfl, List.foldl_cons]
      exact fold_filter len (t0 + 1) _ (stp_last f r (t0 + 1)) fun t h1 h2 h3 => hc t (by omega) (by omega) h3
    | false =>
      rw [if_neg Bool.false_ne_true]
      have e := hc (t0 + 1) (by omega) (by omega) hp
      have e' : f t0 = f (t0 + 1) := e
      rw [e'] at hl
      rw [stp_yes hl]
      exact fold_filter len (t0 + 1) _ hl fun t h1 h2 h3 => hc t (by omega) (by omega) h3
/-- f turns behind n at the days of l alone -/
def Turns (f : Nat → Nat) (n : Nat) (l : List Nat) : Prop := ∀ t, n < t → t ≤ DAYS → t ∉ l → f (t - 1) = f t
def full (f : Nat → Nat) (n : Nat) : List (Nat × Nat) := (rng n).foldl (stp f) [(n, f n)]
theorem stretches_full {f : Nat → Nat} {n : Nat} {l : List Nat} (h : Turns f n l) : stretches f n l = full f n := by
  rw [stretches_is, behind_eq]
  exact (fold_filter (DAYS - n) n [(n, f n)] rfl fun t h1 h2 h3 => h t h1 (by omega) (of_decide_eq_false h3)).symm
theorem Turns.more {f : Nat → Nat} {n : Nat} {l l' : List Nat} (h : Turns f n l) (s : ∀ x, x ∈ l → x ∈ l') : Turns f n l' := fun t h1 h2 h3 => h t h1 h2 fun q => h3 (s t q)
/-- as triples: first, last, way; the last ends at e -/
def tri (e : Nat) : List (Nat × Nat) → List (Nat × Nat × Nat)
  | [] => []
  | [y] => [(y.1, e, y.2)]
  | y :: z :: l => (y.1, z.1 - 1, y.2) :: tri e (z :: l)
theorem tri_snoc (e : Nat) (y : Nat × Nat) : ∀ r : List (Nat × Nat), tri e (r ++ [y]) = tri (y.1 - 1) r ++ [(y.1, e, y.2)]
  | [] => rfl
  | [x] => rfl
  | x :: z :: l => by
    have ih := tri_snoc e y (z :: l)
    show (x.1, z.1 - 1, x.2) :: tri e (z :: l ++ [y]) = (x.1, z.1 - 1, x.2) :: (tri (y.1 - 1) (z :: l) ++ [(y.1, e, y.2)])
    rw [ih]
theorem tri_len (e : Nat) : ∀ r : List (Nat × Nat), (tri e r).length = r.length
  | [] => rfl
  | [x] => rfl
  | x :: z :: l => congrArg (· + 1) (tri_len e (z :: l))
theorem tri_last (e : Nat) : ∀ r : List (Nat × Nat), (tri e r).getLast? = r.getLast?.map fun y => (y.1, e, y.2)
  | [] => rfl
  | [x] => rfl
  | x :: z :: l => by
    have ih := tri_last e (z :: l)
    show ((x.1, z.1 - 1, x.2) :: tri e (z :: l)).getLast? = ((x :: z :: l).getLast?).map _
    rw [List.getLast?_cons_cons, ← ih]
    cases hh : tri e (z :: l) with
    | nil => have := tri_len e (z :: l); rw [hh] at this; simp at this
    | cons a b => rw [List.getLast?_cons_cons]
theorem tri_set (e e' : Nat) : ∀ (r : List (Nat × Nat)) (y : Nat × Nat), r.getLast? = some y → tri e' r = (tri e r).set (r.length - 1) (y.1, e', y.2)
  | [], _, h => by cases h
  | [x], y, h => by
    cases h
    rfl
  | x :: z :: l, y, h => by
    rw [List.getLast?_cons_cons] at h
    have ih := tri_set e e' (z :: l) y h
    show (x.1, z.1 - 1, x.2) :: tri e' (z :: l) = ((x.1, z.1 - 1, x.2) :: tri e (z :: l)).set ((z :: l).length - 1 + 1) (y.1, e', y.2)
    rw [ih]
    rfl
theorem fold_from {f : Nat → Nat} {w : Nat} : ∀ (B : List Nat) (r : List (Nat × Nat)), (r.getLast?.map fun (y : Nat × Nat) => y.2) = some w →
    ∃ s, B.foldl (stp f) r = r ++ s ∧ s.head? = (B.find? fun t => f t != w).map fun t => (t, f t)
  | [], r, _ => ⟨[], by simp, rfl⟩
  | t :: B, r, h => by
    rw [List.foldl_cons, List.find?_cons]
    by_cases c : f t = w
    · rw [stp_yes (by rw [c]; exact h)]
      have e : (f t != w) = false := by rw [c]; simp
      rw [e]
      exact fold_from B r h
    · rw [stp_no (by rw [h]; exact fun z => c (Option.some.inj z).symm)]
      have e : (f t != w) = true := by simp [c]
      rw [e]
      obtain ⟨s, h1, _⟩ := fold_from (f := f) (w := f t) B (r ++ [(t, f t)]) (by rw [List.getLast?_append]; rfl)
      exact ⟨(t, f t) :: s, by rw [h1, List.append_assoc]; rfl, rfl⟩
theorem str_head (f : Nat → Nat) (n : Nat) (l : List Nat) : ∃ s, stretches f n l = (n, f n) :: s ∧ s.head? = (firstOther f n (f n) l).map fun t => (t, f t) := by
  obtain ⟨s, h1, h2⟩ := fold_from (f := f) (w := f n) (behind n l) [(n, f n)] rfl
  exact ⟨s, by rw [stretches_is, h1]; rfl, h2⟩
theorem firstOther_le {f : Nat → Nat} {n w t : Nat} {l : List Nat} (h : firstOther f n w l = some t) : n < t ∧ t ≤ DAYS := ((behind_mem n l t).mp (List.mem_of_find?_eq_some h)).2
/-- what a fold makes hangs on the last way alone -/
theorem fold_same {f : Nat → Nat} {w : Nat} : ∀ (B : List Nat) (r r' : List (Nat × Nat)), (r.getLast?.map fun (y : Nat × Nat) => y.2) = some w → (r'.getLast?.map fun (y : Nat × Nat) => y.2) = some w →
    ∃ X, B.foldl (stp f) r = r ++ X ∧ B.foldl (stp f) r' = r' ++ X ∧ (∀ x ∈ X, x.1 ∈ B)
  | [], r, r', _, _ => ⟨[], by simp, by simp, by simp⟩
  | t :: B, r, r', h, h' => by
    rw [List.foldl_cons, List.foldl_cons]
    by_cases c : f t = w
    · rw [stp_yes (by rw [c]; exact h), stp_yes (by rw [c]; exact h')]
      obtain ⟨X, a, b, d⟩ := fold_same B r r' h h'
      exact ⟨X, a, b, fun x hx => List.mem_cons_of_mem _ (d x hx)⟩
    · rw [stp_no (by rw [h]; exact fun z => c (Option.some.inj z).symm), stp_no (by rw [h']; exact fun z => c (Option.some.inj z).symm)]
      obtain ⟨X, a, b, d⟩ := fold_same (w := f t) B (r ++ [(t, f t)]) (r' ++ [(t, f t)]) (by rw [List.getLast?_append]; rfl) (by rw [List.getLast?_append]; rfl)
      refine ⟨(t, f t) :: X, by rw [a, List.append_assoc]; rfl, by rw [b, List.append_assoc]; rfl, fun x hx => ?_⟩
      rcases List.mem_cons.mp hx with e | q
      · rw [e]; exact List.mem_cons_self
      · exact List.mem_cons_of_mem _ (d x q)
/-- the starts rise -/
theorem fold_rise {f : Nat → Nat} : ∀ (B : List Nat) (r : List (Nat × Nat)), (r.map (·.1) ++ B).Pairwise (· < ·) → ((B.foldl (stp f) r).map (·.1)).Pairwise (· < ·)
  | [], r, h => by simpa using h
  | t :: B, r, h => by
    rw [List.foldl_cons]
    by_cases c : (r.getLast?.map fun (y : Nat × Nat) => y.2) = some (f t)
    · rw [stp_yes c]
      refine fold_rise B r (h.sublist ?_)
      exact List.Sublist.append (List.Sublist.refl _) (List.sublist_cons_self t B)
    · rw [stp_no c]
      refine fold_rise B _ ?_
      rw [List.map_append, List.append_assoc]
      exact h
def endOf : List (Nat × Nat) → Nat
  | [] => DAYS
  | x :: _ => x.1 - 1
theorem good_start : ∀ (X : List (Nat × Nat)) (y : Nat × Nat), y ∈ goodOnes X → ∃ x ∈ X, y.1 = x.1
  | [], y, h => by cases h
  | [x], y, h => by
    unfold goodOnes at h
    split at h
    · rw [List.mem_singleton] at h
      exact ⟨x, List.mem_singleton_self x, by rw [h]⟩
    · cases h
  | x :: z :: l, y, h => by
    unfold goodOnes at h
    split at h
    · rcases List.mem_cons.mp h with e | q
      · exact ⟨x, List.mem_cons_self, by rw [e]⟩
      · obtain ⟨u, hu, e⟩ := good_start (z :: l) y q
        exact ⟨u, List.mem_cons_of_mem _ hu, e⟩
    · obtain ⟨u, hu, e⟩ := good_start (z :: l) y h
      exact ⟨u, List.mem_cons_of_mem _ hu, e⟩
theorem good_cons (x : Nat × Nat) (X : List (Nat × Nat)) : goodOnes (x :: X) = if x.2 = 1 then (x.1, endOf X) :: goodOnes X else goodOnes X := by
  cases X <;> rfl
theorem good_find {s a w : Nat} {X : List (Nat × Nat)} (ha : a ≤ s) (hX : ∀ x ∈ X, s < x.1) (hs : s ≤ DAYS) : ∀ r0 : List (Nat × Nat), ((r0 ++ (a, w) :: X).map (·.1)).Pairwise (· < ·) →
    (goodOnes (r0 ++ (a, w) :: X)).find? (fun (y : Nat × Nat) => decide (y.1 ≤ s) && decide (s ≤ y.2)) = if w = 1 then some (a, endOf X) else none
  | [], _ => by
    show (goodOnes ((a, w) :: X)).find? _ = _
    rw [good_cons]
    by_cases c : w = 1
    · rw [if_pos c, if_pos c, List.find?_cons]
      have e : s ≤ endOf X := by
        cases X with
        | nil => exact hs
        | cons x r =>
          have := hX x List.mem_cons_self
          show s ≤ x.1 - 1
          omega
      have : (decide ((a, endOf X).1 ≤ s) && decide (s ≤ (a, endOf X).2)) = true := by
        rw [Bool.and_eq_true]
        exact ⟨decide_eq_true ha, decide_eq_true e⟩
      rw [this]
    · rw [if_neg c, if_neg c, List.find?_eq_none]
      intro y hy hq
      obtain ⟨x, hx, e⟩ := good_start X y hy
      have := hX x hx
      rw [Bool.and_eq_true, decide_eq_true_iff, decide_eq_true_iff] at hq
      omega
  | y :: r0, h => by
    rw [List.cons_append, good_cons]
    have h' : ((r0 ++ (a, w) :: X).map (·.1)).Pairwise (· < ·) ∧ ∀ z ∈ (r0 ++ (a, w) :: X).map (·.1), y.1 < z := by
      rw [List.cons_append, List.map_cons, List.pairwise_cons] at h
      exact ⟨h.2, h.1⟩
    have ih := good_find ha hX hs r0 h'.1
    by_cases c : y.2 = 1
    · rw [if_pos c, List.find?_cons]
      have e : endOf (r0 ++ (a, w) :: X) < s := by
        cases r0 with
        | nil =>
          have := h'.2 a (by simp)
          show a - 1 < s
          omega
        | cons z r =>
          have h1 := h'.2 z.1 (by simp)
          have h2 : z.1 < a := by
            have h3 := h'.1
            rw [List.cons_append, List.map_cons, List.pairwise_cons] at h3
            exact h3.1 a (by simp)
          show z.1 - 1 < s
          omega
      have : (decide ((y.1, endOf (r0 ++ (a, w) :: X)).1 ≤ s) && decide (s ≤ (y.1, endOf (r0 ++ (a, w) :: X)).2)) = false := by
        rw [decide_eq_false (p := s ≤ (y.1, endOf (r0 ++ (a, w) :: X)).2) (by show ¬ s ≤ endOf _; omega), Bool.and_false]
      rw [this]
      exact ih
    · rw [if_neg c]
      exact ih
/-- stretches from d and from a later s: those of s are d's from the one on that holds s -/
theorem full_split {f : Nat → Nat} {d s : Nat} (h1 : d ≤ s) (h2 : s ≤ DAYS) : ∃ r0 a X, full f d = r0 ++ (a, f s) :: X ∧ full f s = (s, f s) :: X ∧ a ≤ s ∧ (∀ x ∈ X, s < x.1) ∧ ((full f d).map (·.1)).Pairwise (· < ·) := by
  have e : rng d = List.range' (d + 1) (s - d) ++ rng s := by
    unfold rng
    have : s + 1 = d + 1 + (s - d) := by omega
    rw [this, List.range'_append_1]
    congr 1
    omega
  have last : ∀ (len t0 : Nat) (r : List (Nat × Nat)), (r.getLast?.map fun (y : Nat × Nat) => y.2) = some (f t0) → (∀ x ∈ r, x.1 ≤ t0) →
      (((List.range' (t0 + 1) len).foldl (stp f) r).getLast?.map fun (y : Nat × Nat) => y.2) = some (f (t0 + len)) ∧ ∀ x ∈ (List.range' (t0 + 1) len).foldl (stp f) r, x.1 ≤ t0 + len := by
    intro len
    induction len with
    | zero => exact fun t0 r h h' => ⟨h, h'⟩
    | succ len ih =>
      intro t0 r h h'
      rw [List.range'_succ, List.foldl_cons]
      have q := ih (t0 + 1) _ (stp_last f r (t0 + 1)) (fun x hx => by
        unfold stp at hx
        split at hx
        · have := h' x hx
          omega
        · rcases List.mem_append.mp hx with hx | hx
          · have := h' x hx
            omega
          · rw [List.mem_singleton] at hx
            rw [hx]
            exact Nat.le_refl _)
      rw [show t0 + 1 + len = t0 + (len + 1) by omega] at q
      exact q
  obtain ⟨q1, q2⟩ := last (s - d) d [(d, f d)] rfl (by simp)
  rw [show d + (s - d) = s by omega] at q1 q2
  have hd : full f d = (rng s).foldl (stp f) ((List.range' (d + 1) (s - d)).foldl (stp f) [(d, f d)]) := by
    unfold full
    rw [e, List.foldl_append]
  obtain ⟨X, a1, a2, a3⟩ := fold_same (f := f) (w := f s) (rng s) ((List.range' (d + 1) (s - d)).foldl (stp f) [(d, f d)]) [(s, f s)] q1 rfl
  cases hl : ((List.range' (d + 1) (s - d)).foldl (stp f) [(d, f d)]).getLast? with
  | none => rw [hl] at q1; cases q1
  | some y =>
    rw [hl] at q1
    have ey : y.2 = f s := Option.some.inj q1
    obtain ⟨r0, er⟩ : ∃ r0, (List.range' (d + 1) (s - d)).foldl (stp f) [(d, f d)] = r0 ++ [y] := List.getLast?_eq_some_iff.mp hl
    refine ⟨r0, y.1, X, ?_, ?_, q2 y (List.mem_of_getLast? hl), fun x hx => (mem_rng.mp (a3 x hx)).1, ?_⟩
    · rw [hd, a1, er, List.append_assoc]
      rw [← ey]
      rfl
    · unfold full
      rw [a2]
      rfl
    · unfold full
      refine fold_rise _ _ ?_
      show ((d :: rng d)).Pairwise (· < ·)
      exact List.pairwise_cons.mpr ⟨fun x hx => (mem_rng.mp hx).1, rng_sorted d⟩
/-- goodOnes by the triples -/
theorem good_tri : ∀ S : List (Nat × Nat), goodOnes S = ((tri DAYS S).filter fun y => decide (y.2.2 = 1)).map fun y => (y.1, y.2.1)
  | [] => rfl
  | [y] => by
    unfold goodOnes tri
    by_cases c : y.2 = 1
    · rw [if_pos c, List.filter_cons, if_pos (decide_eq_true c)]
      rfl
    · rw [if_neg c, List.filter_cons, if_neg (by simp [c])]
      rfl
  | y :: z :: l => by
    have ih := good_tri (z :: l)
    unfold tri
    rw [List.filter_cons]
    have e := good_cons y (z :: l)
    rw [e]
    by_cases c : y.2 = 1
    · rw [if_pos c, if_pos (decide_eq_true c), ih]
      rfl
    · rw [if_neg c, if_neg (by simp [c]), ih]
end Bd
namespace Bd
open SctDay
/-! ### what rules -/
abbrev AN := Amendment × Nat
def pick (o : Option AN) (y : AN) : Option AN := match o with
  | none => some y
  | some z => if z.1.known ≤ y.1.known then some y else some z
def cand (k c d s x : Nat) (a : Amendment) : Bool := a.k == k && (a.isKnown x && a.binds c d s)
def rul (k c d s x : Nat) (L : List AN) (m : List Nat) : Option AN := (L.filter fun y => y.1.of_ == m && cand k c d s x y.1).foldl pick none
theorem foldl_congr_fun {α β : Type} {f g : β → α → β} (h : ∀ b a, f b a = g b a) : ∀ (l : List α) (b : β), l.foldl f b = l.foldl g b
  | [], _ => rfl
  | a :: l, b => by rw [List.foldl_cons, List.foldl_cons, h, foldl_congr_fun h]
theorem ruler_is (l : List Amendment) (a : Amendment) (c d s x : Nat) : ruler l a c d s x = (rul a.k c d s x l.zipIdx a.of_).map (·.2) := by
  unfold ruler rul
  have e : (fun (y : Amendment × Nat) => y.1.same a && (y.1.isKnown x && y.1.binds c d s)) = fun y : AN => y.1.of_ == a.of_ && cand a.k c d s x y.1 := by
    funext y
    show ((y.1.k == a.k && y.1.of_ == a.of_) && (y.1.isKnown x && y.1.binds c d s)) = (y.1.of_ == a.of_ && (y.1.k == a.k && (y.1.isKnown x && y.1.binds c d s)))
    cases y.1.k == a.k <;> cases y.1.of_ == a.of_ <;> rfl
  rw [e]
  rfl
theorem rul_nil {k c d s x : Nat} {m : List Nat} : rul k c d s x [] m = none := rfl
theorem rul_snoc {k c d s x : Nat} {L : List AN} {y : AN} {m : List Nat} : rul k c d s x (L ++ [y]) m = if (y.1.of_ == m && cand k c d s x y.1) = true then pick (rul k c d s x L m) y else rul k c d s x L m := by
  unfold rul
  rw [List.filter_append, List.foldl_append, List.filter_cons]
  split
  · rfl
  · rfl
theorem pick_mem {L : List AN} : ∀ (l : List AN) (o : Option AN) (y : AN), (∀ z, o = some z → z ∈ L) → (∀ z ∈ l, z ∈ L) → l.foldl pick o = some y → y ∈ L
  | [], o, y, ho, _, h => ho y h
  | a :: l, o, y, ho, hl, h => by
    rw [List.foldl_cons] at h
    refine pick_mem l (pick o a) y (fun z hz => ?_) (fun z hz => hl z (List.mem_cons_of_mem _ hz)) h
    cases o with
    | none =>
      have : a = z := Option.some.inj hz
      rw [← this]; exact hl a List.mem_cons_self
    | some b =>
      have hz' : (if b.1.known ≤ a.1.known then some a else some b) = some z := hz
      split at hz'
      · rw [← Option.some.inj hz']; exact hl a List.mem_cons_self
      · rw [← Option.some.inj hz']; exact ho b rfl
theorem rul_mem {k c d s x : Nat} {L : List AN} {m : List Nat} {y : AN} (h : rul k c d s x L m = some y) : y ∈ L ∧ y.1.of_ = m ∧ cand k c d s x y.1 = true := by
  have q := pick_mem (L := L.filter fun y => y.1.of_ == m && cand k c d s x y.1) _ none y (fun z hz => by cases hz) (fun z hz => hz) h
  rw [List.mem_filter, Bool.and_eq_true] at q
  exact ⟨q.1, eq_of_beq q.2.1, q.2.2⟩
theorem mem_zipIdx {l : List Amendment} {y : AN} : y ∈ l.zipIdx ↔ l[y.2]? = some y.1 := by
  obtain ⟨a, n⟩ := y
  exact List.mem_zipIdx_iff_getElem?
def lims (l : List Amendment) (k c d s x : Nat) : List Nat := (limits l k c d s x).map (·.1)
theorem zip_sorted : ∀ (l : List Amendment) (n : Nat), ((l.zipIdx n).map (·.2)).Pairwise (· < ·) := fun l n => by
  rw [List.zipIdx_map_snd]
  exact List.pairwise_lt_range'
theorem lims_sorted (l : List Amendment) (k c d s x : Nat) : (lims l k c d s x).Pairwise (· < ·) := by
  unfold lims limits
  rw [List.map_map]
  have e : ((fun (x : Nat × Amendment) => x.1) ∘ fun (y : Amendment × Nat) => (y.2, y.1)) = fun y : AN => y.2 := rfl
  rw [e]
  exact (zip_sorted l 0).sublist (List.Sublist.map _ List.filter_sublist)
theorem limits_mem {l : List Amendment} {k c d s x : Nat} {y : Nat × Amendment} : y ∈ limits l k c d s x ↔ l[y.1]? = some y.2 ∧ y.2.repeal = false ∧ rul k c d s x l.zipIdx y.2.of_ = some (y.2, y.1) := by
  obtain ⟨n, a⟩ := y
  unfold limits
  rw [List.mem_map]
  constructor
  · rintro ⟨z, hz, e⟩
    obtain ⟨b, j⟩ := z
    have e' : (j, b) = (n, a) := e
    cases e'
    rw [List.mem_filter] at hz
    obtain ⟨h1, h2⟩ := hz
    have h1' := mem_zipIdx.mp h1
    rw [Bool.and_eq_true, Bool.and_eq_true] at h2
    obtain ⟨h3, h4, h5⟩ := h2
    have h3' : a.k = k := eq_of_beq h3
    have h5' := eq_of_beq h5
    rw [ruler_is, h3'] at h5'
    cases hr : rul k c d s x l.zipIdx a.of_ with
    | none => rw [hr] at h5'; cases h5'
    | some z =>
      rw [hr] at h5'
      have e2 : z.2 = n := Option.some.inj h5'
      have m1 := mem_zipIdx.mp (rul_mem hr).1
      rw [e2] at m1
      have e1 : z.1 = a := Option.some.inj (m1.symm.trans h1')
      refine ⟨h1', by simpa using h4, ?_⟩
      show some z = some (a, n)
      rw [← e1, ← e2]
  · rintro ⟨h1, h2, h3⟩
    have h1 : l[n]? = some a := h1
    have h2 : a.repeal = false := h2
    have h3 : rul k c d s x l.zipIdx a.of_ = some (a, n) := h3
    refine ⟨(a, n), ?_, rfl⟩
    rw [List.mem_filter]
    refine ⟨mem_zipIdx.mpr h1, ?_⟩
    have q := (rul_mem h3).2.2
    unfold cand at q
    rw [Bool.and_eq_true] at q
    have ek : a.k = k := eq_of_beq q.1
    show (a.k == k && (!a.repeal && ruler l a c d s x == some n)) = true
    rw [ruler_is, ek, h3, h2]
    simp
theorem lims_mem {l : List Amendment} {k c d s x n : Nat} : n ∈ lims l k c d s x ↔ ∃ m y, rul k c d s x l.zipIdx m = some y ∧ y.2 = n ∧ y.1.repeal = false := by
  unfold lims
  rw [List.mem_map]
  constructor
  · rintro ⟨y, hy, e⟩
    obtain ⟨h1, h2, h3⟩ := limits_mem.mp hy
    exact ⟨_, _, h3, e, h2⟩
  · rintro ⟨m, y, h1, h2, h3⟩
    obtain ⟨q1, q2, q3⟩ := rul_mem h1
    refine ⟨(y.2, y.1), limits_mem.mpr ⟨mem_zipIdx.mp q1, h3, ?_⟩, h2⟩
    show rul k c d s x l.zipIdx y.1.of_ = some (y.1, y.2)
    rw [q2]
    exact h1
/-! ### sums -/
def low1 (holds : List (Nat × Nat × Nat)) (s : Nat) : Nat × Nat := ((holds.find? fun h => decide (h.1 = s)).map (·.2)).getD (0, 0)
theorem sumN_nil : SctBase.sumN [] = 0 := rfl
theorem sumN_cons (a : Nat) (l : List Nat) : SctBase.sumN (a :: l) = a + SctBase.sumN l := rfl
theorem sumN_append (l l' : List Nat) : SctBase.sumN (l ++ l') = SctBase.sumN l + SctBase.sumN l' := by
  induction l with
  | nil => rw [List.nil_append, sumN_nil, Nat.zero_add]
  | cons a l ih => rw [List.cons_append, sumN_cons, sumN_cons, ih]; omega
theorem sum_not {h : Nat × Nat × Nat} {r : List (Nat × Nat × Nat)} {p : Nat × Nat → Nat} : ∀ ts : List Nat, h.1 ∉ ts → SctBase.sumN (ts.map fun s => p (low1 (h :: r) s)) = SctBase.sumN (ts.map fun s => p (low1 r s))
  | [], _ => rfl
  | t :: ts, hn => by
    rw [List.mem_cons, not_or] at hn
    rw [List.map_cons, List.map_cons, sumN_cons, sumN_cons, sum_not ts hn.2]
    have e : low1 (h :: r) t = low1 r t := by
      unfold low1
      rw [List.find?_cons, decide_eq_false hn.1]
    rw [e]
theorem sum_in {h : Nat × Nat × Nat} {r : List (Nat × Nat × Nat)} {p : Nat × Nat → Nat} (hp : p (0, 0) = 0) (hr : h.1 ∉ r.map (·.1)) : ∀ ts : List Nat, ts.Nodup → h.1 ∈ ts →
    SctBase.sumN (ts.map fun s => p (low1 (h :: r) s)) = p h.2 + SctBase.sumN (ts.map fun s => p (low1 r s))
  | [], _, hi => by cases hi
  | t :: ts, nd, hi => by
    rw [List.nodup_cons] at nd
    rw [List.map_cons, List.map_cons, sumN_cons, sumN_cons]
    by_cases c : h.1 = t
    · rw [sum_not ts (by rw [c]; exact nd.1)]
      have e : low1 (h :: r) t = h.2 := by
        unfold low1
        rw [List.find?_cons, decide_eq_true c]
        rfl
      have e2 : low1 r t = (0, 0) := by
        unfold low1
        have : (r.find? fun h => decide (h.1 = t)) = none := by
          rw [List.find?_eq_none]
          intro y hy hq
          exact hr (by rw [c, ← of_decide_eq_true hq]; exact List.mem_map_of_mem hy)
        rw [this]
        rfl
      rw [e, e2, hp]
      omega
    · rcases List.mem_cons.mp hi with e | hi
      · exact absurd e c
      · rw [sum_in hp hr ts nd.2 hi]
        have e : low1 (h :: r) t = low1 r t := by
          unfold low1
          rw [List.find?_cons, decide_eq_false c]
        rw [e]
        omega
theorem sum_holds {p : Nat × Nat → Nat} (hp : p (0, 0) = 0) {ts of_ : List Nat} (nd : ts.Nodup) (hm : ∀ s, s ∈ of_ ↔ s ∈ ts) : ∀ holds : List (Nat × Nat × Nat), (holds.map (·.1)).Nodup →
    SctBase.sumN (ts.map fun s => p (low1 holds s)) = SctBase.sumN ((holds.filter fun (h : Nat × Nat × Nat) => of_.contains h.1).map fun h => p h.2)
  | [], _ => by
    show SctBase.sumN (ts.map fun s => p (0, 0)) = 0
    rw [hp]
    clear nd hm
    induction ts with
    | nil => rfl
    | cons t ts ih => rw [List.map_cons, sumN_cons, ih]
  | h :: r, hn => by
    rw [List.map_cons, List.nodup_cons] at hn
    rw [List.filter_cons]
    have ih := sum_holds hp nd hm r hn.2
    by_cases c : h.1 ∈ ts
    · rw [if_pos (by rw [List.contains_iff_mem]; exact (hm _).mpr c), List.map_cons, sumN_cons, sum_in hp hn.1 ts nd c, ih]
    · rw [if_neg (by rw [List.contains_iff_mem]; exact fun z => c ((hm _).mp z)), sum_not ts c, ih]
theorem low_is {g : Goods} {ts of_ : List Nat} (nd : ts.Nodup) (hm : ∀ s, s ∈ of_ ↔ s ∈ ts) (hn : (g.holds.map (·.1)).Nodup) : SctBase.sumN (ts.map fun s => (low1 g.holds s).1) = g.low of_ := sum_holds (p := fun q => q.1) rfl nd hm g.holds hn
theorem high_is {g : Goods} {ts of_ : List Nat} (nd : ts.Nodup) (hm : ∀ s, s ∈ of_ ↔ s ∈ ts) (hn : (g.holds.map (·.1)).Nodup) : SctBase.sumN (ts.map fun s => (low1 g.holds s).2) = g.high of_ := sum_holds (p := fun q => q.2) rfl nd hm g.holds hn
theorem low_le_high {g : Goods} (h : ∀ y ∈ g.holds, y.2.1 ≤ y.2.2) (l : List Nat) : g.low l ≤ g.high l := by
  unfold Goods.low Goods.high
  have : ∀ r : List (Nat × Nat × Nat), (∀ y ∈ r, y.2.1 ≤ y.2.2) → SctBase.sumN (r.map fun (h : Nat × Nat × Nat) => h.2.1) ≤ SctBase.sumN (r.map fun (h : Nat × Nat × Nat) => h.2.2) := by
    intro r
    induction r with
    | nil => exact fun _ => Nat.le_refl _
    | cons y r ih =>
      intro hr
      rw [List.map_cons, List.map_cons, sumN_cons, sumN_cons]
      have a := hr y List.mem_cons_self
      have b := ih fun z hz => hr z (List.mem_cons_of_mem _ hz)
      omega
  exact this _ fun y hy => h y (List.mem_filter.mp hy).1
/-! ### the way -/
def wayLoop (g : Goods) (x : Nat) : List (Nat × Amendment) → Nat → Nat
  | [], w => w
  | y :: r, w => if y.2.limitOn x < g.low y.2.of_ then 0 else wayLoop g x r (if y.2.limitOn x < g.high y.2.of_ then 2 else w)
theorem wayLoop_is (g : Goods) (x : Nat) : ∀ (r : List (Nat × Amendment)) (w : Nat), wayLoop g x r w =
    if r.any (fun (y : Nat × Amendment) => decide (y.2.limitOn x < g.low y.2.of_)) = true then 0 else if r.all (fun (y : Nat × Amendment) => decide (g.high y.2.of_ ≤ y.2.limitOn x)) = true then w else 2
  | [], w => rfl
  | y :: r, w => by
    unfold wayLoop
    rw [List.any_cons, List.all_cons, wayLoop_is g x r]
    by_cases c : y.2.limitOn x < g.low y.2.of_
    · rw [if_pos c, decide_eq_true c, Bool.true_or, if_pos rfl]
    · rw [if_neg c, decide_eq_false c, Bool.false_or]
      by_cases e : y.2.limitOn x < g.high y.2.of_
      · rw [if_pos e, decide_eq_false (show ¬ g.high y.2.of_ ≤ y.2.limitOn x by omega), Bool.false_and]
        split
        · rfl
        · rw [ite_self]
          rfl
      · rw [if_neg e, decide_eq_true (show g.high y.2.of_ ≤ y.2.limitOn x by omega), Bool.true_and]
theorem way_loop {g : Goods} (h : ∀ y ∈ g.holds, y.2.1 ≤ y.2.2) (l : List Amendment) (d s x : Nat) : way l g d s x = wayLoop g x (limits l g.k g.first d s x) 1 := by
  rw [wayLoop_is]
  show (if (limits l g.k g.first d s x).all (fun (y : Nat × Amendment) => decide (g.high y.2.of_ ≤ y.2.limitOn x)) = true then 1
    else if (limits l g.k g.first d s x).any (fun (y : Nat × Amendment) => decide (y.2.limitOn x < g.low y.2.of_)) = true then 0 else 2) = _
  by_cases c : (limits l g.k g.first d s x).all (fun (y : Nat × Amendment) => decide (g.high y.2.of_ ≤ y.2.limitOn x)) = true
  · rw [if_pos c, if_pos c, if_neg]
    intro q
    obtain ⟨y, hy, e⟩ := List.any_eq_true.mp q
    have a := List.all_eq_true.mp c y hy
    have b := low_le_high h y.2.of_
    have e' := of_decide_eq_true e
    have a' := of_decide_eq_true a
    omega
  · rw [if_neg c, if_neg c]
theorem way_le (l : List Amendment) (g : Goods) (d s x : Nat) : way l g d s x ≤ 2 := by
  unfold way
  dsimp only
  split
  · decide
  · split
    · decide
    · decide
/-- the way hangs on what binds alone -/
theorem way_congr {l : List Amendment} {g : Goods} {d s d' s' x : Nat} (h : ∀ a ∈ l, a.binds g.first d s = a.binds g.first d' s') : way l g d s x = way l g d' s' x := by
  have e : ∀ b : Amendment, ruler l b g.first d s x = ruler l b g.first d' s' x := fun b => by
    rw [ruler_is, ruler_is]
    unfold rul
    have q : l.zipIdx.filter (fun y => y.1.of_ == b.of_ && cand b.k g.first d s x y.1) = l.zipIdx.filter (fun y => y.1.of_ == b.of_ && cand b.k g.first d' s' x y.1) := by
      refine List.filter_congr fun y hy => ?_
      unfold cand
      rw [h y.1 (List.mem_of_getElem? (mem_zipIdx.mp hy))]
    rw [q]
  have e2 : limits l g.k g.first d s x = limits l g.k g.first d' s' x := by
    unfold limits
    have q : (fun (y : Amendment × Nat) => y.1.k == g.k && (!y.1.repeal && ruler l y.1 g.first d s x == some y.2)) = fun (y : Amendment × Nat) => y.1.k == g.k && (!y.1.repeal && ruler l y.1 g.first d' s' x == some y.2) := by
      funext y
      rw [e]
    rw [q]
  unfold way
  rw [e2]
/-- what a repeal has besides -/
def RepOk (a : Amendment) : Prop := a.repeal = true → a.new = a.sold ∧ a.made = a.sold ∧ a.most = 0 ∧ a.fixes = []
def solds (l : List Amendment) : List Nat := l.map (·.sold)
theorem way_turns {l : List Amendment} (hl : ∀ a ∈ l, RepOk a) (g : Goods) (d x n : Nat) : Turns (fun s => way l g d s x) n (solds l) := fun t h1 h2 h3 => way_congr fun a ha => by
  have hs : a.sold ≠ t := fun e => h3 (by rw [← e]; exact List.mem_map_of_mem ha)
  unfold Amendment.binds
  cases hr : a.repeal with
  | true =>
    have := (hl a ha hr).1
    rw [if_pos rfl, if_pos rfl, this]
    by_cases c : a.sold ≤ t - 1
    · rw [decide_eq_true c, decide_eq_true (by omega)]
    · rw [decide_eq_false c, decide_eq_false (by omega)]
  | false =>
    rw [if_neg Bool.false_ne_true, if_neg Bool.false_ne_true]
    by_cases c : a.sold ≤ t - 1
    · rw [decide_eq_true c, decide_eq_true (show a.sold ≤ t by omega)]
    · rw [decide_eq_false c, decide_eq_false (show ¬ a.sold ≤ t by omega)]
theorem solds_turns {l : List Amendment} : ∀ x, x ∈ solds l → x ∈ turns l := fun x hx => by
  obtain ⟨a, ha, e⟩ := List.mem_map.mp hx
  unfold turns
  rw [List.mem_flatMap]
  exact ⟨a, ha, by rw [← e]; simp⟩
theorem sell_eq {l : List Amendment} (hl : ∀ a ∈ l, RepOk a) (g : Goods) (d x n : Nat) : stretches (fun s => way l g d s x) n (solds l) = stretches (fun s => way l g d s x) n (turns l) :=
  (stretches_full (way_turns hl g d x n)).trans (stretches_full ((way_turns hl g d x n).more solds_turns)).symm
end Bd
namespace Bd
open SctDay
/-! ### the limit -/
def limS (x : Nat) (s : Int × Nat) (f : Nat × Nat) : Int × Nat := if s.1 ≤ (f.1 : Int) ∧ f.1 ≤ x then ((f.1 : Int), f.2) else s
theorem lim_fold (x : Nat) : ∀ (fs : List (Nat × Nat)) (s : Int × Nat) (b : Nat × Nat), s.2 = b.2 → (s.1 = (b.1 : Int) ∨ (s.1 = -1 ∧ b.1 = 0)) →
    (fs.foldl (limS x) s).2 = ((fs.filter fun (f : Nat × Nat) => decide (f.1 ≤ x)).foldl (fun (b f : Nat × Nat) => if b.1 ≤ f.1 then f else b) b).2
  | [], s, b, h, _ => h
  | f :: fs, s, b, h, h' => by
    rw [List.foldl_cons, List.filter_cons]
    by_cases c : f.1 ≤ x
    · rw [if_pos (decide_eq_true c), List.foldl_cons]
      by_cases d : b.1 ≤ f.1
      · have e : s.1 ≤ (f.1 : Int) ∧ f.1 ≤ x := ⟨by omega, c⟩
        rw [show limS x s f = ((f.1 : Int), f.2) from if_pos e, if_pos d]
        exact lim_fold x fs _ _ rfl (.inl rfl)
      · have e : ¬ (s.1 ≤ (f.1 : Int) ∧ f.1 ≤ x) := by omega
        rw [show limS x s f = s from if_neg e, if_neg d]
        exact lim_fold x fs _ _ h h'
    · rw [if_neg (by simp [c])]
      have e : ¬ (s.1 ≤ (f.1 : Int) ∧ f.1 ≤ x) := by omega
      rw [show limS x s f = s from if_neg e]
      exact lim_fold x fs _ _ h h'
theorem lim_is (a : Amendment) (x : Nat) : (a.fixes.foldl (limS x) (-1, a.most)).2 = a.limitOn x := lim_fold x a.fixes (-1, a.most) (0, a.most) rfl (.inr ⟨rfl, rfl⟩)
theorem fold_take {α β : Type} {f : β → α → β} {l : List α} {b : β} {i : Nat} {x : α} (h : l[i]? = some x) : (l.take (i + 1)).foldl f b = f ((l.take i).foldl f b) x := by
  rw [List.take_add_one, h, List.foldl_append]
  rfl
/-- ints that rise -/
theorem rise_unique {l l' : List Int} (h : l.Pairwise (· ≤ ·)) (h' : l'.Pairwise (· ≤ ·)) (p : l.Perm l') : l = l' := by
  induction l generalizing l' with
  | nil => exact (List.nil_perm.mp p).symm
  | cons a l ih =>
    cases l' with
    | nil => exact absurd p.length_eq (by simp)
    | cons b l' =>
      have h1 := List.pairwise_cons.mp h
      have h2 := List.pairwise_cons.mp h'
      have e : a = b := by
        rcases List.mem_cons.mp (p.mem_iff.mp List.mem_cons_self) with e | q
        · exact e
        · rcases List.mem_cons.mp (p.mem_iff.mpr List.mem_cons_self) with e | q2
          · exact e.symm
          · have := h1.1 b q2
            have := h2.1 a q
            omega
      subst e
      rw [ih h1.2 h2.2 p.cons_inv]
theorem rise_nat {l : List Nat} (h : l.Pairwise (· < ·)) : (l.map fun (n : Nat) => (n : Int)).Pairwise (· ≤ ·) := List.pairwise_map.mpr (h.imp fun h => by omega)
theorem sorted_is {ns' : List Int} {ts of_ : List Nat} (p : ns'.Perm (ts.map fun (n : Nat) => (n : Int))) (h : ns'.Pairwise (· ≤ ·)) (q : ts.Perm of_) (r : of_.Pairwise (· < ·)) : ns' = of_.map fun (n : Nat) => (n : Int) :=
  rise_unique h (rise_nat r) (p.trans (q.map _))
end Bd
namespace Bd
open SctDay
theorem tri_head (e : Nat) (z : Nat × Nat) (r : List (Nat × Nat)) : ∃ e2 L2, tri e (z :: r) = (z.1, e2, z.2) :: L2 := by
  cases r with
  | nil => exact ⟨e, [], rfl⟩
  | cons y r => exact ⟨y.1 - 1, tri e (y :: r), rfl⟩
theorem tri_first (f : Nat → Nat) (n : Nat) (l : List Nat) : ∃ e L', tri DAYS (stretches f n l) = (n, e, f n) :: L' ∧ (firstOther f n (f n) l = none → e = DAYS ∧ L' = []) ∧
    ∀ t, firstOther f n (f n) l = some t → e = t - 1 ∧ e < DAYS ∧ ∃ e2 L2, L' = (t, e2, f t) :: L2 := by
  obtain ⟨s, h1, h2⟩ := str_head f n l
  rw [h1]
  cases s with
  | nil =>
    refine ⟨DAYS, [], rfl, fun _ => ⟨rfl, rfl⟩, fun t ht => ?_⟩
    rw [ht] at h2
    cases h2
  | cons z r =>
    obtain ⟨e2, L2, h3⟩ := tri_head DAYS z r
    refine ⟨z.1 - 1, (z.1, e2, z.2) :: L2, ?_, fun h => ?_, fun t ht => ?_⟩
    · show (n, z.1 - 1, f n) :: tri DAYS (z :: r) = _
      rw [h3]
    · rw [h] at h2
      cases h2
    · rw [ht] at h2
      have ez : z = (t, f t) := Option.some.inj h2
      have q := firstOther_le ht
      subst ez
      refine ⟨rfl, ?_, e2, L2, rfl⟩
      show t - 1 < DAYS
      omega
theorem first_end {f : Nat → Nat} {s w e : Nat} {X : List (Nat × Nat)} {L' : List (Nat × Nat × Nat)} (h : tri DAYS ((s, w) :: X) = (s, e, w) :: L') : e = endOf X := by
  cases X with
  | nil =>
    have q : (s, DAYS, w) = (s, e, w) := (List.cons.inj h).1
    exact (Prod.mk.inj (Prod.mk.inj q).2).1.symm
  | cons z r =>
    have q : (s, z.1 - 1, w) = (s, e, w) := (List.cons.inj h).1
    exact (Prod.mk.inj (Prod.mk.inj q).2).1.symm
/-- what is left, by the first stretch from s on -/
theorem left_is {S : State} (hl : ∀ a ∈ S.law, RepOk a) (g : Goods) {d n r s x e : Nat} {L' : List (Nat × Nat × Nat)} (h1 : d ≤ s) (h2 : s ≤ DAYS)
    (h : tri DAYS (stretches (S.wayOf g d x) s (turns S.law)) = (s, e, S.wayOf g d x s) :: L') : S.leftOf g d n r s x = if S.wayOf g d x s = 1 then n - r * (e + 1 - s) else n := by
  have T : ∀ k, Turns (S.wayOf g d x) k (turns S.law) := fun k => (way_turns hl g d x k).more solds_turns
  obtain ⟨r0, a, X, q1, q2, q3, q4, q5⟩ := full_split (f := S.wayOf g d x) h1 h2
  rw [stretches_full (T s), q2] at h
  have ee := first_end (f := S.wayOf g d x) h
  unfold State.leftOf State.goodDays
  rw [stretches_full (T d), q1]
  rw [q1] at q5
  rw [good_find q3 q4 h2 r0 q5]
  by_cases c : S.wayOf g d x s = 1
  · rw [if_pos c, if_pos c, ee]
  · rw [if_neg c, if_neg c]
def latLoop (k : Int) (o : Int) (y : Nat × Nat × Nat) : Int := if y.2.2 = 1 ∧ k ≤ (y.2.1 : Int) - y.1 + 1 then (y.2.1 : Int) - k + 1 else o
theorem lat_fold (k : Nat) : ∀ (L : List (Nat × Nat × Nat)) (o : Int), L.foldl (latLoop k) o =
    match ((((L.filter fun y => decide (y.2.2 = 1)).map fun y => (y.1, y.2.1)).filter fun (y : Nat × Nat) => decide (y.1 + k ≤ y.2 + 1)).getLast?).map fun (y : Nat × Nat) => y.2 + 1 - k with
    | none => o
    | some v => (v : Int)
  | [], o => rfl
  | y :: L, o => by
    rw [List.foldl_cons, lat_fold k L, List.filter_cons]
    by_cases c : y.2.2 = 1
    · rw [if_pos (decide_eq_true c), List.map_cons, List.filter_cons]
      by_cases d : y.1 + k ≤ y.2.1 + 1
      · have e : latLoop k o y = ((y.2.1 + 1 - k : Nat) : Int) := by
          unfold latLoop
          rw [if_pos ⟨c, by omega⟩]
          omega
        rw [e, if_pos (by simpa using d), List.getLast?_cons]
        cases ((L.filter fun y => decide (y.2.2 = 1)).map fun y => (y.1, y.2.1)).filter (fun (y : Nat × Nat) => decide (y.1 + k ≤ y.2 + 1)) with
        | nil => rfl
        | cons a r => rw [List.getLast?_cons]; rfl
      · have e : latLoop k o y = o := by
          unfold latLoop
          rw [if_neg (by rintro ⟨_, q⟩; omega)]
        rw [e, if_neg (by simpa using d)]
    · have e : latLoop k o y = o := by
        unfold latLoop
        rw [if_neg (fun q => c q.1)]
      rw [e, if_neg (by simpa using c)]
theorem latest_is (S : State) (g : Goods) (d n r x : Nat) : (tri DAYS (stretches (S.wayOf g d x) d (turns S.law))).foldl (latLoop (takes n r : Nat)) (-1) = match S.latestOf g d n r x with
    | none => -1
    | some v => (v : Int) := by
  rw [lat_fold]
  unfold State.latestOf State.goodDays
  rw [good_tri]
theorem ceil_is (N r q m : Int) (hr : 0 < r) (h : q * r + m = -N) (h0 : 0 ≤ m) (h1 : m < r) : -q = (N + r - 1) / r := by
  have e1 : (-q) * r = -(q * r) := Int.neg_mul _ _
  have e : N + r - 1 = (r - 1 - m) + (-q) * r := by rw [e1]; omega
  rw [e, Int.add_mul_ediv_right _ _ (by omega), Int.ediv_eq_zero_of_lt (by omega) (by omega), Int.zero_add]
theorem takes_is (n r : Nat) (hr : 1 ≤ r) : -(Int.fdiv (-(n : Int)) (r : Int)) = ((takes n r : Nat) : Int) := by
  unfold takes
  rw [Int.fdiv_eq_ediv_of_nonneg _ (by omega)]
  have h1 : (((n + r - 1) / r : Nat) : Int) = ((n + r - 1 : Nat) : Int) / (r : Int) := Int.natCast_ediv _ _
  have h2 : ((n + r - 1 : Nat) : Int) = (n : Int) + r - 1 := by omega
  rw [h1, h2]
  exact ceil_is (n : Int) r _ _ (by omega) (Int.ediv_mul_add_emod (-(n : Int)) r) (Int.emod_nonneg _ (by omega)) (Int.emod_lt_of_pos _ (by omega))
/-! ### rows -/
theorem at_mem {α : Type} {l : Rows α} {n : Nat} {x : α} (h : l.at_ n = some x) : (n, x) ∈ l := by
  unfold Rows.at_ at h
  cases hf : l.find? fun (x : Nat × α) => x.1 == n with
  | none => rw [hf] at h; cases h
  | some y =>
    rw [hf] at h
    have e : y.2 = x := Option.some.inj h
    have e2 : y.1 = n := by simpa using List.find?_some hf
    have m := List.mem_of_find?_eq_some hf
    rw [← e, ← e2]
    exact m
theorem at_of {α : Type} : ∀ {l : Rows α} {n : Nat} {x : α}, (l.map (·.1)).Pairwise (· < ·) → (n, x) ∈ l → l.at_ n = some x
  | [], _, _, _, h => by cases h
  | y :: l, n, x, hs, h => by
    rw [List.map_cons, List.pairwise_cons] at hs
    unfold Rows.at_
    rw [List.find?_cons]
    rcases List.mem_cons.mp h with e | h
    · subst e
      rw [show ((n, x).1 == n) = true from beq_self_eq_true n]
      rfl
    · have := hs.1 n (List.mem_map_of_mem (f := fun y : Nat × α => y.1) h)
      rw [show (y.1 == n) = false from beq_eq_false_iff_ne.mpr (by omega)]
      exact at_of hs.2 h
theorem at_none {α : Type} {l : Rows α} {n : Nat} : l.at_ n = none ↔ n ∉ l.map (·.1) := by
  unfold Rows.at_
  rw [Option.map_eq_none_iff, List.find?_eq_none]
  constructor
  · intro h q
    obtain ⟨y, hy, e⟩ := List.mem_map.mp q
    exact h y hy (by rw [e]; exact beq_self_eq_true n)
  · intro h y hy q
    exact h (List.mem_map.mpr ⟨y, hy, by simpa using q⟩)
theorem put_at {α : Type} (n : Nat) (x : α) : ∀ (l : Rows α) (m : Nat), (Rows.put n x l).at_ m = if m = n then some x else l.at_ m
  | [], m => by
    show (([(n, x)] : List (Nat × α)).find? (fun y => y.1 == m)).map (·.2) = _
    by_cases c : m = n
    · rw [if_pos c, List.find?_cons, show ((n, x).1 == m) = true from by rw [c]; exact beq_self_eq_true n]
      rfl
    · rw [if_neg c, List.find?_cons, show ((n, x).1 == m) = false from beq_eq_false_iff_ne.mpr (fun z => c z.symm)]
      rfl
  | y :: l, m => by
    unfold Rows.put
    have cons : ∀ (z : Nat × α) (r : Rows α) (k : Nat), Rows.at_ (z :: r) k = if z.1 = k then some z.2 else Rows.at_ r k := fun z r k => by
      unfold Rows.at_
      rw [List.find?_cons]
      by_cases c : z.1 = k
      · rw [if_pos c, show (z.1 == k) = true from by rw [c]; exact beq_self_eq_true k]
        rfl
      · rw [if_neg c, show (z.1 == k) = false from beq_eq_false_iff_ne.mpr c]
    split
    · rw [cons (n, x)]
      show (if n = m then some x else _) = _
      by_cases c : m = n
      · rw [if_pos c.symm, if_pos c]
      · rw [if_neg (fun z => c z.symm), if_neg c]
    · split
      · rename_i h1 h2
        rw [cons (n, x), cons y]
        show (if n = m then some x else _) = _
        by_cases c : m = n
        · rw [if_pos c.symm, if_pos c]
        · rw [if_neg (fun z => c z.symm), if_neg c, if_neg (fun z => c (by omega))]
      · rename_i h1 h2
        rw [cons y, put_at n x l m, cons y]
        by_cases c : y.1 = m
        · rw [if_pos c, if_pos c, if_neg (fun z => h2 (by omega))]
        · rw [if_neg c, if_neg c]
theorem put_rows {α : Type} (n : Nat) (x : α) : ∀ (l : Rows α), (l.map (·.1)).Pairwise (· < ·) → ((Rows.put n x l).map (·.1)).Pairwise (· < ·) ∧ ∀ m, m ∈ (Rows.put n x l).map (·.1) ↔ m = n ∨ m ∈ l.map (·.1)
  | [], _ => ⟨List.pairwise_singleton _ _, fun m => by
    show m ∈ [n] ↔ _
    rw [List.mem_singleton]
    exact ⟨Or.inl, fun z => z.elim id fun q => by cases q⟩⟩
  | y :: l, h => by
    have h' := h
    rw [List.map_cons, List.pairwise_cons] at h'
    unfold Rows.put
    split
    · rename_i h1
      refine ⟨?_, fun m => ?_⟩
      · rw [List.map_cons, List.pairwise_cons]
        refine ⟨fun b hb => ?_, h⟩
        rw [List.map_cons, List.mem_cons] at hb
        rcases hb with e | q
        · show n < b
          omega
        · have := h'.1 b q
          show n < b
          omega
      · rw [List.map_cons, List.mem_cons]
    · split
      · rename_i h1 h2
        refine ⟨?_, fun m => ?_⟩
        · rw [List.map_cons, List.pairwise_cons]
          refine ⟨fun b hb => ?_, h'.2⟩
          have := h'.1 b hb
          show n < b
          omega
        · rw [List.map_cons, List.mem_cons, List.map_cons, List.mem_cons]
          show m = n ∨ _ ↔ _
          constructor
          · rintro (z | z)
            · exact .inl z
            · exact .inr (.inr z)
          · rintro (z | z | z)
            · exact .inl z
            · exact .inl (by omega)
            · exact .inr z
      · rename_i h1 h2
        obtain ⟨i1, i2⟩ := put_rows n x l h'.2
        refine ⟨?_, fun m => ?_⟩
        · rw [List.map_cons, List.pairwise_cons]
          refine ⟨fun b hb => ?_, i1⟩
          rcases (i2 b).mp hb with z | z
          · omega
          · exact h'.1 b z
        · rw [List.map_cons, List.mem_cons, i2, List.map_cons, List.mem_cons]
          constructor
          · rintro (z | z | z)
            · exact .inr (.inl z)
            · exact .inl z
            · exact .inr (.inr z)
          · rintro (z | z | z)
            · exact .inr (.inl z)
            · exact .inl z
            · exact .inr (.inr z)
theorem but_at {α : Type} (l : Rows α) (n m : Nat) : (l.but n).at_ m = if m = n then none else l.at_ m := by
  unfold Rows.but Rows.at_
  by_cases c : m = n
  · rw [if_pos c]
    have : (l.filter fun (x : Nat × α) => x.1 != n).find? (fun (x : Nat × α) => x.1 == m) = none := by
      rw [List.find?_eq_none]
      intro y hy q
      rw [List.mem_filter] at hy
      have q' : y.1 = m := by simpa using q
      have := hy.2
      rw [q', c] at this
      simp at this
    rw [this]
    rfl
  · rw [if_neg c]
    congr 1
    induction l with
    | nil => rfl
    | cons y l ih =>
      rw [List.filter_cons]
      by_cases d : y.1 = n
      · rw [if_neg (by simp [d]), ih, List.find?_cons, show (y.1 == m) = false from beq_eq_false_iff_ne.mpr (fun z => c (by omega))]
      · rw [if_pos (by simpa using d), List.find?_cons, List.find?_cons, ih]
theorem but_rows {α : Type} (l : Rows α) (n : Nat) (h : (l.map (·.1)).Pairwise (· < ·)) : ((l.but n).map (·.1)).Pairwise (· < ·) ∧ ∀ m, m ∈ (l.but n).map (·.1) ↔ m ≠ n ∧ m ∈ l.map (·.1) := by
  refine ⟨h.sublist (List.Sublist.map _ List.filter_sublist), fun m => ?_⟩
  unfold Rows.but
  rw [List.mem_map, List.mem_map]
  constructor
  · rintro ⟨y, hy, e⟩
    rw [List.mem_filter] at hy
    exact ⟨by rw [← e]; simpa using hy.2, y, hy.1, e⟩
  · rintro ⟨h1, y, hy, e⟩
    exact ⟨y, List.mem_filter.mpr ⟨hy, by rw [← e] at h1; simpa using h1⟩, e⟩
end Bd
namespace Bd
open SctDay
theorem nodup_toNat {l : List Int} (h : ∀ z ∈ l, 0 ≤ z) : (l.map Int.toNat).Nodup ↔ l.Nodup := by
  constructor
  · intro q
    exact List.Pairwise.of_map _ (fun a b r e => r (by rw [e])) q
  · intro q
    unfold List.Nodup
    rw [List.pairwise_map]
    exact List.Pairwise.imp_of_mem (fun {a b} ha hb r e => r (by have := h a ha; have := h b hb; omega)) q
theorem all_of {n : Nat} {l : List Int} (h : l.all (isOf n) = true) : ∀ z ∈ l, 0 ≤ z ∧ z < n := fun z hz => by
  have q := List.all_eq_true.mp h z hz
  unfold isOf at q
  rw [Bool.and_eq_true, decide_eq_true_iff, decide_eq_true_iff] at q
  exact q
def setB (l : List Int) : Bool := (decide (1 ≤ (l.length : Int)) && decide ((l.length : Int) ≤ 4)) && (decide l.Nodup && l.all (isOf 24))
theorem setIn_is (l : List Int) : setIn l = if setB l = true then some (rising (l.map Int.toNat)) else none := by
  unfold setIn
  have e : (1 ≤ l.length ∧ l.length ≤ TOGETHER ∧ l.all (isOf SUBSTANCES) = true ∧ once (l.map Int.toNat) = true) ↔ setB l = true := by
    unfold setB once
    rw [Bool.and_eq_true, Bool.and_eq_true, Bool.and_eq_true, decide_eq_true_iff, decide_eq_true_iff, decide_eq_true_iff, decide_eq_true_iff]
    constructor
    · rintro ⟨h1, h2, h3, h4⟩
      exact ⟨⟨by omega, by have : TOGETHER = 4 := rfl; omega⟩, (nodup_toNat fun z hz => (all_of h3 z hz).1).mp h4, h3⟩
    · rintro ⟨⟨h1, h2⟩, h3, h4⟩
      exact ⟨by omega, by show l.length ≤ 4; omega, h4, (nodup_toNat fun z hz => (all_of h4 z hz).1).mpr h3⟩
  by_cases c : setB l = true
  · rw [if_pos c, if_pos (e.mpr c)]
  · rw [if_neg c, if_neg (fun q => c (e.mp q))]
theorem rising_perm (l : List Nat) : (rising l).Perm l := List.mergeSort_perm l _
theorem rising_lt {l : List Nat} (h : l.Nodup) : (rising l).Pairwise (· < ·) := by
  have s : (rising l).Pairwise fun a b => decide (a ≤ b) = true := List.pairwise_mergeSort (fun a b c h1 h2 => by simp only [decide_eq_true_eq] at *; omega) (fun a b => by simp only [Bool.or_eq_true, decide_eq_true_eq]; omega) l
  have n : (rising l).Nodup := (rising_perm l).nodup_iff.mpr h
  exact (List.pairwise_and_iff.mpr ⟨s, n⟩).imp fun {a b} q => by
    have := of_decide_eq_true q.1
    have := q.2
    omega
/-- what a set is -/
theorem setIn_some {l : List Int} {r : List Nat} (h : setIn l = some r) : 1 ≤ l.length ∧ l.length ≤ 4 ∧ (∀ z ∈ l, 0 ≤ z) ∧ (l.map Int.toNat).Perm r ∧ r.Pairwise (· < ·) := by
  rw [setIn_is] at h
  by_cases c : setB l = true
  · rw [if_pos c] at h
    have e := Option.some.inj h
    unfold setB at c
    rw [Bool.and_eq_true, Bool.and_eq_true, Bool.and_eq_true, decide_eq_true_iff, decide_eq_true_iff, decide_eq_true_iff] at c
    have nn : ∀ z ∈ l, 0 ≤ z := fun z hz => (all_of c.2.2 z hz).1
    rw [← e]
    exact ⟨by omega, by omega, nn, (rising_perm _).symm, rising_lt ((nodup_toNat nn).mpr c.2.1)⟩
  · rw [if_neg c] at h
    cases h
def limB : Option Int → Bool
  | none => true
  | some b => isIn 0 WHOLE b
/-- an amendment, of either kind -/
def amSpec (S : State) (p k n m q : Int) (lim : Option Int) (l : List Int) : State × SctBase.Answer :=
  if (isDay p && (isOf CLASSES k && (limB lim && (isDay n && (isDay m && isDay q))))) = false then (S, RANGE) else match setIn l with
    | none => (S, RANGE)
    | some r => if p ≤ n ∧ n ≤ m ∧ m ≤ q then S.enact ⟨p.toNat, lim.isNone, k.toNat, (lim.getD 0).toNat, n.toNat, m.toNat, q.toNat, r, [], none⟩ else (S, NOT)
theorem rule_is (S : State) (p k b n m q : Int) (l : List Int) : step S (.rule p k b n m q l) = amSpec S p k n m q (some b) l := rfl
theorem repeal_is (S : State) (p k n : Int) (l : List Int) : step S (.repeal p k n l) = amSpec S p k n n n none l := by
  unfold amSpec
  rw [show limB none = true from rfl, Bool.true_and, Bool.and_self, Bool.and_self]
  have e : (p ≤ n ∧ n ≤ n ∧ n ≤ n) = (p ≤ n) := propext ⟨fun z => z.1, fun z => ⟨z, Int.le_refl _, Int.le_refl _⟩⟩
  have e' : ∀ a b : State × SctBase.Answer, (if p ≤ n ∧ n ≤ n ∧ n ≤ n then a else b) = if p ≤ n then a else b := fun a b => by
    by_cases c : p ≤ n
    · rw [if_pos c, if_pos ⟨c, Int.le_refl _, Int.le_refl _⟩]
    · rw [if_neg c, if_neg (fun z => c z.1)]
  simp only [e']
  rfl
/-! ### goods -/
abbrev T3 := Int × Int × Int
def okT (x : T3) : Bool := isOf SUBSTANCES x.1 && (isIn 0 WHOLE x.2.1 && (isIn 0 WHOLE x.2.2 && decide (x.2.1 ≤ x.2.2)))
def nat3 (x : T3) : Nat × Nat × Nat := (x.1.toNat, x.2.1.toNat, x.2.2.toNat)
theorem threes_some : ∀ (l : List Int), l.length % 3 = 0 → ∃ r, threes l = some r ∧ l.length = 3 * r.length ∧ ∀ i x, r[i]? = some x → l[3 * i]? = some x.1 ∧ l[3 * i + 1]? = some x.2.1 ∧ l[3 * i + 2]? = some x.2.2
  | [], _ => ⟨[], rfl, rfl, (fun i x h => nomatch h)⟩
  | [_], h => by simp at h
  | [_, _], h => by simp at h
  | a :: b :: c :: l, h => by
    obtain ⟨r, h1, h2, h3⟩ := threes_some l (by simp only [List.length_cons] at h; omega)
    refine ⟨(a, b, c) :: r, ?_, by simp only [List.length_cons]; omega, fun i x hx => ?_⟩
    · show (threes l).map _ = _
      rw [h1]
      rfl
    · cases i with
      | zero =>
        cases hx
        exact ⟨rfl, rfl, rfl⟩
      | succ i =>
        obtain ⟨z1, z2, z3⟩ := h3 i x hx
        exact ⟨z1, z2, z3⟩
theorem threes_none : ∀ (l : List Int), l.length % 3 ≠ 0 → threes l = none
  | [], h => absurd rfl h
  | [_], _ => rfl
  | [_, _], _ => rfl
  | a :: b :: c :: l, h => by
    show (threes l).map _ = _
    rw [threes_none l (by simp only [List.length_cons] at h; omega)]
    rfl
theorem holds_none {l : List Int} (h : threes l = none) : holdsIn l = none := by
  unfold holdsIn
  rw [h]
theorem holds_is {l : List Int} {r : List T3} (h : threes l = some r) : holdsIn l = if r.length ≤ 8 ∧ r.all okT = true ∧ (r.map fun x => x.1.toNat).Nodup then some (r.map nat3) else none := by
  unfold holdsIn
  rw [h]
  dsimp only
  by_cases c : r.length ≤ 8 ∧ r.all okT = true ∧ (r.map fun x => x.1.toNat).Nodup
  · rw [if_pos c, if_pos ⟨c.1, c.2.1, decide_eq_true c.2.2⟩]
    rfl
  · rw [if_neg c, if_neg (fun z => c ⟨z.1, z.2.1, of_decide_eq_true z.2.2⟩)]
end Bd
namespace Bd
open SctDay SctBase
def OkA (a : Answer) : Prop := a.code = 0 ∨ a.nums = []
theorem ok_tells (l : List Int) : OkA (tells l) := .inl rfl
theorem ok_no (k : Nat) : OkA (no k) := .inr rfl
theorem ok_one : OkA ⟨1, []⟩ := .inr rfl
theorem ok_goodsOn {S : State} {g d s : Int} {f : Goods → Answer} (h : ∀ y, OkA (f y)) : OkA (S.goodsOn g d s f) := by
  unfold State.goodsOn
  split
  · exact ok_no 3
  · split
    · exact h _
    · exact ok_no 4
theorem ok_batchOn {S : State} {g s : Int} {f : Goods → Nat → Answer} (h : ∀ y d, OkA (f y d)) : OkA (S.batchOn g s f) := by
  unfold State.batchOn
  split
  · exact ok_no 3
  · split
    · exact ok_no 3
    · split
      · exact h _ _
      · exact ok_no 4
theorem ok_ite {p : Prop} [Decidable p] {a b : Answer} (h : OkA a) (k : OkA b) : OkA (if p then a else b) := by
  split
  · exact h
  · exact k
theorem asks_ok (S : State) (c : Call) : OkA (S.asks c) := by
  unfold State.asks
  split
  · refine ok_ite (ok_no 1) ?_
    split
    · exact ok_no 3
    · exact ok_ite (ok_no 3) (ok_tells _)
  · exact ok_ite (ok_no 1) (ok_ite (ok_tells _) (ok_no 4))
  · exact ok_ite (ok_no 1) (ok_goodsOn fun y => ok_tells _)
  · refine ok_ite (ok_no 1) (ok_goodsOn fun y => ?_)
    split
    · exact ok_one
    · exact ok_tells _
  · refine ok_ite (ok_no 1) (ok_goodsOn fun y => ok_ite ?_ (ok_no 4))
    split
    · exact ok_one
    · exact ok_tells _
  · refine ok_ite (ok_no 1) (ok_goodsOn fun y => ?_)
    refine ok_ite ?_ (ok_no 4)
    split
    · exact ok_one
    · exact ok_tells _
  · refine ok_ite (ok_no 1) (ok_goodsOn fun y => ?_)
    dsimp only
    split
    · exact ok_one
    · exact ok_tells _
  · exact ok_ite (ok_no 1) (ok_goodsOn fun y => ok_tells _)
  · refine ok_ite (ok_no 1) (ok_goodsOn fun y => ?_)
    dsimp only
    split
    · exact ok_one
    · exact ok_tells _
  · exact ok_ite (ok_no 1) (ok_batchOn fun y d => ok_tells _)
  · exact ok_ite (ok_no 1) (ok_tells _)
  · exact ok_ite (ok_no 1) (ok_batchOn fun y d => ok_tells _)
  · refine ok_ite (ok_no 1) (ok_batchOn fun y d => ?_)
    split
    · exact ok_no 4
    · exact ok_tells _
  · exact ok_tells _
  · exact ok_tells _
def OkR (S : State) (r : State × Answer) : Prop := OkA r.2 ∧ (r.2.code < 0 → r.1 = S)
theorem okR_same {S : State} {a : Answer} (h : OkA a) : OkR S (S, a) := ⟨h, fun _ => rfl⟩
theorem okR_done {S S' : State} {l : List Int} : OkR S (S', tells l) := ⟨.inl rfl, fun q => absurd q (by show ¬ (0 : Int) < 0; decide)⟩
theorem okR_ite {S : State} {p : Prop} [Decidable p] {a b : State × Answer} (h : OkR S a) (k : OkR S b) : OkR S (if p then a else b) := by
  split
  · exact h
  · exact k
theorem okR_no {S : State} (k : Nat) : OkR S (S, no k) := okR_same (ok_no k)
theorem okR_am (S : State) (p k n m q : Int) (lim : Option Int) (l : List Int) : OkR S (amSpec S p k n m q lim l) := by
  unfold amSpec
  refine okR_ite (okR_no 1) ?_
  split
  · exact okR_no 1
  · refine okR_ite ?_ (okR_no 4)
    unfold State.enact
    exact okR_ite (okR_no 9) okR_done
theorem step_ok (S : State) (c : Call) : OkR S (step S c) := by
  cases c with
  | rule p k b n m q l => exact okR_am S p k n m q (some b) l
  | «repeal» p k n l => rw [repeal_is]; exact okR_am S p k n n n none l
  | correct a p b =>
    unfold step
    refine okR_ite (okR_no 1) ?_
    split
    · exact okR_no 3
    · exact okR_ite (okR_no 4) (okR_ite (okR_no 9) okR_done)
  | withdraw a p =>
    unfold step
    refine okR_ite (okR_no 1) ?_
    split
    · exact okR_no 3
    · exact okR_ite (okR_no 8) (okR_ite (okR_no 4) okR_done)
  | goods g k c l =>
    unfold step
    refine okR_ite (okR_no 1) ?_
    split
    · exact okR_no 1
    · exact okR_ite (okR_no 8) okR_done
  | drop g =>
    unfold step
    exact okR_ite (okR_no 1) (okR_ite (okR_no 3) (okR_ite (okR_no 4) okR_done))
  | make b g d =>
    unfold step
    refine okR_ite (okR_no 1) ?_
    split
    · exact okR_no 3
    · exact okR_ite (okR_no 8) (okR_ite okR_done (okR_no 4))
  | sold b =>
    unfold step
    exact okR_ite (okR_no 1) (okR_ite (okR_no 3) okR_done)
  | _ => exact okR_same (asks_ok S _)
end Bd
namespace Bd
open PySem PySem.Spec PyProof.Rows L2
/-- the i-th statement of the program -/
def top (i : Nat) : Stmt := PySem.Challenge.pw_bandays_s01_answers.main.body.getD i (.Pass ⟨0, 0, 0, 0⟩)
abbrev s_AmendmentI : Stmt := inClass (top 2) 0
abbrev s_Amendment_is_repeal : Stmt := inClass (top 2) 1
abbrev s_Amendment_is_void : Stmt := inClass (top 2) 2
abbrev s_Amendment_is_known : Stmt := inClass (top 2) 3
abbrev s_Amendment_limit_on : Stmt := inClass (top 2) 4
abbrev s_Amendment_binds : Stmt := inClass (top 2) 5
abbrev s_Amendment_matter : Stmt := inClass (top 2) 6
abbrev s_GoodsI : Stmt := inClass (top 3) 0
abbrev s_Goods_together : Stmt := inClass (top 3) 1
abbrev s_BatchI : Stmt := inClass (top 4) 0
abbrev s_LawI : Stmt := inClass (top 6) 0
abbrev s_Law_way : Stmt := inClass (top 6) 1
abbrev s_Law_breach : Stmt := inClass (top 6) 2
abbrev s_Law_selling_days : Stmt := inClass (top 6) 3
abbrev s_Law_making_days : Stmt := inClass (top 6) 4
abbrev s_Law_learning_days : Stmt := inClass (top 6) 5
abbrev s_Law_selling : Stmt := inClass (top 6) 6
abbrev s_Law_making : Stmt := inClass (top 6) 7
abbrev s_Law_learning : Stmt := inClass (top 6) 8
abbrev s_RefusedI : Stmt := inClass (top 15) 0
abbrev s_DeskI : Stmt := inClass (top 18) 0
abbrev s_Desk_amendment : Stmt := inClass (top 18) 1
abbrev s_Desk_own_goods : Stmt := inClass (top 18) 2
abbrev s_Desk_batch : Stmt := inClass (top 18) 3
abbrev s_ruling : Stmt := top 5
abbrev s_turns_from : Stmt := top 7
abbrev s_stretches : Stmt := top 8
abbrev s_need : Stmt := top 16
abbrev s_are_days : Stmt := top 17
abbrev s_substances : Stmt := top 19
abbrev s_amend : Stmt := top 20
abbrev s_correct : Stmt := top 21
abbrev s_withdraw : Stmt := top 22
abbrev s_put_goods : Stmt := top 23
abbrev s_drop : Stmt := top 24
abbrev s_make : Stmt := top 25
abbrev s_sell : Stmt := top 26
abbrev s_amendment_told : Stmt := top 27
abbrev s_law_told : Stmt := top 28
abbrev s_asked_goods : Stmt := top 29
abbrev s_because : Stmt := top 30
abbrev s_last_told : Stmt := top 31
abbrev s_next_told : Stmt := top 32
abbrev s_of_goods : Stmt := top 33
abbrev s_stands : Stmt := top 34
abbrev s_fallen : Stmt := top 35
abbrev s_left : Stmt := top 36
abbrev s_latest : Stmt := top 37
abbrev s_told : Stmt := top 38
abbrev s_of_changes : Stmt := top 39
abbrev s_done : Stmt := top 40
abbrev s_answer_of : Stmt := top 41
abbrev s_answers : Stmt := top 42
def ps_AmendmentI : List Str := ["self", "number", "known", "kind", "substances", "limit", "days"]
def ps_Amendment_is_repeal : List Str := ["self"]
def ps_Amendment_is_void : List Str := ["self", "day"]
def ps_Amendment_is_known : List Str := ["self", "day"]
def ps_Amendment_limit_on : List Str := ["self", "day"]
def ps_Amendment_binds : List Str := ["self", "new", "made", "sold"]
def ps_Amendment_matter : List Str := ["self"]
def ps_GoodsI : List Str := ["self", "kind", "new", "contents"]
def ps_Goods_together : List Str := ["self", "substances"]
def ps_BatchI : List Str := ["self", "goods", "made"]
def ps_LawI : List Str := ["self"]
def ps_Law_way : List Str := ["self", "goods", "made", "sold", "day"]
def ps_Law_breach : List Str := ["self", "goods", "made", "sold", "day"]
def ps_Law_selling_days : List Str := ["self"]
def ps_Law_making_days : List Str := ["self"]
def ps_Law_learning_days : List Str := ["self"]
def ps_Law_selling : List Str := ["self", "goods", "made", "first", "day"]
def ps_Law_making : List Str := ["self", "goods", "first", "day"]
def ps_Law_learning : List Str := ["self", "goods", "made", "sold", "first"]
def ps_RefusedI : List Str := ["self", "number"]
def ps_DeskI : List Str := ["self"]
def ps_Desk_amendment : List Str := ["self", "number"]
def ps_Desk_own_goods : List Str := ["self", "number"]
def ps_Desk_batch : List Str := ["self", "number"]
def ps_ruling : List Str := ["amendments", "kind", "new", "made", "sold", "day"]
def ps_turns_from : List Str := ["days", "first"]
def ps_stretches : List Str := ["turns", "ways"]
def ps_need : List Str := ["is_right", "number"]
def ps_are_days : List Str := ["numbers"]
def ps_substances : List Str := ["row"]
def ps_amend : List Str := ["desk", "numbers", "row", "limit"]
def ps_correct : List Str := ["desk", "number", "day", "limit"]
def ps_withdraw : List Str := ["desk", "number", "day"]
def ps_put_goods : List Str := ["desk", "numbers", "row"]
def ps_drop : List Str := ["desk", "number"]
def ps_make : List Str := ["desk", "numbers"]
def ps_sell : List Str := ["desk", "number"]
def ps_amendment_told : List Str := ["desk", "number", "day"]
def ps_law_told : List Str := ["desk", "numbers"]
def ps_asked_goods : List Str := ["desk", "numbers", "has_sold"]
def ps_because : List Str := ["desk", "goods", "made", "sold", "day"]
def ps_last_told : List Str := ["some"]
def ps_next_told : List Str := ["some"]
def ps_of_goods : List Str := ["desk", "word", "numbers"]
def ps_stands : List Str := ["desk", "numbers"]
def ps_fallen : List Str := ["desk", "sold", "day"]
def ps_left : List Str := ["desk", "numbers"]
def ps_latest : List Str := ["desk", "numbers"]
def ps_told : List Str := ["desk"]
def ps_of_changes : List Str := ["desk", "word", "numbers", "row"]
def ps_done : List Str := ["desk", "word", "numbers", "row"]
def ps_answer_of : List Str := ["desk", "word", "numbers", "row"]
def ps_answers : List Str := ["calls"]
/-- where it stands -/
structure Adr where
  cAmendment : Addr
  cGoods : Addr
  cBatch : Addr
  cLaw : Addr
  cRefused : Addr
  cDesk : Addr
  fAmendmentI : Addr
  fAmendment_is_repeal : Addr
  fAmendment_is_void : Addr
  fAmendment_is_known : Addr
  fAmendment_limit_on : Addr
  fAmendment_binds : Addr
  fAmendment_matter : Addr
  fGoodsI : Addr
  fGoods_together : Addr
  fBatchI : Addr
  fLawI : Addr
  fLaw_way : Addr
  fLaw_breach : Addr
  fLaw_selling_days : Addr
  fLaw_making_days : Addr
  fLaw_learning_days : Addr
  fLaw_selling : Addr
  fLaw_making : Addr
  fLaw_learning : Addr
  fRefusedI : Addr
  fDeskI : Addr
  fDesk_amendment : Addr
  fDesk_own_goods : Addr
  fDesk_batch : Addr
  fruling : Addr
  fturns_from : Addr
  fstretches : Addr
  fneed : Addr
  fare_days : Addr
  fsubstances : Addr
  famend : Addr
  fcorrect : Addr
  fwithdraw : Addr
  fput_goods : Addr
  fdrop : Addr
  fmake : Addr
  fsell : Addr
  famendment_told : Addr
  flaw_told : Addr
  fasked_goods : Addr
  fbecause : Addr
  flast_told : Addr
  fnext_told : Addr
  fof_goods : Addr
  fstands : Addr
  ffallen : Addr
  fleft : Addr
  flatest : Addr
  ftold : Addr
  fof_changes : Addr
  fdone : Addr
  fanswer_of : Addr
  fanswers : Addr
  nums : Addr
  listed : Addr
def NUMS : List Int := [0, 6, 3, 3, 2, 3, 1, 3, 1, 2, 5, 4, 4, 4, 3, 4, 3, 4, 3, 2, 5, 4, 0]
/-- a def of the text, and how its arguments bind -/
structure Df (K : PySem.W.Frag) (x qual : Str) (st : Stmt) (ps : List Str) (f : Addr) : Prop where
  ex : ∃ fd, Fun K x qual st f fd ∧ Binds K fd ps []
structure Txt (K : PySem.W.Frag) (mg : Str → Option Value) (A : Adr) : Prop where
  gAmendment : mg "Amendment" = some (.ref A.cAmendment)
  lAmendment : Cls K A.cAmendment
  mAmendment : Mk K A.cAmendment A.fAmendmentI
  nAmendment_number : NoAttr K A.cAmendment "number"
  nAmendment_known : NoAttr K A.cAmendment "known"
  nAmendment_kind : NoAttr K A.cAmendment "kind"
  nAmendment_substances : NoAttr K A.cAmendment "substances"
  nAmendment_limit : NoAttr K A.cAmendment "limit"
  nAmendment_days : NoAttr K A.cAmendment "days"
  nAmendment_corrections : NoAttr K A.cAmendment "corrections"
  nAmendment_withdrawn : NoAttr K A.cAmendment "withdrawn"
  gGoods : mg "Goods" = some (.ref A.cGoods)
  lGoods : Cls K A.cGoods
  mGoods : Mk K A.cGoods A.fGoodsI
  nGoods_kind : NoAttr K A.cGoods "kind"
  nGoods_new : NoAttr K A.cGoods "new"
  nGoods_contents : NoAttr K A.cGoods "contents"
  gBatch : mg "Batch" = some (.ref A.cBatch)
  lBatch : Cls K A.cBatch
  mBatch : Mk K A.cBatch A.fBatchI
  nBatch_goods : NoAttr K A.cBatch "goods"
  nBatch_made : NoAttr K A.cBatch "made"
  gLaw : mg "Law" = some (.ref A.cLaw)
  lLaw : Cls K A.cLaw
  mLaw : Mk K A.cLaw A.fLawI
  nLaw_amendments : NoAttr K A.cLaw "amendments"
  gRefused : mg "Refused" = some (.ref A.cRefused)
  nRefused_number : NoAttr K A.cRefused "number"
  gDesk : mg "Desk" = some (.ref A.cDesk)
  lDesk : Cls K A.cDesk
  mDesk : Mk K A.cDesk A.fDeskI
  nDesk_law : NoAttr K A.cDesk "law"
  nDesk_goods : NoAttr K A.cDesk "goods"
  nDesk_batches : NoAttr K A.cDesk "batches"
  dAmendmentI : Df K "__init__" "Amendment.__init__" s_AmendmentI ps_AmendmentI A.fAmendmentI
  dAmendment_is_repeal : Df K "is_repeal" "Amendment.is_repeal" s_Amendment_is_repeal ps_Amendment_is_repeal A.fAmendment_is_repeal
  eAmendment_is_repeal : Meth K A.cAmendment "is_repeal" A.fAmendment_is_repeal
  dAmendment_is_void : Df K "is_void" "Amendment.is_void" s_Amendment_is_void ps_Amendment_is_void A.fAmendment_is_void
  eAmendment_is_void : Meth K A.cAmendment "is_void" A.fAmendment_is_void
  dAmendment_is_known : Df K "is_known" "Amendment.is_known" s_Amendment_is_known ps_Amendment_is_known A.fAmendment_is_known
  eAmendment_is_known : Meth K A.cAmendment "is_known" A.fAmendment_is_known
  dAmendment_limit_on : Df K "limit_on" "Amendment.limit_on" s_Amendment_limit_on ps_Amendment_limit_on A.fAmendment_limit_on
  eAmendment_limit_on : Meth K A.cAmendment "limit_on" A.fAmendment_limit_on
  dAmendment_binds : Df K "binds" "Amendment.binds" s_Amendment_binds ps_Amendment_binds A.fAmendment_binds
  eAmendment_binds : Meth K A.cAmendment "binds" A.fAmendment_binds
  dAmendment_matter : Df K "matter" "Amendment.matter" s_Amendment_matter ps_Amendment_matter A.fAmendment_matter
  eAmendment_matter : Meth K A.cAmendment "matter" A.fAmendment_matter
  dGoodsI : Df K "__init__" "Goods.__init__" s_GoodsI ps_GoodsI A.fGoodsI
  dGoods_together : Df K "together" "Goods.together" s_Goods_together ps_Goods_together A.fGoods_together
  eGoods_together : Meth K A.cGoods "together" A.fGoods_together
  dBatchI : Df K "__init__" "Batch.__init__" s_BatchI ps_BatchI A.fBatchI
  dLawI : Df K "__init__" "Law.__init__" s_LawI ps_LawI A.fLawI
  dLaw_way : Df K "way" "Law.way" s_Law_way ps_Law_way A.fLaw_way
  eLaw_way : Meth K A.cLaw "way" A.fLaw_way
  dLaw_breach : Df K "breach" "Law.breach" s_Law_breach ps_Law_breach A.fLaw_breach
  eLaw_breach : Meth K A.cLaw "breach" A.fLaw_breach
  dLaw_selling_days : Df K "selling_days" "Law.selling_days" s_Law_selling_days ps_Law_selling_days A.fLaw_selling_days
  eLaw_selling_days : Meth K A.cLaw "selling_days" A.fLaw_selling_days
  dLaw_making_days : Df K "making_days" "Law.making_days" s_Law_making_days ps_Law_making_days A.fLaw_making_days
  eLaw_making_days : Meth K A.cLaw "making_days" A.fLaw_making_days
  dLaw_learning_days : Df K "learning_days" "Law.learning_days" s_Law_learning_days ps_Law_learning_days A.fLaw_learning_days
  eLaw_learning_days : Meth K A.cLaw "learning_days" A.fLaw_learning_days
  dLaw_selling : Df K "selling" "Law.selling" s_Law_selling ps_Law_selling A.fLaw_selling
  eLaw_selling : Meth K A.cLaw "selling" A.fLaw_selling
  dLaw_making : Df K "making" "Law.making" s_Law_making ps_Law_making A.fLaw_making
  eLaw_making : Meth K A.cLaw "making" A.fLaw_making
  dLaw_learning : Df K "learning" "Law.learning" s_Law_learning ps_Law_learning A.fLaw_learning
  eLaw_learning : Meth K A.cLaw "learning" A.fLaw_learning
  dRefusedI : Df K "__init__" "Refused.__init__" s_RefusedI ps_RefusedI A.fRefusedI
  dDeskI : Df K "__init__" "Desk.__init__" s_DeskI ps_DeskI A.fDeskI
  dDesk_amendment : Df K "amendment" "Desk.amendment" s_Desk_amendment ps_Desk_amendment A.fDesk_amendment
  eDesk_amendment : Meth K A.cDesk "amendment" A.fDesk_amendment
  dDesk_own_goods : Df K "own_goods" "Desk.own_goods" s_Desk_own_goods ps_Desk_own_goods A.fDesk_own_goods
  eDesk_own_goods : Meth K A.cDesk "own_goods" A.fDesk_own_goods
  dDesk_batch : Df K "batch" "Desk.batch" s_Desk_batch ps_Desk_batch A.fDesk_batch
  eDesk_batch : Meth K A.cDesk "batch" A.fDesk_batch
  druling : Df K "ruling" "ruling" s_ruling ps_ruling A.fruling
  gruling : mg "ruling" = some (.ref A.fruling)
  dturns_from : Df K "turns_from" "turns_from" s_turns_from ps_turns_from A.fturns_from
  gturns_from : mg "turns_from" = some (.ref A.fturns_from)
  dstretches : Df K "stretches" "stretches" s_stretches ps_stretches A.fstretches
  gstretches : mg "stretches" = some (.ref A.fstretches)
  dneed : Df K "need" "need" s_need ps_need A.fneed
  gneed : mg "need" = some (.ref A.fneed)
  dare_days : Df K "are_days" "are_days" s_are_days ps_are_days A.fare_days
  gare_days : mg "are_days" = some (.ref A.fare_days)
  dsubstances : Df K "substances" "substances" s_substances ps_substances A.fsubstances
  gsubstances : mg "substances" = some (.ref A.fsubstances)
  damend : Df K "amend" "amend" s_amend ps_amend A.famend
  gamend : mg "amend" = some (.ref A.famend)
  dcorrect : Df K "correct" "correct" s_correct ps_correct A.fcorrect
  gcorrect : mg "correct" = some (.ref A.fcorrect)
  dwithdraw : Df K "withdraw" "withdraw" s_withdraw ps_withdraw A.fwithdraw
  gwithdraw : mg "withdraw" = some (.ref A.fwithdraw)
  dput_goods : Df K "put_goods" "put_goods" s_put_goods ps_put_goods A.fput_goods
  gput_goods : mg "put_goods" = some (.ref A.fput_goods)
  ddrop : Df K "drop" "drop" s_drop ps_drop A.fdrop
  gdrop : mg "drop" = some (.ref A.fdrop)
  dmake : Df K "make" "make" s_make ps_make A.fmake
  gmake : mg "make" = some (.ref A.fmake)
  dsell : Df K "sell" "sell" s_sell ps_sell A.fsell
  gsell : mg "sell" = some (.ref A.fsell)
  damendment_told : Df K "amendment_told" "amendment_told" s_amendment_told ps_amendment_told A.famendment_told
  gamendment_told : mg "amendment_told" = some (.ref A.famendment_told)
  dlaw_told : Df K "law_told" "law_told" s_law_told ps_law_told A.flaw_told
  glaw_told : mg "law_told" = some (.ref A.flaw_told)
  dasked_goods : Df K "asked_goods" "asked_goods" s_asked_goods ps_asked_goods A.fasked_goods
  gasked_goods : mg "asked_goods" = some (.ref A.fasked_goods)
  dbecause : Df K "because" "because" s_because ps_because A.fbecause
  gbecause : mg "because" = some (.ref A.fbecause)
  dlast_told : Df K "last_told" "last_told" s_last_told ps_last_told A.flast_told
  glast_told : mg "last_told" = some (.ref A.flast_told)
  dnext_told : Df K "next_told" "next_told" s_next_told ps_next_told A.fnext_told
  gnext_told : mg "next_told" = some (.ref A.fnext_told)
  dof_goods : Df K "of_goods" "of_goods" s_of_goods ps_of_goods A.fof_goods
  gof_goods : mg "of_goods" = some (.ref A.fof_goods)
  dstands : Df K "stands" "stands" s_stands ps_stands A.fstands
  gstands : mg "stands" = some (.ref A.fstands)
  dfallen : Df K "fallen" "fallen" s_fallen ps_fallen A.ffallen
  gfallen : mg "fallen" = some (.ref A.ffallen)
  dleft : Df K "left" "left" s_left ps_left A.fleft
  gleft : mg "left" = some (.ref A.fleft)
  dlatest : Df K "latest" "latest" s_latest ps_latest A.flatest
  glatest : mg "latest" = some (.ref A.flatest)
  dtold : Df K "told" "told" s_told ps_told A.ftold
  gtold : mg "told" = some (.ref A.ftold)
  dof_changes : Df K "of_changes" "of_changes" s_of_changes ps_of_changes A.fof_changes
  gof_changes : mg "of_changes" = some (.ref A.fof_changes)
  ddone : Df K "done" "done" s_done ps_done A.fdone
  gdone : mg "done" = some (.ref A.fdone)
  danswer_of : Df K "answer_of" "answer_of" s_answer_of ps_answer_of A.fanswer_of
  ganswer_of : mg "answer_of" = some (.ref A.fanswer_of)
  danswers : Df K "answers" "answers" s_answers ps_answers A.fanswers
  ganswers : mg "answers" = some (.ref A.fanswers)
  rO : OexC K A.cRefused
  rX : XfC K A.cRefused
  rI : PySem.W.findIn K (.ref A.cRefused) "__init__" = some (some (.ref A.fRefusedI))
  rT : PySem.W.typeIn K (.ref A.fRefusedI) = some (.type "function")
  rE : PySem.W.exmOne K (.ref A.cRefused) (.ref A.cRefused) = some true
  gLAST_DAY : ∃ t, mg "LAST_DAY" = some (.int 100000 t)
  gMOST_AMENDMENTS : ∃ t, mg "MOST_AMENDMENTS" = some (.int 48 t)
  gMOST_CONTENT : ∃ t, mg "MOST_CONTENT" = some (.int 1000000 t)
  gMOST_CORRECTIONS : ∃ t, mg "MOST_CORRECTIONS" = some (.int 4 t)
  gNUMBERS : mg "NUMBERS" = some (.ref A.nums)
  qNUMBERS : ∀ H, SqL K H A.nums (NUMS.map V.int)
  gLISTED : mg "LISTED" = some (.ref A.listed)
  qLISTED : ∀ H, SqT K H A.listed [.int 1, .int 2, .int 5]
  b_len : mg "len" = none
  b_set : mg "set" = none
  b_all : mg "all" = none
  b_any : mg "any" = none
  b_sum : mg "sum" = none
  b_sorted : mg "sorted" = none
  b_list : mg "list" = none
  b_tuple : mg "tuple" = none
  b_max : mg "max" = none
  b_range : mg "range" = none
  b_enumerate : mg "enumerate" = none
theorem exm_self {K : PySem.W.Frag} {S : Addr} (h1 : PySem.W.subIn K (.ref S) (.type "BaseException") = some true) (h2 : PySem.W.isClsIn K S = true) (h3 : PySem.W.typeIn K (.ref S) = some (.type "type")) (h4 : PySem.W.subIn K (.ref S) (.ref S) = some true) :
    PySem.W.exmOne K (.ref S) (.ref S) = some true := by
  have a1 : (PySem.W.subIn K (.ref S) (.type "BaseException") == some true) = true := by rw [h1] <;> rfl
  have a2 : ((PySem.W.clsIn K S).isSome && PySem.W.typeIn K (.ref S) == some (.type "type")) = true := by
    have z : (PySem.W.clsIn K S).isSome = true := h2
    rw [z, h3] <;> rfl
  show (if (PySem.W.subIn K (.ref S) (.type "BaseException") == some true) = true then (if ((PySem.W.clsIn K S).isSome && PySem.W.typeIn K (.ref S) == some (.type "type")) = true then PySem.W.subIn K (.ref S) (.ref S) else none) else none) = some true
  rw [if_pos a1, if_pos a2]
  exact h4
theorem txt_mk {K : PySem.W.Frag} {h : Heap} {mg : Str → Option Value} {cAmendment cGoods cBatch cLaw cRefused cDesk fAmendmentI fAmendment_is_repeal fAmendment_is_void fAmendment_is_known fAmendment_limit_on fAmendment_binds fAmendment_matter fGoodsI fGoods_together fBatchI fLawI fLaw_way fLaw_breach fLaw_selling_days fLaw_making_days fLaw_learning_days fLaw_selling fLaw_making fLaw_learning fRefusedI fDeskI fDesk_amendment fDesk_own_goods fDesk_batch fruling fturns_from fstretches fneed fare_days fsubstances famend fcorrect fwithdraw fput_goods fdrop fmake fsell famendment_told flaw_told fasked_goods fbecause flast_told fnext_told fof_goods fstands ffallen fleft flatest ftold fof_changes fdone fanswer_of fanswers nums listed : Addr} (X : K.In h) (G : h.Ns mainGlobals mg)
    {nm q : Str} {NN : Addr} {bs : List Value} {sn : List Str} {sub : List Value} {ab : Bool} {col : Option Bool} {dd : Option Addr} {m0 m1 m2 m3 m5 : Option Value} {od_AmendmentI an_AmendmentI : Option Addr} {sl_AmendmentI : Array (Option Value)} {oc_AmendmentI kV_AmendmentI dc_AmendmentI pm_AmendmentI cd_AmendmentI ct_AmendmentI : Value} {od_Amendment_is_repeal an_Amendment_is_repeal : Option Addr} {sl_Amendment_is_repeal : Array (Option Value)} {oc_Amendment_is_repeal kV_Amendment_is_repeal dc_Amendment_is_repeal pm_Amendment_is_repeal cd_Amendment_is_repeal ct_Amendment_is_repeal : Value} {od_Amendment_is_void an_Amendment_is_void : Option Addr} {sl_Amendment_is_void : Array (Option Value)} {oc_Amendment_is_void kV_Amendment_is_void dc_Amendment_is_void pm_Amendment_is_void cd_Amendment_is_void ct_Amendment_is_void : Value} {od_Amendment_is_known an_Amendment_is_known : Option Addr} {sl_Amendment_is_known : Array (Option Value)} {oc_Amendment_is_known kV_Amendment_is_known dc_Amendment_is_known pm_Amendment_is_known cd_Amendment_is_known ct_Amendment_is_known : Value} {od_Amendment_limit_on an_Amendment_limit_on : Option Addr} {sl_Amendment_limit_on : Array (Option Value)} {oc_Amendment_limit_on kV_Amendment_limit_on dc_Amendment_limit_on pm_Amendment_limit_on cd_Amendment_limit_on ct_Amendment_limit_on : Value} {od_Amendment_binds an_Amendment_binds : Option Addr} {sl_Amendment_binds : Array (Option Value)} {oc_Amendment_binds kV_Amendment_binds dc_Amendment_binds pm_Amendment_binds cd_Amendment_binds ct_Amendment_binds : Value} {od_Amendment_matter an_Amendment_matter : Option Addr} {sl_Amendment_matter : Array (Option Value)} {oc_Amendment_matter kV_Amendment_matter dc_Amendment_matter pm_Amendment_matter cd_Amendment_matter ct_Amendment_matter : Value} {od_GoodsI an_GoodsI : Option Addr} {sl_GoodsI : Array (Option Value)} {oc_GoodsI kV_GoodsI dc_GoodsI pm_GoodsI cd_GoodsI ct_GoodsI : Value} {od_Goods_together an_Goods_together : Option Addr} {sl_Goods_together : Array (Option Value)} {oc_Goods_together kV_Goods_together dc_Goods_together pm_Goods_together cd_Goods_together ct_Goods_together : Value} {od_BatchI an_BatchI : Option Addr} {sl_BatchI : Array (Option Value)} {oc_BatchI kV_BatchI dc_BatchI pm_BatchI cd_BatchI ct_BatchI : Value} {od_LawI an_LawI : Option Addr} {sl_LawI : Array (Option Value)} {oc_LawI kV_LawI dc_LawI pm_LawI cd_LawI ct_LawI : Value} {od_Law_way an_Law_way : Option Addr} {sl_Law_way : Array (Option Value)} {oc_Law_way kV_Law_way dc_Law_way pm_Law_way cd_Law_way ct_Law_way : Value} {od_Law_breach an_Law_breach : Option Addr} {sl_Law_breach : Array (Option Value)} {oc_Law_breach kV_Law_breach dc_Law_breach pm_Law_breach cd_Law_breach ct_Law_breach : Value} {od_Law_selling_days an_Law_selling_days : Option Addr} {sl_Law_selling_days : Array (Option Value)} {oc_Law_selling_days kV_Law_selling_days dc_Law_selling_days pm_Law_selling_days cd_Law_selling_days ct_Law_selling_days : Value} {od_Law_making_days an_Law_making_days : Option Addr} {sl_Law_making_days : Array (Option Value)} {oc_Law_making_days kV_Law_making_days dc_Law_making_days pm_Law_making_days cd_Law_making_days ct_Law_making_days : Value} {od_Law_learning_days an_Law_learning_days : Option Addr} {sl_Law_learning_days : Array (Option Value)} {oc_Law_learning_days kV_Law_learning_days dc_Law_learning_days pm_Law_learning_days cd_Law_learning_days ct_Law_learning_days : Value} {od_Law_selling an_Law_selling : Option Addr} {sl_Law_selling : Array (Option Value)} {oc_Law_selling kV_Law_selling dc_Law_selling pm_Law_selling cd_Law_selling ct_Law_selling : Value} {od_Law_making an_Law_making : Option Addr} {sl_Law_making : Array (Option Value)} {oc_Law_making kV_Law_making dc_Law_making pm_Law_making cd_Law_making ct_Law_making : Value} {od_Law_learning an_Law_learning : Option Addr} {sl_Law_learning : Array (Option Value)} {oc_Law_learning kV_Law_learning dc_Law_learning pm_Law_learning cd_Law_learning ct_Law_learning : Value} {od_RefusedI an_RefusedI : Option Addr} {sl_RefusedI : Array (Option Value)} {oc_RefusedI kV_RefusedI dc_RefusedI pm_RefusedI cd_RefusedI ct_RefusedI : Value} {od_DeskI an_DeskI : Option Addr} {sl_DeskI : Array (Option Value)} {oc_DeskI kV_DeskI dc_DeskI pm_DeskI cd_DeskI ct_DeskI : Value} {od_Desk_amendment an_Desk_amendment : Option Addr} {sl_Desk_amendment : Array (Option Value)} {oc_Desk_amendment kV_Desk_amendment dc_Desk_amendment pm_Desk_amendment cd_Desk_amendment ct_Desk_amendment : Value} {od_Desk_own_goods an_Desk_own_goods : Option Addr} {sl_Desk_own_goods : Array (Option Value)} {oc_Desk_own_goods kV_Desk_own_goods dc_Desk_own_goods pm_Desk_own_goods cd_Desk_own_goods ct_Desk_own_goods : Value} {od_Desk_batch an_Desk_batch : Option Addr} {sl_Desk_batch : Array (Option Value)} {oc_Desk_batch kV_Desk_batch dc_Desk_batch pm_Desk_batch cd_Desk_batch ct_Desk_batch : Value} {od_ruling an_ruling : Option Addr} {sl_ruling : Array (Option Value)} {oc_ruling kV_ruling dc_ruling pm_ruling cd_ruling ct_ruling : Value} {od_turns_from an_turns_from : Option Addr} {sl_turns_from : Array (Option Value)} {oc_turns_from kV_turns_from dc_turns_from pm_turns_from cd_turns_from ct_turns_from : Value} {od_stretches an_stretches : Option Addr} {sl_stretches : Array (Option Value)} {oc_stretches kV_stretches dc_stretches pm_stretches cd_stretches ct_stretches : Value} {od_need an_need : Option Addr} {sl_need : Array (Option Value)} {oc_need kV_need dc_need pm_need cd_need ct_need : Value} {od_are_days an_are_days : Option Addr} {sl_are_days : Array (Option Value)} {oc_are_days kV_are_days dc_are_days pm_are_days cd_are_days ct_are_days : Value} {od_substances an_substances : Option Addr} {sl_substances : Array (Option Value)} {oc_substances kV_substances dc_substances pm_substances cd_substances ct_substances : Value} {od_amend an_amend : Option Addr} {sl_amend : Array (Option Value)} {oc_amend kV_amend dc_amend pm_amend cd_amend ct_amend : Value} {od_correct an_correct : Option Addr} {sl_correct : Array (Option Value)} {oc_correct kV_correct dc_correct pm_correct cd_correct ct_correct : Value} {od_withdraw an_withdraw : Option Addr} {sl_withdraw : Array (Option Value)} {oc_withdraw kV_withdraw dc_withdraw pm_withdraw cd_withdraw ct_withdraw : Value} {od_put_goods an_put_goods : Option Addr} {sl_put_goods : Array (Option Value)} {oc_put_goods kV_put_goods dc_put_goods pm_put_goods cd_put_goods ct_put_goods : Value} {od_drop an_drop : Option Addr} {sl_drop : Array (Option Value)} {oc_drop kV_drop dc_drop pm_drop cd_drop ct_drop : Value} {od_make an_make : Option Addr} {sl_make : Array (Option Value)} {oc_make kV_make dc_make pm_make cd_make ct_make : Value} {od_sell an_sell : Option Addr} {sl_sell : Array (Option Value)} {oc_sell kV_sell dc_sell pm_sell cd_sell ct_sell : Value} {od_amendment_told an_amendment_told : Option Addr} {sl_amendment_told : Array (Option Value)} {oc_amendment_told kV_amendment_told dc_amendment_told pm_amendment_told cd_amendment_told ct_amendment_told : Value} {od_law_told an_law_told : Option Addr} {sl_law_told : Array (Option Value)} {oc_law_told kV_law_told dc_law_told pm_law_told cd_law_told ct_law_told : Value} {od_asked_goods an_asked_goods : Option Addr} {sl_asked_goods : Array (Option Value)} {oc_asked_goods kV_asked_goods dc_asked_goods pm_asked_goods cd_asked_goods ct_asked_goods : Value} {od_because an_because : Option Addr} {sl_because : Array (Option Value)} {oc_because kV_because dc_because pm_because cd_because ct_because : Value} {od_last_told an_last_told : Option Addr} {sl_last_told : Array (Option Value)} {oc_last_told kV_last_told dc_last_told pm_last_told cd_last_told ct_last_told : Value} {od_next_told an_next_told : Option Addr} {sl_next_told : Array (Option Value)} {oc_next_told kV_next_told dc_next_told pm_next_told cd_next_told ct_next_told : Value} {od_of_goods an_of_goods : Option Addr} {sl_of_goods : Array (Option Value)} {oc_of_goods kV_of_goods dc_of_goods pm_of_goods cd_of_goods ct_of_goods : Value} {od_stands an_stands : Option Addr} {sl_stands : Array (Option Value)} {oc_stands kV_stands dc_stands pm_stands cd_stands ct_stands : Value} {od_fallen an_fallen : Option Addr} {sl_fallen : Array (Option Value)} {oc_fallen kV_fallen dc_fallen pm_fallen cd_fallen ct_fallen : Value} {od_left an_left : Option Addr} {sl_left : Array (Option Value)} {oc_left kV_left dc_left pm_left cd_left ct_left : Value} {od_latest an_latest : Option Addr} {sl_latest : Array (Option Value)} {oc_latest kV_latest dc_latest pm_latest cd_latest ct_latest : Value} {od_told an_told : Option Addr} {sl_told : Array (Option Value)} {oc_told kV_told dc_told pm_told cd_told ct_told : Value} {od_of_changes an_of_changes : Option Addr} {sl_of_changes : Array (Option Value)} {oc_of_changes kV_of_changes dc_of_changes pm_of_changes cd_of_changes ct_of_changes : Value} {od_done an_done : Option Addr} {sl_done : Array (Option Value)} {oc_done kV_done dc_done pm_done cd_done ct_done : Value} {od_answer_of an_answer_of : Option Addr} {sl_answer_of : Array (Option Value)} {oc_answer_of kV_answer_of dc_answer_of pm_answer_of cd_answer_of ct_answer_of : Value} {od_answers an_answers : Option Addr} {sl_answers : Array (Option Value)} {oc_answers kV_answers dc_answers pm_answers cd_answers ct_answers : Value} {t_LAST_DAY : Tok} {t_MOST_AMENDMENTS : Tok} {t_MOST_CONTENT : Tok} {t_MOST_CORRECTIONS : Tok} {oN oL : Obj}
    (aC_Amendment : PySem.W.nsIn K mainGlobals "Amendment" = some (some (.ref cAmendment)))
    (pg_Amendment : PySem.W.plainGet K cAmendment Str.empty = true)
    (hd_Amendment : PySem.W.hasDictIn K cAmendment = true)
    (po_Amendment : PySem.W.plainOver K cAmendment = true)
    (sa_Amendment : PySem.W.findIn K (.ref cAmendment) "__setattr__" = some (some (.builtin "object.__setattr__")))
    (mk_Amendment : PySem.W.makesIn K cAmendment = true)
    (kc_Amendment : PySem.W.keepIn K (.ref cAmendment) = true)
    (n_Amendment_number : PySem.W.findIn K (.ref cAmendment) "number" = some none)
    (n_Amendment_known : PySem.W.findIn K (.ref cAmendment) "known" = some none)
    (n_Amendment_kind : PySem.W.findIn K (.ref cAmendment) "kind" = some none)
    (n_Amendment_substances : PySem.W.findIn K (.ref cAmendment) "substances" = some none)
    (n_Amendment_limit : PySem.W.findIn K (.ref cAmendment) "limit" = some none)
    (n_Amendment_days : PySem.W.findIn K (.ref cAmendment) "days" = some none)
    (n_Amendment_corrections : PySem.W.findIn K (.ref cAmendment) "corrections" = some none)
    (n_Amendment_withdrawn : PySem.W.findIn K (.ref cAmendment) "withdrawn" = some none)
    (aC_Goods : PySem.W.nsIn K mainGlobals "Goods" = some (some (.ref cGoods)))
    (pg_Goods : PySem.W.plainGet K cGoods Str.empty = true)
    (hd_Goods : PySem.W.hasDictIn K cGoods = true)
    (po_Goods : PySem.W.plainOver K cGoods = true)
    (sa_Goods : PySem.W.findIn K (.ref cGoods) "__setattr__" = some (some (.builtin "object.__setattr__")))
    (mk_Goods : PySem.W.makesIn K cGoods = true)
    (kc_Goods : PySem.W.keepIn K (.ref cGoods) = true)
    (n_Goods_kind : PySem.W.findIn K (.ref cGoods) "kind" = some none)
    (n_Goods_new : PySem.W.findIn K (.ref cGoods) "new" = some none)
    (n_Goods_contents : PySem.W.findIn K (.ref cGoods) "contents" = some none)
    (aC_Batch : PySem.W.nsIn K mainGlobals "Batch" = some (some (.ref cBatch)))
    (pg_Batch : PySem.W.plainGet K cBatch Str.empty = true)
    (hd_Batch : PySem.W.hasDictIn K cBatch = true)
    (po_Batch : PySem.W.plainOver K cBatch = true)
    (sa_Batch : PySem.W.findIn K (.ref cBatch) "__setattr__" = some (some (.builtin "object.__setattr__")))
    (mk_Batch : PySem.W.makesIn K cBatch = true)
    (kc_Batch : PySem.W.keepIn K (.ref cBatch) = true)
    (n_Batch_goods : PySem.W.findIn K (.ref cBatch) "goods" = some none)
    (n_Batch_made : PySem.W.findIn K (.ref cBatch) "made" = some none)
    (aC_Law : PySem.W.nsIn K mainGlobals "Law" = some (some (.ref cLaw)))
    (pg_Law : PySem.W.plainGet K cLaw Str.empty = true)
    (hd_Law : PySem.W.hasDictIn K cLaw = true)
    (po_Law : PySem.W.plainOver K cLaw = true)
    (sa_Law : PySem.W.findIn K (.ref cLaw) "__setattr__" = some (some (.builtin "object.__setattr__")))
    (mk_Law : PySem.W.makesIn K cLaw = true)
    (kc_Law : PySem.W.keepIn K (.ref cLaw) = true)
    (n_Law_amendments : PySem.W.findIn K (.ref cLaw) "amendments" = some none)
    (aC_Refused : PySem.W.nsIn K mainGlobals "Refused" = some (some (.ref cRefused)))
    (xL : K.lookup cRefused = some (excClassObj nm q cRefused NN bs [.type "ValueError", .type "Exception", .type "BaseException", .type "object"] true sn sub ab col dd m0 m1 m2 m3 m5 "ValueError.__new__"))
    (sa : PySem.W.findIn K (.ref cRefused) "__setattr__" = some (some (.builtin "object.__setattr__")))
    (ga : PySem.W.findIn K (.ref cRefused) "__getattribute__" = some (some (.builtin "BaseException.__getattribute__")))
    (gg : PySem.W.findIn K (.ref cRefused) "__getattr__" = some none)
    (n_Refused_number : PySem.W.findIn K (.ref cRefused) "number" = some none)
    (aC_Desk : PySem.W.nsIn K mainGlobals "Desk" = some (some (.ref cDesk)))
    (pg_Desk : PySem.W.plainGet K cDesk Str.empty = true)
    (hd_Desk : PySem.W.hasDictIn K cDesk = true)
    (po_Desk : PySem.W.plainOver K cDesk = true)
    (sa_Desk : PySem.W.findIn K (.ref cDesk) "__setattr__" = some (some (.builtin "object.__setattr__")))
    (mk_Desk : PySem.W.makesIn K cDesk = true)
    (kc_Desk : PySem.W.keepIn K (.ref cDesk) = true)
    (n_Desk_law : PySem.W.findIn K (.ref cDesk) "law" = some none)
    (n_Desk_goods : PySem.W.findIn K (.ref cDesk) "goods" = some none)
    (n_Desk_batches : PySem.W.findIn K (.ref cDesk) "batches" = some none)
    (a_AmendmentI : PySem.W.findIn K (.ref cAmendment) "__init__" = some (some (.ref fAmendmentI)))
    (i_AmendmentI : PySem.W.isFn K (.ref fAmendmentI) = true)
    (l_AmendmentI : K.lookup fAmendmentI = some ⟨oc_AmendmentI, od_AmendmentI, .func (PySem.W.fnOf "__init__" "Amendment.__init__" (defArgs s_AmendmentI) (defBody s_AmendmentI) (defScope s_AmendmentI) .none kV_AmendmentI dc_AmendmentI pm_AmendmentI an_AmendmentI cd_AmendmentI ct_AmendmentI), sl_AmendmentI⟩)
    (c_AmendmentI : PySem.W.codeIn K cd_AmendmentI "Amendment.__init__" = true)
    (k_AmendmentI : PySem.W.keepIn K (.ref fAmendmentI) = true)
    (a_Amendment_is_repeal : PySem.W.findIn K (.ref cAmendment) "is_repeal" = some (some (.ref fAmendment_is_repeal)))
    (i_Amendment_is_repeal : PySem.W.isFn K (.ref fAmendment_is_repeal) = true)
    (l_Amendment_is_repeal : K.lookup fAmendment_is_repeal = some ⟨oc_Amendment_is_repeal, od_Amendment_is_repeal, .func (PySem.W.fnOf "is_repeal" "Amendment.is_repeal" (defArgs s_Amendment_is_repeal) (defBody s_Amendment_is_repeal) (defScope s_Amendment_is_repeal) .none kV_Amendment_is_repeal dc_Amendment_is_repeal pm_Amendment_is_repeal an_Amendment_is_repeal cd_Amendment_is_repeal ct_Amendment_is_repeal), sl_Amendment_is_repeal⟩)
    (c_Amendment_is_repeal : PySem.W.codeIn K cd_Amendment_is_repeal "Amendment.is_repeal" = true)
    (k_Amendment_is_repeal : PySem.W.keepIn K (.ref fAmendment_is_repeal) = true)
    (a_Amendment_is_void : PySem.W.findIn K (.ref cAmendment) "is_void" = some (some (.ref fAmendment_is_void)))
    (i_Amendment_is_void : PySem.W.isFn K (.ref fAmendment_is_void) = true)
    (l_Amendment_is_void : K.lookup fAmendment_is_void = some ⟨oc_Amendment_is_void, od_Amendment_is_void, .func (PySem.W.fnOf "is_void" "Amendment.is_void" (defArgs s_Amendment_is_void) (defBody s_Amendment_is_void) (defScope s_Amendment_is_void) .none kV_Amendment_is_void dc_Amendment_is_void pm_Amendment_is_void an_Amendment_is_void cd_Amendment_is_void ct_Amendment_is_void), sl_Amendment_is_void⟩)
    (c_Amendment_is_void : PySem.W.codeIn K cd_Amendment_is_void "Amendment.is_void" = true)
    (k_Amendment_is_void : PySem.W.keepIn K (.ref fAmendment_is_void) = true)
    (a_Amendment_is_known : PySem.W.findIn K (.ref cAmendment) "is_known" = some (some (.ref fAmendment_is_known)))
    (i_Amendment_is_known : PySem.W.isFn K (.ref fAmendment_is_known) = true)
    (l_Amendment_is_known : K.lookup fAmendment_is_known = some ⟨oc_Amendment_is_known, od_Amendment_is_known, .func (PySem.W.fnOf "is_known" "Amendment.is_known" (defArgs s_Amendment_is_known) (defBody s_Amendment_is_known) (defScope s_Amendment_is_known) .none kV_Amendment_is_known dc_Amendment_is_known pm_Amendment_is_known an_Amendment_is_known cd_Amendment_is_known ct_Amendment_is_known), sl_Amendment_is_known⟩)
    (c_Amendment_is_known : PySem.W.codeIn K cd_Amendment_is_known "Amendment.is_known" = true)
    (k_Amendment_is_known : PySem.W.keepIn K (.ref fAmendment_is_known) = true)
    (a_Amendment_limit_on : PySem.W.findIn K (.ref cAmendment) "limit_on" = some (some (.ref fAmendment_limit_on)))
    (i_Amendment_limit_on : PySem.W.isFn K (.ref fAmendment_limit_on) = true)
    (l_Amendment_limit_on : K.lookup fAmendment_limit_on = some ⟨oc_Amendment_limit_on, od_Amendment_limit_on, .func (PySem.W.fnOf "limit_on" "Amendment.limit_on" (defArgs s_Amendment_limit_on) (defBody s_Amendment_limit_on) (defScope s_Amendment_limit_on) .none kV_Amendment_limit_on dc_Amendment_limit_on pm_Amendment_limit_on an_Amendment_limit_on cd_Amendment_limit_on ct_Amendment_limit_on), sl_Amendment_limit_on⟩)
    (c_Amendment_limit_on : PySem.W.codeIn K cd_Amendment_limit_on "Amendment.limit_on" = true)
    (k_Amendment_limit_on : PySem.W.keepIn K (.ref fAmendment_limit_on) = true)
    (a_Amendment_binds : PySem.W.findIn K (.ref cAmendment) "binds" = some (some (.ref fAmendment_binds)))
    (i_Amendment_binds : PySem.W.isFn K (.ref fAmendment_binds) = true)
    (l_Amendment_binds : K.lookup fAmendment_binds = some ⟨oc_Amendment_binds, od_Amendment_binds, .func (PySem.W.fnOf "binds" "Amendment.binds" (defArgs s_Amendment_binds) (defBody s_Amendment_binds) (defScope s_Amendment_binds) .none kV_Amendment_binds dc_Amendment_binds pm_Amendment_binds an_Amendment_binds cd_Amendment_binds ct_Amendment_binds), sl_Amendment_binds⟩)
    (c_Amendment_binds : PySem.W.codeIn K cd_Amendment_binds "Amendment.binds" = true)
    (k_Amendment_binds : PySem.W.keepIn K (.ref fAmendment_binds) = true)
    (a_Amendment_matter : PySem.W.findIn K (.ref cAmendment) "matter" = some (some (.ref fAmendment_matter)))
    (i_Amendment_matter : PySem.W.isFn K (.ref fAmendment_matter) = true)
    (l_Amendment_matter : K.lookup fAmendment_matter = some ⟨oc_Amendment_matter, od_Amendment_matter, .func (PySem.W.fnOf "matter" "Amendment.matter" (defArgs s_Amendment_matter) (defBody s_Amendment_matter) (defScope s_Amendment_matter) .none kV_Amendment_matter dc_Amendment_matter pm_Amendment_matter an_Amendment_matter cd_Amendment_matter ct_Amendment_matter), sl_Amendment_matter⟩)
    (c_Amendment_matter : PySem.W.codeIn K cd_Amendment_matter "Amendment.matter" = true)
    (k_Amendment_matter : PySem.W.keepIn K (.ref fAmendment_matter) = true)
    (a_GoodsI : PySem.W.findIn K (.ref cGoods) "__init__" = some (some (.ref fGoodsI)))
    (i_GoodsI : PySem.W.isFn K (.ref fGoodsI) = true)
    (l_GoodsI : K.lookup fGoodsI = some ⟨oc_GoodsI, od_GoodsI, .func (PySem.W.fnOf "__init__" "Goods.__init__" (defArgs s_GoodsI) (defBody s_GoodsI) (defScope s_GoodsI) .none kV_GoodsI dc_GoodsI pm_GoodsI an_GoodsI cd_GoodsI ct_GoodsI), sl_GoodsI⟩)
    (c_GoodsI : PySem.W.codeIn K cd_GoodsI "Goods.__init__" = true)
    (k_GoodsI : PySem.W.keepIn K (.ref fGoodsI) = true)
    (a_Goods_together : PySem.W.findIn K (.ref cGoods) "together" = some (some (.ref fGoods_together)))
    (i_Goods_together : PySem.W.isFn K (.ref fGoods_together) = true)
    (l_Goods_together : K.lookup fGoods_together = some ⟨oc_Goods_together, od_Goods_together, .func (PySem.W.fnOf "together" "Goods.together" (defArgs s_Goods_together) (defBody s_Goods_together) (defScope s_Goods_together) .none kV_Goods_together dc_Goods_together pm_Goods_together an_Goods_together cd_Goods_together ct_Goods_together), sl_Goods_together⟩)
    (c_Goods_together : PySem.W.codeIn K cd_Goods_together "Goods.together" = true)
    (k_Goods_together : PySem.W.keepIn K (.ref fGoods_together) = true)
    (a_BatchI : PySem.W.findIn K (.ref cBatch) "__init__" = some (some (.ref fBatchI)))
    (i_BatchI : PySem.W.isFn K (.ref fBatchI) = true)
    (l_BatchI : K.lookup fBatchI = some ⟨oc_BatchI, od_BatchI, .func (PySem.W.fnOf "__init__" "Batch.__init__" (defArgs s_BatchI) (defBody s_BatchI) (defScope s_BatchI) .none kV_BatchI dc_BatchI pm_BatchI an_BatchI cd_BatchI ct_BatchI), sl_BatchI⟩)
    (c_BatchI : PySem.W.codeIn K cd_BatchI "Batch.__init__" = true)
    (k_BatchI : PySem.W.keepIn K (.ref fBatchI) = true)
    (a_LawI : PySem.W.findIn K (.ref cLaw) "__init__" = some (some (.ref fLawI)))
    (i_LawI : PySem.W.isFn K (.ref fLawI) = true)
    (l_LawI : K.lookup fLawI = some ⟨oc_LawI, od_LawI, .func (PySem.W.fnOf "__init__" "Law.__init__" (defArgs s_LawI) (defBody s_LawI) (defScope s_LawI) .none kV_LawI dc_LawI pm_LawI an_LawI cd_LawI ct_LawI), sl_LawI⟩)
    (c_LawI : PySem.W.codeIn K cd_LawI "Law.__init__" = true)
    (k_LawI : PySem.W.keepIn K (.ref fLawI) = true)
    (a_Law_way : PySem.W.findIn K (.ref cLaw) "way" = some (some (.ref fLaw_way)))
    (i_Law_way : PySem.W.isFn K (.ref fLaw_way) = true)
    (l_Law_way : K.lookup fLaw_way = some ⟨oc_Law_way, od_Law_way, .func (PySem.W.fnOf "way" "Law.way" (defArgs s_Law_way) (defBody s_Law_way) (defScope s_Law_way) .none kV_Law_way dc_Law_way pm_Law_way an_Law_way cd_Law_way ct_Law_way), sl_Law_way⟩)
    (c_Law_way : PySem.W.codeIn K cd_Law_way "Law.way" = true)
    (k_Law_way : PySem.W.keepIn K (.ref fLaw_way) = true)
    (a_Law_breach : PySem.W.findIn K (.ref cLaw) "breach" = some (some (.ref fLaw_breach)))
    (i_Law_breach : PySem.W.isFn K (.ref fLaw_breach) = true)
    (l_Law_breach : K.lookup fLaw_breach = some ⟨oc_Law_breach, od_Law_breach, .func (PySem.W.fnOf "breach" "Law.breach" (defArgs s_Law_breach) (defBody s_Law_breach) (defScope s_Law_breach) .none kV_Law_breach dc_Law_breach pm_Law_breach an_Law_breach cd_Law_breach ct_Law_breach), sl_Law_breach⟩)
    (c_Law_breach : PySem.W.codeIn K cd_Law_breach "Law.breach" = true)
    (k_Law_breach : PySem.W.keepIn K (.ref fLaw_breach) = true)
    (a_Law_selling_days : PySem.W.findIn K (.ref cLaw) "selling_days" = some (some (.ref fLaw_selling_days)))
    (i_Law_selling_days : PySem.W.isFn K (.ref fLaw_selling_days) = true)
    (l_Law_selling_days : K.lookup fLaw_selling_days = some ⟨oc_Law_selling_days, od_Law_selling_days, .func (PySem.W.fnOf "selling_days" "Law.selling_days" (defArgs s_Law_selling_days) (defBody s_Law_selling_days) (defScope s_Law_selling_days) .none kV_Law_selling_days dc_Law_selling_days pm_Law_selling_days an_Law_selling_days cd_Law_selling_days ct_Law_selling_days), sl_Law_selling_days⟩)
    (c_Law_selling_days : PySem.W.codeIn K cd_Law_selling_days "Law.selling_days" = true)
    (k_Law_selling_days : PySem.W.keepIn K (.ref fLaw_selling_days) = true)
    (a_Law_making_days : PySem.W.findIn K (.ref cLaw) "making_days" = some (some (.ref fLaw_making_days)))
    (i_Law_making_days : PySem.W.isFn K (.ref fLaw_making_days) = true)
    (l_Law_making_days : K.lookup fLaw_making_days = some ⟨oc_Law_making_days, od_Law_making_days, .func (PySem.W.fnOf "making_days" "Law.making_days" (defArgs s_Law_making_days) (defBody s_Law_making_days) (defScope s_Law_making_days) .none kV_Law_making_days dc_Law_making_days pm_Law_making_days an_Law_making_days cd_Law_making_days ct_Law_making_days), sl_Law_making_days⟩)
    (c_Law_making_days : PySem.W.codeIn K cd_Law_making_days "Law.making_days" = true)
    (k_Law_making_days : PySem.W.keepIn K (.ref fLaw_making_days) = true)
    (a_Law_learning_days : PySem.W.findIn K (.ref cLaw) "learning_days" = some (some (.ref fLaw_learning_days)))
    (i_Law_learning_days : PySem.W.isFn K (.ref fLaw_learning_days) = true)
    (l_Law_learning_days : K.lookup fLaw_learning_days = some ⟨oc_Law_learning_days, od_Law_learning_days, .func (PySem.W.fnOf "learning_days" "Law.learning_days" (defArgs s_Law_learning_days) (defBody s_Law_learning_days) (defScope s_Law_learning_days) .none kV_Law_learning_days dc_Law_learning_days pm_Law_learning_days an_Law_learning_days cd_Law_learning_days ct_Law_learning_days), sl_Law_learning_days⟩)
    (c_Law_learning_days : PySem.W.codeIn K cd_Law_learning_days "Law.learning_days" = true)
    (k_Law_learning_days : PySem.W.keepIn K (.ref fLaw_learning_days) = true)
    (a_Law_selling : PySem.W.findIn K (.ref cLaw) "selling" = some (some (.ref fLaw_selling)))
    (i_Law_selling : PySem.W.isFn K (.ref fLaw_selling) = true)
    (l_Law_selling : K.lookup fLaw_selling = some ⟨oc_Law_selling, od_Law_selling, .func (PySem.W.fnOf "selling" "Law.selling" (defArgs s_Law_selling) (defBody s_Law_selling) (defScope s_Law_selling) .none kV_Law_selling dc_Law_selling pm_Law_selling an_Law_selling cd_Law_selling ct_Law_selling), sl_Law_selling⟩)
    (c_Law_selling : PySem.W.codeIn K cd_Law_selling "Law.selling" = true)
    (k_Law_selling : PySem.W.keepIn K (.ref fLaw_selling) = true)
    (a_Law_making : PySem.W.findIn K (.ref cLaw) "making" = some (some (.ref fLaw_making)))
    (i_Law_making : PySem.W.isFn K (.ref fLaw_making) = true)
    (l_Law_making : K.lookup fLaw_making = some ⟨oc_Law_making, od_Law_making, .func (PySem.W.fnOf "making" "Law.making" (defArgs s_Law_making) (defBody s_Law_making) (defScope s_Law_making) .none kV_Law_making dc_Law_making pm_Law_making an_Law_making cd_Law_making ct_Law_making), sl_Law_making⟩)
    (c_Law_making : PySem.W.codeIn K cd_Law_making "Law.making" = true)
    (k_Law_making : PySem.W.keepIn K (.ref fLaw_making) = true)
    (a_Law_learning : PySem.W.findIn K (.ref cLaw) "learning" = some (some (.ref fLaw_learning)))
    (i_Law_learning : PySem.W.isFn K (.ref fLaw_learning) = true)
    (l_Law_learning : K.lookup fLaw_learning = some ⟨oc_Law_learning, od_Law_learning, .func (PySem.W.fnOf "learning" "Law.learning" (defArgs s_Law_learning) (defBody s_Law_learning) (defScope s_Law_learning) .none kV_Law_learning dc_Law_learning pm_Law_learning an_Law_learning cd_Law_learning ct_Law_learning), sl_Law_learning⟩)
    (c_Law_learning : PySem.W.codeIn K cd_Law_learning "Law.learning" = true)
    (k_Law_learning : PySem.W.keepIn K (.ref fLaw_learning) = true)
    (a_RefusedI : PySem.W.findIn K (.ref cRefused) "__init__" = some (some (.ref fRefusedI)))
    (i_RefusedI : PySem.W.isFn K (.ref fRefusedI) = true)
    (l_RefusedI : K.lookup fRefusedI = some ⟨oc_RefusedI, od_RefusedI, .func (PySem.W.fnOf "__init__" "Refused.__init__" (defArgs s_RefusedI) (defBody s_RefusedI) (defScope s_RefusedI) .none kV_RefusedI dc_RefusedI pm_RefusedI an_RefusedI cd_RefusedI ct_RefusedI), sl_RefusedI⟩)
    (c_RefusedI : PySem.W.codeIn K cd_RefusedI "Refused.__init__" = true)
    (k_RefusedI : PySem.W.keepIn K (.ref fRefusedI) = true)
    (a_DeskI : PySem.W.findIn K (.ref cDesk) "__init__" = some (some (.ref fDeskI)))
    (i_DeskI : PySem.W.isFn K (.ref fDeskI) = true)
    (l_DeskI : K.lookup fDeskI = some ⟨oc_DeskI, od_DeskI, .func (PySem.W.fnOf "__init__" "Desk.__init__" (defArgs s_DeskI) (defBody s_DeskI) (defScope s_DeskI) .none kV_DeskI dc_DeskI pm_DeskI an_DeskI cd_DeskI ct_DeskI), sl_DeskI⟩)
    (c_DeskI : PySem.W.codeIn K cd_DeskI "Desk.__init__" = true)
    (k_DeskI : PySem.W.keepIn K (.ref fDeskI) = true)
    (a_Desk_amendment : PySem.W.findIn K (.ref cDesk) "amendment" = some (some (.ref fDesk_amendment)))
    (i_Desk_amendment : PySem.W.isFn K (.ref fDesk_amendment) = true)
    (l_Desk_amendment : K.lookup fDesk_amendment = some ⟨oc_Desk_amendment, od_Desk_amendment, .func (PySem.W.fnOf "amendment" "Desk.amendment" (defArgs s_Desk_amendment) (defBody s_Desk_amendment) (defScope s_Desk_amendment) .none kV_Desk_amendment dc_Desk_amendment pm_Desk_amendment an_Desk_amendment cd_Desk_amendment ct_Desk_amendment), sl_Desk_amendment⟩)
    (c_Desk_amendment : PySem.W.codeIn K cd_Desk_amendment "Desk.amendment" = true)
    (k_Desk_amendment : PySem.W.keepIn K (.ref fDesk_amendment) = true)
    (a_Desk_own_goods : PySem.W.findIn K (.ref cDesk) "own_goods" = some (some (.ref fDesk_own_goods)))
    (i_Desk_own_goods : PySem.W.isFn K (.ref fDesk_own_goods) = true)
    (l_Desk_own_goods : K.lookup fDesk_own_goods = some ⟨oc_Desk_own_goods, od_Desk_own_goods, .func (PySem.W.fnOf "own_goods" "Desk.own_goods" (defArgs s_Desk_own_goods) (defBody s_Desk_own_goods) (defScope s_Desk_own_goods) .none kV_Desk_own_goods dc_Desk_own_goods pm_Desk_own_goods an_Desk_own_goods cd_Desk_own_goods ct_Desk_own_goods), sl_Desk_own_goods⟩)
    (c_Desk_own_goods : PySem.W.codeIn K cd_Desk_own_goods "Desk.own_goods" = true)
    (k_Desk_own_goods : PySem.W.keepIn K (.ref fDesk_own_goods) = true)
    (a_Desk_batch : PySem.W.findIn K (.ref cDesk) "batch" = some (some (.ref fDesk_batch)))
    (i_Desk_batch : PySem.W.isFn K (.ref fDesk_batch) = true)
    (l_Desk_batch : K.lookup fDesk_batch = some ⟨oc_Desk_batch, od_Desk_batch, .func (PySem.W.fnOf "batch" "Desk.batch" (defArgs s_Desk_batch) (defBody s_Desk_batch) (defScope s_Desk_batch) .none kV_Desk_batch dc_Desk_batch pm_Desk_batch an_Desk_batch cd_Desk_batch ct_Desk_batch), sl_Desk_batch⟩)
    (c_Desk_batch : PySem.W.codeIn K cd_Desk_batch "Desk.batch" = true)
    (k_Desk_batch : PySem.W.keepIn K (.ref fDesk_batch) = true)
    (a_ruling : PySem.W.nsIn K mainGlobals "ruling" = some (some (.ref fruling)))
    (l_ruling : K.lookup fruling = some ⟨oc_ruling, od_ruling, .func (PySem.W.fnOf "ruling" "ruling" (defArgs s_ruling) (defBody s_ruling) (defScope s_ruling) .none kV_ruling dc_ruling pm_ruling an_ruling cd_ruling ct_ruling), sl_ruling⟩)
    (c_ruling : PySem.W.codeIn K cd_ruling "ruling" = true)
    (k_ruling : PySem.W.keepIn K (.ref fruling) = true)
    (a_turns_from : PySem.W.nsIn K mainGlobals "turns_from" = some (some (.ref fturns_from)))
    (l_turns_from : K.lookup fturns_from = some ⟨oc_turns_from, od_turns_from, .func (PySem.W.fnOf "turns_from" "turns_from" (defArgs s_turns_from) (defBody s_turns_from) (defScope s_turns_from) .none kV_turns_from dc_turns_from pm_turns_from an_turns_from cd_turns_from ct_turns_from), sl_turns_from⟩)
    (c_turns_from : PySem.W.codeIn K cd_turns_from "turns_from" = true)
    (k_turns_from : PySem.W.keepIn K (.ref fturns_from) = true)
    (a_stretches : PySem.W.nsIn K mainGlobals "stretches" = some (some (.ref fstretches)))
    (l_stretches : K.lookup fstretches = some ⟨oc_stretches, od_stretches, .func (PySem.W.fnOf "stretches" "stretches" (defArgs s_stretches) (defBody s_stretches) (defScope s_stretches) .none kV_stretches dc_stretches pm_stretches an_stretches cd_stretches ct_stretches), sl_stretches⟩)
    (c_stretches : PySem.W.codeIn K cd_stretches "stretches" = true)
    (k_stretches : PySem.W.keepIn K (.ref fstretches) = true)
    (a_need : PySem.W.nsIn K mainGlobals "need" = some (some (.ref fneed)))
    (l_need : K.lookup fneed = some ⟨oc_need, od_need, .func (PySem.W.fnOf "need" "need" (defArgs s_need) (defBody s_need) (defScope s_need) .none kV_need dc_need pm_need an_need cd_need ct_need), sl_need⟩)
    (c_need : PySem.W.codeIn K cd_need "need" = true)
    (k_need : PySem.W.keepIn K (.ref fneed) = true)
    (a_are_days : PySem.W.nsIn K mainGlobals "are_days" = some (some (.ref fare_days)))
    (l_are_days : K.lookup fare_days = some ⟨oc_are_days, od_are_days, .func (PySem.W.fnOf "are_days" "are_days" (defArgs s_are_days) (defBody s_are_days) (defScope s_are_days) .none kV_are_days dc_are_days pm_are_days an_are_days cd_are_days ct_are_days), sl_are_days⟩)
    (c_are_days : PySem.W.codeIn K cd_are_days "are_days" = true)
    (k_are_days : PySem.W.keepIn K (.ref fare_days) = true)
    (a_substances : PySem.W.nsIn K mainGlobals "substances" = some (some (.ref fsubstances)))
    (l_substances : K.lookup fsubstances = some ⟨oc_substances, od_substances, .func (PySem.W.fnOf "substances" "substances" (defArgs s_substances) (defBody s_substances) (defScope s_substances) .none kV_substances dc_substances pm_substances an_substances cd_substances ct_substances), sl_substances⟩)
    (c_substances : PySem.W.codeIn K cd_substances "substances" = true)
    (k_substances : PySem.W.keepIn K (.ref fsubstances) = true)
    (a_amend : PySem.W.nsIn K mainGlobals "amend" = some (some (.ref famend)))
    (l_amend : K.lookup famend = some ⟨oc_amend, od_amend, .func (PySem.W.fnOf "amend" "amend" (defArgs s_amend) (defBody s_amend) (defScope s_amend) .none kV_amend dc_amend pm_amend an_amend cd_amend ct_amend), sl_amend⟩)
    (c_amend : PySem.W.codeIn K cd_amend "amend" = true)
    (k_amend : PySem.W.keepIn K (.ref famend) = true)
    (a_correct : PySem.W.nsIn K mainGlobals "correct" = some (some (.ref fcorrect)))
    (l_correct : K.lookup fcorrect = some ⟨oc_correct, od_correct, .func (PySem.W.fnOf "correct" "correct" (defArgs s_correct) (defBody s_correct) (defScope s_correct) .none kV_correct dc_correct pm_correct an_correct cd_correct ct_correct), sl_correct⟩)
    (c_correct : PySem.W.codeIn K cd_correct "correct" = true)
    (k_correct : PySem.W.keepIn K (.ref fcorrect) = true)
    (a_withdraw : PySem.W.nsIn K mainGlobals "withdraw" = some (some (.ref fwithdraw)))
    (l_withdraw : K.lookup fwithdraw = some ⟨oc_withdraw, od_withdraw, .func (PySem.W.fnOf "withdraw" "withdraw" (defArgs s_withdraw) (defBody s_withdraw) (defScope s_withdraw) .none kV_withdraw dc_withdraw pm_withdraw an_withdraw cd_withdraw ct_withdraw), sl_withdraw⟩)
    (c_withdraw : PySem.W.codeIn K cd_withdraw "withdraw" = true)
    (k_withdraw : PySem.W.keepIn K (.ref fwithdraw) = true)
    (a_put_goods : PySem.W.nsIn K mainGlobals "put_goods" = some (some (.ref fput_goods)))
    (l_put_goods : K.lookup fput_goods = some ⟨oc_put_goods, od_put_goods, .func (PySem.W.fnOf "put_goods" "put_goods" (defArgs s_put_goods) (defBody s_put_goods) (defScope s_put_goods) .none kV_put_goods dc_put_goods pm_put_goods an_put_goods cd_put_goods ct_put_goods), sl_put_goods⟩)
    (c_put_goods : PySem.W.codeIn K cd_put_goods "put_goods" = true)
    (k_put_goods : PySem.W.keepIn K (.ref fput_goods) = true)
    (a_drop : PySem.W.nsIn K mainGlobals "drop" = some (some (.ref fdrop)))
    (l_drop : K.lookup fdrop = some ⟨oc_drop, od_drop, .func (PySem.W.fnOf "drop" "drop" (defArgs s_drop) (defBody s_drop) (defScope s_drop) .none kV_drop dc_drop pm_drop an_drop cd_drop ct_drop), sl_drop⟩)
    (c_drop : PySem.W.codeIn K cd_drop "drop" = true)
    (k_drop : PySem.W.keepIn K (.ref fdrop) = true)
    (a_make : PySem.W.nsIn K mainGlobals "make" = some (some (.ref fmake)))
    (l_make : K.lookup fmake = some ⟨oc_make, od_make, .func (PySem.W.fnOf "make" "make" (defArgs s_make) (defBody s_make) (defScope s_make) .none kV_make dc_make pm_make an_make cd_make ct_make), sl_make⟩)
    (c_make : PySem.W.codeIn K cd_make "make" = true)
    (k_make : PySem.W.keepIn K (.ref fmake) = true)
    (a_sell : PySem.W.nsIn K mainGlobals "sell" = some (some (.ref fsell)))
    (l_sell : K.lookup fsell = some ⟨oc_sell, od_sell, .func (PySem.W.fnOf "sell" "sell" (defArgs s_sell) (defBody s_sell) (defScope s_sell) .none kV_sell dc_sell pm_sell an_sell cd_sell ct_sell), sl_sell⟩)
    (c_sell : PySem.W.codeIn K cd_sell "sell" = true)
    (k_sell : PySem.W.keepIn K (.ref fsell) = true)
    (a_amendment_told : PySem.W.nsIn K mainGlobals "amendment_told" = some (some (.ref famendment_told)))
    (l_amendment_told : K.lookup famendment_told = some ⟨oc_amendment_told, od_amendment_told, .func (PySem.W.fnOf "amendment_told" "amendment_told" (defArgs s_amendment_told) (defBody s_amendment_told) (defScope s_amendment_told) .none kV_amendment_told dc_amendment_told pm_amendment_told an_amendment_told cd_amendment_told ct_amendment_told), sl_amendment_told⟩)
    (c_amendment_told : PySem.W.codeIn K cd_amendment_told "amendment_told" = true)
    (k_amendment_told : PySem.W.keepIn K (.ref famendment_told) = true)
    (a_law_told : PySem.W.nsIn K mainGlobals "law_told" = some (some (.ref flaw_told)))
    (l_law_told : K.lookup flaw_told = some ⟨oc_law_told, od_law_told, .func (PySem.W.fnOf "law_told" "law_told" (defArgs s_law_told) (defBody s_law_told) (defScope s_law_told) .none kV_law_told dc_law_told pm_law_told an_law_told cd_law_told ct_law_told), sl_law_told⟩)
    (c_law_told : PySem.W.codeIn K cd_law_told "law_told" = true)
    (k_law_told : PySem.W.keepIn K (.ref flaw_told) = true)
    (a_asked_goods : PySem.W.nsIn K mainGlobals "asked_goods" = some (some (.ref fasked_goods)))
    (l_asked_goods : K.lookup fasked_goods = some ⟨oc_asked_goods, od_asked_goods, .func (PySem.W.fnOf "asked_goods" "asked_goods" (defArgs s_asked_goods) (defBody s_asked_goods) (defScope s_asked_goods) .none kV_asked_goods dc_asked_goods pm_asked_goods an_asked_goods cd_asked_goods ct_asked_goods), sl_asked_goods⟩)
    (c_asked_goods : PySem.W.codeIn K cd_asked_goods "asked_goods" = true)
    (k_asked_goods : PySem.W.keepIn K (.ref fasked_goods) = true)
    (a_because : PySem.W.nsIn K mainGlobals "because" = some (some (.ref fbecause)))
    (l_because : K.lookup fbecause = some ⟨oc_because, od_because, .func (PySem.W.fnOf "because" "because" (defArgs s_because) (defBody s_because) (defScope s_because) .none kV_because dc_because pm_because an_because cd_because ct_because), sl_because⟩)
    (c_because : PySem.W.codeIn K cd_because "because" = true)
    (k_because : PySem.W.keepIn K (.ref fbecause) = true)
    (a_last_told : PySem.W.nsIn K mainGlobals "last_told" = some (some (.ref flast_told)))
    (l_last_told : K.lookup flast_told = some ⟨oc_last_told, od_last_told, .func (PySem.W.fnOf "last_told" "last_told" (defArgs s_last_told) (defBody s_last_told) (defScope s_last_told) .none kV_last_told dc_last_told pm_last_told an_last_told cd_last_told ct_last_told), sl_last_told⟩)
    (c_last_told : PySem.W.codeIn K cd_last_told "last_told" = true)
    (k_last_told : PySem.W.keepIn K (.ref flast_told) = true)
    (a_next_told : PySem.W.nsIn K mainGlobals "next_told" = some (some (.ref fnext_told)))
    (l_next_told : K.lookup fnext_told = some ⟨oc_next_told, od_next_told, .func (PySem.W.fnOf "next_told" "next_told" (defArgs s_next_told) (defBody s_next_told) (defScope s_next_told) .none kV_next_told dc_next_told pm_next_told an_next_told cd_next_told ct_next_told), sl_next_told⟩)
    (c_next_told : PySem.W.codeIn K cd_next_told "next_told" = true)
    (k_next_told : PySem.W.keepIn K (.ref fnext_told) = true)
    (a_of_goods : PySem.W.nsIn K mainGlobals "of_goods" = some (some (.ref fof_goods)))
    (l_of_goods : K.lookup fof_goods = some ⟨oc_of_goods, od_of_goods, .func (PySem.W.fnOf "of_goods" "of_goods" (defArgs s_of_goods) (defBody s_of_goods) (defScope s_of_goods) .none kV_of_goods dc_of_goods pm_of_goods an_of_goods cd_of_goods ct_of_goods), sl_of_goods⟩)
    (c_of_goods : PySem.W.codeIn K cd_of_goods "of_goods" = true)
    (k_of_goods : PySem.W.keepIn K (.ref fof_goods) = true)
    (a_stands : PySem.W.nsIn K mainGlobals "stands" = some (some (.ref fstands)))
    (l_stands : K.lookup fstands = some ⟨oc_stands, od_stands, .func (PySem.W.fnOf "stands" "stands" (defArgs s_stands) (defBody s_stands) (defScope s_stands) .none kV_stands dc_stands pm_stands an_stands cd_stands ct_stands), sl_stands⟩)
    (c_stands : PySem.W.codeIn K cd_stands "stands" = true)
    (k_stands : PySem.W.keepIn K (.ref fstands) = true)
    (a_fallen : PySem.W.nsIn K mainGlobals "fallen" = some (some (.ref ffallen)))
    (l_fallen : K.lookup ffallen = some ⟨oc_fallen, od_fallen, .func (PySem.W.fnOf "fallen" "fallen" (defArgs s_fallen) (defBody s_fallen) (defScope s_fallen) .none kV_fallen dc_fallen pm_fallen an_fallen cd_fallen ct_fallen), sl_fallen⟩)
    (c_fallen : PySem.W.codeIn K cd_fallen "fallen" = true)
    (k_fallen : PySem.W.keepIn K (.ref ffallen) = true)
    (a_left : PySem.W.nsIn K mainGlobals "left" = some (some (.ref fleft)))
    (l_left : K.lookup fleft = some ⟨oc_left, od_left, .func (PySem.W.fnOf "left" "left" (defArgs s_left) (defBody s_left) (defScope s_left) .none kV_left dc_left pm_left an_left cd_left ct_left), sl_left⟩)
    (c_left : PySem.W.codeIn K cd_left "left" = true)
    (k_left : PySem.W.keepIn K (.ref fleft) = true)
    (a_latest : PySem.W.nsIn K mainGlobals "latest" = some (some (.ref flatest)))
    (l_latest : K.lookup flatest = some ⟨oc_latest, od_latest, .func (PySem.W.fnOf "latest" "latest" (defArgs s_latest) (defBody s_latest) (defScope s_latest) .none kV_latest dc_latest pm_latest an_latest cd_latest ct_latest), sl_latest⟩)
    (c_latest : PySem.W.codeIn K cd_latest "latest" = true)
    (k_latest : PySem.W.keepIn K (.ref flatest) = true)
    (a_told : PySem.W.nsIn K mainGlobals "told" = some (some (.ref ftold)))
    (l_told : K.lookup ftold = some ⟨oc_told, od_told, .func (PySem.W.fnOf "told" "told" (defArgs s_told) (defBody s_told) (defScope s_told) .none kV_told dc_told pm_told an_told cd_told ct_told), sl_told⟩)
    (c_told : PySem.W.codeIn K cd_told "told" = true)
    (k_told : PySem.W.keepIn K (.ref ftold) = true)
    (a_of_changes : PySem.W.nsIn K mainGlobals "of_changes" = some (some (.ref fof_changes)))
    (l_of_changes : K.lookup fof_changes = some ⟨oc_of_changes, od_of_changes, .func (PySem.W.fnOf "of_changes" "of_changes" (defArgs s_of_changes) (defBody s_of_changes) (defScope s_of_changes) .none kV_of_changes dc_of_changes pm_of_changes an_of_changes cd_of_changes ct_of_changes), sl_of_changes⟩)
    (c_of_changes : PySem.W.codeIn K cd_of_changes "of_changes" = true)
    (k_of_changes : PySem.W.keepIn K (.ref fof_changes) = true)
    (a_done : PySem.W.nsIn K mainGlobals "done" = some (some (.ref fdone)))
    (l_done : K.lookup fdone = some ⟨oc_done, od_done, .func (PySem.W.fnOf "done" "done" (defArgs s_done) (defBody s_done) (defScope s_done) .none kV_done dc_done pm_done an_done cd_done ct_done), sl_done⟩)
    (c_done : PySem.W.codeIn K cd_done "done" = true)
    (k_done : PySem.W.keepIn K (.ref fdone) = true)
    (a_answer_of : PySem.W.nsIn K mainGlobals "answer_of" = some (some (.ref fanswer_of)))
    (l_answer_of : K.lookup fanswer_of = some ⟨oc_answer_of, od_answer_of, .func (PySem.W.fnOf "answer_of" "answer_of" (defArgs s_answer_of) (defBody s_answer_of) (defScope s_answer_of) .none kV_answer_of dc_answer_of pm_answer_of an_answer_of cd_answer_of ct_answer_of), sl_answer_of⟩)
    (c_answer_of : PySem.W.codeIn K cd_answer_of "answer_of" = true)
    (k_answer_of : PySem.W.keepIn K (.ref fanswer_of) = true)
    (a_answers : PySem.W.nsIn K mainGlobals "answers" = some (some (.ref fanswers)))
    (l_answers : K.lookup fanswers = some ⟨oc_answers, od_answers, .func (PySem.W.fnOf "answers" "answers" (defArgs s_answers) (defBody s_answers) (defScope s_answers) .none kV_answers dc_answers pm_answers an_answers cd_answers ct_answers), sl_answers⟩)
    (c_answers : PySem.W.codeIn K cd_answers "answers" = true)
    (k_answers : PySem.W.keepIn K (.ref fanswers) = true)
    (t1 : PySem.W.typeIn K (.ref fRefusedI) = some (.type "function"))
    (kC : PySem.W.keepIn K (.ref cRefused) = true)
    (eC : PySem.W.subIn K (.ref cRefused) (.type "BaseException") = some true)
    (tC : PySem.W.typeIn K (.ref cRefused) = some (.type "type"))
    (hC : PySem.W.hasDictIn K cRefused = true)
    (iC : PySem.W.isClsIn K cRefused = true)
    (sC : PySem.W.subIn K (.ref cRefused) (.ref cRefused) = some true)
    (z_LAST_DAY : PySem.W.nsIn K mainGlobals "LAST_DAY" = some (some (.int 100000 t_LAST_DAY)))
    (z_MOST_AMENDMENTS : PySem.W.nsIn K mainGlobals "MOST_AMENDMENTS" = some (some (.int 48 t_MOST_AMENDMENTS)))
    (z_MOST_CONTENT : PySem.W.nsIn K mainGlobals "MOST_CONTENT" = some (some (.int 1000000 t_MOST_CONTENT)))
    (z_MOST_CORRECTIONS : PySem.W.nsIn K mainGlobals "MOST_CORRECTIONS" = some (some (.int 4 t_MOST_CORRECTIONS)))
    (z_NUMBERS : PySem.W.nsIn K mainGlobals "NUMBERS" = some (some (.ref nums)))
    (o_NUMBERS : K.lookup nums = some oN)
    (q_NUMBERS : oN.cls = .type "list" ∧ oN.dict = none ∧ ∃ (its : Array Value) (n : Nat), oN.data = .seq its n ∧ its.size ≤ sizeLine ∧ Vals (NUMS.map V.int) its.toList)
    (z_LISTED : PySem.W.nsIn K mainGlobals "LISTED" = some (some (.ref listed)))
    (o_LISTED : K.lookup listed = some oL)
    (q_LISTED : oL.cls = .type "tuple" ∧ ∃ (its : Array Value) (n : Nat), oL.data = .seq its n ∧ its.size ≤ sizeLine ∧ Vals [V.int 1, V.int 2, V.int 5] its.toList)
    (z_len : PySem.W.nsIn K mainGlobals "len" = some none)
    (z_set : PySem.W.nsIn K mainGlobals "set" = some none)
    (z_all : PySem.W.nsIn K mainGlobals "all" = some none)
    (z_any : PySem.W.nsIn K mainGlobals "any" = some none)
    (z_sum : PySem.W.nsIn K mainGlobals "sum" = some none)
    (z_sorted : PySem.W.nsIn K mainGlobals "sorted" = some none)
    (z_list : PySem.W.nsIn K mainGlobals "list" = some none)
    (z_tuple : PySem.W.nsIn K mainGlobals "tuple" = some none)
    (z_max : PySem.W.nsIn K mainGlobals "max" = some none)
    (z_range : PySem.W.nsIn K mainGlobals "range" = some none)
    (z_enumerate : PySem.W.nsIn K mainGlobals "enumerate" = some none)
    : Txt K mg ⟨cAmendment, cGoods, cBatch, cLaw, cRefused, cDesk, fAmendmentI, fAmendment_is_repeal, fAmendment_is_void, fAmendment_is_known, fAmendment_limit_on, fAmendment_binds, fAmendment_matter, fGoodsI, fGoods_together, fBatchI, fLawI, fLaw_way, fLaw_breach, fLaw_selling_days, fLaw_making_days, fLaw_learning_days, fLaw_selling, fLaw_making, fLaw_learning, fRefusedI, fDeskI, fDesk_amendment, fDesk_own_goods, fDesk_batch, fruling, fturns_from, fstretches, fneed, fare_days, fsubstances, famend, fcorrect, fwithdraw, fput_goods, fdrop, fmake, fsell, famendment_told, flaw_told, fasked_goods, fbecause, flast_told, fnext_told, fof_goods, fstands, ffallen, fleft, flatest, ftold, fof_changes, fdone, fanswer_of, fanswers, nums, listed⟩ := by
  have F_AmendmentI := fun_mk (st := s_AmendmentI) l_AmendmentI c_AmendmentI k_AmendmentI
  have D_AmendmentI : Df K "__init__" "Amendment.__init__" s_AmendmentI ps_AmendmentI fAmendmentI := ⟨⟨_, F_AmendmentI, F_AmendmentI.binds (ps := ps_AmendmentI) fun _ _ _ _ _ _ us hl => match us, hl with | [_, _, _, _, _, _, _], _ => rfl⟩⟩
  have F_Amendment_is_repeal := fun_mk (st := s_Amendment_is_repeal) l_Amendment_is_repeal c_Amendment_is_repeal k_Amendment_is_repeal
  have D_Amendment_is_repeal : Df K "is_repeal" "Amendment.is_repeal" s_Amendment_is_repeal ps_Amendment_is_repeal fAmendment_is_repeal := ⟨⟨_, F_Amendment_is_repeal, F_Amendment_is_repeal.binds (ps := ps_Amendment_is_repeal) fun _ _ _ _ _ _ us hl => match us, hl with | [_], _ => rfl⟩⟩
  have F_Amendment_is_void := fun_mk (st := s_Amendment_is_void) l_Amendment_is_void c_Amendment_is_void k_Amendment_is_void
  have D_Amendment_is_void : Df K "is_void" "Amendment.is_void" s_Amendment_is_void ps_Amendment_is_void fAmendment_is_void := ⟨⟨_, F_Amendment_is_void, F_Amendment_is_void.binds (ps := ps_Amendment_is_void) fun _ _ _ _ _ _ us hl => match us, hl with | [_, _], _ => rfl⟩⟩
  have F_Amendment_is_known := fun_mk (st := s_Amendment_is_known) l_Amendment_is_known c_Amendment_is_known k_Amendment_is_known
  have D_Amendment_is_known : Df K "is_known" "Amendment.is_known" s_Amendment_is_known ps_Amendment_is_known fAmendment_is_known := ⟨⟨_, F_Amendment_is_known, F_Amendment_is_known.binds (ps := ps_Amendment_is_known) fun _ _ _ _ _ _ us hl => match us, hl with | [_, _], _ => rfl⟩⟩
  have F_Amendment_limit_on := fun_mk (st := s_Amendment_limit_on) l_Amendment_limit_on c_Amendment_limit_on k_Amendment_limit_on
  have D_Amendment_limit_on : Df K "limit_on" "Amendment.limit_on" s_Amendment_limit_on ps_Amendment_limit_on fAmendment_limit_on := ⟨⟨_, F_Amendment_limit_on, F_Amendment_limit_on.binds (ps := ps_Amendment_limit_on) fun _ _ _ _ _ _ us hl => match us, hl with | [_, _], _ => rfl⟩⟩
  have F_Amendment_binds := fun_mk (st := s_Amendment_binds) l_Amendment_binds c_Amendment_binds k_Amendment_binds
  have D_Amendment_binds : Df K "binds" "Amendment.binds" s_Amendment_binds ps_Amendment_binds fAmendment_binds := ⟨⟨_, F_Amendment_binds, F_Amendment_binds.binds (ps := ps_Amendment_binds) fun _ _ _ _ _ _ us hl => match us, hl with | [_, _, _, _], _ => rfl⟩⟩
  have F_Amendment_matter := fun_mk (st := s_Amendment_matter) l_Amendment_matter c_Amendment_matter k_Amendment_matter
  have D_Amendment_matter : Df K "matter" "Amendment.matter" s_Amendment_matter ps_Amendment_matter fAmendment_matter := ⟨⟨_, F_Amendment_matter, F_Amendment_matter.binds (ps := ps_Amendment_matter) fun _ _ _ _ _ _ us hl => match us, hl with | [_], _ => rfl⟩⟩
  have F_GoodsI := fun_mk (st := s_GoodsI) l_GoodsI c_GoodsI k_GoodsI
  have D_GoodsI : Df K "__init__" "Goods.__init__" s_GoodsI ps_GoodsI fGoodsI := ⟨⟨_, F_GoodsI, F_GoodsI.binds (ps := ps_GoodsI) fun _ _ _ _ _ _ us hl => match us, hl with | [_, _, _, _], _ => rfl⟩⟩
  have F_Goods_together := fun_mk (st := s_Goods_together) l_Goods_together c_Goods_together k_Goods_together
  have D_Goods_together : Df K "together" "Goods.together" s_Goods_together ps_Goods_together fGoods_together := ⟨⟨_, F_Goods_together, F_Goods_together.binds (ps := ps_Goods_together) fun _ _ _ _ _ _ us hl => match us, hl with | [_, _], _ => rfl⟩⟩
  have F_BatchI := fun_mk (st := s_BatchI) l_BatchI c_BatchI k_BatchI
  have D_BatchI : Df K "__init__" "Batch.__init__" s_BatchI ps_BatchI fBatchI := ⟨⟨_, F_BatchI, F_BatchI.binds (ps := ps_BatchI) fun _ _ _ _ _ _ us hl => match us, hl with | [_, _, _], _ => rfl⟩⟩
  have F_LawI := fun_mk (st := s_LawI) l_LawI c_LawI k_LawI
  have D_LawI : Df K "__init__" "Law.__init__" s_LawI ps_LawI fLawI := ⟨⟨_, F_LawI, F_LawI.binds (ps := ps_LawI) fun _ _ _ _ _ _ us hl => match us, hl with | [_], _ => rfl⟩⟩
  have F_Law_way := fun_mk (st := s_Law_way) l_Law_way c_Law_way k_Law_way
  have D_Law_way : Df K "way" "Law.way" s_Law_way ps_Law_way fLaw_way := ⟨⟨_, F_Law_way, F_Law_way.binds (ps := ps_Law_way) fun _ _ _ _ _ _ us hl => match us, hl with | [_, _, _, _, _], _ => rfl⟩⟩
  have F_Law_breach := fun_mk (st := s_Law_breach) l_Law_breach c_Law_breach k_Law_breach
  have D_Law_breach : Df K "breach" "Law.breach" s_Law_breach ps_Law_breach fLaw_breach := ⟨⟨_, F_Law_breach, F_Law_breach.binds (ps := ps_Law_breach) fun _ _ _ _ _ _ us hl => match us, hl with | [_, _, _, _, _], _ => rfl⟩⟩
  have F_Law_selling_days := fun_mk (st := s_Law_selling_days) l_Law_selling_days c_Law_selling_days k_Law_selling_days
  have D_Law_selling_days : Df K "selling_days" "Law.selling_days" s_Law_selling_days ps_Law_selling_days fLaw_selling_days := ⟨⟨_, F_Law_selling_days, F_Law_selling_days.binds (ps := ps_Law_selling_days) fun _ _ _ _ _ _ us hl => match us, hl with | [_], _ => rfl⟩⟩
  have F_Law_making_days := fun_mk (st := s_Law_making_days) l_Law_making_days c_Law_making_days k_Law_making_days
  have D_Law_making_days : Df K "making_days" "Law.making_days" s_Law_making_days ps_Law_making_days fLaw_making_days := ⟨⟨_, F_Law_making_days, F_Law_making_days.binds (ps := ps_Law_making_days) fun _ _ _ _ _ _ us hl => match us, hl with | [_], _ => rfl⟩⟩
  have F_Law_learning_days := fun_mk (st := s_Law_learning_days) l_Law_learning_days c_Law_learning_days k_Law_learning_days
  have D_Law_learning_days : Df K "learning_days" "Law.learning_days" s_Law_learning_days ps_Law_learning_days fLaw_learning_days := ⟨⟨_, F_Law_learning_days, F_Law_learning_days.binds (ps := ps_Law_learning_days) fun _ _ _ _ _ _ us hl => match us, hl with | [_], _ => rfl⟩⟩
  have F_Law_selling := fun_mk (st := s_Law_selling) l_Law_selling c_Law_selling k_Law_selling
  have D_Law_selling : Df K "selling" "Law.selling" s_Law_selling ps_Law_selling fLaw_selling := ⟨⟨_, F_Law_selling, F_Law_selling.binds (ps := ps_Law_selling) fun _ _ _ _ _ _ us hl => match us, hl with | [_, _, _, _, _], _ => rfl⟩⟩
  have F_Law_making := fun_mk (st := s_Law_making) l_Law_making c_Law_making k_Law_making
  have D_Law_making : Df K "making" "Law.making" s_Law_making ps_Law_making fLaw_making := ⟨⟨_, F_Law_making, F_Law_making.binds (ps := ps_Law_making) fun _ _ _ _ _ _ us hl => match us, hl with | [_, _, _, _], _ => rfl⟩⟩
  have F_Law_learning := fun_mk (st := s_Law_learning) l_Law_learning c_Law_learning k_Law_learning
  have D_Law_learning : Df K "learning" "Law.learning" s_Law_learning ps_Law_learning fLaw_learning := ⟨⟨_, F_Law_learning, F_Law_learning.binds (ps := ps_Law_learning) fun _ _ _ _ _ _ us hl => match us, hl with | [_, _, _, _, _], _ => rfl⟩⟩
  have F_RefusedI := fun_mk (st := s_RefusedI) l_RefusedI c_RefusedI k_RefusedI
  have D_RefusedI : Df K "__init__" "Refused.__init__" s_RefusedI ps_RefusedI fRefusedI := ⟨⟨_, F_RefusedI, F_RefusedI.binds (ps := ps_RefusedI) fun _ _ _ _ _ _ us hl => match us, hl with | [_, _], _ => rfl⟩⟩
  have F_DeskI := fun_mk (st := s_DeskI) l_DeskI c_DeskI k_DeskI
  have D_DeskI : Df K "__init__" "Desk.__init__" s_DeskI ps_DeskI fDeskI := ⟨⟨_, F_DeskI, F_DeskI.binds (ps := ps_DeskI) fun _ _ _ _ _ _ us hl => match us, hl with | [_], _ => rfl⟩⟩
  have F_Desk_amendment := fun_mk (st := s_Desk_amendment) l_Desk_amendment c_Desk_amendment k_Desk_amendment
  have D_Desk_amendment : Df K "amendment" "Desk.amendment" s_Desk_amendment ps_Desk_amendment fDesk_amendment := ⟨⟨_, F_Desk_amendment, F_Desk_amendment.binds (ps := ps_Desk_amendment) fun _ _ _ _ _ _ us hl => match us, hl with | [_, _], _ => rfl⟩⟩
  have F_Desk_own_goods := fun_mk (st := s_Desk_own_goods) l_Desk_own_goods c_Desk_own_goods k_Desk_own_goods
  have D_Desk_own_goods : Df K "own_goods" "Desk.own_goods" s_Desk_own_goods ps_Desk_own_goods fDesk_own_goods := ⟨⟨_, F_Desk_own_goods, F_Desk_own_goods.binds (ps := ps_Desk_own_goods) fun _ _ _ _ _ _ us hl => match us, hl with | [_, _], _ => rfl⟩⟩
  have F_Desk_batch := fun_mk (st := s_Desk_batch) l_Desk_batch c_Desk_batch k_Desk_batch
  have D_Desk_batch : Df K "batch" "Desk.batch" s_Desk_batch ps_Desk_batch fDesk_batch := ⟨⟨_, F_Desk_batch, F_Desk_batch.binds (ps := ps_Desk_batch) fun _ _ _ _ _ _ us hl => match us, hl with | [_, _], _ => rfl⟩⟩
  have F_ruling := fun_mk (st := s_ruling) l_ruling c_ruling k_ruling
  have D_ruling : Df K "ruling" "ruling" s_ruling ps_ruling fruling := ⟨⟨_, F_ruling, F_ruling.binds (ps := ps_ruling) fun _ _ _ _ _ _ us hl => match us, hl with | [_, _, _, _, _, _], _ => rfl⟩⟩
  have F_turns_from := fun_mk (st := s_turns_from) l_turns_from c_turns_from k_turns_from
  have D_turns_from : Df K "turns_from" "turns_from" s_turns_from ps_turns_from fturns_from := ⟨⟨_, F_turns_from, F_turns_from.binds (ps := ps_turns_from) fun _ _ _ _ _ _ us hl => match us, hl with | [_, _], _ => rfl⟩⟩
  have F_stretches := fun_mk (st := s_stretches) l_stretches c_stretches k_stretches
  have D_stretches : Df K "stretches" "stretches" s_stretches ps_stretches fstretches := ⟨⟨_, F_stretches, F_stretches.binds (ps := ps_stretches) fun _ _ _ _ _ _ us hl => match us, hl with | [_, _], _ => rfl⟩⟩
  have F_need := fun_mk (st := s_need) l_need c_need k_need
  have D_need : Df K "need" "need" s_need ps_need fneed := ⟨⟨_, F_need, F_need.binds (ps := ps_need) fun _ _ _ _ _ _ us hl => match us, hl with | [_, _], _ => rfl⟩⟩
  have F_are_days := fun_mk (st := s_are_days) l_are_days c_are_days k_are_days
  have D_are_days : Df K "are_days" "are_days" s_are_days ps_are_days fare_days := ⟨⟨_, F_are_days, F_are_days.binds (ps := ps_are_days) fun _ _ _ _ _ _ us hl => match us, hl with | [_], _ => rfl⟩⟩
  have F_substances := fun_mk (st := s_substances) l_substances c_substances k_substances
  have D_substances : Df K "substances" "substances" s_substances ps_substances fsubstances := ⟨⟨_, F_substances, F_substances.binds (ps := ps_substances) fun _ _ _ _ _ _ us hl => match us, hl with | [_], _ => rfl⟩⟩
  have F_amend := fun_mk (st := s_amend) l_amend c_amend k_amend
  have D_amend : Df K "amend" "amend" s_amend ps_amend famend := ⟨⟨_, F_amend, F_amend.binds (ps := ps_amend) fun _ _ _ _ _ _ us hl => match us, hl with | [_, _, _, _], _ => rfl⟩⟩
  have F_correct := fun_mk (st := s_correct) l_correct c_correct k_correct
  have D_correct : Df K "correct" "correct" s_correct ps_correct fcorrect := ⟨⟨_, F_correct, F_correct.binds (ps := ps_correct) fun _ _ _ _ _ _ us hl => match us, hl with | [_, _, _, _], _ => rfl⟩⟩
  have F_withdraw := fun_mk (st := s_withdraw) l_withdraw c_withdraw k_withdraw
  have D_withdraw : Df K "withdraw" "withdraw" s_withdraw ps_withdraw fwithdraw := ⟨⟨_, F_withdraw, F_withdraw.binds (ps := ps_withdraw) fun _ _ _ _ _ _ us hl => match us, hl with | [_, _, _], _ => rfl⟩⟩
  have F_put_goods := fun_mk (st := s_put_goods) l_put_goods c_put_goods k_put_goods
  have D_put_goods : Df K "put_goods" "put_goods" s_put_goods ps_put_goods fput_goods := ⟨⟨_, F_put_goods, F_put_goods.binds (ps := ps_put_goods) fun _ _ _ _ _ _ us hl => match us, hl with | [_, _, _], _ => rfl⟩⟩
  have F_drop := fun_mk (st := s_drop) l_drop c_drop k_drop
  have D_drop : Df K "drop" "drop" s_drop ps_drop fdrop := ⟨⟨_, F_drop, F_drop.binds (ps := ps_drop) fun _ _ _ _ _ _ us hl => match us, hl with | [_, _], _ => rfl⟩⟩
  have F_make := fun_mk (st := s_make) l_make c_make k_make
  have D_make : Df K "make" "make" s_make ps_make fmake := ⟨⟨_, F_make, F_make.binds (ps := ps_make) fun _ _ _ _ _ _ us hl => match us, hl with | [_, _], _ => rfl⟩⟩
  have F_sell := fun_mk (st := s_sell) l_sell c_sell k_sell
  have D_sell : Df K "sell" "sell" s_sell ps_sell fsell := ⟨⟨_, F_sell, F_sell.binds (ps := ps_sell) fun _ _ _ _ _ _ us hl => match us, hl with | [_, _], _ => rfl⟩⟩
  have F_amendment_told := fun_mk (st := s_amendment_told) l_amendment_told c_amendment_told k_amendment_told
  have D_amendment_told : Df K "amendment_told" "amendment_told" s_amendment_told ps_amendment_told famendment_told := ⟨⟨_, F_amendment_told, F_amendment_told.binds (ps := ps_amendment_told) fun _ _ _ _ _ _ us hl => match us, hl with | [_, _, _], _ => rfl⟩⟩
  have F_law_told := fun_mk (st := s_law_told) l_law_told c_law_told k_law_told
  have D_law_told : Df K "law_told" "law_told" s_law_told ps_law_told flaw_told := ⟨⟨_, F_law_told, F_law_told.binds (ps := ps_law_told) fun _ _ _ _ _ _ us hl => match us, hl with | [_, _], _ => rfl⟩⟩
  have F_asked_goods := fun_mk (st := s_asked_goods) l_asked_goods c_asked_goods k_asked_goods
  have D_asked_goods : Df K "asked_goods" "asked_goods" s_asked_goods ps_asked_goods fasked_goods := ⟨⟨_, F_asked_goods, F_asked_goods.binds (ps := ps_asked_goods) fun _ _ _ _ _ _ us hl => match us, hl with | [_, _, _], _ => rfl⟩⟩
  have F_because := fun_mk (st := s_because) l_because c_because k_because
  have D_because : Df K "because" "because" s_because ps_because fbecause := ⟨⟨_, F_because, F_because.binds (ps := ps_because) fun _ _ _ _ _ _ us hl => match us, hl with | [_, _, _, _, _], _ => rfl⟩⟩
  have F_last_told := fun_mk (st := s_last_told) l_last_told c_last_told k_last_told
  have D_last_told : Df K "last_told" "last_told" s_last_told ps_last_told flast_told := ⟨⟨_, F_last_told, F_last_told.binds (ps := ps_last_told) fun _ _ _ _ _ _ us hl => match us, hl with | [_], _ => rfl⟩⟩
  have F_next_told := fun_mk (st := s_next_told) l_next_told c_next_told k_next_told
  have D_next_told : Df K "next_told" "next_told" s_next_told ps_next_told fnext_told := ⟨⟨_, F_next_told, F_next_told.binds (ps := ps_next_told) fun _ _ _ _ _ _ us hl => match us, hl with | [_], _ => rfl⟩⟩
  have F_of_goods := fun_mk (st := s_of_goods) l_of_goods c_of_goods k_of_goods
  have D_of_goods : Df K "of_goods" "of_goods" s_of_goods ps_of_goods fof_goods := ⟨⟨_, F_of_goods, F_of_goods.binds (ps := ps_of_goods) fun _ _ _ _ _ _ us hl => match us, hl with | [_, _, _], _ => rfl⟩⟩
  have F_stands := fun_mk (st := s_stands) l_stands c_stands k_stands
  have D_stands : Df K "stands" "stands" s_stands ps_stands fstands := ⟨⟨_, F_stands, F_stands.binds (ps := ps_stands) fun _ _ _ _ _ _ us hl => match us, hl with | [_, _], _ => rfl⟩⟩
  have F_fallen := fun_mk (st := s_fallen) l_fallen c_fallen k_fallen
  have D_fallen : Df K "fallen" "fallen" s_fallen ps_fallen ffallen := ⟨⟨_, F_fallen, F_fallen.binds (ps := ps_fallen) fun _ _ _ _ _ _ us hl => match us, hl with | [_, _, _], _ => rfl⟩⟩
  have F_left := fun_mk (st := s_left) l_left c_left k_left
  have D_left : Df K "left" "left" s_left ps_left fleft := ⟨⟨_, F_left, F_left.binds (ps := ps_left) fun _ _ _ _ _ _ us hl => match us, hl with | [_, _], _ => rfl⟩⟩
  have F_latest := fun_mk (st := s_latest) l_latest c_latest k_latest
  have D_latest : Df K "latest" "latest" s_latest ps_latest flatest := ⟨⟨_, F_latest, F_latest.binds (ps := ps_latest) fun _ _ _ _ _ _ us hl => match us, hl with | [_, _], _ => rfl⟩⟩
  have F_told := fun_mk (st := s_told) l_told c_told k_told
  have D_told : Df K "told" "told" s_told ps_told ftold := ⟨⟨_, F_told, F_told.binds (ps := ps_told) fun _ _ _ _ _ _ us hl => match us, hl with | [_], _ => rfl⟩⟩
  have F_of_changes := fun_mk (st := s_of_changes) l_of_changes c_of_changes k_of_changes
  have D_of_changes : Df K "of_changes" "of_changes" s_of_changes ps_of_changes fof_changes := ⟨⟨_, F_of_changes, F_of_changes.binds (ps := ps_of_changes) fun _ _ _ _ _ _ us hl => match us, hl with | [_, _, _, _], _ => rfl⟩⟩
  have F_done := fun_mk (st := s_done) l_done c_done k_done
  have D_done : Df K "done" "done" s_done ps_done fdone := ⟨⟨_, F_done, F_done.binds (ps := ps_done) fun _ _ _ _ _ _ us hl => match us, hl with | [_, _, _, _], _ => rfl⟩⟩
  have F_answer_of := fun_mk (st := s_answer_of) l_answer_of c_answer_of k_answer_of
  have D_answer_of : Df K "answer_of" "answer_of" s_answer_of ps_answer_of fanswer_of := ⟨⟨_, F_answer_of, F_answer_of.binds (ps := ps_answer_of) fun _ _ _ _ _ _ us hl => match us, hl with | [_, _, _, _], _ => rfl⟩⟩
  have F_answers := fun_mk (st := s_answers) l_answers c_answers k_answers
  have D_answers : Df K "answers" "answers" s_answers ps_answers fanswers := ⟨⟨_, F_answers, F_answers.binds (ps := ps_answers) fun _ _ _ _ _ _ us hl => match us, hl with | [_], _ => rfl⟩⟩
  exact {
    gAmendment := PySem.W.mg_of X G aC_Amendment
    lAmendment := ⟨pg_Amendment, hd_Amendment, po_Amendment, sa_Amendment⟩
    mAmendment := ⟨mk_Amendment, a_AmendmentI, i_AmendmentI, kc_Amendment⟩
    nAmendment_number := n_Amendment_number
    nAmendment_known := n_Amendment_known
    nAmendment_kind := n_Amendment_kind
    nAmendment_substances := n_Amendment_substances
    nAmendment_limit := n_Amendment_limit
    nAmendment_days := n_Amendment_days
    nAmendment_corrections := n_Amendment_corrections
    nAmendment_withdrawn := n_Amendment_withdrawn
    gGoods := PySem.W.mg_of X G aC_Goods
    lGoods := ⟨pg_Goods, hd_Goods, po_Goods, sa_Goods⟩
    mGoods := ⟨mk_Goods, a_GoodsI, i_GoodsI, kc_Goods⟩
    nGoods_kind := n_Goods_kind
    nGoods_new := n_Goods_new
    nGoods_contents := n_Goods_contents
    gBatch := PySem.W.mg_of X G aC_Batch
    lBatch := ⟨pg_Batch, hd_Batch, po_Batch, sa_Batch⟩
    mBatch := ⟨mk_Batch, a_BatchI, i_BatchI, kc_Batch⟩
    nBatch_goods := n_Batch_goods
    nBatch_made := n_Batch_made
    gLaw := PySem.W.mg_of X G aC_Law
    lLaw := ⟨pg_Law, hd_Law, po_Law, sa_Law⟩
    mLaw := ⟨mk_Law, a_LawI, i_LawI, kc_Law⟩
    nLaw_amendments := n_Law_amendments
    gRefused := PySem.W.mg_of X G aC_Refused
    nRefused_number := n_Refused_number
    gDesk := PySem.W.mg_of X G aC_Desk
    lDesk := ⟨pg_Desk, hd_Desk, po_Desk, sa_Desk⟩
    mDesk := ⟨mk_Desk, a_DeskI, i_DeskI, kc_Desk⟩
    nDesk_law := n_Desk_law
    nDesk_goods := n_Desk_goods
    nDesk_batches := n_Desk_batches
    dAmendmentI := D_AmendmentI
    dAmendment_is_repeal := D_Amendment_is_repeal
    eAmendment_is_repeal := ⟨a_Amendment_is_repeal, i_Amendment_is_repeal, k_Amendment_is_repeal⟩
    dAmendment_is_void := D_Amendment_is_void
    eAmendment_is_void := ⟨a_Amendment_is_void, i_Amendment_is_void, k_Amendment_is_void⟩
    dAmendment_is_known := D_Amendment_is_known
    eAmendment_is_known := ⟨a_Amendment_is_known, i_Amendment_is_known, k_Amendment_is_known⟩
    dAmendment_limit_on := D_Amendment_limit_on
    eAmendment_limit_on := ⟨a_Amendment_limit_on, i_Amendment_limit_on, k_Amendment_limit_on⟩
    dAmendment_binds := D_Amendment_binds
    eAmendment_binds := ⟨a_Amendment_binds, i_Amendment_binds, k_Amendment_binds⟩
    dAmendment_matter := D_Amendment_matter
    eAmendment_matter := ⟨a_Amendment_matter, i_Amendment_matter, k_Amendment_matter⟩
    dGoodsI := D_GoodsI
    dGoods_together := D_Goods_together
    eGoods_together := ⟨a_Goods_together, i_Goods_together, k_Goods_together⟩
    dBatchI := D_BatchI
    dLawI := D_LawI
    dLaw_way := D_Law_way
    eLaw_way := ⟨a_Law_way, i_Law_way, k_Law_way⟩
    dLaw_breach := D_Law_breach
    eLaw_breach := ⟨a_Law_breach, i_Law_breach, k_Law_breach⟩
    dLaw_selling_days := D_Law_selling_days
    eLaw_selling_days := ⟨a_Law_selling_days, i_Law_selling_days, k_Law_selling_days⟩
    dLaw_making_days := D_Law_making_days
    eLaw_making_days := ⟨a_Law_making_days, i_Law_making_days, k_Law_making_days⟩
    dLaw_learning_days := D_Law_learning_days
    eLaw_learning_days := ⟨a_Law_learning_days, i_Law_learning_days, k_Law_learning_days⟩
    dLaw_selling := D_Law_selling
    eLaw_selling := ⟨a_Law_selling, i_Law_selling, k_Law_selling⟩
    dLaw_making := D_Law_making
    eLaw_making := ⟨a_Law_making, i_Law_making, k_Law_making⟩
    dLaw_learning := D_Law_learning
    eLaw_learning := ⟨a_Law_learning, i_Law_learning, k_Law_learning⟩
    dRefusedI := D_RefusedI
    dDeskI := D_DeskI
    dDesk_amendment := D_Desk_amendment
    eDesk_amendment := ⟨a_Desk_amendment, i_Desk_amendment, k_Desk_amendment⟩
    dDesk_own_goods := D_Desk_own_goods
    eDesk_own_goods := ⟨a_Desk_own_goods, i_Desk_own_goods, k_Desk_own_goods⟩
    dDesk_batch := D_Desk_batch
    eDesk_batch := ⟨a_Desk_batch, i_Desk_batch, k_Desk_batch⟩
    druling := D_ruling
    gruling := PySem.W.mg_of X G a_ruling
    dturns_from := D_turns_from
    gturns_from := PySem.W.mg_of X G a_turns_from
    dstretches := D_stretches
    gstretches := PySem.W.mg_of X G a_stretches
    dneed := D_need
    gneed := PySem.W.mg_of X G a_need
    dare_days := D_are_days
    gare_days := PySem.W.mg_of X G a_are_days
    dsubstances := D_substances
    gsubstances := PySem.W.mg_of X G a_substances
    damend := D_amend
    gamend := PySem.W.mg_of X G a_amend
    dcorrect := D_correct
    gcorrect := PySem.W.mg_of X G a_correct
    dwithdraw := D_withdraw
    gwithdraw := PySem.W.mg_of X G a_withdraw
    dput_goods := D_put_goods
    gput_goods := PySem.W.mg_of X G a_put_goods
    ddrop := D_drop
    gdrop := PySem.W.mg_of X G a_drop
    dmake := D_make
    gmake := PySem.W.mg_of X G a_make
    dsell := D_sell
    gsell := PySem.W.mg_of X G a_sell
    damendment_told := D_amendment_told
    gamendment_told := PySem.W.mg_of X G a_amendment_told
    dlaw_told := D_law_told
    glaw_told := PySem.W.mg_of X G a_law_told
    dasked_goods := D_asked_goods
    gasked_goods := PySem.W.mg_of X G a_asked_goods
    dbecause := D_because
    gbecause := PySem.W.mg_of X G a_because
    dlast_told := D_last_told
    glast_told := PySem.W.mg_of X G a_last_told
    dnext_told := D_next_told
    gnext_told := PySem.W.mg_of X G a_next_told
    dof_goods := D_of_goods
    gof_goods := PySem.W.mg_of X G a_of_goods
    dstands := D_stands
    gstands := PySem.W.mg_of X G a_stands
    dfallen := D_fallen
    gfallen := PySem.W.mg_of X G a_fallen
    dleft := D_left
    gleft := PySem.W.mg_of X G a_left
    dlatest := D_latest
    glatest := PySem.W.mg_of X G a_latest
    dtold := D_told
    gtold := PySem.W.mg_of X G a_told
    dof_changes := D_of_changes
    gof_changes := PySem.W.mg_of X G a_of_changes
    ddone := D_done
    gdone := PySem.W.mg_of X G a_done
    danswer_of := D_answer_of
    ganswer_of := PySem.W.mg_of X G a_answer_of
    danswers := D_answers
    ganswers := PySem.W.mg_of X G a_answers
    rO := ⟨⟨nm, q, NN, bs, _, sn, sub, ab, col, dd, m0, m1, m2, m3, m5, xL, by decide +kernel⟩, sa, eC, tC, kC⟩
    rX := ⟨ga, gg, eC, hC⟩
    rI := a_RefusedI
    rT := t1
    rE := exm_self eC iC tC sC
    gLAST_DAY := ⟨_, PySem.W.mg_of X G z_LAST_DAY⟩
    gMOST_AMENDMENTS := ⟨_, PySem.W.mg_of X G z_MOST_AMENDMENTS⟩
    gMOST_CONTENT := ⟨_, PySem.W.mg_of X G z_MOST_CONTENT⟩
    gMOST_CORRECTIONS := ⟨_, PySem.W.mg_of X G z_MOST_CORRECTIONS⟩
    gNUMBERS := PySem.W.mg_of X G z_NUMBERS
    qNUMBERS := fun H => by
      obtain ⟨y1, y2, its, n, y3, y4, y5⟩ := q_NUMBERS
      exact Or.inr ⟨oN, its, n, o_NUMBERS, y1, y2, y3, y4, y5⟩
    gLISTED := PySem.W.mg_of X G z_LISTED
    qLISTED := fun H => by
      obtain ⟨y1, its, n, y3, y4, y5⟩ := q_LISTED
      exact Or.inr ⟨oL, its, n, o_LISTED, y1, y3, y4, y5⟩
    b_len := PySem.W.mg_none_of X G z_len
    b_set := PySem.W.mg_none_of X G z_set
    b_all := PySem.W.mg_none_of X G z_all
    b_any := PySem.W.mg_none_of X G z_any
    b_sum := PySem.W.mg_none_of X G z_sum
    b_sorted := PySem.W.mg_none_of X G z_sorted
    b_list := PySem.W.mg_none_of X G z_list
    b_tuple := PySem.W.mg_none_of X G z_tuple
    b_max := PySem.W.mg_none_of X G z_max
    b_range := PySem.W.mg_none_of X G z_range
    b_enumerate := PySem.W.mg_none_of X G z_enumerate
  }
def TxtIn {K : PySem.W.Frag} {h : Heap} (_ : K.In h) (mg : Str → Option Value) (A : Adr) : Prop := Txt K mg A
end Bd
/-! Rules that the layer lacks -/
namespace L2
open PySem PySem.Spec PyProof.Rows
section
variable {X : Cx} {a b c d : Expr} {ta tb tc td : TE} {pos : Pos}
/-- three comparisons in a chain -/
def tChain3 (r r' r'' : R2) (ta tb tc td : TE) : TE := fun σ H Q => ta σ H fun x H1 => tb σ H1 fun y H2 => r x y H2 fun z H3 => ∃ k, z = .bl k ∧
  (if k = true then tc σ H3 fun w' H4 => r' y w' H4 fun z' H5 => ∃ k', z' = .bl k' ∧ (if k' = true then td σ H5 fun v' H6 => r'' w' v' H6 Q else Q (.bl false) H5) else Q (.bl false) H3)
theorem pe_chain3 {op op' op'' : CmpOp} {r r' r'' : R2} (ho : OpR X (compareOp op) r) (ho' : OpR X (compareOp op') r') (ho'' : OpR X (compareOp op'') r'') (ha : PE X a ta) (hb : PE X b tb) (hc : PE X c tc) (hd : PE X d td)
    (hm : lastMarks [op, op', op''] [b, c, d] = false := by with_unfolding_all rfl) : PE X (.Compare a [op, op', op''] [b, c, d] pos) (tChain3 r r' r'' ta tb tc td) := by
  refine ⟨fun pins s σ H Q I h => ?_⟩
  refine Compare_chain (thn (ha.run pins s σ H _ I h) fun v s1 ⟨x, H1, I1, r1, q1⟩ => ?_) hm
  refine chain_link (thn (hb.run pins s1 σ H1 _ I1 q1) fun u s2 ⟨y, H2, I2, r2, q2⟩ => ?_)
  refine thn (ho pins s2 σ H2 x y v u _ I2 r1 r2 q2) fun e s3 ⟨z, H3, I3, r3, k, ek, q3⟩ => ?_
  subst ek
  cases r3
  refine wpAny_truthy_bool ?_
  cases k with
  | false => exact ite_ff ⟨.bl false, H3, I3, rfl, q3⟩
  | true =>
    refine ite_tt (chain_link (thn (hc.run pins s3 σ H3 _ I3 q3) fun u4 s4 ⟨y4, H4, I4, r4, q4⟩ => ?_))
    refine thn (ho' pins s4 σ H4 y y4 u u4 _ I4 r2 r4 q4) fun e5 s5 ⟨z5, H5, I5, r5, k5, ek5, q5⟩ => ?_
    subst ek5
    cases r5
    refine wpAny_truthy_bool ?_
    cases k5 with
    | false => exact ite_ff ⟨.bl false, H5, I5, rfl, q5⟩
    | true => exact ite_tt (chain_last (thn (hd.run pins s5 σ H5 _ I5 q5) fun u6 s6 ⟨y6, H6, I6, r6, q6⟩ => ho'' pins s6 σ H6 y4 y6 u4 u6 Q I6 r4 r6 q6))
/-- > of two pairs of ints -/
def rGtP (K : PySem.W.Frag) : R2 := fun x y H Q => ∃ (a b : Addr) (i j i' j' : Int), x = .ref a ∧ y = .ref b ∧ SqT K H a [.int i, .int j] ∧ SqT K H b [.int i', .int j'] ∧ Q (.bl (if i = i' then decide (j' < j) else decide (i' < i))) H
theorem op_gtP (hu : X.A.units < cLine) : OpR X (compareOp .Gt) (rGtP X.K) := by
  intro pins s σ H x y v u Q I rx ry h
  obtain ⟨a, b, i, j, i', j', rfl, rfl, ha, hb, q⟩ := h
  cases rx
  cases ry
  obtain ⟨its, r1, p1, _⟩ := I.tuple ha
  obtain ⟨its2, r2, p2, _⟩ := I.tuple hb
  cases r1 with
  | cons x1 r1 => cases r1 with
    | cons x2 r1 => cases r1 with
      | nil => cases r2 with
        | cons y1 r2 => cases r2 with
          | cons y2 r2 => cases r2 with
            | nil =>
              obtain ⟨t1, rfl⟩ := x1
              obtain ⟨t2, rfl⟩ := x2
              obtain ⟨t3, rfl⟩ := y1
              obtain ⟨t4, rfl⟩ := y2
              have beqd : ∀ m n : Int, (m == n) = decide (m = n) := fun m n => by
                by_cases q : m = n
                · rw [decide_eq_true q]; exact beq_iff_eq.mpr q
                · rw [decide_eq_false q]; exact beq_eq_false_iff_ne.mpr q
              have R := Ob.RcOp.tuples_gt (A := X.A) (s := s) (e := fun n => if n = 0 then decide (i = i') else decide (j = j')) (r := fun n => if n = 0 then decide (i' < i) else decide (j' < j)) p1 p2 hu
                (fun n h1 h2 => by
                  match n, h1, h2 with
                  | 0, _, _ =>
                    show SeqAt.EqAt _ _ (.int i t1) (.int i' t3) (decide (i = i'))
                    rw [← beqd]
                    exact SeqAt.EqAt.int_int _ _ _ _
                  | 1, _, _ =>
                    show SeqAt.EqAt _ _ (.int j t2) (.int j' t4) (decide (j = j'))
                    rw [← beqd]
                    exact SeqAt.EqAt.int_int _ _ _ _
                  | n + 2, h1, _ => exact absurd h1 (by simp))
                (fun n h1 h2 _ => by
                  match n, h1, h2 with
                  | 0, _, _ => exact Ob.RcOp.gt_int _ _ _ _
                  | 1, _, _ => exact Ob.RcOp.gt_int _ _ _ _
                  | n + 2, h1, _ => exact absurd h1 (by simp))
              refine R X.prog X.w X.xe _ ?_
              refine ⟨.bl (if i = i' then decide (j' < j) else decide (i' < i)), H, I, ?_, q⟩
              show Value.bool _ = Value.bool _
              congr 1
              show (if decide (i = i') = true then (if decide (j = j') = true then false else decide (j' < j)) else decide (i' < i)) = _
              by_cases e1 : i = i'
              · rw [decide_eq_true e1, if_pos rfl, if_pos e1]
                by_cases e2 : j = j'
                · rw [decide_eq_true e2, if_pos rfl, decide_eq_false (by omega)]
                · rw [decide_eq_false e2, if_neg Bool.false_ne_true]
              · rw [decide_eq_false e1, if_neg Bool.false_ne_true, if_neg e1]
end
/-! ### sorted of a tuple of ints, of a dict with int keys: any number -/
section
variable {prog : Program} {w : World} {A : Around} {E : Value → Shared → Prop} {s : Shared}
theorem gather_tuple {l : Addr} {vs : List Value} {Q : List Value → Shared → Prop} (hl : s.heap.IsTuple l vs.toArray) (hsz : vs.length ≤ sizeLine)
    (h : Q vs { s with heap := (s.heap.push (seqObj "list" #[] 0)).update s.heap.objs.size (Obj.mapSeq (· ++ vs.toArray)) }) :
    wpAny (model prog w) A (collect (.ref l)) Q E s := by
  obtain ⟨o, ho, hc, n, hd⟩ := id hl
  unfold collect
  refine wpAny_bind (wpAny_runValue (codeAny_builtin entry_proto_collect' ?_))
  show wpAny _ _ (do again (.builtin "list.__iadd__" ⟨[← newList [], .ref l], []⟩)) _ _ s
  refine wpAny_bind (wpAny_newList (wpAny_pure ⟨Code.quiet_builtin _ (by decide +kernel), codeAny_builtin entry_list_iadd' ?_⟩))
  show wpAny _ _ (Builtin.List.listExtendWith (.ref s.heap.objs.size) (.ref l) (.ref s.heap.objs.size)) _ _ { s with heap := s.heap.push (seqObj "list" #[] 0) }
  unfold Builtin.List.listExtendWith
  have ho' : (s.heap.push (seqObj "list" #[] 0)).get? l = some o := Heap.get?_push_of_some _ ho
  refine wpAny_bind (wpAny_typeOf (T := "tuple") ⟨o, ho', hc⟩ ?_)
  rw [if_pos (by rw [show (Value.type "tuple" == Value.type "tuple") = true by decide]; simp)]
  refine wpAny_bind (listItems_at ho' hd ?_)
  refine wpAny_bind (listItems_at (xs := #[]) (n := 0) (Heap.get?_push_size _ rfl) rfl ?_)
  rw [if_neg (by simp)]
  refine wpAny_bind (listUpdate_at (xs := #[]) (n := 0) (Heap.get?_push_size _ rfl) rfl ?_ (Nat.zero_le _) (by show (#[] ++ vs.toArray).size ≤ sizeLine + 1; simp only [Array.size_append, List.size_toArray, List.length_nil]; omega))
  refine wpAny_pure ?_
  show wpAny (model prog w) A (do
      let o ← load s.heap.objs.size
      match o.data with
      | .seq xs _ => pure xs.toList
      | _ => unsupported "internal:collect") Q E { s with heap := (s.heap.push (seqObj "list" #[] 0)).update s.heap.objs.size (Obj.mapSeq (· ++ vs.toArray)) }
  refine wpAny_bind (wpAny_load (get?_update_seq (Heap.get?_push_size _ rfl) _) ?_)
  show wpAny _ _ (pure ((#[] : Array Value) ++ vs.toArray).toList) Q E _
  rw [show ((#[] : Array Value) ++ vs.toArray).toList = vs by simp]
  exact wpAny_pure h
/-- sorted, once its items are gathered -/
theorem sorted_gathered {r : Value} {ns : List Int} {Q : Value → Shared → Prop}
    (hc : ∀ Q' : List Value → Shared → Prop, (∀ (vs : List Value) (h' : Heap) (tk : Nat), IntsAre vs ns → vs.length ≤ sizeLine → (∀ b o, s.heap.get? b = some o → h'.get? b = some o) → Q' vs { s with heap := h', toks := tk }) →
      ∀ E', wpAny (model prog w) A.in1 (collect r) Q' E' s)
    (h : ∀ (out : List Value) (ns' : List Int) (h' g : Heap) (tk : Nat) (c : Nat), IntsAre out ns' → ns'.Perm ns → ns'.Pairwise (· ≤ ·) → out.length ≤ sizeLine → (∀ b o, s.heap.get? b = some o → h'.get? b = some o) → (∀ b o, h'.get? b = some o → g.get? b = some o) →
      g.get? h'.objs.size = some (seqObj "list" out.toArray c) → Q (.ref h'.objs.size) { s with heap := g, toks := tk }) : wpAny (model prog w) A (call (.builtin "sorted") [r]) Q E s := by
  refine Calls.call_function_entry PyProof.Rows.kind_sorted PyProof.Rows.plain_sorted PyProof.Rows.entry_sorted (PyProof.Rows.args_sorted1 _) ?_
  unfold Builtin.«sorted»
  refine wpAny_bind (m := checkCount "sorted" 1 1 _) (wpAny_pure ?_)
  refine wpAny_bind (hc _ (fun vs h' tk hI hz hk => ?_) _)
  refine wpAny_bind (wpAny_newList ?_ hz)
  have hoL : (h'.push (seqObj "list" vs.toArray 0)).get? h'.objs.size = some (seqObj "list" vs.toArray 0) := Heap.get?_push_size _ rfl
  show wpAny _ _ _ _ _ { s with heap := h'.push (seqObj "list" vs.toArray 0), toks := tk }
  refine wpAny_bind (wpAny_holding (wpAny_call_entry PyProof.Rows.slot_list_sort ⟨_, hoL, rfl⟩ PyProof.Rows.entry_list_sort
    (SrtO.list_sort_ord (s := { s with heap := h'.push (seqObj "list" vs.toArray 0), toks := tk }) SrtO.swo_int hoL hz (fun h2 => SrtO.ints_sortable hI h2) fun out h1 h2 => ⟨_, rfl, ?_⟩) (PyProof.Rows.args_list_sort _)))
  obtain ⟨k1, k2, k3⟩ := SrtO.ints_out hI h1 h2
  obtain ⟨ep, he'⟩ := PyProof.Rows.sortedHeap_at (vs := vs) (out := out.toArray) hoL
  refine wpAny_pure ⟨_, rfl, h out (out.map SrtO.iv) h' _ tk ep k1 k2 k3 ?_ hk (fun b u e => ?_) he'⟩
  · have := h2.perm.length_eq
    omega
  have hb : b < h'.objs.size := Heap.lt_size e
  rw [PyProof.Rows.sortedHeap_old (Nat.ne_of_lt hb) (by rw [size_push']; exact Nat.lt_succ_of_lt hb)]
  exact Heap.get?_push_of_some _ e
end
section
variable {X : Cx}
def SortOut (ns : List Int) (H : Hp) (Q : VK) : Prop := ∀ (ns' : List Int) (p : Addr), ns'.Perm ns → ns'.Pairwise (· ≤ ·) → H p = none → Q (.ref p) (upd H p (.lst (ns'.map V.int)))
theorem sort_out {pins : List (Addr × Obj)} {σ : St} {H : Hp} {s : Shared} {Q : VK} {ns : List Int} (I : Inv X pins σ H s) (q : SortOut ns H Q) (out : List Value) (ns' : List Int) (h' g : Heap) (tk : Nat) (c : Nat) (k1 : IntsAre out ns') (k2 : ns'.Perm ns) (k3 : ns'.Pairwise (· ≤ ·)) (k4 : out.length ≤ sizeLine)
    (hk : ∀ b o, s.heap.get? b = some o → h'.get? b = some o) (hg : ∀ b o, h'.get? b = some o → g.get? b = some o) (e : g.get? h'.objs.size = some (seqObj "list" out.toArray c)) : EP X pins σ Q (.ref h'.objs.size) { s with heap := g, toks := tk } := by
  have I1 : Inv X pins σ H { s with heap := h', toks := tk } := I.kept hk
  have hlen : (ns'.map V.int).length ≤ sizeLine := by
    rw [List.length_map, ← k1.length]
    exact k4
  exact ⟨.ref h'.objs.size, upd H h'.objs.size (.lst (ns'.map V.int)), I1.laid (t' := tk) hg (Nat.le_refl _) (show ObjOk X.prog X.w _ _ _ (.lst (ns'.map V.int)) from ⟨hlen, out, c, vals_of_ints k1, e⟩), rfl, q ns' _ k2 k3 (I1.hok.fresh (Nat.le_refl _))⟩
/-- sorted(t), t a tuple of ints -/
def rSortedU (K : PySem.W.Frag) : List V → Hp → VK → Prop := fun vs H Q => ∃ (a : Addr) (ns : List Int), vs = [V.ref a] ∧ SqT K H a (ns.map V.int) ∧ SortOut ns H Q
theorem cr_sortedU : CallR X (.builtin "sorted") (rSortedU X.K) := by
  intro pins s σ H vs us Q I r h
  obtain ⟨a, ns, rfl, hs, q⟩ := h
  obtain ⟨its, rv, hl, hz⟩ := I.tuple hs
  rw [Vals.ref1 r]
  have hlen : its.length ≤ sizeLine := by rw [← rv.length]; exact hz
  refine sorted_gathered (ns := ns) (fun Q' hQ E' => gather_tuple hl hlen (hQ its _ s.toks rv.ints hlen fun b o e => ?_)) (fun out ns' h' g tk c k1 k2 k3 k4 hk hg e => sort_out I q out ns' h' g tk c k1 k2 k3 k4 hk hg e)
  rw [Heap.get?_update_ne _ _ _ _ (Nat.ne_of_lt (Heap.lt_size e))]
  exact Heap.get?_push_of_some _ e
/-- sorted(d), d a dict with int keys -/
def rSortedM : List V → Hp → VK → Prop := fun vs H Q => ∃ (a : Addr) (kvs : List (Key × V)) (ks : List Int), vs = [.ref a] ∧ Rd H a (.dK kvs) ∧ kvs.map (·.1) = ks.map Sum.inl ∧ SortOut ks H Q
theorem cr_sortedM (hcalm : X.calm = true) : CallR X (.builtin "sorted") rSortedM := by
  intro pins s σ H xs us Q I r q
  obtain ⟨a, kvs, ks, ex, hd, hks, q⟩ := q
  subst ex
  obtain ⟨u, eu, rx⟩ := vals1 r
  subst eu
  cases rx
  obtain ⟨z, lo, vs, rel, dd⟩ := dk_rd I.hok hd
  obtain ⟨ep, hat⟩ := dd.dictAt
  have hkeys : vs.map (·.1) = ks.map Sum.inl := rel.keys.symm.trans hks
  have hl : vs.length = ks.length := by
    have e := congrArg List.length hkeys
    rw [List.length_map, List.length_map] at e
    exact e
  have h16 : vs.length ≤ sizeLine := by rw [← rel.length]; exact z
  refine sorted_gathered (ns := ks) (fun Q' hQ E' => PySem.W.kdu_collect (A := X.A.in1) (PySem.W.kdl_dict (knd := mixKind X.prog X.w) (kvs := vs) (ep := ep) lo) (I.ok.hd hcalm) hat h16 fun h' tk acc hk hacc => ?_)
    (fun out ns' h' g tk c k1 k2 k3 k4 hk hg e => sort_out I q out ns' h' g tk c k1 k2 k3 k4 hk hg e)
  have hal : acc.toList.length = ks.length := by rw [Array.length_toList, hacc.1, hl]
  refine hQ acc.toList h' tk (ints_each hal fun j v e => ?_) (by rw [hal, ← hl]; exact h16) hk
  obtain ⟨k, x, e1, e2⟩ := hacc.2 j v (by rw [← Array.getElem?_toList]; exact e)
  have e3 : (vs.map (·.1))[j]? = some k := by rw [List.getElem?_map, e1]; rfl
  rw [hkeys, List.getElem?_map] at e3
  cases e4 : ks[j]? with
  | none => rw [e4] at e3; cases e3
  | some y =>
    rw [e4] at e3
    have e5 : Sum.inl y = k := Option.some.inj e3
    subst e5
    rcases keyIs_shape (show keyIs (Sum.inl y) v = true from e2) with ⟨i, t, ek, ev⟩ | ⟨z, t, ek, ev⟩
    · cases ek
      exact ⟨y, t, rfl, ev⟩
    · cases ek
/-- len(set(xs)), xs a list of ints: whether that is all of them -/
def tLenSet (K : PySem.W.Frag) (ta : TE) : TE := fun σ H Q => ta σ H fun x H1 => ∃ (l : Addr) (ns : List Int), x = .ref l ∧ SqL K H1 l (ns.map V.int) ∧ ns.length ≤ 4000 ∧ ∀ m : Nat, (m = ns.length ↔ ns.Nodup) → Q (.int (m : Nat)) H1
theorem met_len (ns : List Int) : ∀ i, i ≤ ns.length → (PyProof.Rows.firstMet (fun i => ns.getD i 0) i).length ≤ i ∧ (∀ x, x ∈ PyProof.Rows.firstMet (fun i => ns.getD i 0) i ↔ x ∈ ns.take i) ∧ ((PyProof.Rows.firstMet (fun i => ns.getD i 0) i).length = i ↔ (ns.take i).Nodup)
  | 0, _ => by
    refine ⟨Nat.le_refl _, fun x => ?_, ?_⟩
    · rw [List.take_zero]; exact Iff.rfl
    · rw [List.take_zero]; exact ⟨fun _ => List.nodup_nil, fun _ => rfl⟩
  | i + 1, hi => by
    have hlt : i < ns.length := hi
    obtain ⟨a1, a2, a3⟩ := met_len ns i (Nat.le_of_lt hlt)
    have e1 : ns.getD i 0 = ns[i] := by
      rw [List.getD_eq_getElem?_getD, List.getElem?_eq_getElem hlt] <;> rfl
    have e2 : ns.take (i + 1) = ns.take i ++ [ns[i]] := by
      rw [List.take_add_one, List.getElem?_eq_getElem hlt] <;> rfl
    rw [PyProof.Rows.firstMet_succ, e2]
    show (if (PyProof.Rows.firstMet (fun i => ns.getD i 0) i).any (· == ns.getD i 0) then PyProof.Rows.firstMet (fun i => ns.getD i 0) i else PyProof.Rows.firstMet (fun i => ns.getD i 0) i ++ [ns.getD i 0]).length ≤ i + 1 ∧
      (∀ x, x ∈ (if (PyProof.Rows.firstMet (fun i => ns.getD i 0) i).any (· == ns.getD i 0) then PyProof.Rows.firstMet (fun i => ns.getD i 0) i else PyProof.Rows.firstMet (fun i => ns.getD i 0) i ++ [ns.getD i 0]) ↔ x ∈ ns.take i ++ [ns[i]]) ∧
      ((if (PyProof.Rows.firstMet (fun i => ns.getD i 0) i).any (· == ns.getD i 0) then PyProof.Rows.firstMet (fun i => ns.getD i 0) i else PyProof.Rows.firstMet (fun i => ns.getD i 0) i ++ [ns.getD i 0]).length = i + 1 ↔ (ns.take i ++ [ns[i]]).Nodup)
    rw [e1]
    by_cases m : ns[i] ∈ ns.take i
    · have hy : ((PyProof.Rows.firstMet (fun i => ns.getD i 0) i).any fun x => x == ns[i]) = true := List.any_eq_true.mpr ⟨ns[i], (a2 _).mpr m, beq_self_eq_true _⟩
      rw [if_pos hy]
      refine ⟨by omega, fun x => ?_, ⟨fun q => by omega, fun q => ?_⟩⟩
      · rw [List.mem_append, List.mem_singleton, a2]
        exact ⟨Or.inl, fun q => q.elim id fun e => by rw [e]; exact m⟩
      · rw [List.nodup_append] at q
        exact absurd rfl (q.2.2 _ m _ (List.mem_singleton_self _))
    · have hy : ¬ ((PyProof.Rows.firstMet (fun i => ns.getD i 0) i).any fun x => x == ns[i]) = true := fun q => by
        obtain ⟨y, hy, ey⟩ := List.any_eq_true.mp q
        rw [eq_of_beq ey] at hy
        exact m ((a2 _).mp hy)
      rw [if_neg hy]
      rw [List.length_append, List.length_singleton]
      refine ⟨by omega, fun x => ?_, ?_⟩
      · rw [List.mem_append, List.mem_append, a2]
      · rw [List.nodup_append]
        constructor
        · intro q
          refine ⟨a3.mp (by omega), by simp, fun x hx y hy => ?_⟩
          rw [List.mem_singleton.mp hy]
          exact fun e => m (by rw [← e]; exact hx)
        · intro q
          have := a3.mpr q.1
          omega
theorem pe_lenSet {a : Expr} {ta : TE} {p p2 q pos : Pos} (hm : X.mg "len" = none) (hm2 : X.mg "set" = none) (ha : PE X a ta) (hg : Gl X "len" := by rfl) (hg2 : Gl X "set" := by rfl) (hc : X.calm = true := by rfl)
    (na : starEach [a] X.env = (false, eval a X.env) :: starEach [] X.env := by rfl) : PE X (.Call (.Name "len" p) [.Call (.Name "set" p2) [a] [] q] [] pos) (tLenSet X.K ta) := by
  refine ⟨fun pins s σ H Q I h => ?_⟩
  refine Call_ (ld_blt I hg hm boot_len ?_)
  refine PyProof.Rows.callWith_builtin1 (PyProof.Rows.args_cons ?_ rfl) rfl rfl
  refine Call_ (ld_blt I hg2 hm2 boot_set ?_)
  refine PyProof.Rows.callWith_type1 (PyProof.Rows.args_cons (thn (ha.run pins s σ H _ I h) fun v s1 ⟨x, H1, I1, r1, q1⟩ => PyProof.Rows.args_nil ?_) na) na rfl
  obtain ⟨l, ns, rfl, hq, hl, q1⟩ := q1
  cases r1
  obtain ⟨its, r, pl, hz⟩ := I1.list hq
  have hlen : its.toArray.size = ns.length := by rw [List.size_toArray, ← r.length, List.length_map]
  refine call_set_list (I1.ok.hd hc) pl.isList (by simpa using RZ.intsAre_vals r) (by rw [hlen]; unfold scanBound; omega) fun h' tk hS hk => ?_
  refine PyProof.Rows.args_nil ?_
  rw [hlen] at hS
  obtain ⟨o, es, ep, t, ho, hex, hd, _, _, _, hf, hn⟩ := hS
  have I2 : Inv X pins σ H1 { s1 with heap := h', toks := tk } := I1.kept fun b o e => hk b o (Heap.lt_size e) e
  obtain ⟨m1, m2, m3⟩ := met_len ns ns.length (Nat.le_refl _)
  refine call_len_set ho hex hd hf (by rw [hn] <;> omega) ⟨.int ((PyProof.Rows.firstMet (fun i => ns.getD i 0) ns.length).length : Nat), H1, I2.tok _, ⟨_, by rw [hn]⟩, q1 _ ?_⟩
  rw [m3, List.take_length]
end
end L2
namespace Bd
open PySem PySem.Spec PyProof.Rows L2
/-- a def that keeps its promise -/
structure Cal (P : Program) (w : World) (K : PySem.W.Frag) (mg : Str → Option Value) (base : Heap) (CX : CXT) (k : Nat) (f : Addr) (ps : List Str) (sp : Sp) : Prop where
  ex : ∃ fd, FnOk P w K mg base CX k f fd ps sp ∧ Binds K fd ps [] ∧ PySem.W.keepIn K (.ref f) = true
section
variable {X : Cx} {CX : CXT} {k : Nat} {f C : Addr} {ps : List Str} {sp : Sp} {E : XK} {x m : Str} {p pos apos : Pos} {e o : Expr} {es : List Expr} {ta : TE} {t : TA}
theorem pcall (F : Cal X.prog X.w X.K X.mg X.base CX k f ps sp) (hm : X.mg x = some (.ref f)) (hr : Room k X.A) (hx : Passes CX X E) (ha : PA X (e :: es) t) (hg : Gl X x := by rfl)
    (hdb : (x == ("__debug__" : Str)) = false := by decide) (he : starEach (e :: es) X.env = (false, eval e X.env) :: starEach es X.env := by rfl) (hpl : (backTo pos (starEach es X.env)).any (·.1) = false := by rfl) :
    PE X (.Call (.Name x p) (e :: es) [] pos) (tCall sp [] E t) := by
  obtain ⟨fd, G, b, kp⟩ := F.ex
  exact pe_call G hr hg hm kp b .nil hx ha hdb he hpl
theorem pmeth {pl : Sem Bool} (F : Cal X.prog X.w X.K X.mg X.base CX k f ps sp) (he : PE X o ta) (c : Cls X.K C) (hm : Meth X.K C m f) (hr : Room k X.A) (hx : Passes CX X E) (ha : PA X (e :: es) t)
    (hst : starEach (e :: es) X.env = (false, eval e X.env) :: starEach es X.env := by rfl) (hpl : (backTo pos (starEach es X.env)).any (·.1) = false := by rfl)
    (ht : eval (.Call (.Attribute o m apos) (e :: es) [] pos) X.env = (do
      let ov ← eval o X.env
      standAt apos.atName
      let (f, first) ← holding [ov] (getMethod ov m pl)
      callWith pos f first (backTo pos (starEach (e :: es) X.env)) (backToKw pos (keywordEach [] X.env))) := by rfl) :
    PE X (.Call (.Attribute o m apos) (e :: es) [] pos) (tMeth C m sp [] E ta t) := by
  obtain ⟨fd, G, b, kp⟩ := F.ex
  exact pe_meth he c hm G hr b .nil hx ha hst hpl ht
theorem pmeth0 {pl : Sem Bool} (F : Cal X.prog X.w X.K X.mg X.base CX k f ps sp) (he : PE X o ta) (c : Cls X.K C) (hm : Meth X.K C m f) (hr : Room k X.A) (hx : Passes CX X E)
    (ht : eval (.Call (.Attribute o m apos) [] [] pos) X.env = (do
      let ov ← eval o X.env
      standAt apos.atName
      let (f, first) ← holding [ov] (getMethod ov m pl)
      callWith pos f first (backTo pos (starEach [] X.env)) (backToKw pos (keywordEach [] X.env))) := by rfl) :
    PE X (.Call (.Attribute o m apos) [] [] pos) (tMeth C m sp [] E ta tNil) := by
  obtain ⟨fd, G, b, kp⟩ := F.ex
  exact pe_meth0 he c hm G hr b .nil hx ht
theorem pmake (F : Cal X.prog X.w X.K X.mg X.base CX k f ps sp) (M : Mk X.K C f) (hm : X.mg x = some (.ref C)) (hr : Room (k + 1) X.A) (hx : Passes CX X E) (ha : PA X (e :: es) t) (hg : Gl X x := by rfl)
    (hdb : (x == ("__debug__" : Str)) = false := by decide) (he : starEach (e :: es) X.env = (false, eval e X.env) :: starEach es X.env := by rfl) (hpl : (backTo pos (starEach es X.env)).any (·.1) = false := by rfl) :
    PE X (.Call (.Name x p) (e :: es) [] pos) (tMake C sp [] E t) := by
  obtain ⟨fd, G, b, kp⟩ := F.ex
  exact pe_make M G hr hg hm b .nil hx ha hdb he hpl
theorem pmake0 (F : Cal X.prog X.w X.K X.mg X.base CX k f ps sp) (M : Mk X.K C f) (hm : X.mg x = some (.ref C)) (hr : Room (k + 1) X.A) (hx : Passes CX X E) (hg : Gl X x := by rfl)
    (hdb : (x == ("__debug__" : Str)) = false := by decide) : PE X (.Call (.Name x p) [] [] pos) (tMake C sp [] E tNil) := by
  obtain ⟨fd, G, b, kp⟩ := F.ex
  exact pe_make0 M G hr hg hm b .nil hx hdb
/-- a module's constant -/
theorem pconst {v : Int} (hm : ∃ t, X.mg x = some (.int v t)) (hg : Gl X x := by rfl) (hd : (x == ("__debug__" : Str)) = false := by decide) : PE X (.Name x pos) (tC (.int v)) := by
  obtain ⟨t, h⟩ := hm
  exact pe_glob hg h ⟨t, rfl⟩ hd
theorem pconstR {a : Addr} (hm : X.mg x = some (.ref a)) (hg : Gl X x := by rfl) (hd : (x == ("__debug__" : Str)) = false := by decide) : PE X (.Name x pos) (tC (.ref a)) := pe_glob hg hm rfl hd
end
section
variable {P : Program} {w : World} {K : PySem.W.Frag} {mg : Str → Option Value} {base : Heap}
/-- a def that lets no error out -/
theorem Df.ok {x qual : Str} {st : Stmt} {f : Addr} {N ps : List Str} {k : Nat} {sp : Sp} (D : Df K x qual st ps f) (S : FnScope N ps (defScope st)) (len : ∀ vs H Q E, sp vs H Q E → vs.length = ps.length)
    (hbody : ∀ (cdv : Value) (A : Around) (outer : List Env) (s : Shared) (H : Hp) (vs : List V) (Q : VK) (E : XK), Room k (A.deeper (envOfC qual (defScope st) s.heap.objs.size f cdv)) → sp vs H Q E →
      ∃ t, PSs (cxOf CX0 P w K mg base N qual (defScope st) f cdv A outer s H E).nox (defBody st) t ∧ t { nx := fun _ H' => Q .non H', rt := Q } (start N vs) H) : Cal P w K mg base CX0 (k + 1) f ps sp := by
  obtain ⟨fd, F, b⟩ := D.ex
  exact ⟨fd, F.ok S len hbody, b, F.kp⟩
/-- a def that may let an error out -/
theorem Df.okX {x qual : Str} {st : Stmt} {f : Addr} {N ps : List Str} {k : Nat} {sp : Sp} (D : Df K x qual st ps f) (S : FnScope N ps (defScope st)) (len : ∀ vs H Q E, sp vs H Q E → vs.length = ps.length)
    (hbody : ∀ (cdv : Value) (A : Around) (outer : List Env) (s : Shared) (H : Hp) (vs : List V) (Q : VK) (E : XK), Room k (A.deeper (envOfC qual (defScope st) s.heap.objs.size f cdv)) → sp vs H Q E →
      ∃ t, PSs (cxOf (L2.CX P w) P w K mg base N qual (defScope st) f cdv A outer s H E) (defBody st) t ∧ t { nx := fun _ H' => Q .non H', rt := Q } (start N vs) H) : Cal P w K mg base (L2.CX P w) (k + 1) f ps sp := by
  obtain ⟨fd, F, b⟩ := D.ex
  exact ⟨fd, F.okX S len hbody, b, F.kp⟩
end
end Bd
namespace Bd
open PySem PySem.Spec PyProof.Rows L2 Evl
/-! ### readings, further -/
section
variable {K : PySem.W.Frag} {σ : L2.St} {H H' : Hp} {ta tb tc te : TE} {t u : TT} {x y z v : V} {a C dx : Addr} {fs : List (Str × V)} {f : Str} {D : Ends} {tz : TS}
theorem lk_here {k : Str} {v : V} {r : List (Str × V)} : List.lookup k ((k, v) :: r) = some v := by
  have e : (k == k) = true := beq_self_eq_true k
  simp only [List.lookup, e]
theorem lk_past {k g : Str} {v : V} {r : List (Str × V)} (h : (k == g) = false) : List.lookup k ((g, v) :: r) = List.lookup k r := by
  simp only [List.lookup, h]
theorem put_here {f : Str} {v x : V} {r : List (Str × V)} : putF f v ((f, x) :: r) = (f, v) :: r := if_pos rfl
theorem put_past {f g : Str} {v x : V} {r : List (Str × V)} (h : ¬ g = f) : putF f v ((g, x) :: r) = (g, x) :: putF f v r := if_neg h
theorem ev_fld (h : Ev ta σ H (.ref a)) (ho : H a = some (.ins C dx fs)) (hc : Cls K C) (hn : NoAttr K C f) (hl : fs.lookup f = some v) : Ev (tFld K ta f) σ H v := fun H1 e Q q =>
  h H1 e _ fun H2 e2 => ⟨a, C, dx, fs, v, rfl, e2 _ _ (e _ _ ho), hc, hn, hl, q H2 e2⟩
theorem ev_chain {r r' : R2} {w : V} {b c : Bool} (ha : Ev ta σ H x) (hb : Ev tb σ H y) (hc : Ev tc σ H w) (h1 : RV r x y H (.bl b)) (h2 : RV r' y w H (.bl c)) : Ev (tChain r r' ta tb tc) σ H (.bl (b && c)) := fun H1 e Q q =>
  ha H1 e _ fun H2 e2 => hb H2 (e.trans e2) _ fun H3 e3 => h1 H3 ((e.trans e2).trans e3) _ fun H4 e4 => ⟨b, rfl, by
    have E4 := ((e.trans e2).trans e3).trans e4
    have F4 := (e2.trans e3).trans e4
    cases b with
    | true =>
      rw [if_pos rfl]
      exact hc H4 E4 _ fun H5 e5 => h2 H5 (E4.trans e5) _ fun H6 e6 => q H6 ((F4.trans e5).trans e6)
    | false =>
      rw [if_neg Bool.false_ne_true]
      exact q H4 F4⟩
theorem ev_chain3 {td : TE} {r r' r'' : R2} {w w2 : V} {b c d : Bool} (ha : Ev ta σ H x) (hb : Ev tb σ H y) (hc : Ev tc σ H w) (hd : Ev td σ H w2) (h1 : RV r x y H (.bl b)) (h2 : RV r' y w H (.bl c)) (h3 : RV r'' w w2 H (.bl d)) : Ev (tChain3 r r' r'' ta tb tc td) σ H (.bl (b && (c && d))) := fun H1 e Q q =>
  ha H1 e _ fun H2 e2 => hb H2 (e.trans e2) _ fun H3 e3 => h1 H3 ((e.trans e2).trans e3) _ fun H4 e4 => ⟨b, rfl, by
    have E4 := ((e.trans e2).trans e3).trans e4
    have F4 := (e2.trans e3).trans e4
    cases b with
    | true =>
      rw [if_pos rfl]
      exact hc H4 E4 _ fun H5 e5 => h2 H5 (E4.trans e5) _ fun H6 e6 => ⟨c, rfl, by
        have E6 := (E4.trans e5).trans e6
        have F6 := (F4.trans e5).trans e6
        cases c with
        | true =>
          rw [if_pos rfl]
          exact hd H6 E6 _ fun H7 e7 => h3 H7 (E6.trans e7) _ fun H8 e8 => q H8 ((F6.trans e7).trans e8)
        | false =>
          rw [if_neg Bool.false_ne_true]
          exact q H6 F6⟩
    | false =>
      rw [if_neg Bool.false_ne_true]
      exact q H4 F4⟩
theorem ev_meth {m : Str} {sp : Sp} {vs dvs : List V} {E : XK} {tr : TA} (h : Ev ta σ H (.ref a)) (ho : H a = some (.ins C dx fs)) (hl : fs.lookup m = none) (hr : EvA tr σ H vs) (hs : SpV sp (.ref a :: (vs ++ dvs)) H z) : Ev (tMeth C m sp dvs E ta tr) σ H z := fun H1 e Q q =>
  h H1 e _ fun H2 e2 => ⟨a, dx, fs, rfl, e2 _ _ (e _ _ ho), hl, hr H2 (e.trans e2) _ fun H3 e3 => hs H3 ((e.trans e2).trans e3) Q (fun H4 e4 => q H4 ((e2.trans e3).trans e4)) E⟩
/-- what an expression gives, told by a property -/
def EvP (te : TE) (σ : L2.St) (H : Hp) (P : V → Hp → Prop) : Prop := ∀ H1, Ex H H1 → ∀ Q : VK, (∀ v H2, Ex H1 H2 → P v H2 → Q v H2) → te σ H1 Q
def SpP (sp : Sp) (vs : List V) (H : Hp) (P : V → Hp → Prop) : Prop := ∀ H1, Ex H H1 → ∀ Q : VK, (∀ v H2, Ex H1 H2 → P v H2 → Q v H2) → ∀ E : XK, sp vs H1 Q E
theorem EvP.mono {P : V → Hp → Prop} (e : Ex H H') (h : EvP te σ H P) : EvP te σ H' P := fun H1 a Q q => h H1 (e.trans a) Q q
theorem ep_call {sp : Sp} {vs dvs : List V} {E : XK} {tr : TA} {P : V → Hp → Prop} (h : EvA tr σ H vs) (hs : SpP sp (vs ++ dvs) H P) : EvP (tCall sp dvs E tr) σ H P := fun H1 e Q q =>
  h H1 e _ fun H2 e2 => hs H2 (e.trans e2) Q (fun v H3 e3 p => q v H3 (e2.trans e3) p) E
theorem ep_meth {m : Str} {sp : Sp} {vs dvs : List V} {E : XK} {tr : TA} {P : V → Hp → Prop} (h : Ev ta σ H (.ref a)) (ho : H a = some (.ins C dx fs)) (hl : fs.lookup m = none) (hr : EvA tr σ H vs) (hs : SpP sp (.ref a :: (vs ++ dvs)) H P) : EvP (tMeth C m sp dvs E ta tr) σ H P := fun H1 e Q q =>
  h H1 e _ fun H2 e2 => ⟨a, dx, fs, rfl, e2 _ _ (e _ _ ho), hl, hr H2 (e.trans e2) _ fun H3 e3 => hs H3 ((e.trans e2).trans e3) Q (fun v H4 e4 p => q v H4 ((e2.trans e3).trans e4) p) E⟩
theorem ep_of_ev (h : Ev te σ H v) : EvP te σ H fun w _ => w = v := fun H1 e Q q => h H1 e Q fun H2 e2 => q v H2 e2 rfl
theorem s_retP {P : V → Hp → Prop} (h : EvP te σ H P) (k : ∀ v H1, Ex H H1 → P v H1 → D.rt v H1) : tRet te D σ H := h H (Ex.refl H) _ k
theorem q_asgP {i : Nat} {P : V → Hp → Prop} (h : EvP te σ H P) (k : ∀ v H1, Ex H H1 → P v H1 → tz D (σ.set i (some v)) H1) : tSeq (tAsg te (gName i)) tz D σ H := h H (Ex.refl H) _ k
theorem rv_isN {x : V} : RV (fun x y H Q => y = .non ∧ Q (.bl (decide (x = .non))) H) x .non H (.bl (decide (x = .non))) := fun H1 _ _ q => ⟨rfl, q H1 (Ex.refl H1)⟩
theorem rv_notN {x : V} : RV (fun x y H Q => y = .non ∧ Q (.bl (!decide (x = .non))) H) x .non H (.bl (!decide (x = .non))) := fun H1 _ _ q => ⟨rfl, q H1 (Ex.refl H1)⟩
theorem q_par {i j : Nat} {ta : TA} {x y : V} (h : EvA ta σ H [x, y]) (k : ∀ H1, Ex H H1 → tz D ((σ.set i (some x)).set j (some y)) H1) : tSeq (tPar i j ta) tz D σ H := h H (Ex.refl H) _ fun H1 e => ⟨x, y, rfl, k H1 e⟩
theorem s_par {i j : Nat} {ta : TA} {x y : V} (h : EvA ta σ H [x, y]) (k : ∀ H1, Ex H H1 → D.nx ((σ.set i (some x)).set j (some y)) H1) : tPar i j ta D σ H := h H (Ex.refl H) _ fun H1 e => ⟨x, y, rfl, k H1 e⟩
end
/-! ### how the state lies in the heap -/
abbrev nV (n : Nat) : V := .int (n : Int)
abbrev AM := SctDay.Amendment
def limV (a : AM) : V := if a.repeal = true then .non else nV a.most
def wdr (a : AM) : Int := match a.void with
  | none => -1
  | some v => (v : Int)
def amF (i : Nat) (a : AM) (sa da ca : Addr) : List (Str × V) := [("number", nV i), ("known", nV a.known), ("kind", nV a.k), ("substances", .ref sa), ("limit", limV a), ("days", .ref da), ("corrections", .ref ca), ("withdrawn", .int (wdr a))]
theorem paired_imp {α β : Type} {R R' : α → β → Prop} (k : ∀ a b, R a b → R' a b) : ∀ {l : List α} {l' : List β}, Paired R l l' → Paired R' l l'
  | _, _, .nil => .nil
  | _, _, .cons h t => .cons (k _ _ h) (paired_imp k t)
def PrAt (H : Hp) : List Addr → List (Nat × Nat) → Prop := Paired fun c f => H c = some (.tup [nV f.1, nV f.2])
structure AmAt (A : Adr) (H : Hp) (p : Addr) (i : Nat) (a : AM) (dx sa da ca : Addr) (ts : List Nat) (cs : List Addr) : Prop where
  ob : H p = some (.ins A.cAmendment dx (amF i a sa da ca))
  su : H sa = some (.tup (ts.map nV))
  pe : ts.Perm a.of_
  ri : a.of_.Pairwise (· < ·)
  ne : 1 ≤ ts.length ∧ ts.length ≤ 4
  da : H da = some (.tup [nV a.new, nV a.made, nV a.sold])
  co : H ca = some (.lst (cs.map V.ref))
  fx : PrAt H cs a.fixes
  f4 : a.fixes.length ≤ 4
  rp : RepOk a
def Am (A : Adr) (H : Hp) (p : Addr) (i : Nat) (a : AM) : Prop := ∃ dx sa da ca ts cs, AmAt A H p i a dx sa da ca ts cs
theorem PrAt.ex {H H' : Hp} (e : Ex H H') {cs : List Addr} {fs : List (Nat × Nat)} (h : PrAt H cs fs) : PrAt H' cs fs := paired_imp (fun _ _ q => e _ _ q) h
theorem AmAt.ex {A : Adr} {H H' : Hp} {p : Addr} {i : Nat} {a : AM} {dx sa da ca : Addr} {ts : List Nat} {cs : List Addr} (e : Ex H H') (h : AmAt A H p i a dx sa da ca ts cs) : AmAt A H' p i a dx sa da ca ts cs :=
  ⟨e _ _ h.ob, e _ _ h.su, h.pe, h.ri, h.ne, e _ _ h.da, e _ _ h.co, h.fx.ex e, h.f4, h.rp⟩
theorem Am.ex {A : Adr} {H H' : Hp} {p : Addr} {i : Nat} {a : AM} (e : Ex H H') (h : Am A H p i a) : Am A H' p i a := by
  obtain ⟨dx, sa, da, ca, ts, cs, h⟩ := h
  exact ⟨dx, sa, da, ca, ts, cs, h.ex e⟩
section
variable {i : Nat} {a : AM} {sa da ca : Addr}
theorem f_number : (amF i a sa da ca).lookup ("number" : Str) = some (nV i) := lk_here
theorem f_known : (amF i a sa da ca).lookup ("known" : Str) = some (nV a.known) := (lk_past (by decide +kernel)).trans lk_here
theorem f_kind : (amF i a sa da ca).lookup ("kind" : Str) = some (nV a.k) := (lk_past (by decide +kernel)).trans ((lk_past (by decide +kernel)).trans lk_here)
theorem f_substances : (amF i a sa da ca).lookup ("substances" : Str) = some (.ref sa) := (lk_past (by decide +kernel)).trans ((lk_past (by decide +kernel)).trans ((lk_past (by decide +kernel)).trans lk_here))
theorem f_limit : (amF i a sa da ca).lookup ("limit" : Str) = some (limV a) := (lk_past (by decide +kernel)).trans ((lk_past (by decide +kernel)).trans ((lk_past (by decide +kernel)).trans ((lk_past (by decide +kernel)).trans lk_here)))
theorem f_days : (amF i a sa da ca).lookup ("days" : Str) = some (.ref da) := (lk_past (by decide +kernel)).trans ((lk_past (by decide +kernel)).trans ((lk_past (by decide +kernel)).trans ((lk_past (by decide +kernel)).trans ((lk_past (by decide +kernel)).trans lk_here))))
theorem f_corrections : (amF i a sa da ca).lookup ("corrections" : Str) = some (.ref ca) := (lk_past (by decide +kernel)).trans ((lk_past (by decide +kernel)).trans ((lk_past (by decide +kernel)).trans ((lk_past (by decide +kernel)).trans ((lk_past (by decide +kernel)).trans ((lk_past (by decide +kernel)).trans lk_here)))))
theorem f_withdrawn : (amF i a sa da ca).lookup ("withdrawn" : Str) = some (.int (wdr a)) := (lk_past (by decide +kernel)).trans ((lk_past (by decide +kernel)).trans ((lk_past (by decide +kernel)).trans ((lk_past (by decide +kernel)).trans ((lk_past (by decide +kernel)).trans ((lk_past (by decide +kernel)).trans ((lk_past (by decide +kernel)).trans lk_here))))))
theorem am_none {m : Str} (h1 : (m == ("number" : Str)) = false) (h2 : (m == ("known" : Str)) = false) (h3 : (m == ("kind" : Str)) = false) (h4 : (m == ("substances" : Str)) = false) (h5 : (m == ("limit" : Str)) = false) (h6 : (m == ("days" : Str)) = false) (h7 : (m == ("corrections" : Str)) = false) (h8 : (m == ("withdrawn" : Str)) = false) : (amF i a sa da ca).lookup m = none :=
  (lk_past h1).trans ((lk_past h2).trans ((lk_past h3).trans ((lk_past h4).trans ((lk_past h5).trans ((lk_past h6).trans ((lk_past h7).trans ((lk_past h8).trans rfl)))))))
theorem f_no_is_repeal : (amF i a sa da ca).lookup ("is_repeal" : Str) = none := am_none (by decide +kernel) (by decide +kernel) (by decide +kernel) (by decide +kernel) (by decide +kernel) (by decide +kernel) (by decide +kernel) (by decide +kernel)
theorem f_no_is_void : (amF i a sa da ca).lookup ("is_void" : Str) = none := am_none (by decide +kernel) (by decide +kernel) (by decide +kernel) (by decide +kernel) (by decide +kernel) (by decide +kernel) (by decide +kernel) (by decide +kernel)
theorem f_no_is_known : (amF i a sa da ca).lookup ("is_known" : Str) = none := am_none (by decide +kernel) (by decide +kernel) (by decide +kernel) (by decide +kernel) (by decide +kernel) (by decide +kernel) (by decide +kernel) (by decide +kernel)
theorem f_no_limit_on : (amF i a sa da ca).lookup ("limit_on" : Str) = none := am_none (by decide +kernel) (by decide +kernel) (by decide +kernel) (by decide +kernel) (by decide +kernel) (by decide +kernel) (by decide +kernel) (by decide +kernel)
theorem f_no_binds : (amF i a sa da ca).lookup ("binds" : Str) = none := am_none (by decide +kernel) (by decide +kernel) (by decide +kernel) (by decide +kernel) (by decide +kernel) (by decide +kernel) (by decide +kernel) (by decide +kernel)
theorem f_no_matter : (amF i a sa da ca).lookup ("matter" : Str) = none := am_none (by decide +kernel) (by decide +kernel) (by decide +kernel) (by decide +kernel) (by decide +kernel) (by decide +kernel) (by decide +kernel) (by decide +kernel)
end
theorem limV_non (a : AM) : decide (limV a = .non) = a.repeal := by
  unfold limV
  cases a.repeal with
  | true => rw [if_pos rfl]; exact decide_eq_true rfl
  | false => rw [if_neg Bool.false_ne_true]; exact decide_eq_false (fun z => by cases z)
/-! ### Amendment's methods -/
def sp_is_repeal (A : Adr) : Sp := fun vs H Q _ => ∃ p i a, vs = [.ref p] ∧ Am A H p i a ∧ RetV (.bl a.repeal) H Q
def isVoid (a : AM) (x : Int) : Bool := decide (0 ≤ wdr a) && decide (wdr a ≤ x)
def sp_is_void (A : Adr) : Sp := fun vs H Q _ => ∃ p i a x, vs = [.ref p, .int x] ∧ Am A H p i a ∧ RetV (.bl (isVoid a x)) H Q
def sp_is_known (A : Adr) : Sp := fun vs H Q _ => ∃ p i a x, vs = [.ref p, .int x] ∧ Am A H p i a ∧ RetV (.bl (decide ((a.known : Int) ≤ x) && !isVoid a x)) H Q
theorem isKnown_nat (a : AM) (x : Nat) : (decide ((a.known : Int) ≤ (x : Int)) && !isVoid a x) = a.isKnown x := by
  unfold SctDay.Amendment.isKnown isVoid wdr
  cases a.void with
  | none => simp [Int.ofNat_le]
  | some v =>
    by_cases c : v ≤ x
    · simp [Int.ofNat_le, c]
    · have : x < v := by omega
      simp [Int.ofNat_le, c, this]
section
variable {P : Program} {w : World} {K : PySem.W.Frag} {mg : Str → Option Value} {base : Heap} {A : Adr}
theorem sc_Amendment_is_repeal : FnScope ["self"] ps_Amendment_is_repeal (defScope s_Amendment_is_repeal) := ⟨rfl, rfl, rfl, by decide +kernel, rfl, by decide +kernel, by decide +kernel⟩
theorem ok_is_repeal (T : Txt K mg A) : Cal P w K mg base CX0 1 A.fAmendment_is_repeal ps_Amendment_is_repeal (sp_is_repeal A) := by
  have sc := sc_Amendment_is_repeal
  refine T.dAmendment_is_repeal.ok sc (fun vs H Q E h => ?_) (fun cdv Ar outer s H vs Q E hr h => ⟨_, (pss_one (ps_ret (pe_cmpR op_isN (pe_fld (pv 0) rfl) pe_non (nomark _)))), ?_⟩)
  · obtain ⟨p, i, a, rfl, _⟩ := h
    rfl
  · obtain ⟨p, i, a, rfl, ⟨dx, sa, da, ca, ts, cs, h⟩, k⟩ := h
    refine s_ret (v := .bl a.repeal) ?_ (fun H1 e => k H1 e)
    exact ev_is (ev_op (ev_fld (ev_var rfl) h.ob T.lAmendment T.nAmendment_limit f_limit) ev_c rv_isN) (congrArg V.bl (limV_non a))
theorem sc_Amendment_is_void : FnScope ["self", "day"] ps_Amendment_is_void (defScope s_Amendment_is_void) := ⟨rfl, rfl, rfl, by decide +kernel, rfl, by decide +kernel, by decide +kernel⟩
theorem ok_is_void (T : Txt K mg A) : Cal P w K mg base CX0 1 A.fAmendment_is_void ps_Amendment_is_void (sp_is_void A) := by
  have sc := sc_Amendment_is_void
  refine T.dAmendment_is_void.ok sc (fun vs H Q E h => ?_) (fun cdv Ar outer s H vs Q E hr h => ⟨_, (pss_one (ps_ret (pe_chain op_le op_le pe_int (pe_fld (pv 0) rfl) (pv 1)))), ?_⟩)
  · obtain ⟨p, i, a, x, rfl, _⟩ := h
    rfl
  · obtain ⟨p, i, a, x, rfl, ⟨dx, sa, da, ca, ts, cs, h⟩, k⟩ := h
    exact s_ret (v := .bl (isVoid a x)) (ev_chain ev_c (ev_fld (ev_var rfl) h.ob T.lAmendment T.nAmendment_withdrawn f_withdrawn) (ev_var rfl) rv_I0 rv_I0) (fun H1 e => k H1 e)
theorem spv_is_void {H : Hp} {p : Addr} {i : Nat} {a : AM} (h : Am A H p i a) (x : Int) : SpV (sp_is_void A) [.ref p, .int x] H (.bl (isVoid a x)) := fun H1 e Q q E => ⟨p, i, a, x, rfl, h.ex e, q⟩
theorem sc_Amendment_is_known : FnScope ["self", "day"] ps_Amendment_is_known (defScope s_Amendment_is_known) := ⟨rfl, rfl, rfl, by decide +kernel, rfl, by decide +kernel, by decide +kernel⟩
theorem ok_is_known (T : Txt K mg A) : Cal P w K mg base CX0 2 A.fAmendment_is_known ps_Amendment_is_known (sp_is_known A) := by
  have sc := sc_Amendment_is_known
  have c_Amendment_is_void : Cal P w K mg base CX0 1 _ _ _ := ok_is_void T
  refine T.dAmendment_is_known.ok sc (fun vs H Q E h => ?_) (fun cdv Ar outer s H vs Q E hr h => ⟨_, (pss_one (ps_ret (pe_and (pe_cmpR op_le (pe_fld (pv 0) rfl) (pv 1) (nomark _)) (pe_one (pe_not (pmeth c_Amendment_is_void (pv 0) T.lAmendment T.eAmendment_is_void (hr.mono (by decide)) pass0 (by exact (pa_cons (pv 1) pa_nil)))))))), ?_⟩)
  · obtain ⟨p, i, a, x, rfl, _⟩ := h
    rfl
  · obtain ⟨p, i, a, x, rfl, ⟨dx, sa, da, ca, ts, cs, h⟩, k⟩ := h
    refine s_ret (v := .bl _) (ev_andV (ev_op (ev_fld (ev_var rfl) h.ob T.lAmendment T.nAmendment_known f_known) (ev_var rfl) rv_I0) fun _ => ?_) (fun H1 e => k H1 e)
    exact ev_notV (ev_meth (ev_var rfl) h.ob f_no_is_void (ea_cons (ev_var rfl) ea_nil) (spv_is_void ⟨dx, sa, da, ca, ts, cs, h⟩ x))
end
end Bd
namespace Bd
open PySem PySem.Spec PyProof.Rows L2 Evl
section
variable {K : PySem.W.Frag} {σ : L2.St} {H H' : Hp} {D : Ends} {tz : TS}
theorem g_pair {c : Addr} {u v : V} {i j : Nat} {Q : L2.St → Hp → Prop} (h : H c = some (.tup [u, v])) (q : Q ((σ.set i (some u)).set j (some v)) H) : gTup K 2 (gCons (gName i) (gCons (gName j) gNil)) (.ref c) σ H Q :=
  ⟨c, [u, v], rfl, st_of h, rfl, u, [v], rfl, v, [], rfl, rfl, q⟩
theorem g_triple {c : Addr} {u v w : V} {i j k : Nat} {Q : L2.St → Hp → Prop} (h : H c = some (.tup [u, v, w])) (q : Q (((σ.set i (some u)).set j (some v)).set k (some w)) H) : gTup K 3 (gCons (gName i) (gCons (gName j) (gCons (gName k) gNil))) (.ref c) σ H Q :=
  ⟨c, [u, v, w], rfl, st_of h, rfl, u, [v, w], rfl, v, [w], rfl, w, [], rfl, rfl, q⟩
theorem paired_get {α β : Type} {R : α → β → Prop} : ∀ {l : List α} {l' : List β} {i : Nat} {x : α}, Paired R l l' → l[i]? = some x → ∃ y, l'[i]? = some y ∧ R x y
  | _, _, _, _, .nil, h => by cases h
  | _, _, 0, _, .cons r t, h => ⟨_, rfl, by cases h; exact r⟩
  | _, _, i + 1, _, .cons r t, h => paired_get (i := i) t h
theorem paired_get' {α β : Type} {R : α → β → Prop} : ∀ {l : List α} {l' : List β} {i : Nat} {y : β}, Paired R l l' → l'[i]? = some y → ∃ x, l[i]? = some x ∧ R x y
  | _, _, _, _, .nil, h => by cases h
  | _, _, 0, _, .cons r t, h => ⟨_, rfl, by cases h; exact r⟩
  | _, _, i + 1, _, .cons r t, h => paired_get' (i := i) t h
theorem map_get {α β : Type} {f : α → β} {l : List α} {i : Nat} {y : β} (h : (l.map f)[i]? = some y) : ∃ x, l[i]? = some x ∧ y = f x := by
  rw [List.getElem?_map] at h
  cases e : l[i]? with
  | none => rw [e] at h; cases h
  | some x => rw [e] at h; exact ⟨x, rfl, (Option.some.inj h).symm⟩
end
def sp_limit_on (A : Adr) : Sp := fun vs H Q _ => ∃ (p : Addr) (i : Nat) (a : AM) (x : Nat), vs = [.ref p, nV x] ∧ Am A H p i a ∧ a.repeal = false ∧ RetV (nV (a.limitOn x)) H Q
def sp_binds (A : Adr) : Sp := fun vs H Q _ => ∃ (p : Addr) (i : Nat) (a : AM) (c d s : Nat), vs = [.ref p, nV c, nV d, nV s] ∧ Am A H p i a ∧ RetV (.bl (a.binds c d s)) H Q
def sp_matter (A : Adr) : Sp := fun vs H Q _ => ∃ p i a, vs = [.ref p] ∧ Am A H p i a ∧ ∀ t H2, Ex H H2 → H2 t = some (.tup (a.of_.map nV)) → Q (.ref t) H2
section
variable {P : Program} {w : World} {K : PySem.W.Frag} {mg : Str → Option Value} {base : Heap} {A : Adr}
theorem spv_is_repeal {H : Hp} {p : Addr} {i : Nat} {a : AM} (h : Am A H p i a) : SpV (sp_is_repeal A) [.ref p] H (.bl a.repeal) := fun H1 e Q q E => ⟨p, i, a, rfl, h.ex e, q⟩
theorem sc_Amendment_limit_on : FnScope ["self", "day", "found", "last", "known", "limit"] ps_Amendment_limit_on (defScope s_Amendment_limit_on) := ⟨rfl, rfl, rfl, by decide +kernel, rfl, by decide +kernel, by decide +kernel⟩
theorem ok_limit_on (T : Txt K mg A) : Cal P w K mg base CX0 1 A.fAmendment_limit_on ps_Amendment_limit_on (sp_limit_on A) := by
  have sc := sc_Amendment_limit_on
  refine T.dAmendment_limit_on.ok sc (fun vs H Q E h => ?_) (fun cdv Ar outer s H vs Q E hr h => ⟨_, (pss_cons (ps_par (i := 2) (j := 3) (by rfl) sc.nd rfl rfl (by decide) rfl rfl (by exact (pa_cons (pe_fld (pv 0) rfl) (pa_cons (pe_un un_neg pe_int) pa_nil))) (by rfl))
    (pss_cons (ps_for PassesOwn.never rfl (pi_list (pe_fld (pv 0) rfl)) (pg_tup rfl (pgs_cons (pg_name (i := 4) sc.nd rfl (Or.inl rfl)) (pgs_cons (pg_name (i := 5) sc.nd rfl (Or.inl rfl)) pgs_nil))) (pss_one (ps_if (pt_chain op_le op_le (pv 3) (pv 4) (pv 1)) (pss_one (ps_par (i := 2) (j := 3) (by rfl) sc.nd rfl rfl (by decide) rfl rfl (by exact (pa_cons (pv 5) (pa_cons (pv 4) pa_nil))) (by rfl))) pss_nil)))
    (pss_one (ps_ret (pv 2))))), ?_⟩)
  · obtain ⟨p, i, a, x, rfl, _⟩ := h
    rfl
  · obtain ⟨p, i, a, x, rfl, ⟨dx, sa, da, ca, ts, cs, h⟩, hr, k⟩ := h
    have hlim : limV a = nV a.most := if_neg (by rw [hr]; exact Bool.false_ne_true)
    refine q_par (x := nV a.most) (y := .int (-1)) (ea_cons (ev_is (ev_fld (ev_var rfl) h.ob T.lAmendment T.nAmendment_limit f_limit) hlim) (ea_cons (ev_un ev_c ru_neg) ea_nil)) fun H1 e1 => ?_
    have g := fun n => (a.fixes.take n).foldl (limS x) (-1, a.most)
    refine q_forL (K := K) (a := ca) (xs := cs.map V.ref) (ev_fld (ev_var rfl) (e1 _ _ h.ob) T.lAmendment T.nAmendment_corrections f_corrections) (sq_of (e1 _ _ h.co))
      (fun n σ' H' => ∃ v5 v6, σ' = [some (.ref p), some (nV x), some (nV ((a.fixes.take n).foldl (limS x) (-1, a.most)).2), some (.int ((a.fixes.take n).foldl (limS x) (-1, a.most)).1), v5, v6] ∧ Ex H H')
      (fun H2 e2 => ⟨none, none, rfl, e1.trans e2⟩) (fun n σ' H' _ ⟨_, _, _, e⟩ => sq_of (e _ _ h.co)) ?_ ?_
    · rintro n y σ' H' hn ⟨v5, v6, rfl, e⟩
      obtain ⟨c, hc, rfl⟩ := map_get hn
      obtain ⟨f, hf, hcf⟩ := paired_get h.fx hc
      refine g_pair (e _ _ hcf) ?_
      have st := fold_take (f := limS x) (b := ((-1 : Int), a.most)) hf
      refine s_when (b := _) (et_test (ev_chain (ev_var rfl) (ev_var rfl) (ev_var rfl) rv_I0 rv_I0)) (fun hb H2 e2 => ?_) (fun hb H2 e2 => ?_)
      · rw [Bool.and_eq_true, decide_eq_true_iff, decide_eq_true_iff] at hb
        refine s_par (x := nV f.2) (y := nV f.1) (ea_cons (ev_var rfl) (ea_cons (ev_var rfl) ea_nil)) fun H3 e3 => ⟨some (nV f.1), some (nV f.2), ?_, (e.trans e2).trans e3⟩
        rw [st, show limS x ((a.fixes.take n).foldl (limS x) (-1, a.most)) f = ((f.1 : Int), f.2) from if_pos ⟨hb.1, by have := hb.2; omega⟩]
        rfl
      · rw [Bool.and_eq_false_iff, decide_eq_false_iff_not, decide_eq_false_iff_not] at hb
        refine ⟨some (nV f.1), some (nV f.2), ?_, e.trans e2⟩
        rw [st, show limS x ((a.fixes.take n).foldl (limS x) (-1, a.most)) f = ((a.fixes.take n).foldl (limS x) (-1, a.most)) from if_neg (by
          rintro ⟨z1, z2⟩
          rcases hb with z | z
          · exact z z1
          · exact z (by omega))]
        rfl
    · rintro σ' H' ⟨v5, v6, rfl, e⟩
      have hl : a.fixes.length = (cs.map V.ref).length := by rw [List.length_map]; exact (Paired.length h.fx).symm
      rw [← hl, List.take_length, lim_is]
      exact s_ret (v := nV (a.limitOn x)) (ev_var rfl) (fun H1 e1 => k H1 (e.trans e1))
theorem sc_Amendment_binds : FnScope ["self", "new", "made", "sold"] ps_Amendment_binds (defScope s_Amendment_binds) := ⟨rfl, rfl, rfl, by decide +kernel, rfl, by decide +kernel, by decide +kernel⟩
theorem ok_binds (T : Txt K mg A) : Cal P w K mg base CX0 2 A.fAmendment_binds ps_Amendment_binds (sp_binds A) := by
  have sc := sc_Amendment_binds
  have c_Amendment_is_repeal : Cal P w K mg base CX0 1 _ _ _ := ok_is_repeal T
  refine T.dAmendment_binds.ok sc (fun vs H Q E h => ?_) (fun cdv Ar outer s H vs Q E hr h => ⟨_, (pss_cons (ps_if (pt_val (pmeth0 c_Amendment_is_repeal (pv 0) T.lAmendment T.eAmendment_is_repeal (hr.mono (by decide)) pass0)) (pss_one (ps_ret (pe_cmpR op_ge (pv 3) (pe_ix ix_tup (pe_fld (pv 0) rfl) pe_int (fun _ _ => rfl)) (nomark _)))) pss_nil)
    (pss_one (ps_ret (pe_or (pe_cmpR op_ge (pv 1) (pe_ix ix_tup (pe_fld (pv 0) rfl) pe_int (fun _ _ => rfl)) (nomark _)) (pe_or (pe_cmpR op_ge (pv 2) (pe_ix ix_tup (pe_fld (pv 0) rfl) pe_int (fun _ _ => rfl)) (nomark _)) (pe_one (pe_cmpR op_ge (pv 3) (pe_ix ix_tup (pe_fld (pv 0) rfl) pe_int (fun _ _ => rfl)) (nomark _)))))))), ?_⟩)
  · obtain ⟨p, i, a, c, d, s, rfl, _⟩ := h
    rfl
  · obtain ⟨p, i, a, c, d, s, rfl, ⟨dx, sa, da, ca, ts, cs, h⟩, k⟩ := h
    refine q_when (b := a.repeal) (et_B (ev_meth (ev_var rfl) h.ob f_no_is_repeal ea_nil (spv_is_repeal ⟨dx, sa, da, ca, ts, cs, h⟩))) (fun hb H1 e1 => ?_) (fun hb H1 e1 => ?_)
    · refine s_ret (v := .bl (a.binds c d s)) ?_ (fun H2 e2 => k H2 (e1.trans e2))
      have h1 := h.ex e1
      refine ev_is (ev_op (ev_var rfl) (ev_op (ev_fld (ev_var rfl) h1.ob T.lAmendment T.nAmendment_days f_days) ev_c (rv_ixT (v := nV a.new) (st_of h1.da) rfl)) rv_I0) ?_
      unfold SctDay.Amendment.binds
      rw [hb, if_pos rfl]
      congr 1
      exact decide_eq_decide.mpr (by omega)
    · refine s_ret (v := .bl (a.binds c d s)) ?_ (fun H2 e2 => k H2 (e1.trans e2))
      have h1 := h.ex e1
      refine ev_is (ev_orV (ev_op (ev_var rfl) (ev_op (ev_fld (ev_var rfl) h1.ob T.lAmendment T.nAmendment_days f_days) ev_c (rv_ixT (v := nV a.new) (st_of h1.da) rfl)) rv_I0) fun _ =>
        ev_orV (ev_op (ev_var rfl) (ev_op (ev_fld (ev_var rfl) h1.ob T.lAmendment T.nAmendment_days f_days) ev_c (rv_ixT (v := nV a.made) (st_of h1.da) rfl)) rv_I0) fun _ =>
        (ev_op (ev_var rfl) (ev_op (ev_fld (ev_var rfl) h1.ob T.lAmendment T.nAmendment_days f_days) ev_c (rv_ixT (v := nV a.sold) (st_of h1.da) rfl)) rv_I0)) ?_
      unfold SctDay.Amendment.binds
      rw [hb, if_neg Bool.false_ne_true]
      congr 1
      have z : ∀ m n : Nat, decide ((m : Int) ≤ (n : Int)) = decide (m ≤ n) := fun m n => decide_eq_decide.mpr (by omega)
      rw [z, z, z]
theorem sc_Amendment_matter : FnScope ["self"] ps_Amendment_matter (defScope s_Amendment_matter) := ⟨rfl, rfl, rfl, by decide +kernel, rfl, by decide +kernel, by decide +kernel⟩
theorem ok_matter (T : Txt K mg A) : Cal P w K mg base CX0 1 A.fAmendment_matter ps_Amendment_matter (sp_matter A) := by
  have sc := sc_Amendment_matter
  refine T.dAmendment_matter.ok sc (fun vs H Q E h => ?_) (fun cdv Ar outer s H vs Q E hr h => ⟨_, (pss_one (ps_ret (pe_callTy call_tuple_of (by rfl) T.b_tuple (by decide +kernel) (pa_cons (pe_callB cr_sortedU (by rfl) T.b_sorted (by decide +kernel) (pa_cons (pe_fld (pv 0) rfl) pa_nil)) pa_nil)))), ?_⟩)
  · obtain ⟨p, i, a, rfl, _⟩ := h
    rfl
  · obtain ⟨p, i, a, rfl, ⟨dx, sa, da, ca, ts, cs, h⟩, k⟩ := h
    have L := ev_fld (K := K) (σ := [some (.ref p)]) (H := H) (ev_var (i := 0) rfl) h.ob T.lAmendment T.nAmendment_substances f_substances
    refine L H (Ex.refl H) _ fun H1 e1 => ?_
    refine ⟨sa, ts.map fun (n : Nat) => (n : Int), rfl, ?_, fun ns' q pm ri nq => ?_⟩
    · rw [List.map_map]
      exact st_of (e1 _ _ h.su)
    · rw [sorted_is pm ri h.pe h.ri, List.map_map]
      refine ⟨q, _, rfl, .inl ⟨sq_of upd_same, fun t nt => ?_⟩⟩
      refine k t _ ((e1.trans (Ex.new nq)).trans (Ex.new nt)) upd_same
end
end Bd
namespace Bd
open PySem PySem.Spec PyProof.Rows L2 Evl
section
variable {K : PySem.W.Frag} {σ : L2.St} {H H' : Hp} {D : Ends} {tz : TS} {g : TG} {te tl : TE} {vs : List Nat} {xs : List V}
/-- a comprehension, its items told by a property -/
def LcOut (H : Hp) (n : Nat) (R : Nat → V → Hp → Prop) : V → Hp → Prop := fun v H2 => ∃ p ys, v = .ref p ∧ H p = none ∧ H2 p = some (.lst ys) ∧ ys.length = n ∧ ∀ i y, ys[i]? = some y → R i y H2
/-- what a change of a list leaves true -/
def Stays (R : Nat → V → Hp → Prop) : Prop := (∀ i v H1 H2, Ex H1 H2 → R i v H1 → R i v H2) ∧ ∀ i v (H1 : Hp) p acc acc', H1 p = some (.lst acc) → R i v H1 → R i v (upd H1 p (.lst acc'))
def LcW (H : Hp) (R : Nat → V → Hp → Prop) (p : Addr) (i : Nat) (H2 : Hp) : Prop := ∃ acc, Ex H H2 ∧ H2 p = some (.lst acc) ∧ acc.length = i ∧ ∀ j y, acc[j]? = some y → R j y H2
theorem lc_turn {R : Nat → V → Hp → Prop} {i : Nat} {σ2 : L2.St} {p : Addr} {H0 : Hp} (hR : Stays R) (hp : H p = none) (hw : LcW H R p i H0) (hi : i < 50000) (he : EvP te σ2 H0 (R i)) :
    te σ2 H0 fun y H4 => ∃ acc, H4 p = some (.lst acc) ∧ acc.length < sizeLine ∧ LcW H R p (i + 1) (upd H4 p (.lst (acc ++ [y]))) := by
  obtain ⟨acc, e, ha, hl, hq⟩ := hw
  refine he H0 (Ex.refl H0) _ fun v H2 e2 r => ⟨acc, e2 _ _ ha, sz_lt (by omega), acc ++ [v], Ex.mut (e.trans e2) hp, upd_same, by rw [List.length_append, List.length_singleton, hl], fun j y' hj => ?_⟩
  by_cases c : j < acc.length
  · rw [List.getElem?_append_left c] at hj
    exact hR.2 _ _ _ _ _ _ (e2 _ _ ha) (hR.1 _ _ _ _ e2 (hq j y' hj))
  · have c2 : j = acc.length := by
      have := (List.getElem?_eq_some_iff.mp hj).1
      rw [List.length_append, List.length_singleton] at this
      omega
    subst c2
    rw [List.getElem?_append_right (Nat.le_refl _), Nat.sub_self] at hj
    have e4 : v = y' := Option.some.inj hj
    rw [← e4, hl]
    exact hR.2 _ _ _ _ _ _ (e2 _ _ ha) r
theorem ep_lcL {a : Addr} (σi : Nat → L2.St) (R : Nat → V → Hp → Prop) (hR : Stays R) (h : Ev tl σ H (.ref a)) (hx : SqL K H a xs) (hz : xs.length ≤ 40000)
    (hg : ∀ i x H', xs[i]? = some x → Ex H H' → ∀ Q : L2.St → Hp → Prop, Q (σi i) H' → g x (wipe σ vs) H' Q) (hw : ∀ i x, xs[i]? = some x → wipe (σi i) vs = wipe σ vs)
    (he : ∀ i x H', xs[i]? = some x → Ex H H' → EvP te (σi i) H' (R i)) : EvP (tLc (iList K tl) g tYes te vs) σ H (LcOut H xs.length R) := fun H0 e0 Q q =>
  h H0 e0 _ fun H1 e1 => ⟨a, rfl, ⟨xs, ex_l (e0.trans e1) hx⟩, fun p hp =>
    lc_it walk_list (fun i H2 => LcW H1 R p i H2) ⟨[], Ex.new hp, upd_same, rfl, fun j y hj => by cases hj⟩
      (fun i H2 _ ⟨_, e2, _⟩ => ex_l ((e0.trans e1).trans e2) hx)
      (fun i x H2 H3 hi hw2 ⟨eH, hi'⟩ => by
        subst eH
        have e2 : Ex H H3 := (e0.trans e1).trans (by obtain ⟨_, e2, _⟩ := hw2; exact e2)
        refine hg i x H3 hi' e2 _ ⟨hw i x hi', ?_⟩
        exact lc_turn hR hp hw2 (by omega) (he i x H3 hi' e2))
      (fun H2 ⟨acc, e2, ha, hl, hq⟩ => q (.ref p) H2 (e1.trans e2) ⟨p, acc, rfl, fresh_back (e0.trans e1) hp, ha, hl, hq⟩)⟩
theorem ep_lcT {a : Addr} (σi : Nat → L2.St) (R : Nat → V → Hp → Prop) (hR : Stays R) (h : Ev tl σ H (.ref a)) (hx : SqT K H a xs) (hz : xs.length ≤ 40000)
    (hg : ∀ i x H', xs[i]? = some x → Ex H H' → ∀ Q : L2.St → Hp → Prop, Q (σi i) H' → g x (wipe σ vs) H' Q) (hw : ∀ i x, xs[i]? = some x → wipe (σi i) vs = wipe σ vs)
    (he : ∀ i x H', xs[i]? = some x → Ex H H' → EvP te (σi i) H' (R i)) : EvP (tLc (iTup K tl) g tYes te vs) σ H (LcOut H xs.length R) := fun H0 e0 Q q =>
  h H0 e0 _ fun H1 e1 => ⟨a, rfl, ⟨xs, ex_t (e0.trans e1) hx⟩, fun p hp =>
    lc_it walk_tup (fun i H2 => LcW H1 R p i H2) ⟨[], Ex.new hp, upd_same, rfl, fun j y hj => by cases hj⟩
      (fun i H2 _ ⟨_, e2, _⟩ => ex_t ((e0.trans e1).trans e2) hx)
      (fun i x H2 H3 hi hw2 ⟨eH, hi'⟩ => by
        subst eH
        have e2 : Ex H H3 := (e0.trans e1).trans (by obtain ⟨_, e2, _⟩ := hw2; exact e2)
        refine hg i x H3 hi' e2 _ ⟨hw i x hi', ?_⟩
        exact lc_turn hR hp hw2 (by omega) (he i x H3 hi' e2))
      (fun H2 ⟨acc, e2, ha, hl, hq⟩ => q (.ref p) H2 (e1.trans e2) ⟨p, acc, rfl, fresh_back (e0.trans e1) hp, ha, hl, hq⟩)⟩
/-- the items are values told by their place -/
theorem lc_vals {n : Nat} {f : Nat → V} {R : Nat → V → Hp → Prop} (hf : ∀ i y H2, i < n → R i y H2 → y = f i) {H : Hp} {v : V} {H2 : Hp} (h : LcOut H n R v H2) : ∃ p, v = .ref p ∧ H p = none ∧ H2 p = some (.lst ((List.range n).map f)) := by
  obtain ⟨p, ys, e, np, hp, hl, hq⟩ := h
  refine ⟨p, e, np, ?_⟩
  have : ys = (List.range n).map f := by
    apply List.ext_getElem?
    intro i
    cases hi : ys[i]? with
    | none =>
      have := List.getElem?_eq_none_iff.mp hi
      rw [List.getElem?_eq_none (by rw [List.length_map, List.length_range]; omega)]
    | some y =>
      have lt := (List.getElem?_eq_some_iff.mp hi).1
      rw [List.getElem?_map, List.getElem?_range (by omega), hf i y H2 (by omega) (hq i y hi)]
      rfl
  rw [hp, this]
theorem ev_cbP {ta : TE} {r : List V → Hp → VK → Prop} {P : V → Hp → Prop} {z : V} (h : EvP ta σ H P) (hr : ∀ v H1, Ex H H1 → P v H1 → RC r [v] H1 z) : Ev (tCB r (tCons ta tNil)) σ H z := fun H1 e Q q => h H1 e _ fun v H2 e2 p => hr v H2 (e.trans e2) p H2 (Ex.refl _) Q (fun H3 e3 => q H3 (e2.trans e3))
theorem stays_val {f : Nat → V} : Stays fun i v _ => v = f i := ⟨fun _ _ _ _ _ h => h, fun _ _ _ _ _ _ _ h => h⟩
theorem put_new {f : Str} {v : V} : ∀ {fs : List (Str × V)} (ks : List Str), fs.map (·.1) = ks → ks.contains f = false → putF f v fs = fs ++ [(f, v)]
  | [], _, _, _ => rfl
  | (g, x) :: r, ks, hk, hn => by
    subst hk
    have h : (f == g) = false ∧ (r.map (·.1)).contains f = false := by
      rw [List.map_cons, List.contains_cons, Bool.or_eq_false_iff] at hn
      exact hn
    rw [put_past (fun z => by rw [z, beq_self_eq_true] at h; exact absurd h.1 (by decide)), put_new (r.map (·.1)) rfl h.2]
    rfl
/-- the first statement of an __init__: self.f = e -/
theorem q_init {p C dx : Addr} {fs : List (Str × V)} {f : Str} {v : V} {H0 : Hp} {j : Nat} (ks : List Str) (hv : σ[j]? = some (some v)) (h0 : σ[0]? = some (some (.ref p))) (c : Cls K C) (n : NoAttr K C f) (hl : ks.length < 1000) (hk : fs.map (·.1) = ks) (hn : ks.contains f = false)
    (k : tz D σ (upd H0 p (.ins C dx (fs ++ [(f, v)])))) : tSeq (sFld K (tVar 0) (tVar j) f) tz D σ (upd H0 p (.ins C dx fs)) :=
  ⟨v, hv, .ref p, h0, p, C, dx, fs, rfl, upd_same, c, n, by rw [← hk, List.length_map] at hl; exact hl, by
    rw [upd_upd, put_new ks hk hn]
    exact k⟩
theorem s_init {p C dx : Addr} {fs : List (Str × V)} {f : Str} {v : V} {H0 : Hp} {j : Nat} (ks : List Str) (hv : σ[j]? = some (some v)) (h0 : σ[0]? = some (some (.ref p))) (c : Cls K C) (n : NoAttr K C f) (hl : ks.length < 1000) (hk : fs.map (·.1) = ks) (hn : ks.contains f = false)
    (k : D.nx σ (upd H0 p (.ins C dx (fs ++ [(f, v)])))) : sFld K (tVar 0) (tVar j) f D σ (upd H0 p (.ins C dx fs)) :=
  ⟨v, hv, .ref p, h0, p, C, dx, fs, rfl, upd_same, c, n, by rw [← hk, List.length_map] at hl; exact hl, by
    rw [upd_upd, put_new ks hk hn]
    exact k⟩
end
/-! ### Goods -/
abbrev GO := SctDay.Goods
def goF (g : GO) (ca : Addr) : List (Str × V) := [("kind", nV g.k), ("new", nV g.first), ("contents", .ref ca)]
def ctK : List Addr → List (Nat × Nat × Nat) → List (L2.Key × V)
  | t :: ts, h :: hs => (Sum.inl (h.1 : Int), V.ref t) :: ctK ts hs
  | _, _ => []
structure GoAt (A : Adr) (H : Hp) (p : Addr) (g : GO) (dx ca : Addr) (ts : List Addr) : Prop where
  ob : H p = some (.ins A.cGoods dx (goF g ca))
  co : H ca = some (.dK (ctK ts g.holds))
  it : Paired (fun t (h : Nat × Nat × Nat) => H t = some (.tup [nV h.2.1, nV h.2.2])) ts g.holds
  nd : (g.holds.map (·.1)).Nodup
  lo : ∀ y ∈ g.holds, y.2.1 ≤ y.2.2
def Go (A : Adr) (H : Hp) (p : Addr) (g : GO) : Prop := ∃ dx ca ts, GoAt A H p g dx ca ts
theorem GoAt.ex {A : Adr} {H H' : Hp} {p : Addr} {g : GO} {dx ca : Addr} {ts : List Addr} (e : Ex H H') (h : GoAt A H p g dx ca ts) : GoAt A H' p g dx ca ts :=
  ⟨e _ _ h.ob, e _ _ h.co, paired_imp (fun _ _ q => e _ _ q) h.it, h.nd, h.lo⟩
theorem Go.ex {A : Adr} {H H' : Hp} {p : Addr} {g : GO} (e : Ex H H') (h : Go A H p g) : Go A H' p g := by
  obtain ⟨dx, ca, ts, h⟩ := h
  exact ⟨dx, ca, ts, h.ex e⟩
section
variable {g : GO} {ca : Addr}
theorem g_kind : (goF g ca).lookup ("kind" : Str) = some (nV g.k) := lk_here
theorem g_new : (goF g ca).lookup ("new" : Str) = some (nV g.first) := (lk_past (by decide +kernel)).trans lk_here
theorem g_contents : (goF g ca).lookup ("contents" : Str) = some (.ref ca) := (lk_past (by decide +kernel)).trans ((lk_past (by decide +kernel)).trans lk_here)
theorem g_no_together : (goF g ca).lookup ("together" : Str) = none := (lk_past (by decide +kernel)).trans ((lk_past (by decide +kernel)).trans ((lk_past (by decide +kernel)).trans rfl))
end
theorem ct_val {H : Hp} : ∀ {ts : List Addr} {hs : List (Nat × Nat × Nat)} (s : Nat), Paired (fun t (h : Nat × Nat × Nat) => H t = some (.tup [nV h.2.1, nV h.2.2])) ts hs →
    (valV (ctK ts hs) (Sum.inl (s : Int)) = none ∧ low1 hs s = (0, 0)) ∨ ∃ t, valV (ctK ts hs) (Sum.inl (s : Int)) = some (.ref t) ∧ H t = some (.tup [nV (low1 hs s).1, nV (low1 hs s).2])
  | _, _, s, .nil => .inl ⟨rfl, rfl⟩
  | t :: ts, h :: hs, s, .cons r rr => by
    by_cases c : h.1 = s
    · refine .inr ⟨t, valV_pos (by rw [← c]), ?_⟩
      have e : low1 (h :: hs) s = h.2 := by
        unfold low1
        rw [List.find?_cons, decide_eq_true c]
        rfl
      rw [e]
      exact r
    · have e : low1 (h :: hs) s = low1 hs s := by
        unfold low1
        rw [List.find?_cons, decide_eq_false c]
      rw [e]
      have e2 : valV (ctK (t :: ts) (h :: hs)) (Sum.inl (s : Int)) = valV (ctK ts hs) (Sum.inl (s : Int)) := valV_neg (fun z => c (by
        have z1 : (h.1 : Int) = (s : Int) := Sum.inl.inj z
        omega))
      rw [e2]
      exact ct_val s rr
def sp_GoodsI (A : Adr) : Sp := fun vs H Q _ => ∃ (p dx : Addr) (v1 v2 v3 : V), vs = [.ref p, v1, v2, v3] ∧ H p = some (.ins A.cGoods dx []) ∧ Q .non (upd H p (.ins A.cGoods dx [("kind", v1), ("new", v2), ("contents", v3)]))
def sp_BatchI (A : Adr) : Sp := fun vs H Q _ => ∃ (p dx : Addr) (v1 v2 : V), vs = [.ref p, v1, v2] ∧ H p = some (.ins A.cBatch dx []) ∧ Q .non (upd H p (.ins A.cBatch dx [("goods", v1), ("made", v2)]))
def sp_AmendmentI (A : Adr) : Sp := fun vs H Q _ => ∃ (p dx : Addr) (v1 v2 v3 v4 v5 v6 : V), vs = [.ref p, v1, v2, v3, v4, v5, v6] ∧ H p = some (.ins A.cAmendment dx []) ∧
  ∀ q : Addr, H q = none → q ≠ p → Q .non (upd (upd H q (.lst [])) p (.ins A.cAmendment dx [("number", v1), ("known", v2), ("kind", v3), ("substances", v4), ("limit", v5), ("days", v6), ("corrections", .ref q), ("withdrawn", .int (-1))]))
def sp_LawI (A : Adr) : Sp := fun vs H Q _ => ∃ (p dx : Addr), vs = [.ref p] ∧ H p = some (.ins A.cLaw dx []) ∧ ∀ q : Addr, H q = none → q ≠ p → Q .non (upd (upd H q (.lst [])) p (.ins A.cLaw dx [("amendments", .ref q)]))
def sp_together (A : Adr) : Sp := fun vs H Q _ => ∃ (p sa : Addr) (g : GO) (ts of_ : List Nat), vs = [.ref p, .ref sa] ∧ Go A H p g ∧ H sa = some (.tup (ts.map nV)) ∧ ts.Nodup ∧ ts.length ≤ 4 ∧ (∀ s, s ∈ of_ ↔ s ∈ ts) ∧
  ∀ t H2, Ex H H2 → H2 t = some (.tup [nV (g.low of_), nV (g.high of_)]) → Q (.ref t) H2
theorem upd_id {H : Hp} {p : Addr} {o : HO} (h : H p = some o) : upd H p o = H := by
  funext b
  by_cases c : b = p
  · rw [c, upd_same, h]
  · rw [upd_ne c]
theorem upd_swap {H : Hp} {p q : Addr} {o u : HO} (h : q ≠ p) : upd (upd H p o) q u = upd (upd H q u) p o := by
  funext b
  by_cases c : b = p
  · rw [c, upd_same, upd_ne (Ne.symm h), upd_same]
  · rw [upd_ne c]
    by_cases d : b = q
    · rw [d, upd_same, upd_same]
    · rw [upd_ne d, upd_ne d, upd_ne c]
theorem sum_cast (l : List Nat) : (l.map fun (n : Nat) => (n : Int)).sum = ((SctBase.sumN l : Nat) : Int) := by
  induction l with
  | nil => rfl
  | cons a l ih =>
    rw [List.map_cons, List.sum_cons, ih, sumN_cons]
    omega
section
variable {P : Program} {w : World} {K : PySem.W.Frag} {mg : Str → Option Value} {base : Heap} {A : Adr}
theorem sc_GoodsI : FnScope ["self", "kind", "new", "contents"] ps_GoodsI (defScope s_GoodsI) := ⟨rfl, rfl, rfl, by decide +kernel, rfl, by decide +kernel, by decide +kernel⟩
theorem ok_GoodsI (T : Txt K mg A) : Cal P w K mg base CX0 1 A.fGoodsI ps_GoodsI (sp_GoodsI A) := by
  have sc := sc_GoodsI
  refine T.dGoodsI.ok sc (fun vs H Q E h => ?_) (fun cdv Ar outer s H vs Q E hr h => ⟨_, (pss_cons (ps_fld (pv 0) (pv 1) rfl)
    (pss_cons (ps_fld (pv 0) (pv 2) rfl)
    (pss_one (ps_fld (pv 0) (pv 3) rfl)))), ?_⟩)
  · obtain ⟨p, dx, v1, v2, v3, rfl, _⟩ := h
    rfl
  · obtain ⟨p, dx, v1, v2, v3, rfl, hp, k⟩ := h
    rw [← upd_id hp]
    refine q_init [] rfl rfl T.lGoods T.nGoods_kind (by decide) rfl rfl ?_
    refine q_init ["kind"] rfl rfl T.lGoods T.nGoods_new (by decide) rfl (by decide +kernel) ?_
    refine s_init ["kind", "new"] rfl rfl T.lGoods T.nGoods_contents (by decide) rfl (by decide +kernel) ?_
    exact k
theorem sc_BatchI : FnScope ["self", "goods", "made"] ps_BatchI (defScope s_BatchI) := ⟨rfl, rfl, rfl, by decide +kernel, rfl, by decide +kernel, by decide +kernel⟩
theorem ok_BatchI (T : Txt K mg A) : Cal P w K mg base CX0 1 A.fBatchI ps_BatchI (sp_BatchI A) := by
  have sc := sc_BatchI
  refine T.dBatchI.ok sc (fun vs H Q E h => ?_) (fun cdv Ar outer s H vs Q E hr h => ⟨_, (pss_cons (ps_fld (pv 0) (pv 1) rfl)
    (pss_one (ps_fld (pv 0) (pv 2) rfl))), ?_⟩)
  · obtain ⟨p, dx, v1, v2, rfl, _⟩ := h
    rfl
  · obtain ⟨p, dx, v1, v2, rfl, hp, k⟩ := h
    rw [← upd_id hp]
    refine q_init [] rfl rfl T.lBatch T.nBatch_goods (by decide) rfl rfl ?_
    refine s_init ["goods"] rfl rfl T.lBatch T.nBatch_made (by decide) rfl (by decide +kernel) ?_
    exact k
theorem sc_LawI : FnScope ["self"] ps_LawI (defScope s_LawI) := ⟨rfl, rfl, rfl, by decide +kernel, rfl, by decide +kernel, by decide +kernel⟩
theorem ok_LawI (T : Txt K mg A) : Cal P w K mg base CX0 1 A.fLawI ps_LawI (sp_LawI A) := by
  have sc := sc_LawI
  refine T.dLawI.ok sc (fun vs H Q E h => ?_) (fun cdv Ar outer s H vs Q E hr h => ⟨_, (pss_one (ps_fld (pv 0) (pe_lst pa_nil) rfl)), ?_⟩)
  · obtain ⟨p, dx, rfl, _⟩ := h
    rfl
  · obtain ⟨p, dx, rfl, hp, k⟩ := h
    refine ⟨by decide, fun q hq => ?_⟩
    have ne : p ≠ q := ne_of_none hp hq
    refine ⟨.ref p, rfl, p, A.cLaw, dx, [], rfl, (by rw [upd_ne ne]; exact hp), T.lLaw, T.nLaw_amendments, by decide, ?_⟩
    exact k q hq (Ne.symm ne)
theorem sc_AmendmentI : FnScope ["self", "number", "known", "kind", "substances", "limit", "days"] ps_AmendmentI (defScope s_AmendmentI) := ⟨rfl, rfl, rfl, by decide +kernel, rfl, by decide +kernel, by decide +kernel⟩
theorem ok_AmendmentI (T : Txt K mg A) : Cal P w K mg base CX0 1 A.fAmendmentI ps_AmendmentI (sp_AmendmentI A) := by
  have sc := sc_AmendmentI
  refine T.dAmendmentI.ok sc (fun vs H Q E h => ?_) (fun cdv Ar outer s H vs Q E hr h => ⟨_, (pss_cons (ps_fld (pv 0) (pv 1) rfl)
    (pss_cons (ps_fld (pv 0) (pv 2) rfl)
    (pss_cons (ps_fld (pv 0) (pv 3) rfl)
    (pss_cons (ps_fld (pv 0) (pv 4) rfl)
    (pss_cons (ps_fld (pv 0) (pv 5) rfl)
    (pss_cons (ps_fld (pv 0) (pv 6) rfl)
    (pss_cons (ps_fld (pv 0) (pe_lst pa_nil) rfl)
    (pss_one (ps_fld (pv 0) (pe_un un_neg pe_int) rfl))))))))), ?_⟩)
  · obtain ⟨p, dx, v1, v2, v3, v4, v5, v6, rfl, _⟩ := h
    rfl
  · obtain ⟨p, dx, v1, v2, v3, v4, v5, v6, rfl, hp, k⟩ := h
    rw [← upd_id hp]
    refine q_init [] rfl rfl T.lAmendment T.nAmendment_number (by decide) rfl rfl ?_
    refine q_init ["number"] rfl rfl T.lAmendment T.nAmendment_known (by decide) rfl (by decide +kernel) ?_
    refine q_init ["number", "known"] rfl rfl T.lAmendment T.nAmendment_kind (by decide) rfl (by decide +kernel) ?_
    refine q_init ["number", "known", "kind"] rfl rfl T.lAmendment T.nAmendment_substances (by decide) rfl (by decide +kernel) ?_
    refine q_init ["number", "known", "kind", "substances"] rfl rfl T.lAmendment T.nAmendment_limit (by decide) rfl (by decide +kernel) ?_
    refine q_init ["number", "known", "kind", "substances", "limit"] rfl rfl T.lAmendment T.nAmendment_days (by decide) rfl (by decide +kernel) ?_
    refine ⟨by decide, fun q hq => ?_⟩
    have ne : q ≠ p := fun z => by
      rw [z, upd_same] at hq
      cases hq
    rw [upd_ne ne] at hq
    rw [upd_swap ne]
    refine ⟨.ref p, rfl, p, A.cAmendment, dx, _, rfl, upd_same, T.lAmendment, T.nAmendment_corrections, by simp, ?_⟩
    rw [upd_upd, put_new ["number", "known", "kind", "substances", "limit", "days"] rfl (by decide +kernel)]
    refine ⟨1, rfl, .ref p, rfl, p, A.cAmendment, dx, _, rfl, upd_same, T.lAmendment, T.nAmendment_withdrawn, by simp, ?_⟩
    rw [upd_upd, put_new ["number", "known", "kind", "substances", "limit", "days", "corrections"] rfl (by decide +kernel)]
    exact k q hq ne
theorem sc_Goods_together : FnScope ["self", "substances", "some", "one", "low", "high"] ps_Goods_together (defScope s_Goods_together) := ⟨rfl, rfl, rfl, by decide +kernel, rfl, by decide +kernel, by decide +kernel⟩
theorem ok_together (T : Txt K mg A) : Cal P w K mg base CX0 1 A.fGoods_together ps_Goods_together (sp_together A) := by
  have sc := sc_Goods_together
  refine T.dGoods_together.ok sc (fun vs H Q E h => ?_) (fun cdv Ar outer s H vs Q E hr h => ⟨_, (pss_cons (ps_setLc (i := 2) (own := [("one", 3)]) (te := (tDGet2 (tFld K (tVar 0) "contents") (tVar 3) (tTup (tCons (tC (.int 0)) (tCons (tC (.int 0)) tNil))))) (hc := by rfl) sc.nd rfl rfl (sw_true rfl rfl rfl (by decide +kernel)) (pi_tup (pv 1)) (blkOk_by (N := ["self", "substances", "some", "one", "low", "high"]) (sc := defScope s_Goods_together) (by decide +kernel)) (fun _ _ _ _ _ => by exact pg_name (i := 3) sc.nd rfl (Or.inl rfl)) (fun _ _ _ _ _ => by exact pts_nil) (fun _ _ _ _ _ => by exact (pe_dget2 (hu_of hr) (pe_fld (pv 0) rfl) (pv 3) (pe_tup (pa_cons pe_int (pa_cons pe_int pa_nil))) ⟨rfl, rfl, rfl, rfl⟩)))
    (pss_one (ps_ret (pe_tup (pa_cons (pe_callB (cr_sum rfl) (by rfl) T.b_sum (by decide +kernel) (pa_cons (pe_lc (own := [("low", 4), ("high", 5)]) (g := gTup K 2 (gCons (gName 4) (gCons (gName 5) (gNil)))) (hc := by rfl) sc.nd (pi_list (pv 2)) (blkOk_by (N := ["self", "substances", "some", "one", "low", "high"]) (sc := defScope s_Goods_together) (by decide +kernel)) (fun _ _ _ _ _ => by exact pg_tup rfl (pgs_cons (pg_name (i := 4) sc.nd rfl (Or.inl rfl)) (pgs_cons (pg_name (i := 5) sc.nd rfl (Or.inl rfl)) pgs_nil))) (fun _ _ _ _ _ => by exact pts_nil) (fun _ _ _ _ _ => by exact (pv 4))) pa_nil)) (pa_cons (pe_callB (cr_sum rfl) (by rfl) T.b_sum (by decide +kernel) (pa_cons (pe_lc (own := [("low", 4), ("high", 5)]) (g := gTup K 2 (gCons (gName 4) (gCons (gName 5) (gNil)))) (hc := by rfl) sc.nd (pi_list (pv 2)) (blkOk_by (N := ["self", "substances", "some", "one", "low", "high"]) (sc := defScope s_Goods_together) (by decide +kernel)) (fun _ _ _ _ _ => by exact pg_tup rfl (pgs_cons (pg_name (i := 4) sc.nd rfl (Or.inl rfl)) (pgs_cons (pg_name (i := 5) sc.nd rfl (Or.inl rfl)) pgs_nil))) (fun _ _ _ _ _ => by exact pts_nil) (fun _ _ _ _ _ => by exact (pv 5))) pa_nil)) pa_nil)))))), ?_⟩)
  · obtain ⟨p, sa, g, ts, of_, rfl, _⟩ := h
    rfl
  · obtain ⟨p, sa, g, ts, of_, rfl, ⟨dx, ca, hs, h⟩, hsa, hnd, hlen, hm, k⟩ := h
    refine q_asgP (P := LcOut H (ts.map nV).length fun i v H2 => ∃ (t : Addr) (s : Nat), v = .ref t ∧ ts[i]? = some s ∧ H2 t = some (.tup [nV (low1 g.holds s).1, nV (low1 g.holds s).2])) ?_ ?_
    · refine ep_lcT (xs := ts.map nV) (fun i => [some (.ref p), some (.ref sa), none, some (nV (ts.getD i 0)), none, none]) _ ⟨?_, ?_⟩ (ev_var rfl) (st_of hsa) (by rw [List.length_map]; omega) ?_ ?_ ?_
      · rintro i v H1 H2 e ⟨t, s, rfl, hs, ht⟩
        exact ⟨t, s, rfl, hs, e _ _ ht⟩
      · rintro i v H1 q acc acc' hq ⟨t, s, rfl, hs, ht⟩
        exact ⟨t, s, rfl, hs, by rw [upd_ne (ne_of ht hq (by intro z; cases z))]; exact ht⟩
      · intro i x H1 hx e Q' q
        obtain ⟨s, hs', rfl⟩ := map_get hx
        have : ts.getD i 0 = s := by rw [List.getD_eq_getElem?_getD, hs']; rfl
        rw [this] at q
        exact q
      · intro i x _
        rfl
      · intro i x H1 hx e
        obtain ⟨s, hs', rfl⟩ := map_get hx
        have : ts.getD i 0 = s := by rw [List.getD_eq_getElem?_getD, hs']; rfl
        rw [this]
        intro H2 e2 Q' q
        have h2 := h.ex (e.trans e2)
        refine (ev_fld (K := K) (ev_var rfl) h2.ob T.lGoods T.nGoods_contents g_contents) H2 (Ex.refl _) _ fun H3 e3 => ?_
        have h3 := h2.ex e3
        refine ⟨ca, rfl, .inl ⟨_, .inl h3.co⟩, nV s, rfl, ?_⟩
        refine ⟨by decide, fun z hz => ⟨valV (ctK hs g.holds) (Sum.inl (s : Int)), .inl ⟨_, Sum.inl (s : Int), .inl (by rw [upd_ne (ne_of_none h3.co hz)]; exact h3.co), rfl, rfl⟩, ?_⟩⟩
        rcases ct_val s h3.it with ⟨c1, c2⟩ | ⟨t, c1, c2⟩
        · rw [c1]
          exact q _ _ (e3.trans (Ex.new hz)) ⟨z, s, rfl, hs', by rw [c2]; exact upd_same⟩
        · rw [c1]
          exact q _ _ (e3.trans (Ex.new hz)) ⟨t, s, rfl, hs', by rw [upd_ne (ne_of_none c2 hz)]; exact c2⟩
    · rintro v H1 e1 ⟨so, ys, rfl, nso, hso, hl, hy⟩
      rw [List.length_map] at hl
      have tup : ∀ (i : Nat) (x : V), ys[i]? = some x → ∃ (t : Addr) (s : Nat), x = V.ref t ∧ ts[i]? = some s ∧ H1 t = some (.tup [nV (low1 g.holds s).1, nV (low1 g.holds s).2]) := hy
      have one : ∀ (f : Nat × Nat → Nat) (te : TE), (∀ (q : Nat × Nat) H2, Ev te [some (.ref p), some (.ref sa), some (.ref so), none, some (nV q.1), some (nV q.2)] H2 (nV (f q))) →
          Ev (tCB (rSum K) (tCons (tLc (iList K (tVar 2)) (gTup K 2 (gCons (gName 4) (gCons (gName 5) gNil))) tYes te [4, 5]) tNil)) [some (.ref p), some (.ref sa), some (.ref so), none, none, none] H1 (nV (SctBase.sumN (ts.map fun s => f (low1 g.holds s)))) := by
        intro f te hte
        refine ev_cbP (ep_lcL (K := K) (σ := [some (.ref p), some (.ref sa), some (.ref so), none, none, none]) (xs := ys) (fun i => [some (.ref p), some (.ref sa), some (.ref so), none, some (nV (low1 g.holds (ts.getD i 0)).1), some (nV (low1 g.holds (ts.getD i 0)).2)]) (fun i v _ => v = nV (f (low1 g.holds (ts.getD i 0)))) stays_val (ev_var (i := 2) rfl) (sq_of hso) (by omega) ?_ ?_ ?_) fun v H3 e3 out => ?_
        · intro i x H3 hx e3 Q2 q2
          obtain ⟨t, s, rfl, hs', ht⟩ := tup i x hx
          have : ts.getD i 0 = s := by rw [List.getD_eq_getElem?_getD, hs']; rfl
          rw [this] at q2
          exact g_pair (e3 _ _ ht) q2
        · intro i x _
          rfl
        · intro i x H3 hx e3
          exact ep_of_ev (hte _ _)
        · obtain ⟨r, rfl, nr, hr2⟩ := lc_vals (fun i y H2 _ hy => hy) out
          intro H4 e4 Q' q
          refine ⟨r, (List.range ys.length).map fun i => ((f (low1 g.holds (ts.getD i 0)) : Nat) : Int), rfl, ?_, ?_⟩
          · rw [List.map_map]
            exact sq_of (e4 _ _ hr2)
          · have ey : (List.range ys.length).map (fun i => ((f (low1 g.holds (ts.getD i 0)) : Nat) : Int)) = (ts.map fun s => f (low1 g.holds s)).map fun (n : Nat) => (n : Int) := by
              rw [hl, List.map_map]
              apply List.ext_getElem?
              intro i
              rw [List.getElem?_map, List.getElem?_map]
              by_cases c : i < ts.length
              · rw [List.getElem?_range c, List.getElem?_eq_getElem c]
                have z : ts.getD i 0 = ts[i] := by rw [List.getD_eq_getElem?_getD, List.getElem?_eq_getElem c]; rfl
                show some (((f (low1 g.holds (ts.getD i 0)) : Nat) : Int)) = some _
                rw [z]
                rfl
              · rw [List.getElem?_eq_none (by rw [List.length_range]; omega), List.getElem?_eq_none (by omega)]
                rfl
            rw [ey, sum_cast]
            exact q H4 (Ex.refl _)
      refine s_retU (eu_tup (ea_cons (one (fun q => q.1) (tVar 4) fun q H2 => ev_var rfl) (ea_cons (one (fun q => q.2) (tVar 5) fun q H2 => ev_var rfl) ea_nil)) (by show 2 ≤ 100000; decide)) fun t H2 nt e2 ht => ?_
      rw [low_is hnd hm h.nd, high_is hnd hm h.nd] at ht
      exact k t H2 (e1.trans e2) ht
end
end Bd
namespace Bd
open PySem PySem.Spec PyProof.Rows L2 Evl
/-! ### dicts, further -/
section
variable {κ : Type} [DecidableEq κ]
theorem val_iff (k : κ) : ∀ kvs : List (κ × V), (valV kvs k).isSome = true ↔ k ∈ kvs.map (·.1)
  | [] => by simp [valV]
  | kv :: r => by
    by_cases c : kv.1 = k
    · rw [valV_pos c]
      simp [c]
    · rw [valV_neg c, val_iff k r, List.map_cons, List.mem_cons]
      exact ⟨Or.inr, fun q => q.elim (fun z => absurd z.symm c) id⟩
theorem val_none {k : κ} {kvs : List (κ × V)} : valV kvs k = none ↔ k ∉ kvs.map (·.1) := by
  rw [← val_iff, Option.not_isSome_iff_eq_none]
theorem val_mem {k : κ} {v : V} : ∀ {kvs : List (κ × V)}, valV kvs k = some v → (k, v) ∈ kvs
  | [], h => by cases h
  | kv :: r, h => by
    by_cases c : kv.1 = k
    · rw [valV_pos c] at h
      have e : kv.2 = v := Option.some.inj h
      rw [← c, ← e]
      exact List.mem_cons_self
    · rw [valV_neg c] at h
      exact List.mem_cons_of_mem _ (val_mem h)
theorem val_of {k : κ} {v : V} : ∀ {kvs : List (κ × V)}, (kvs.map (·.1)).Nodup → (k, v) ∈ kvs → valV kvs k = some v
  | [], _, h => by cases h
  | kv :: r, hn, h => by
    rw [List.map_cons, List.nodup_cons] at hn
    rcases List.mem_cons.mp h with e | q
    · rw [← e]
      exact valV_pos rfl
    · have : ¬ kv.1 = k := fun z => hn.1 (by rw [z]; exact List.mem_map_of_mem (f := fun x : κ × V => x.1) q)
      rw [valV_neg this]
      exact val_of hn.2 q
theorem put_keys (k : κ) (v : V) (kvs : List (κ × V)) : (putK kvs k v).map (·.1) = if k ∈ kvs.map (·.1) then kvs.map (·.1) else kvs.map (·.1) ++ [k] := by
  by_cases c : k ∈ kvs.map (·.1)
  · rw [if_pos c]
    unfold putK
    rw [if_pos (by rw [valV_any, val_iff]; exact c), List.map_map]
    refine List.map_congr_left fun x _ => ?_
    show (if x.1 = k then (x.1, v) else x).1 = x.1
    split <;> rfl
  · rw [if_neg c, putK_new v (val_none.mpr c), List.map_append]
    rfl
theorem put_nodup {k : κ} {v : V} {kvs : List (κ × V)} (h : (kvs.map (·.1)).Nodup) : ((putK kvs k v).map (·.1)).Nodup := by
  rw [put_keys]
  split
  · exact h
  · rename_i c
    rw [List.nodup_append]
    refine ⟨h, by simp, fun a ha b hb => ?_⟩
    rw [List.mem_singleton.mp hb]
    exact fun e => c (by rw [← e]; exact ha)
theorem put_mem {k : κ} {v : V} {kvs : List (κ × V)} {kv : κ × V} (hn : (kvs.map (·.1)).Nodup) (h : kv ∈ putK kvs k v) : kv = (k, v) ∨ (kv ∈ kvs ∧ kv.1 ≠ k) := by
  have e := val_of (put_nodup (k := k) (v := v) hn) (show (kv.1, kv.2) ∈ putK kvs k v from h)
  rw [valV_put] at e
  split at e
  · rename_i c
    have e2 : v = kv.2 := Option.some.inj e
    left
    rw [← c, e2]
  · rename_i c
    exact .inr ⟨val_mem e, c⟩
theorem put_in {k j : κ} {v : V} {kvs : List (κ × V)} : j ∈ (putK kvs k v).map (·.1) ↔ j = k ∨ j ∈ kvs.map (·.1) := by
  rw [put_keys]
  split
  · rename_i c
    exact ⟨Or.inr, fun q => q.elim (fun z => by rw [z]; exact c) id⟩
  · rw [List.mem_append, List.mem_singleton]
    exact Or.comm
end
section
variable {K : PySem.W.Frag} {σ : L2.St} {H H' : Hp} {D : Ends} {tz : TS} {g : TG} {td ty te tl : TE} {vs : List Nat} {xs : List V} {a : Addr} {y : V} {o : Option V}
theorem dget_ex (e : Ex H H') (h : DGet H a y o) : DGet H' a y o := by
  rcases h with ⟨kvs, k, h1, h2, h3⟩ | ⟨kvs, k, b, h1, h2, h3, h4⟩
  · exact .inl ⟨kvs, k, ex_rd e h1, h2, h3⟩
  · exact .inr ⟨kvs, k, b, ex_rd e h1, h2, e _ _ h3, h4⟩
theorem ev_dnotin (hy : Ev ty σ H y) (hd : Ev td σ H (.ref a)) (hg : DGet H a y o) : Ev (tDNotIn ty td) σ H (.bl (!o.isSome)) := fun H1 e Q q =>
  hy H1 e _ fun H2 e2 => hd H2 (e.trans e2) _ fun H3 e3 => ⟨a, o, rfl, dget_ex ((e.trans e2).trans e3) hg, q H3 (e2.trans e3)⟩
theorem ev_din (hy : Ev ty σ H y) (hd : Ev td σ H (.ref a)) (hg : DGet H a y o) : Ev (tDIn ty td) σ H (.bl o.isSome) := fun H1 e Q q =>
  hy H1 e _ fun H2 e2 => hd H2 (e.trans e2) _ fun H3 e3 => ⟨a, o, rfl, dget_ex ((e.trans e2).trans e3) hg, q H3 (e2.trans e3)⟩
theorem ev_dget {v : V} (hd : Ev td σ H (.ref a)) (hy : Ev ty σ H y) (hg : DGet H a y (some v)) : Ev (tDGet td ty) σ H v := fun H1 e Q q =>
  hd H1 e _ fun H2 e2 => hy H2 (e.trans e2) _ fun H3 e3 => ⟨a, v, rfl, dget_ex ((e.trans e2).trans e3) hg, q H3 (e2.trans e3)⟩
theorem ep_ofU {us : List V} (h : EvU te σ H us) : EvP te σ H fun v H1 => ∃ p, v = .ref p ∧ H1 p = some (.tup us) := fun H1 e Q q => h H1 e Q fun p H2 _ e2 hp => q (.ref p) H2 e2 ⟨p, rfl, hp⟩
theorem s_dputP {tv : TE} {P : V → Hp → Prop} (hv : EvP tv σ H P) (k : ∀ v H1, Ex H H1 → P v H1 → Ev td σ H1 (.ref a) ∧ ∃ y, Ev ty σ H1 y ∧ ∀ H2, Ex H1 H2 → ∃ H4, DPut H2 a y v H4 ∧ D.nx σ H4) : sDPut td ty tv D σ H := hv H (Ex.refl _) _ fun v H1 e1 p => by
  obtain ⟨h1, y, h2, h3⟩ := k v H1 e1 p
  refine h1 H1 (Ex.refl _) _ fun H2 e2 => h2 H2 e2 _ fun H3 e3 => ?_
  obtain ⟨H4, g1, g2⟩ := h3 H3 (e2.trans e3)
  exact ⟨a, H4, rfl, g1, g2⟩
theorem ep_lcNL (σi : Nat → L2.St) (R : Nat → V → Hp → Prop) (hR : Stays R) (h : EvL tl σ H xs) (hz : xs.length ≤ 40000)
    (hg : ∀ i x H', xs[i]? = some x → Ex H H' → ∀ Q : L2.St → Hp → Prop, Q (σi i) H' → g x (wipe σ vs) H' Q) (hw : ∀ i x, xs[i]? = some x → wipe (σi i) vs = wipe σ vs)
    (he : ∀ i x H', xs[i]? = some x → Ex H H' → EvP te (σi i) H' (R i)) : EvP (tLc (iList K tl) g tYes te vs) σ H (LcOut H xs.length R) := fun H0 e0 Q q =>
  h H0 e0 _ fun a H1 na e1 hx => ⟨a, rfl, ⟨xs, sq_of hx⟩, fun p hp =>
    lc_it walk_list (fun i H2 => LcW H1 R p i H2) ⟨[], Ex.new hp, upd_same, rfl, fun j y hj => by cases hj⟩
      (fun i H2 _ ⟨_, e2, _⟩ => sq_of (e2 _ _ hx))
      (fun i x H2 H3 hi hw2 ⟨eH, hi'⟩ => by
        subst eH
        have e2 : Ex H H3 := (e0.trans e1).trans (by obtain ⟨_, e2, _⟩ := hw2; exact e2)
        refine hg i x H3 hi' e2 _ ⟨hw i x hi', ?_⟩
        exact lc_turn hR hp hw2 (by omega) (he i x H3 hi' e2))
      (fun H2 ⟨acc, e2, ha, hl, hq⟩ => q (.ref p) H2 (e1.trans e2) ⟨p, acc, rfl, fresh_back (e0.trans e1) hp, ha, hl, hq⟩)⟩
theorem refs_paired {β : Type} {RR : Addr → β → Prop} : ∀ {L : List β} {ys : List V}, ys.length = L.length → (∀ (i : Nat) (y : V), ys[i]? = some y → ∃ (t : Addr) (z : β), y = V.ref t ∧ L[i]? = some z ∧ RR t z) → ∃ ts : List Addr, ys = ts.map V.ref ∧ Paired RR ts L
  | [], [], _, _ => ⟨[], rfl, .nil⟩
  | b :: L, y :: ys, hl, h => by
    obtain ⟨t, z, e, hz, r⟩ := h 0 y rfl
    have ez : b = z := Option.some.inj hz
    subst ez
    obtain ⟨ts, e2, r2⟩ := refs_paired (L := L) (ys := ys) (by simpa using hl) fun i y hi => h (i + 1) y hi
    exact ⟨t :: ts, by rw [e, e2]; rfl, .cons r r2⟩
  | [], _ :: _, hl, _ => by simp at hl
  | _ :: _, [], hl, _ => by simp at hl
end
/-! ### what rules -/
def keyOf (m : List Nat) : List L2.Key := m.map fun (n : Nat) => (Sum.inl (n : Int) : L2.Key)
theorem keyOf_kV (m : List Nat) : (keyOf m).map kV = m.map nV := by
  unfold keyOf
  rw [List.map_map]
  rfl
theorem keyOf_inj {m n : List Nat} (h : keyOf m = keyOf n) : m = n := by
  unfold keyOf at h
  exact List.map_inj_right (fun x y q => by
    have z : (x : Int) = (y : Int) := Sum.inl.inj q
    omega) |>.mp h
def AmsAt (A : Adr) (H : Hp) (ps : List Addr) (l : List AM) : Prop := ps.length = l.length ∧ ∀ i p a, ps[i]? = some p → l[i]? = some a → Am A H p i a
theorem AmsAt.ex {A : Adr} {H H' : Hp} (e : Ex H H') {ps : List Addr} {l : List AM} (h : AmsAt A H ps l) : AmsAt A H' ps l := ⟨h.1, fun i p a h1 h2 => (h.2 i p a h1 h2).ex e⟩
def RuAt (H : Hp) (ps : List Addr) (x : Nat) (t : Addr) (y : Nat × AM) : Prop := ∃ ap, ps[y.1]? = some ap ∧ H t = some (.tup [.ref ap, nV (y.2.limitOn x)])
theorem RuAt.ex {H H' : Hp} (e : Ex H H') {ps : List Addr} {x : Nat} {t : Addr} {y : Nat × AM} (h : RuAt H ps x t y) : RuAt H' ps x t y := by
  obtain ⟨ap, h1, h2⟩ := h
  exact ⟨ap, h1, e _ _ h2⟩
def sp_ruling (A : Adr) : Sp := fun vs H Q _ => ∃ (la : Addr) (ps : List Addr) (l : List AM) (k c d s x : Nat), vs = [.ref la, nV k, nV c, nV d, nV s, nV x] ∧ H la = some (.lst (ps.map V.ref)) ∧ AmsAt A H ps l ∧ l.length ≤ 48 ∧
  ∀ p ts H2, H p = none → Ex H H2 → H2 p = some (.lst (ts.map V.ref)) → Paired (RuAt H2 ps x) ts (SctDay.limits l k c d s x) → Q (.ref p) H2
def BestInv (ps : List Addr) (kvs : List (List L2.Key × V)) (R : List Nat → Option AN) : Prop := (kvs.map (·.1)).Nodup ∧ (∀ kv ∈ kvs, ∃ m, kv.1 = keyOf m) ∧ ∀ m, valV kvs (keyOf m) = (R m).map fun y => V.ref (ps.getD y.2 0)
theorem best_put {ps : List Addr} {kvs : List (List L2.Key × V)} {R R' : List Nat → Option AN} {m0 : List Nat} {y : AN} {p : Addr} (B : BestInv ps kvs R) (h : ∀ m, R' m = if m = m0 then some y else R m) (hp : ps[y.2]? = some p) : BestInv ps (putK kvs (keyOf m0) (.ref p)) R' := by
  obtain ⟨b1, b2, b3⟩ := B
  refine ⟨put_nodup b1, fun kv hkv => ?_, fun m => ?_⟩
  · rcases put_mem b1 hkv with e | ⟨e, _⟩
    · exact ⟨m0, by rw [e]⟩
    · exact b2 kv e
  · rw [valV_put, h m]
    by_cases c : m = m0
    · rw [if_pos (by rw [c]), if_pos c]
      show some (V.ref p) = some (V.ref (ps.getD y.2 0))
      rw [List.getD_eq_getElem?_getD, hp]
      rfl
    · rw [if_neg (fun z => c (keyOf_inj z)), if_neg c, b3]
theorem best_same {ps : List Addr} {kvs : List (List L2.Key × V)} {R R' : List Nat → Option AN} (B : BestInv ps kvs R) (h : ∀ m, R' m = R m) : BestInv ps kvs R' := ⟨B.1, B.2.1, fun m => by rw [h m]; exact B.2.2 m⟩
theorem best_nil {ps : List Addr} {k c d s x : Nat} {l : List AM} : BestInv ps [] (rul k c d s x (l.take 0).zipIdx) := ⟨List.nodup_nil, (fun kv hkv => nomatch hkv), fun m => by rw [List.take_zero]; rfl⟩
theorem zip_take {l : List AM} {i : Nat} {a : AM} (h : l[i]? = some a) : (l.take (i + 1)).zipIdx = (l.take i).zipIdx ++ [(a, i)] := by
  have hl : (l.take i).length = i := by
    rw [List.length_take]
    have := (List.getElem?_eq_some_iff.mp h).1
    omega
  rw [List.take_add_one, h, List.zipIdx_append, hl]
  simp
theorem mem_take_zip {l : List AM} {i : Nat} {z : AN} (h : z ∈ (l.take i).zipIdx) : z.2 < i ∧ l[z.2]? = some z.1 := by
  have q := mem_zipIdx.mp h
  rw [List.getElem?_take] at q
  split at q
  · exact ⟨by assumption, q⟩
  · cases q
def FoundInv (H : Hp) (ps : List Addr) (l : List AM) (x : Nat) (R : List Nat → Option AN) (kvs : List (List L2.Key × V)) (fk : List (L2.Key × V)) (j : Nat) : Prop :=
  (fk.map (·.1)).Nodup ∧ fk.length ≤ j ∧ (∀ kv ∈ fk, ∃ (n : Nat) (a : AM) (t ap : Addr), kv = (Sum.inl (n : Int), V.ref t) ∧ l[n]? = some a ∧ ps[n]? = some ap ∧ H t = some (.tup [.ref ap, nV (a.limitOn x)])) ∧
  ∀ n : Nat, (Sum.inl (n : Int) : L2.Key) ∈ fk.map (·.1) ↔ ∃ j' m y, j' < j ∧ (kvs.map (·.1))[j']? = some (keyOf m) ∧ R m = some y ∧ y.2 = n ∧ y.1.repeal = false
section
variable {P : Program} {w : World} {K : PySem.W.Frag} {mg : Str → Option Value} {base : Heap} {A : Adr}
theorem spv_is_known {H : Hp} {p : Addr} {i : Nat} {a : AM} (h : Am A H p i a) (x : Nat) : SpV (sp_is_known A) [.ref p, nV x] H (.bl (a.isKnown x)) := fun H1 e Q q E => ⟨p, i, a, (x : Int), rfl, h.ex e, fun H2 e2 => by
  rw [isKnown_nat]
  exact q H2 e2⟩
theorem spv_binds {H : Hp} {p : Addr} {i : Nat} {a : AM} (h : Am A H p i a) (c d s : Nat) : SpV (sp_binds A) [.ref p, nV c, nV d, nV s] H (.bl (a.binds c d s)) := fun H1 e Q q E => ⟨p, i, a, c, d, s, rfl, h.ex e, q⟩
theorem spv_limit_on {H : Hp} {p : Addr} {i : Nat} {a : AM} (h : Am A H p i a) (hr : a.repeal = false) (x : Nat) : SpV (sp_limit_on A) [.ref p, nV x] H (nV (a.limitOn x)) := fun H1 e Q q E => ⟨p, i, a, x, rfl, h.ex e, hr, q⟩
theorem spp_matter {H : Hp} {p : Addr} {i : Nat} {a : AM} (h : Am A H p i a) : SpP (sp_matter A) [.ref p] H (fun v H2 => ∃ t, v = .ref t ∧ H2 t = some (.tup (a.of_.map nV))) := fun H1 e Q q E => ⟨p, i, a, rfl, h.ex e, fun t H2 e2 ht => q (.ref t) H2 e2 ⟨t, rfl, ht⟩⟩
theorem dec_eq (m n : Nat) : decide (nV m = nV n) = (m == n) := by
  by_cases c : m = n
  · rw [c, decide_eq_true rfl]
    exact (beq_self_eq_true n).symm
  · rw [decide_eq_false (fun z => c (by
      have : (m : Int) = (n : Int) := V.int.inj z
      omega))]
    exact (beq_eq_false_iff_ne.mpr c).symm
theorem sc_ruling : FnScope ["amendments", "kind", "new", "made", "sold", "day", "best", "one", "matter", "found", "number"] ps_ruling (defScope s_ruling) := ⟨rfl, rfl, rfl, by decide +kernel, rfl, by decide +kernel, by decide +kernel⟩
theorem ok_ruling (T : Txt K mg A) : Cal P w K mg base CX0 3 A.fruling ps_ruling (sp_ruling A) := by
  have sc := sc_ruling
  have c_Amendment_is_repeal : Cal P w K mg base CX0 1 _ _ _ := ok_is_repeal T
  have c_Amendment_is_known : Cal P w K mg base CX0 2 _ _ _ := ok_is_known T
  have c_Amendment_binds : Cal P w K mg base CX0 2 _ _ _ := ok_binds T
  have c_Amendment_matter : Cal P w K mg base CX0 1 _ _ _ := ok_matter T
  have c_Amendment_limit_on : Cal P w K mg base CX0 1 _ _ _ := ok_limit_on T
  refine T.druling.ok sc (fun vs H Q E h => ?_) (fun cdv Ar outer s H vs Q E hr h => ⟨_, (pss_cons (ps_set (i := 6) sc.nd rfl (Or.inl rfl) pe_dnewT)
    (pss_cons (ps_for PassesOwn.never rfl (pi_list (pv 0)) (pg_name (i := 7) sc.nd rfl (Or.inl rfl)) (pss_one (ps_if (PW.pt (pw_and (pt_cmpR op_eq (pe_fld (pv 7) rfl) (pv 1) (nomark _)) (pw_and (pt_val (pmeth c_Amendment_is_known (pv 7) T.lAmendment T.eAmendment_is_known (hr.mono (by decide)) pass0 (by exact (pa_cons (pv 5) pa_nil)))) (pw_and1 (pt_val (pmeth c_Amendment_binds (pv 7) T.lAmendment T.eAmendment_binds (hr.mono (by decide)) pass0 (by exact (pa_cons (pv 2) (pa_cons (pv 3) (pa_cons (pv 4) pa_nil)))))))))) (pss_cons (ps_set (i := 8) sc.nd rfl (Or.inl rfl) (pmeth0 c_Amendment_matter (pv 7) T.lAmendment T.eAmendment_matter (hr.mono (by decide)) pass0))
    (pss_one (ps_if (PW.pt (pw_or (pt_cmp (pc_dnotin (hu_of hr) (pv 8) (pv 6))) (pw_or1 (pt_cmpR (op_gtP hr.units0) (pe_tup (pa_cons (pe_fld (pv 7) rfl) (pa_cons (pe_fld (pv 7) rfl) pa_nil))) (pe_tup (pa_cons (pe_fld (pe_dget (hu_of hr) (pv 6) (pv 8) (fun _ _ => rfl)) rfl) (pa_cons (pe_fld (pe_dget (hu_of hr) (pv 6) (pv 8) (fun _ _ => rfl)) rfl) pa_nil))) (nomark _))))) (pss_one (ps_dput (hu_of hr) (pv 6) (pv 8) (pv 7) rfl)) pss_nil))) pss_nil)))
    (pss_cons (ps_set (i := 9) sc.nd rfl (Or.inr rfl) pe_dnewK)
    (pss_cons (ps_lock (ps_for PassesOwn.never rfl (pi_keys (pv 6)) (pg_name (i := 8) sc.nd rfl (Or.inl rfl)) (pss_cons (ps_set (i := 7) sc.nd rfl (Or.inl rfl) (pe_dget (hu_of hr) (pv 6) (pv 8) (fun _ _ => rfl)))
    (pss_one (ps_if (pt_not (pt_val (pmeth0 c_Amendment_is_repeal (pv 7) T.lAmendment T.eAmendment_is_repeal (hr.mono (by decide)) pass0))) (pss_one (ps_dput (hu_of hr) (pv 9) (pe_fld (pv 7) rfl) (pe_tup (pa_cons (pv 7) (pa_cons (pmeth c_Amendment_limit_on (pv 7) T.lAmendment T.eAmendment_limit_on (hr.mono (by decide)) pass0 (by exact (pa_cons (pv 5) pa_nil))) pa_nil))) rfl)) pss_nil)))))
    (pss_one (ps_ret (pe_lc (own := [("number", 10)]) (hc := by rfl) sc.nd (pi_list (pe_callB (cr_sortedM rfl) (by rfl) T.b_sorted (by decide +kernel) (pa_cons (pv 9) pa_nil))) (blkOk_by (N := ["amendments", "kind", "new", "made", "sold", "day", "best", "one", "matter", "found", "number"]) (sc := defScope s_ruling) (by decide +kernel)) (fun _ _ _ _ _ => by exact pg_name (i := 10) sc.nd rfl (Or.inl rfl)) (fun _ _ _ _ _ => by exact pts_nil) (fun _ _ _ _ _ => by exact (pe_dget (hu_of hr) (pv 9) (pv 10) (fun _ _ => rfl)))))))))), ?_⟩)
  · obtain ⟨la, ps, l, k, c, d, s, x, rfl, _⟩ := h
    rfl
  · obtain ⟨la, ps, l, k, c, d, s, x, rfl, hla, hps, hl48, fin⟩ := h
    intro b hb
    have e0 : Ex H (upd H b (.dT [])) := Ex.new hb
    -- the first loop
    refine q_forLn (K := K) (a := la) (xs := ps.map V.ref) (ev_var rfl) (sq_of (e0 _ _ hla))
      (fun i σ' H' => ∃ kvs v7 v8, σ' = [some (.ref la), some (nV k), some (nV c), some (nV d), some (nV s), some (nV x), some (.ref b), v7, v8, none, none] ∧ Ex H H' ∧ H' b = some (.dT kvs) ∧ kvs.length ≤ i ∧ BestInv ps kvs (rul k c d s x (l.take i).zipIdx))
      (fun H1 e1 => ⟨[], none, none, rfl, e0.trans e1, e1 _ _ upd_same, Nat.le_refl _, best_nil⟩) (fun i σ' H' _ ⟨_, _, _, _, e, _⟩ => sq_of (e _ _ hla)) ?_ ?_
    · rintro i y σ' H1 hi ⟨kvs, v7, v8, rfl, e1, hbk, hlen, B⟩
      obtain ⟨p, hp, rfl⟩ := map_get hi
      have hlt : i < l.length := by rw [← hps.1]; exact (List.getElem?_eq_some_iff.mp hp).1
      have ha : l[i]? = some l[i] := List.getElem?_eq_getElem hlt
      generalize l[i] = a at ha
      have ham := (hps.2 i p a hp ha).ex e1
      have st := zip_take ha
      have hRi : ∀ m, rul k c d s x (l.take (i + 1)).zipIdx m = if (a.of_ == m && cand k c d s x a) = true then pick (rul k c d s x (l.take i).zipIdx m) (a, i) else rul k c d s x (l.take i).zipIdx m := fun m => by rw [st]; exact rul_snoc
      obtain ⟨dx, sa, da, ca, tt, cs, h⟩ := id ham
      refine s_when (b := cand k c d s x a) (et_is (et_and (et_test (ev_op (ev_fld (ev_var rfl) h.ob T.lAmendment T.nAmendment_kind f_kind) (ev_var rfl) (rv_eq rfl))) fun _ =>
        et_and (et_B (ev_meth (ev_var rfl) h.ob f_no_is_known (ea_cons (ev_var rfl) ea_nil) (spv_is_known ham x))) fun _ =>
        et_B (ev_meth (ev_var rfl) h.ob f_no_binds (ea_cons (ev_var rfl) (ea_cons (ev_var rfl) (ea_cons (ev_var rfl) ea_nil))) (spv_binds ham c d s))) (by rw [dec_eq]; rfl)) (fun hc H2 e2 => ?_) (fun hc H2 e2 => ?_)
      · -- it is known, and binds
        have h2 := h.ex e2
        refine q_asgP (ep_meth (ev_var rfl) h2.ob f_no_matter ea_nil (spp_matter (ham.ex e2))) fun v H3 e3 ⟨t, ev, ht⟩ => ?_
        subst ev
        have h3 := h2.ex e3
        have hb3 : H3 b = some (.dT kvs) := e3 _ _ (e2 _ _ hbk)
        have ht' : H3 t = some (.tup ((keyOf a.of_).map kV)) := by rw [keyOf_kV]; exact ht
        have G : DGet H3 b (.ref t) (valV kvs (keyOf a.of_)) := DGet.t hb3 ht'
        have hval := B.2.2 a.of_
        have hpick : ∀ m, rul k c d s x (l.take (i + 1)).zipIdx m = if m = a.of_ then pick (rul k c d s x (l.take i).zipIdx m) (a, i) else rul k c d s x (l.take i).zipIdx m := fun m => by
          rw [hRi m, hc, Bool.and_true]
          by_cases z : m = a.of_
          · rw [if_pos z, if_pos (by rw [z]; exact beq_self_eq_true _)]
          · rw [if_neg z, if_neg (fun q => z (eq_of_beq q).symm)]
        have second : ∀ z : AN, rul k c d s x (l.take i).zipIdx a.of_ = some z → EvT (tTest (tOp (rGtP K) (tTup (tCons (tFld K (tVar 7) "known") (tCons (tFld K (tVar 7) "number") tNil))) (tTup (tCons (tFld K (tDGet (tVar 6) (tVar 8)) "known") (tCons (tFld K (tDGet (tVar 6) (tVar 8)) "number") tNil)))))
            [some (.ref la), some (nV k), some (nV c), some (nV d), some (nV s), some (nV x), some (.ref b), some (.ref p), some (.ref t), none, none] H3 (decide (z.1.known ≤ a.known)) := fun z hz => by
          obtain ⟨zlt, zl⟩ := mem_take_zip (rul_mem hz).1
          obtain ⟨zq, zp⟩ : ∃ q, ps[z.2]? = some q := ⟨_, List.getElem?_eq_getElem (by rw [hps.1]; omega)⟩
          have zam := (hps.2 z.2 _ z.1 zp zl).ex ((e1.trans e2).trans e3)
          obtain ⟨dx', sa', da', ca', tt', cs', h'⟩ := zam
          have G' : DGet H3 b (.ref t) (some (.ref zq)) := by
            rw [hval, hz] at G
            have : ps.getD z.2 0 = zq := by rw [List.getD_eq_getElem?_getD, zp]; rfl
            rw [← this]
            exact G
          have D1 := ev_dget (ev_var (i := 6) (σ := [some (.ref la), some (nV k), some (nV c), some (nV d), some (nV s), some (nV x), some (.ref b), some (.ref p), some (.ref t), none, none]) rfl) (ev_var (i := 8) rfl) G'
          refine et_is (et_test (ev_opUU (eu_tup (ea_cons (ev_fld (ev_var rfl) h3.ob T.lAmendment T.nAmendment_known f_known) (ea_cons (ev_fld (ev_var rfl) h3.ob T.lAmendment T.nAmendment_number f_number) ea_nil)) (by show 2 ≤ 100000; decide))
            (eu_tup (ea_cons (ev_fld D1 h'.ob T.lAmendment T.nAmendment_known f_known) (ea_cons (ev_fld D1 h'.ob T.lAmendment T.nAmendment_number f_number) ea_nil)) (by show 2 ≤ 100000; decide))
            fun p1 q1 H4 hp1 hq1 e4 H5 e5 Q5 q5 => ⟨p1, q1, _, _, _, _, rfl, rfl, st_of (e5 _ _ hp1), st_of (e5 _ _ hq1), q5 H5 (Ex.refl _)⟩)) ?_
          by_cases c1 : (a.known : Int) = (z.1.known : Int)
          · rw [if_pos c1, decide_eq_true (by omega), decide_eq_true (by omega)]
          · rw [if_neg c1]
            exact decide_eq_decide.mpr (by omega)
        cases hz : rul k c d s x (l.take i).zipIdx a.of_ with
        | none =>
          have hv : valV kvs (keyOf a.of_) = none := by rw [hval, hz]; rfl
          rw [hv] at G
          refine s_when (b := true) (et_is (et_or (b := true) (et_B (ev_dnotin (ev_var rfl) (ev_var rfl) G)) (fun q => by cases q)) rfl) (fun _ H4 e4 => ?_) (fun q => by cases q)
          refine ⟨_, rfl, _, rfl, _, rfl, b, _, rfl, DPut.t (k := keyOf a.of_) (e4 _ _ hb3) (e4 _ _ ht') (sz_lt (by omega)), ?_⟩
          refine ⟨_, some (.ref p), some (.ref t), rfl, Ex.mut (((e1.trans e2).trans e3).trans e4) hb, upd_same, Nat.le_trans (length_putK _ _ _) (by omega), ?_⟩
          refine best_put (y := (a, i)) B (fun m => ?_) hp
          rw [hpick m]
          by_cases z : m = a.of_
          · rw [if_pos z, if_pos z, z, hz]
            rfl
          · rw [if_neg z, if_neg z]
        | some z =>
          have hv : (valV kvs (keyOf a.of_)).isSome = true := by rw [hval, hz]; rfl
          refine s_when (b := decide (z.1.known ≤ a.known)) (et_is (et_or (et_B (ev_dnotin (ev_var rfl) (ev_var rfl) G)) (fun _ => second z hz)) (by rw [hv]; rfl)) (fun hq H4 e4 => ?_) (fun hq H4 e4 => ?_)
          · refine ⟨_, rfl, _, rfl, _, rfl, b, _, rfl, DPut.t (k := keyOf a.of_) (e4 _ _ hb3) (e4 _ _ ht') (sz_lt (by omega)), ?_⟩
            refine ⟨_, some (.ref p), some (.ref t), rfl, Ex.mut (((e1.trans e2).trans e3).trans e4) hb, upd_same, Nat.le_trans (length_putK _ _ _) (by omega), ?_⟩
            refine best_put (y := (a, i)) B (fun m => ?_) hp
            rw [hpick m]
            by_cases zz : m = a.of_
            · rw [if_pos zz, if_pos zz, zz, hz]
              show (if z.1.known ≤ a.known then some (a, i) else some z) = some (a, i)
              rw [if_pos (of_decide_eq_true hq)]
            · rw [if_neg zz, if_neg zz]
          · refine ⟨kvs, some (.ref p), some (.ref t), rfl, ((e1.trans e2).trans e3).trans e4, e4 _ _ hb3, by omega, best_same B fun m => ?_⟩
            rw [hpick m]
            by_cases zz : m = a.of_
            · rw [if_pos zz, zz, hz]
              show (if z.1.known ≤ a.known then some (a, i) else some z) = some z
              rw [if_neg (of_decide_eq_false hq)]
            · rw [if_neg zz]
      · refine ⟨kvs, some (.ref p), v8, rfl, e1.trans e2, e2 _ _ hbk, by omega, best_same B fun m => ?_⟩
        rw [hRi m, hc, Bool.and_false, if_neg Bool.false_ne_true]
    · rintro σ' H1 ⟨kvs, v7, v8, rfl, e1, hbk, hlen, B⟩
      rw [List.length_map, hps.1] at hlen
      rw [List.length_map, hps.1, List.take_length] at B
      have hR : ∀ m, valV kvs (keyOf m) = (rul k c d s x l.zipIdx m).map fun y => V.ref (ps.getD y.2 0) := B.2.2
      generalize hRdef : rul k c d s x l.zipIdx = R at hR B
      intro fa hfa
      have nfa : H fa = none := fresh_back e1 hfa
      have fab : fa ≠ b := Ne.symm (ne_of_none hbk hfa)
      have hbk2 : upd H1 fa (.dK []) b = some (.dT kvs) := by rw [upd_ne (Ne.symm fab)]; exact hbk
      -- the second loop, best locked
      refine ⟨b, .dT kvs, hbk2, trivial, fun od => ?_⟩
      refine ⟨_, rfl, b, od, rfl, .inr ⟨kvs, upd_same, ?_⟩⟩
      refine for_it (walk_keysT (d := b) (o := od) (kvs := kvs)) (fun j σ2 H2 => ∃ fk v7 v8, σ2 = [some (.ref la), some (nV k), some (nV c), some (nV d), some (nV s), some (nV x), some (.ref b), v7, v8, some (.ref fa), none] ∧ Ex H H2 ∧ H2 b = some (.frz od (.dT kvs)) ∧ H2 fa = some (.dK fk) ∧ FoundInv H2 ps l x R kvs fk j)
        ⟨[], v7, v8, rfl, Ex.mut (e1.trans (Ex.new hfa)) hb, upd_same, by rw [upd_ne fab]; exact upd_same, List.nodup_nil, Nat.le_refl _, (fun kv hkv => nomatch hkv), fun n => ⟨(fun q => nomatch q), fun ⟨j', _, _, q, _⟩ => absurd q (Nat.not_lt_zero _)⟩⟩
        (fun j σ2 H2 _ ⟨_, _, _, _, _, h, _⟩ => h) ?_ ?_
      · rintro j y σ2 H2 H3 hj ⟨fk, v7, v8, rfl, e2, hb2, hf2, F⟩ ⟨eH, key, v, q, hkj, rfl, hq⟩
        subst eH
        have hmem : (key, v) ∈ kvs := List.mem_of_getElem? hkj
        obtain ⟨m, em⟩ := B.2.1 _ hmem
        have em : key = keyOf m := em
        subst em
        have hv := val_of B.1 hmem
        rw [hR m] at hv
        cases hRm : R m with
        | none => rw [hRm] at hv; cases hv
        | some y =>
          rw [hRm] at hv
          have ev : V.ref (ps.getD y.2 0) = v := Option.some.inj hv
          obtain ⟨ym, yo, yc⟩ := rul_mem (show rul k c d s x l.zipIdx m = some y by rw [hRdef]; exact hRm)
          have yl : l[y.2]? = some y.1 := mem_zipIdx.mp ym
          obtain ⟨ap, hap⟩ : ∃ q, ps[y.2]? = some q := ⟨_, List.getElem?_eq_getElem (by rw [hps.1]; exact (List.getElem?_eq_some_iff.mp yl).1)⟩
          have evp : v = V.ref ap := by
            rw [← ev, List.getD_eq_getElem?_getD, hap]
            rfl
          subst evp
          have hkn : (kvs.map (·.1))[j]? = some (keyOf m) := by rw [List.getElem?_map, hkj]; rfl
          have ham := (hps.2 y.2 ap y.1 hap yl).ex e2
          have nxt : ∀ (fk' : List (L2.Key × V)), (∀ n : Nat, (Sum.inl (n : Int) : L2.Key) ∈ fk'.map (·.1) ↔ (n = y.2 ∧ y.1.repeal = false) ∨ (Sum.inl (n : Int) : L2.Key) ∈ fk.map (·.1)) →
              ∀ n : Nat, (Sum.inl (n : Int) : L2.Key) ∈ fk'.map (·.1) ↔ ∃ j' m y, j' < j + 1 ∧ (kvs.map (·.1))[j']? = some (keyOf m) ∧ R m = some y ∧ y.2 = n ∧ y.1.repeal = false := fun fk' hk n => by
            rw [hk n, F.2.2.2 n]
            constructor
            · rintro (⟨z1, z2⟩ | ⟨j', m', y', z1, z2⟩)
              · exact ⟨j, m, y, Nat.lt_succ_self _, hkn, hRm, z1.symm, z2⟩
              · exact ⟨j', m', y', by omega, z2⟩
            · rintro ⟨j', m', y', z1, z2, z3, z4, z5⟩
              by_cases z : j' = j
              · subst z
                rw [hkn] at z2
                have em : m = m' := keyOf_inj (Option.some.inj z2)
                subst em
                rw [hRm] at z3
                cases z3
                exact .inl ⟨z4.symm, z5⟩
              · exact .inr ⟨j', m', y', by omega, z2, z3, z4, z5⟩
          refine q_asg (v := .ref ap) (ev_dget (ev_var rfl) (ev_var rfl) (.inr ⟨kvs, keyOf m, q, .inr ⟨od, hb2⟩, rfl, hq, (val_of B.1 hmem).symm⟩)) fun H4 e4 => ?_
          obtain ⟨dx, sa, da, ca, tt, cs, h⟩ := ham.ex e4
          have ham4 := ham.ex e4
          refine s_when (b := !y.1.repeal) (et_not (et_B (ev_meth (ev_var rfl) h.ob f_no_is_repeal ea_nil (spv_is_repeal ham4)))) (fun hrep H5 e5 => ?_) (fun hrep H5 e5 => ?_)
          · have hrep' : y.1.repeal = false := by simpa using hrep
            have h5 := h.ex e5
            refine s_dputP (a := fa) (ep_ofU (eu_tup (ea_cons (ev_var rfl) (ea_cons (ev_meth (ev_var rfl) h5.ob f_no_limit_on (ea_cons (ev_var rfl) ea_nil) (spv_limit_on (ham4.ex e5) hrep' x)) ea_nil)) (by show 2 ≤ 100000; decide))) fun v H6 e6 ⟨t, ev, ht⟩ => ?_
            subst ev
            have hf6 : H6 fa = some (.dK fk) := e6 _ _ (e5 _ _ (e4 _ _ hf2))
            refine ⟨ev_var rfl, _, ev_fld (ev_var rfl) (e6 _ _ h5.ob) T.lAmendment T.nAmendment_number f_number, fun H7 e7 => ?_⟩
            have hf7 := e7 _ _ hf6
            refine ⟨_, DPut.k (k := Sum.inl (y.2 : Int)) hf7 (sz_lt (by have := F.2.1; have := (List.getElem?_eq_some_iff.mp hkj).1; omega)), ?_⟩
            have keep : ∀ (t' : Addr) (vs : List V), H3 t' = some (HO.tup vs) → upd H7 fa (.dK (putK fk (Sum.inl (y.2 : Int)) (.ref t))) t' = some (.tup vs) := fun t' vs ht' => by
              have z := e7 _ _ (e6 _ _ (e5 _ _ (e4 _ _ ht')))
              rw [upd_ne (ne_of z hf7 (by intro q; cases q))]
              exact z
            refine ⟨putK fk (Sum.inl (y.2 : Int)) (.ref t), some (.ref ap), some (.ref q), rfl, Ex.mut ((((e2.trans e4).trans e5).trans e6).trans e7) nfa, ?_, upd_same, put_nodup F.1, Nat.le_trans (length_putK _ _ _) (by have := F.2.1; omega), fun kv hkv => ?_, nxt _ fun n => ?_⟩
            · rw [upd_ne (Ne.symm fab)]
              exact e7 _ _ (e6 _ _ (e5 _ _ (e4 _ _ hb2)))
            · rcases put_mem F.1 hkv with z | ⟨z, _⟩
              · refine ⟨y.2, y.1, t, ap, z, yl, hap, ?_⟩
                rw [upd_ne (ne_of (e7 _ _ ht) hf7 (by intro q; cases q))]
                exact e7 _ _ ht
              · obtain ⟨n, a, t', ap', w1, w2, w3, w4⟩ := F.2.2.1 kv z
                exact ⟨n, a, t', ap', w1, w2, w3, keep _ _ w4⟩
            · rw [put_in]
              constructor
              · rintro (z | z)
                · have z' : (n : Int) = (y.2 : Int) := Sum.inl.inj z
                  exact .inl ⟨by omega, hrep'⟩
                · exact .inr z
              · rintro (⟨z, _⟩ | z)
                · exact .inl (by rw [z])
                · exact .inr z
          · have hrep' : y.1.repeal = true := by simpa using hrep
            refine ⟨fk, some (.ref ap), some (.ref q), rfl, (e2.trans e4).trans e5, e5 _ _ (e4 _ _ hb2), e5 _ _ (e4 _ _ hf2), F.1, by have := F.2.1; omega, fun kv hkv => ?_, nxt _ fun n => ?_⟩
            · obtain ⟨n, a, t', ap', w1, w2, w3, w4⟩ := F.2.2.1 kv hkv
              exact ⟨n, a, t', ap', w1, w2, w3, e5 _ _ (e4 _ _ w4)⟩
            · exact ⟨Or.inr, fun z => z.elim (fun z => by rw [hrep'] at z; exact absurd z.2 (by decide)) id⟩
      · rintro σ2 H2 ⟨fk, v7, v8, rfl, e2, hb2, hf2, F⟩
        refine ⟨hb2, ?_⟩
        -- the rules by their numbers
        have e3 : Ex H (upd H2 b (.dT kvs)) := Ex.mut e2 hb
        have hf3 : upd H2 b (.dT kvs) fa = some (.dK fk) := by rw [upd_ne fab]; exact hf2
        have F3 : ∀ kv ∈ fk, ∃ (n : Nat) (a : AM) (t ap : Addr), kv = (Sum.inl (n : Int), V.ref t) ∧ l[n]? = some a ∧ ps[n]? = some ap ∧ upd H2 b (.dT kvs) t = some (.tup [.ref ap, nV (a.limitOn x)]) := fun kv hkv => by
          obtain ⟨n, a, t', ap', w1, w2, w3, w4⟩ := F.2.2.1 kv hkv
          exact ⟨n, a, t', ap', w1, w2, w3, by rw [upd_ne (ne_of w4 hb2 (by intro q; cases q))]; exact w4⟩
        generalize upd H2 b (.dT kvs) = H3 at e3 hf3 F3
        have mem : ∀ n : Nat, (Sum.inl (n : Int) : L2.Key) ∈ fk.map (·.1) ↔ n ∈ lims l k c d s x := fun n => by
          rw [F.2.2.2 n, lims_mem, hRdef]
          constructor
          · rintro ⟨j', m, y, _, _, z1, z2, z3⟩
            exact ⟨m, y, z1, z2, z3⟩
          · rintro ⟨m, y, z1, z2, z3⟩
            have hk : keyOf m ∈ kvs.map (·.1) := by
              rw [← val_iff, hR m, z1]
              rfl
            obtain ⟨j', hj'⟩ := List.mem_iff_getElem?.mp hk
            have := (List.getElem?_eq_some_iff.mp hj').1
            rw [List.length_map] at this
            exact ⟨j', m, y, this, hj', z1, z2, z3⟩
        obtain ⟨ks, hks⟩ : ∃ ks : List Nat, fk.map (·.1) = ks.map fun (n : Nat) => (Sum.inl (n : Int) : L2.Key) := by
          refine ⟨fk.map fun kv => match kv.1 with | .inl i => i.toNat | .inr _ => 0, ?_⟩
          rw [List.map_map]
          refine List.map_congr_left fun kv hkv => ?_
          obtain ⟨n, a, t', ap', w1, _⟩ := F3 kv hkv
          rw [w1]
          rfl
        have kn : ks.Nodup := by
          have z := F.1
          rw [hks] at z
          exact List.Pairwise.of_map _ (fun a b h q => h (by rw [q])) z
        have ksl : ks.Perm (lims l k c d s x) := (List.perm_ext_iff_of_nodup kn ((lims_sorted l k c d s x).imp fun h => Nat.ne_of_lt h)).mpr fun n => by
          rw [← mem n, hks, List.mem_map]
          exact ⟨fun q => ⟨n, q, rfl⟩, fun ⟨m, z1, z2⟩ => by
            have z : (m : Int) = (n : Int) := Sum.inl.inj z2
            have : m = n := by omega
            rw [← this]
            exact z1⟩
        have ll : (SctDay.limits l k c d s x).length = (lims l k c d s x).length := by unfold lims; rw [List.length_map]
        have l48 : (lims l k c d s x).length ≤ 48 := by
          have z := ksl.length_eq
          have z2 := congrArg List.length hks
          rw [List.length_map, List.length_map] at z2
          have := F.2.1
          omega
        dsimp only
        refine s_retP (P := LcOut H3 ((lims l k c d s x).map nV).length fun i v H4 => ∃ (t : Addr) (y : Nat × AM), v = .ref t ∧ (SctDay.limits l k c d s x)[i]? = some y ∧ RuAt H4 ps x t y) ?_ ?_
        · refine ep_lcNL (xs := (lims l k c d s x).map nV) (fun i => [some (.ref la), some (nV k), some (nV c), some (nV d), some (nV s), some (nV x), some (.ref b), v7, v8, some (.ref fa), some (nV ((lims l k c d s x).getD i 0))]) _ ⟨?_, ?_⟩ ?_ (by rw [List.length_map]; omega) ?_ ?_ ?_
          · rintro i v H4 H5 e5 ⟨t, y, rfl, z1, z2⟩
            exact ⟨t, y, rfl, z1, z2.ex e5⟩
          · rintro i v H4 q acc acc' hq ⟨t, y, rfl, z1, ap, z2, z3⟩
            exact ⟨t, y, rfl, z1, ap, z2, by rw [upd_ne (ne_of z3 hq (by intro q; cases q))]; exact z3⟩
          · intro H4 e4 Q' q'
            refine ⟨_, rfl, fa, fk, ks.map fun (n : Nat) => (n : Int), rfl, .inl (e4 _ _ hf3), by rw [hks, List.map_map]; rfl, fun ns' p pm ri np => ?_⟩
            have : ns' = (lims l k c d s x).map fun (n : Nat) => (n : Int) := rise_unique ri (rise_nat (lims_sorted l k c d s x)) (pm.trans (ksl.map _))
            rw [this, List.map_map]
            exact q' p _ np (Ex.new np) upd_same
          · intro i y H4 hy e4 Q' q'
            obtain ⟨n, hn, rfl⟩ := map_get hy
            have : (lims l k c d s x).getD i 0 = n := by rw [List.getD_eq_getElem?_getD, hn]; rfl
            rw [this] at q'
            exact q'
          · intro i y _
            rfl
          · intro i y H4 hy e4
            obtain ⟨n, hn, rfl⟩ := map_get hy
            have hd' : (lims l k c d s x).getD i 0 = n := by rw [List.getD_eq_getElem?_getD, hn]; rfl
            rw [hd']
            have hin := (mem n).mpr (List.mem_of_getElem? hn)
            obtain ⟨kv, hkv, ek⟩ := List.mem_map.mp hin
            obtain ⟨n', a, t, ap, w1, w2, w3, w4⟩ := F3 kv hkv
            have en : n' = n := by
              rw [w1] at ek
              have z : (n' : Int) = (n : Int) := Sum.inl.inj ek
              omega
            subst en
            have hv : valV fk (Sum.inl (n' : Int)) = some (.ref t) := val_of F.1 (by rw [← w1]; exact hkv)
            obtain ⟨y, hy1, hy2⟩ := map_get (f := fun y : Nat × AM => y.1) (l := SctDay.limits l k c d s x) hn
            have hlim := limits_mem.mp (List.mem_of_getElem? hy1)
            have ea : y.2 = a := by
              have z := hlim.1
              rw [← hy2, w2] at z
              exact (Option.some.inj z).symm
            have G : DGet H4 fa (nV n') (some (.ref t)) := .inl ⟨fk, Sum.inl (n' : Int), .inl (e4 _ _ hf3), rfl, hv.symm⟩
            intro H5 e5 Q' q'
            refine (ev_dget (ev_var rfl) (ev_var rfl) G) H5 e5 _ fun H6 e6 => q' _ H6 e6 ⟨t, y, rfl, hy1, ap, by rw [← hy2]; exact w3, by rw [ea]; exact e6 _ _ (e5 _ _ (e4 _ _ w4))⟩
        · rintro v H4 e4 ⟨p, ys, rfl, np, hp, hl, hy⟩
          rw [List.length_map, ← ll] at hl
          obtain ⟨ts, rfl, pr⟩ := refs_paired (RR := RuAt H4 ps x) hl fun i y hi => hy i y hi
          exact fin p ts H4 (fresh_back e3 np) (e3.trans e4) hp pr
end
end Bd
namespace Bd
open PySem PySem.Spec PyProof.Rows L2 Evl
section
variable {K : PySem.W.Frag} {σ : L2.St} {H H' : Hp} {D : Ends} {tz tu : TS} {g : TG} {ta tb te tl : TE} {P : V → Hp → Prop}
theorem s_forP (h : EvP tl σ H P) (k : ∀ v H1, Ex H H1 → P v H1 → ∃ a xs, v = .ref a ∧ SqL K H1 a xs ∧ ∃ Pv : Nat → L2.St → Hp → Prop, Pv 0 σ H1 ∧ (∀ i σ' H', i ≤ xs.length → Pv i σ' H' → SqL K H' a xs) ∧
    (∀ i x σ' H', xs[i]? = some x → Pv i σ' H' → g x σ' H' fun σ2 H2 => tu { D with nx := Pv (i + 1), ct := Pv (i + 1), bk := D.nx } σ2 H2) ∧ ∀ σ' H', Pv xs.length σ' H' → D.nx σ' H') : tFor (iList K tl) g tu D σ H :=
  h H (Ex.refl H) _ fun v H1 e1 p => by
    obtain ⟨a, xs, e, hx, Pv, h0, hl, hs, hd⟩ := k v H1 e1 p
    exact ⟨a, e, ⟨xs, hx⟩, for_list Pv h0 hl hs hd⟩
theorem q_forP (h : EvP tl σ H P) (k : ∀ v H1, Ex H H1 → P v H1 → ∃ a xs, v = .ref a ∧ SqL K H1 a xs ∧ ∃ Pv : Nat → L2.St → Hp → Prop, Pv 0 σ H1 ∧ (∀ i σ' H', i ≤ xs.length → Pv i σ' H' → SqL K H' a xs) ∧
    (∀ i x σ' H', xs[i]? = some x → Pv i σ' H' → g x σ' H' fun σ2 H2 => tu { D with nx := Pv (i + 1), ct := Pv (i + 1), bk := tz D } σ2 H2) ∧ ∀ σ' H', Pv xs.length σ' H' → tz D σ' H') : tSeq (tFor (iList K tl) g tu) tz D σ H :=
  s_forP (D := { D with nx := tz D }) h k
theorem q_asgG (h : EvP te σ H P) (k : ∀ v H1, Ex H H1 → P v H1 → g v σ H1 (tz D)) : tSeq (tAsg te g) tz D σ H := h H (Ex.refl H) _ k
theorem s_asgG (h : EvP te σ H P) (k : ∀ v H1, Ex H H1 → P v H1 → g v σ H1 D.nx) : tAsg te g D σ H := h H (Ex.refl H) _ k
theorem ep_ofL {us : List V} (h : EvL te σ H us) : EvP te σ H fun v H1 => ∃ p, v = .ref p ∧ H p = none ∧ H1 p = some (.lst us) := fun H1 e Q q => h H1 e Q fun p H2 hp e2 h2 => q (.ref p) H2 e2 ⟨p, rfl, fresh_back e hp, h2⟩
/-- xs.extend(e) -/
theorem s_ext {l : Addr} {xs : List V} (hl : H l = some (.lst xs)) (ha : Ev ta σ H (.ref l)) (h : EvP te σ H P) (k : ∀ v H1, Ex H H1 → P v H1 → ∃ b zs, v = .ref b ∧ H1 b = some (.lst zs) ∧ xs.length + zs.length ≤ sizeLine ∧ D.nx σ (upd H1 l (.lst (xs ++ zs)))) :
    tDrop (tBM K "list" rExtend ta (tCons te tNil)) D σ H := ha H (Ex.refl H) _ fun H1 e1 =>
  ⟨Or.inl ⟨rfl, xs, sq_of (e1 l _ hl)⟩, h H1 e1 _ fun v H2 e2 p => by
    obtain ⟨b, zs, e, hb, hz, q⟩ := k v H2 (e1.trans e2) p
    exact ⟨l, b, xs, zs, rfl, by rw [e], e2 l _ (e1 l _ hl), hb, hz, q⟩⟩
/-- two new lists joined -/
theorem el_cat {xs zs : List V} (h1 : EvL ta σ H xs) (h2 : EvL tb σ H zs) (hz : xs.length + zs.length ≤ sizeLine) : EvL (tOp rCat ta tb) σ H (xs ++ zs) := fun H1 e Q q =>
  h1 H1 e _ fun p H2 np e2 hp => h2 H2 (e.trans e2) _ fun b H3 nb e3 hb => ⟨p, b, xs, zs, rfl, rfl, e3 _ _ hp, hb, hz, fun r hr => q r _ (fresh_back (e2.trans e3) hr) ((e2.trans e3).trans (Ex.new hr)) upd_same⟩
/-- a list that stands, joined with a new one -/
theorem el_catV {a : Addr} {xs zs : List V} (h1 : Ev ta σ H (.ref a)) (ha : H a = some (.lst xs)) (h2 : EvL tb σ H zs) (hz : xs.length + zs.length ≤ sizeLine) : EvL (tOp rCat ta tb) σ H (xs ++ zs) := fun H1 e Q q =>
  h1 H1 e _ fun H2 e2 => h2 H2 (e.trans e2) _ fun b H3 nb e3 hb => ⟨a, b, xs, zs, rfl, rfl, e3 _ _ (e2 _ _ (e _ _ ha)), hb, hz, fun r hr => q r _ (fresh_back (e2.trans e3) hr) ((e2.trans e3).trans (Ex.new hr)) upd_same⟩
theorem el_catR {b : Addr} {xs zs : List V} (h1 : EvL ta σ H xs) (h2 : Ev tb σ H (.ref b)) (hb : H b = some (.lst zs)) (hz : xs.length + zs.length ≤ sizeLine) : EvL (tOp rCat ta tb) σ H (xs ++ zs) := fun H1 e Q q =>
  h1 H1 e _ fun p H2 np e2 hp => h2 H2 (e.trans e2) _ fun H3 e3 => ⟨p, b, xs, zs, rfl, rfl, e3 _ _ hp, e3 _ _ (e2 _ _ (e _ _ hb)), hz, fun r hr => q r _ (fresh_back (e2.trans e3) hr) ((e2.trans e3).trans (Ex.new hr)) upd_same⟩
theorem sz_sum {m n : Nat} (h : m + n ≤ 100000) : m + n ≤ sizeLine := sz_of h
theorem range_map {α : Type} (f : α → V) (d : α) (l : List α) : (List.range l.length).map (fun i => f (l.getD i d)) = l.map f := by
  apply List.ext_getElem?
  intro i
  rw [List.getElem?_map, List.getElem?_map]
  by_cases c : i < l.length
  · have z : l.getD i d = l[i] := by rw [List.getD_eq_getElem?_getD, List.getElem?_eq_getElem c]; rfl
    rw [List.getElem?_range c, List.getElem?_eq_getElem c]
    show some (f (l.getD i d)) = some (f l[i])
    rw [z]
  · rw [List.getElem?_eq_none (by rw [List.length_range]; omega), List.getElem?_eq_none (by omega)]
    rfl
theorem getD_of {α : Type} {l : List α} {i : Nat} {x d : α} (h : l[i]? = some x) : l.getD i d = x := by
  rw [List.getD_eq_getElem?_getD, h]
  rfl
/-- a comprehension's list of values, new -/
theorem el_lcv {wi : TI} {tt : TT} {vs : List Nat} {n : Nat} {f : Nat → V} {us : List V} (h : EvP (tLc wi g tt te vs) σ H (LcOut H n fun i v _ => v = f i)) (e : (List.range n).map f = us) :
    EvP (tLc wi g tt te vs) σ H fun v H1 => ∃ p, v = .ref p ∧ H p = none ∧ H1 p = some (.lst us) := fun H1 e1 Q q => h H1 e1 Q fun v H2 e2 out => by
  obtain ⟨p, ev, np, hp⟩ := lc_vals (fun i y H2 _ hy => hy) out
  exact q v H2 e2 ⟨p, ev, np, by rw [← e]; exact hp⟩
end
/-! ### the law -/
def laF (la : Addr) : List (Str × V) := [("amendments", .ref la)]
structure LaAt (A : Adr) (H : Hp) (p : Addr) (l : List AM) (dx la : Addr) (ps : List Addr) : Prop where
  ob : H p = some (.ins A.cLaw dx (laF la))
  li : H la = some (.lst (ps.map V.ref))
  am : AmsAt A H ps l
def La (A : Adr) (H : Hp) (p : Addr) (l : List AM) : Prop := ∃ dx la ps, LaAt A H p l dx la ps
theorem LaAt.ex {A : Adr} {H H' : Hp} {p : Addr} {l : List AM} {dx la : Addr} {ps : List Addr} (e : Ex H H') (h : LaAt A H p l dx la ps) : LaAt A H' p l dx la ps := ⟨e _ _ h.ob, e _ _ h.li, h.am.ex e⟩
theorem La.ex {A : Adr} {H H' : Hp} {p : Addr} {l : List AM} (e : Ex H H') (h : La A H p l) : La A H' p l := by
  obtain ⟨dx, la, ps, h⟩ := h
  exact ⟨dx, la, ps, h.ex e⟩
theorem AmsAt.at_ {A : Adr} {H : Hp} {ps : List Addr} {l : List AM} (h : AmsAt A H ps l) {i : Nat} {p : Addr} (hp : ps[i]? = some p) : ∃ a, l[i]? = some a ∧ Am A H p i a := by
  have hlt : i < l.length := by rw [← h.1]; exact (List.getElem?_eq_some_iff.mp hp).1
  exact ⟨l[i], List.getElem?_eq_getElem hlt, h.2 i p _ hp (List.getElem?_eq_getElem hlt)⟩
theorem l_amendments {la : Addr} : (laF la).lookup ("amendments" : Str) = some (.ref la) := lk_here
theorem l_no {la : Addr} {m : Str} (h : (m == ("amendments" : Str)) = false) : (laF la).lookup m = none := (lk_past h).trans rfl
/-- the rules of a law and goods, as the loops of way and breach meet them -/
theorem ru_get {A : Adr} {H H' : Hp} {ps : List Addr} {l : List AM} {k c d s x i : Nat} {ts : List Addr} (hps : AmsAt A H ps l) (hr : Paired (RuAt H' ps x) ts (SctDay.limits l k c d s x)) {t : V} (ht : (ts.map V.ref)[i]? = some t) :
    ∃ ta y ap, t = V.ref ta ∧ (SctDay.limits l k c d s x)[i]? = some y ∧ H' ta = some (.tup [.ref ap, nV (y.2.limitOn x)]) ∧ Am A H ap y.1 y.2 := by
  obtain ⟨ta, h1, e⟩ := map_get ht
  obtain ⟨y, h2, ap, h3, h4⟩ := paired_get hr h1
  exact ⟨ta, y, ap, e, h2, h4, hps.2 y.1 ap y.2 h3 (limits_mem.mp (List.mem_of_getElem? h2)).1⟩
theorem drop_get {α : Type} {l : List α} {i : Nat} {y : α} (h : l[i]? = some y) : l.drop i = y :: l.drop (i + 1) := by
  obtain ⟨h1, h2⟩ := List.getElem?_eq_some_iff.mp h
  rw [List.drop_eq_getElem_cons h1, h2]
def sp_way (A : Adr) : Sp := fun vs H Q _ => ∃ (L gp : Addr) (l : List AM) (g : GO) (d s x : Nat), vs = [.ref L, .ref gp, nV d, nV s, nV x] ∧ La A H L l ∧ Go A H gp g ∧ l.length ≤ 48 ∧ RetV (nV (SctDay.way l g d s x)) H Q
def breachP (g : GO) (x : Nat) : Nat × AM → Bool := fun z => decide (z.2.limitOn x < g.high z.2.of_)
def sp_breach (A : Adr) : Sp := fun vs H Q _ => ∃ (L gp : Addr) (l : List AM) (g : GO) (d s x : Nat), vs = [.ref L, .ref gp, nV d, nV s, nV x] ∧ La A H L l ∧ Go A H gp g ∧ l.length ≤ 48 ∧
  ((SctDay.limits l g.k g.first d s x).find? (breachP g x) = none → RetV .non H Q) ∧
  ∀ z, (SctDay.limits l g.k g.first d s x).find? (breachP g x) = some z → ∀ p H2, Ex H H2 → H2 p = some (.lst [nV z.1, nV (z.2.limitOn x), nV (g.low z.2.of_), nV (g.high z.2.of_)]) → Q (.ref p) H2
section
variable {P : Program} {w : World} {K : PySem.W.Frag} {mg : Str → Option Value} {base : Heap} {A : Adr}
theorem spp_ruling {H : Hp} {la : Addr} {ps : List Addr} {l : List AM} {k c d s x : Nat} (h1 : H la = some (.lst (ps.map V.ref))) (h2 : AmsAt A H ps l) (h3 : l.length ≤ 48) :
    SpP (sp_ruling A) [.ref la, nV k, nV c, nV d, nV s, nV x] H (fun v H2 => ∃ p ts, v = .ref p ∧ H p = none ∧ H2 p = some (.lst (ts.map V.ref)) ∧ Paired (RuAt H2 ps x) ts (SctDay.limits l k c d s x)) := fun H1 e Q q E =>
  ⟨la, ps, l, k, c, d, s, x, rfl, e _ _ h1, h2.ex e, h3, fun p ts H2 np e2 hp pr => q (.ref p) H2 e2 ⟨p, ts, rfl, fresh_back e np, hp, pr⟩⟩
theorem spp_together {H : Hp} {gp sa : Addr} {g : GO} {ts of_ : List Nat} (h : Go A H gp g) (h1 : H sa = some (.tup (ts.map nV))) (h2 : ts.Nodup) (h3 : ts.length ≤ 4) (h4 : ∀ s, s ∈ of_ ↔ s ∈ ts) :
    SpP (sp_together A) [.ref gp, .ref sa] H (fun v H2 => ∃ t, v = .ref t ∧ H2 t = some (.tup [nV (g.low of_), nV (g.high of_)])) := fun H1 e Q q E => ⟨gp, sa, g, ts, of_, rfl, h.ex e, e _ _ h1, h2, h3, h4, fun t H2 e2 ht => q (.ref t) H2 e2 ⟨t, rfl, ht⟩⟩
theorem am_together {H : Hp} {gp ap : Addr} {g : GO} {i : Nat} {a : AM} {dx sa da ca : Addr} {ts : List Nat} {cs : List Addr} (h : Go A H gp g) (ha : AmAt A H ap i a dx sa da ca ts cs) :
    SpP (sp_together A) [.ref gp, .ref sa] H (fun v H2 => ∃ t, v = .ref t ∧ H2 t = some (.tup [nV (g.low a.of_), nV (g.high a.of_)])) :=
  spp_together h ha.su (ha.pe.nodup_iff.mpr (ha.ri.imp fun h => Nat.ne_of_lt h)) ha.ne.2 fun s => ha.pe.mem_iff.symm
theorem sc_Law_way : FnScope ["self", "goods", "made", "sold", "day", "found", "one", "limit", "low", "high"] ps_Law_way (defScope s_Law_way) := ⟨rfl, rfl, rfl, by decide +kernel, rfl, by decide +kernel, by decide +kernel⟩
theorem ok_way (T : Txt K mg A) : Cal P w K mg base CX0 4 A.fLaw_way ps_Law_way (sp_way A) := by
  have sc := sc_Law_way
  have c_ruling : Cal P w K mg base CX0 3 _ _ _ := ok_ruling T
  have c_Goods_together : Cal P w K mg base CX0 1 _ _ _ := ok_together T
  refine T.dLaw_way.ok sc (fun vs H Q E h => ?_) (fun cdv Ar outer s H vs Q E hr h => ⟨_, (pss_cons (ps_set (i := 5) sc.nd rfl (Or.inl rfl) pe_int)
    (pss_cons (ps_for PassesOwn.never rfl (pi_list (pcall c_ruling T.gruling (hr.mono (by decide)) pass0 (by exact (pa_cons (pe_fld (pv 0) rfl) (pa_cons (pe_fld (pv 1) rfl) (pa_cons (pe_fld (pv 1) rfl) (pa_cons (pv 2) (pa_cons (pv 3) (pa_cons (pv 4) pa_nil))))))))) (pg_tup rfl (pgs_cons (pg_name (i := 6) sc.nd rfl (Or.inl rfl)) (pgs_cons (pg_name (i := 7) sc.nd rfl (Or.inl rfl)) pgs_nil))) (pss_cons (ps_asg (pmeth c_Goods_together (pv 1) T.lGoods T.eGoods_together (hr.mono (by decide)) pass0 (by exact (pa_cons (pe_fld (pv 6) rfl) pa_nil))) (pg_tup rfl (pgs_cons (pg_name (i := 8) sc.nd rfl (Or.inl rfl)) (pgs_cons (pg_name (i := 9) sc.nd rfl (Or.inl rfl)) pgs_nil))))
    (pss_cons (ps_if (pt_cmpR op_gt (pv 8) (pv 7) (nomark _)) (pss_one (ps_ret pe_int)) pss_nil)
    (pss_one (ps_if (pt_cmpR op_gt (pv 9) (pv 7) (nomark _)) (pss_one (ps_set (i := 5) sc.nd rfl (Or.inl rfl) pe_int)) pss_nil)))))
    (pss_one (ps_ret (pv 5))))), ?_⟩)
  · obtain ⟨L, gp, l, g, d, s, x, rfl, _⟩ := h
    rfl
  · obtain ⟨L, gp, l, g, d, s, x, rfl, ⟨dx, la, ps, h⟩, hg, h48, k⟩ := h
    obtain ⟨gdx, gca, gts, hga⟩ := id hg
    rw [way_loop hga.lo] at k
    refine q_asg (v := nV 1) ev_c fun H1 e1 => ?_
    have h1 := h.ex e1
    have hg1 := hga.ex e1
    refine q_forP (K := K) (ep_call (ea_cons (ev_fld (ev_var rfl) h1.ob T.lLaw T.nLaw_amendments l_amendments) (ea_cons (ev_fld (ev_var rfl) hg1.ob T.lGoods T.nGoods_kind g_kind) (ea_cons (ev_fld (ev_var rfl) hg1.ob T.lGoods T.nGoods_new g_new) (ea_cons (ev_var rfl) (ea_cons (ev_var rfl) (ea_cons (ev_var rfl) ea_nil))))))
      (spp_ruling h1.li h1.am h48)) fun v H2 e2 ⟨p, ts, ev, _, hp, pr⟩ => ⟨p, ts.map V.ref, ev, sq_of hp, (fun i σ' H' => ∃ v6 v7 v8 v9 wn, σ' = [some (.ref L), some (.ref gp), some (nV d), some (nV s), some (nV x), some (nV wn), v6, v7, v8, v9] ∧ Ex H2 H' ∧ wayLoop g x (SctDay.limits l g.k g.first d s x) 1 = wayLoop g x ((SctDay.limits l g.k g.first d s x).drop i) wn),
        ⟨none, none, none, none, 1, rfl, Ex.refl _, rfl⟩, (fun i σ' H' _ ⟨_, _, _, _, _, _, e, _⟩ => sq_of (e _ _ hp)), ?_, ?_⟩
    · rintro i t σ' H3 hi ⟨v6, v7, v8, v9, wn, rfl, e3, hw⟩
      obtain ⟨t, y, ap, rfl, hy, ht, ham⟩ := ru_get h1.am pr hi
      have E3 : Ex H H3 := (e1.trans e2).trans e3
      refine g_pair (e3 _ _ ht) ?_
      obtain ⟨adx, sa, da, ca, tt, cs, ha⟩ := ham.ex (e2.trans e3)
      refine q_asgG (ep_meth (ev_var rfl) (hga.ex E3).ob g_no_together (ea_cons (ev_fld (ev_var rfl) ha.ob T.lAmendment T.nAmendment_substances f_substances) ea_nil) (am_together (hg.ex E3) ha)) fun v H4 e4 ⟨t2, ev2, ht2⟩ => ?_
      subst ev2
      refine g_pair ht2 ?_
      rw [drop_get hy] at hw
      have hw' : wayLoop g x (SctDay.limits l g.k g.first d s x) 1 = if y.2.limitOn x < g.low y.2.of_ then 0 else wayLoop g x ((SctDay.limits l g.k g.first d s x).drop (i + 1)) (if y.2.limitOn x < g.high y.2.of_ then 2 else wn) := hw
      refine q_when (b := _) (et_test (ev_op (ev_var rfl) (ev_var rfl) rv_I0)) (fun hb H5 e5 => ?_) (fun hb H5 e5 => ?_)
      · have hb' := of_decide_eq_true hb
        rw [if_pos (by omega)] at hw'
        refine s_ret (v := nV 0) ev_c fun H6 e6 => ?_
        rw [hw'] at k
        exact k H6 (((E3.trans e4).trans e5).trans e6)
      · have hb' := of_decide_eq_false hb
        rw [if_neg (by omega)] at hw'
        refine s_when (b := _) (et_test (ev_op (ev_var rfl) (ev_var rfl) rv_I0)) (fun hb2 H6 e6 => ?_) (fun hb2 H6 e6 => ?_)
        · have hb2' := of_decide_eq_true hb2
          rw [if_pos (by omega)] at hw'
          exact s_asg (v := nV 2) ev_c fun H7 e7 => ⟨_, _, _, _, 2, rfl, (((e3.trans e4).trans e5).trans e6).trans e7, hw'⟩
        · have hb2' := of_decide_eq_false hb2
          rw [if_neg (by omega)] at hw'
          exact ⟨_, _, _, _, wn, rfl, ((e3.trans e4).trans e5).trans e6, hw'⟩
    · rintro σ' H3 ⟨v6, v7, v8, v9, wn, rfl, e3, hw⟩
      rw [List.length_map, Paired.length pr, List.drop_length] at hw
      rw [hw] at k
      exact s_ret (v := nV wn) (ev_var rfl) fun H4 e4 => k H4 (((e1.trans e2).trans e3).trans e4)
theorem sc_Law_breach : FnScope ["self", "goods", "made", "sold", "day", "one", "limit", "low", "high"] ps_Law_breach (defScope s_Law_breach) := ⟨rfl, rfl, rfl, by decide +kernel, rfl, by decide +kernel, by decide +kernel⟩
theorem ok_breach (T : Txt K mg A) : Cal P w K mg base CX0 4 A.fLaw_breach ps_Law_breach (sp_breach A) := by
  have sc := sc_Law_breach
  have c_ruling : Cal P w K mg base CX0 3 _ _ _ := ok_ruling T
  have c_Goods_together : Cal P w K mg base CX0 1 _ _ _ := ok_together T
  refine T.dLaw_breach.ok sc (fun vs H Q E h => ?_) (fun cdv Ar outer s H vs Q E hr h => ⟨_, (pss_cons (ps_for PassesOwn.never rfl (pi_list (pcall c_ruling T.gruling (hr.mono (by decide)) pass0 (by exact (pa_cons (pe_fld (pv 0) rfl) (pa_cons (pe_fld (pv 1) rfl) (pa_cons (pe_fld (pv 1) rfl) (pa_cons (pv 2) (pa_cons (pv 3) (pa_cons (pv 4) pa_nil))))))))) (pg_tup rfl (pgs_cons (pg_name (i := 5) sc.nd rfl (Or.inl rfl)) (pgs_cons (pg_name (i := 6) sc.nd rfl (Or.inl rfl)) pgs_nil))) (pss_cons (ps_asg (pmeth c_Goods_together (pv 1) T.lGoods T.eGoods_together (hr.mono (by decide)) pass0 (by exact (pa_cons (pe_fld (pv 5) rfl) pa_nil))) (pg_tup rfl (pgs_cons (pg_name (i := 7) sc.nd rfl (Or.inl rfl)) (pgs_cons (pg_name (i := 8) sc.nd rfl (Or.inl rfl)) pgs_nil))))
    (pss_one (ps_if (pt_cmpR op_gt (pv 8) (pv 6) (nomark _)) (pss_one (ps_ret (pe_lst (pa_cons (pe_fld (pv 5) rfl) (pa_cons (pv 6) (pa_cons (pv 7) (pa_cons (pv 8) pa_nil))))))) pss_nil))))
    (pss_one (ps_ret pe_non))), ?_⟩)
  · obtain ⟨L, gp, l, g, d, s, x, rfl, _⟩ := h
    rfl
  · obtain ⟨L, gp, l, g, d, s, x, rfl, ⟨dx, la, ps, h⟩, hg, h48, k0, k1⟩ := h
    obtain ⟨gdx, gca, gts, hga⟩ := id hg
    refine q_forP (K := K) (ep_call (ea_cons (ev_fld (ev_var rfl) h.ob T.lLaw T.nLaw_amendments l_amendments) (ea_cons (ev_fld (ev_var rfl) hga.ob T.lGoods T.nGoods_kind g_kind) (ea_cons (ev_fld (ev_var rfl) hga.ob T.lGoods T.nGoods_new g_new) (ea_cons (ev_var rfl) (ea_cons (ev_var rfl) (ea_cons (ev_var rfl) ea_nil))))))
      (spp_ruling h.li h.am h48)) fun v H2 e2 ⟨p, ts, ev, _, hp, pr⟩ => ⟨p, ts.map V.ref, ev, sq_of hp, (fun i σ' H' => ∃ v6 v7 v8 v9, σ' = [some (.ref L), some (.ref gp), some (nV d), some (nV s), some (nV x), v6, v7, v8, v9] ∧ Ex H2 H' ∧ (SctDay.limits l g.k g.first d s x).find? (breachP g x) = ((SctDay.limits l g.k g.first d s x).drop i).find? (breachP g x)),
        ⟨none, none, none, none, rfl, Ex.refl _, rfl⟩, (fun i σ' H' _ ⟨_, _, _, _, _, e, _⟩ => sq_of (e _ _ hp)), ?_, ?_⟩
    · rintro i t σ' H3 hi ⟨v6, v7, v8, v9, rfl, e3, hw⟩
      obtain ⟨t, y, ap, rfl, hy, ht, ham⟩ := ru_get h.am pr hi
      have E3 : Ex H H3 := e2.trans e3
      refine g_pair (e3 _ _ ht) ?_
      obtain ⟨adx, sa, da, ca, tt, cs, ha⟩ := ham.ex (e2.trans e3)
      refine q_asgG (ep_meth (ev_var rfl) (hga.ex E3).ob g_no_together (ea_cons (ev_fld (ev_var rfl) ha.ob T.lAmendment T.nAmendment_substances f_substances) ea_nil) (am_together (hg.ex E3) ha)) fun v H4 e4 ⟨t2, ev2, ht2⟩ => ?_
      subst ev2
      refine g_pair ht2 ?_
      rw [drop_get hy, List.find?_cons] at hw
      refine s_when (b := _) (et_test (ev_op (ev_var rfl) (ev_var rfl) rv_I0)) (fun hb H5 e5 => ?_) (fun hb H5 e5 => ?_)
      · have hb' := of_decide_eq_true hb
        rw [show breachP g x y = true from decide_eq_true (by omega)] at hw
        refine s_retL (el_lst (ea_cons (ev_fld (ev_var rfl) ((ha.ex e4).ex e5).ob T.lAmendment T.nAmendment_number f_number) (ea_cons (ev_var rfl) (ea_cons (ev_var rfl) (ea_cons (ev_var rfl) ea_nil)))) (by show 4 ≤ 100000; decide)) fun p H6 np e6 hp6 => ?_
        exact k1 y hw p H6 (((E3.trans e4).trans e5).trans e6) hp6
      · have hb' := of_decide_eq_false hb
        rw [show breachP g x y = false from decide_eq_false (by omega)] at hw
        exact ⟨_, _, _, _, rfl, ((e3.trans e4).trans e5), hw⟩
    · rintro σ' H3 ⟨v6, v7, v8, v9, rfl, e3, hw⟩
      rw [List.length_map, Paired.length pr, List.drop_length] at hw
      exact s_ret (v := .non) ev_c fun H4 e4 => k0 hw H4 ((e2.trans e3).trans e4)
end
end Bd
namespace Bd
open PySem PySem.Spec PyProof.Rows L2 Evl
theorem paired_app {α β : Type} {R : α → β → Prop} : ∀ {l : List α} {l' : List β} {x : α} {y : β}, Paired R l l' → R x y → Paired R (l ++ [x]) (l' ++ [y])
  | _, _, _, _, .nil, h => .cons h .nil
  | _, _, _, _, .cons r t, h => .cons r (paired_app t h)
theorem paired_set {α β : Type} {R : α → β → Prop} : ∀ {l : List α} {l' : List β} {x : α} {y : β} (i : Nat), Paired R l l' → R x y → Paired R (l.set i x) (l'.set i y)
  | _, _, _, _, _, .nil, _ => .nil
  | _, _, _, _, 0, .cons r t, h => .cons h t
  | _, _, _, _, i + 1, .cons r t, h => .cons r (paired_set i t h)
section
variable {K : PySem.W.Frag} {σ : L2.St} {H H' : Hp} {D : Ends} {tz tu : TS} {g : TG} {ta tb te tl : TE} {P P' : V → Hp → Prop}
theorem ep_callP1 {sp : Sp} {E : XK} {y : V} (ha : EvP ta σ H P) (hb : Ev tb σ H y) (k : ∀ v H1, Ex H H1 → P v H1 → SpP sp [v, y] H1 P') : EvP (tCall sp [] E (tCons ta (tCons tb tNil))) σ H P' := fun H1 e Q q =>
  ha H1 e _ fun v H2 e2 p => hb H2 (e.trans e2) _ fun H3 e3 => k v H2 (e.trans e2) p H3 e3 Q (fun v' H4 e4 p' => q v' H4 ((e2.trans e3).trans e4) p') E
theorem ep_callP2 {sp : Sp} {E : XK} {x : V} (ha : Ev ta σ H x) (hb : EvP tb σ H P) (k : ∀ v H1, Ex H H1 → P v H1 → SpP sp [x, v] H1 P') : EvP (tCall sp [] E (tCons ta (tCons tb tNil))) σ H P' := fun H1 e Q q =>
  ha H1 e _ fun H2 e2 => hb H2 (e.trans e2) _ fun v H3 e3 p => k v H3 ((e.trans e2).trans e3) p H3 (Ex.refl _) Q (fun v' H4 e4 p' => q v' H4 ((e2.trans e3).trans e4) p') E
theorem et_tru {p : Addr} {xs : List V} (h : Ev ta σ H (.ref p)) (hp : H p = some (.lst xs)) : EvT (fun σ H Q => ta σ H fun x H' => ∃ k, TruV K x H' k ∧ Q k H') σ H (!xs.isEmpty) := fun H1 e Q q =>
  h H1 e _ fun H2 e2 => ⟨_, .inl ⟨xs, sq_of (e2 _ _ (e _ _ hp)), rfl⟩, q H2 e2⟩
theorem el_of_lc {wi : TI} {tt : TT} {vs : List Nat} {n : Nat} {f : Nat → V} {us : List V} (e : (List.range n).map f = us) (h : ∀ H1, Ex H H1 → EvP (tLc wi g tt te vs) σ H1 (LcOut H1 n fun i v _ => v = f i)) : EvL (tLc wi g tt te vs) σ H us := fun H1 e1 Q q =>
  h H1 e1 H1 (Ex.refl _) Q fun v H2 e2 out => by
    obtain ⟨p, ev, np, hp⟩ := lc_vals (fun i y H2 _ hy => hy) out
    rw [ev]
    exact q p H2 np e2 (by rw [← e]; exact hp)
theorem ep_listT {p : Addr} {xs : List V} (ha : Ev ta σ H (.ref p)) (h : SqT K H p xs) : EvP (tCB (rListS K) (tCons ta tNil)) σ H fun v H1 => ∃ q, v = .ref q ∧ H1 q = some (.lst xs) := fun H1 e Q q =>
  ha H1 e _ fun H2 e2 => ⟨p, xs, rfl, Or.inr (ex_t (e.trans e2) h), fun l hl => q _ _ (e2.trans (Ex.new hl)) ⟨l, rfl, upd_same⟩⟩
end
def newsI (l : List AM) : List Int := l.flatMap fun a => (a.known : Int) :: wdr a :: a.fixes.map fun (f : Nat × Nat) => (f.1 : Int)
def sp_selling_days (A : Adr) : Sp := fun vs H Q _ => ∃ (L : Addr) (l : List AM), vs = [.ref L] ∧ La A H L l ∧ l.length ≤ 48 ∧ ∀ p H2, Ex H H2 → H2 p = some (.lst ((solds l).map nV)) → Q (.ref p) H2
def sp_making_days (A : Adr) : Sp := fun vs H Q _ => ∃ (L : Addr) (l : List AM), vs = [.ref L] ∧ La A H L l ∧ l.length ≤ 48 ∧ ∀ p H2, Ex H H2 → H2 p = some (.lst ((SctDay.turns l).map nV)) → Q (.ref p) H2
def sp_learning_days (A : Adr) : Sp := fun vs H Q _ => ∃ (L : Addr) (l : List AM), vs = [.ref L] ∧ La A H L l ∧ l.length ≤ 48 ∧ ∀ p H2, Ex H H2 → H2 p = some (.lst ((newsI l).map V.int)) → Q (.ref p) H2
def sp_turns_from : Sp := fun vs H Q _ => ∃ (dp : Addr) (ds : List Int) (first : Nat) (l : List Nat), vs = [.ref dp, nV first] ∧ H dp = some (.lst (ds.map V.int)) ∧ ds.length ≤ 1000 ∧ (∀ n : Nat, first < n → ((n : Int) ∈ ds ↔ n ∈ l)) ∧
  ∀ p H2, Ex H H2 → H2 p = some (.lst ((first :: SctDay.behind first l).map nV)) → Q (.ref p) H2
def TrAt (H : Hp) (q : Addr) (y : Nat × Nat × Nat) : Prop := H q = some (.tup [nV y.1, nV y.2.1, nV y.2.2])
def Tris (H : Hp) (p : Addr) (L : List (Nat × Nat × Nat)) : Prop := ∃ qs : List Addr, H p = some (.lst (qs.map V.ref)) ∧ Paired (TrAt H) qs L
theorem Tris.ex {H H' : Hp} {p : Addr} {L : List (Nat × Nat × Nat)} (e : Ex H H') (h : Tris H p L) : Tris H' p L := by
  obtain ⟨qs, h1, h2⟩ := h
  exact ⟨qs, e _ _ h1, paired_imp (fun _ _ q => e _ _ q) h2⟩
def sp_stretches : Sp := fun vs H Q _ => ∃ (tp wp : Addr) (ts : List Nat) (f : Nat → Nat), vs = [.ref tp, .ref wp] ∧ H tp = some (.lst (ts.map nV)) ∧ H wp = some (.lst (ts.map fun t => nV (f t))) ∧ ts.length ≤ 1000 ∧ ts.Pairwise (· < ·) ∧
  ∀ p H2, H p = none → Ex H H2 → Tris H2 p (tri SctDay.DAYS (ts.foldl (stp f) [])) → Q (.ref p) H2
def TInv (first : Nat) (ds : List Int) (kvs : List (L2.Key × V)) : Prop := (kvs.map (·.1)).Nodup ∧ kvs.length ≤ ds.length + 1 ∧ (∀ k ∈ kvs.map (·.1), ∃ n : Nat, k = Sum.inl (n : Int)) ∧
  ∀ n : Nat, (Sum.inl (n : Int) : L2.Key) ∈ kvs.map (·.1) ↔ n = first ∨ (first < n ∧ n ≤ SctDay.DAYS ∧ (n : Int) ∈ ds)
theorem keys_nat {kvs : List (L2.Key × V)} (h : ∀ k ∈ kvs.map (·.1), ∃ n : Nat, k = Sum.inl (n : Int)) : ∃ ks : List Nat, kvs.map (·.1) = ks.map fun (n : Nat) => (Sum.inl (n : Int) : L2.Key) := by
  refine ⟨(kvs.map (·.1)).map fun k => match k with | .inl i => i.toNat | .inr _ => 0, ?_⟩
  rw [List.map_map]
  refine (List.map_id _).symm.trans (List.map_congr_left fun k hk => ?_)
  obtain ⟨n, e⟩ := h k hk
  rw [e]
  rfl
theorem nat_keys_mem {ks : List Nat} {n : Nat} : (Sum.inl (n : Int) : L2.Key) ∈ ks.map (fun (n : Nat) => (Sum.inl (n : Int) : L2.Key)) ↔ n ∈ ks := by
  rw [List.mem_map]
  exact ⟨fun ⟨m, z1, z2⟩ => by
    have z : (m : Int) = (n : Int) := Sum.inl.inj z2
    have : m = n := by omega
    rw [← this]
    exact z1, fun q => ⟨n, q, rfl⟩⟩
theorem nat_keys_nodup {kvs : List (L2.Key × V)} {ks : List Nat} (h : (kvs.map (·.1)).Nodup) (e : kvs.map (·.1) = ks.map fun (n : Nat) => (Sum.inl (n : Int) : L2.Key)) : ks.Nodup := by
  rw [e] at h
  exact List.Pairwise.of_map _ (fun a b h q => h (by rw [q])) h
theorem turns_len : ∀ l : List AM, (SctDay.turns l).length = 3 * l.length
  | [] => rfl
  | a :: l => by
    have ih := turns_len l
    show (SctDay.turns [a] ++ SctDay.turns l).length = _ 
    rw [List.length_append, ih, List.length_cons]
    show 3 + _ = _
    omega
theorem turns_app (l l' : List AM) : SctDay.turns (l ++ l') = SctDay.turns l ++ SctDay.turns l' := List.flatMap_append
theorem newsI_app (l l' : List AM) : newsI (l ++ l') = newsI l ++ newsI l' := List.flatMap_append
theorem newsI_len : ∀ l : List AM, (∀ a ∈ l, a.fixes.length ≤ 4) → (newsI l).length ≤ 6 * l.length
  | [], _ => Nat.le_refl _
  | a :: l, h => by
    have ih := newsI_len l fun b hb => h b (List.mem_cons_of_mem _ hb)
    have h4 := h a List.mem_cons_self
    rw [show newsI (a :: l) = newsI [a] ++ newsI l from newsI_app [a] l]
    have e : (newsI [a]).length = a.fixes.length + 2 := by
      show (((a.known : Int) :: wdr a :: a.fixes.map fun (f : Nat × Nat) => (f.1 : Int)) ++ []).length = _
      rw [List.append_nil, List.length_cons, List.length_cons, List.length_map]
    rw [List.length_append, e, List.length_cons]
    omega
theorem take_snoc {α : Type} {l : List α} {i : Nat} {a : α} (h : l[i]? = some a) : l.take (i + 1) = l.take i ++ [a] := by
  rw [List.take_add_one, h]
  rfl
section
variable {P : Program} {w : World} {K : PySem.W.Frag} {mg : Str → Option Value} {base : Heap} {A : Adr}
theorem sc_Law_selling_days : FnScope ["self", "one"] ps_Law_selling_days (defScope s_Law_selling_days) := ⟨rfl, rfl, rfl, by decide +kernel, rfl, by decide +kernel, by decide +kernel⟩
theorem ok_selling_days (T : Txt K mg A) : Cal P w K mg base CX0 1 A.fLaw_selling_days ps_Law_selling_days (sp_selling_days A) := by
  have sc := sc_Law_selling_days
  refine T.dLaw_selling_days.ok sc (fun vs H Q E h => ?_) (fun cdv Ar outer s H vs Q E hr h => ⟨_, (pss_one (ps_ret (pe_lc (own := [("one", 1)]) (te := (tOp (rIxT K) (tFld K (tVar 1) "days") (tUn (rU fun i => .int (-i)) (tC (.int 1))))) (hc := by rfl) sc.nd (pi_list (pe_fld (pv 0) rfl)) (blkOk_by (N := ["self", "one"]) (sc := defScope s_Law_selling_days) (by decide +kernel)) (fun _ _ _ _ _ => by exact pg_name (i := 1) sc.nd rfl (Or.inl rfl)) (fun _ _ _ _ _ => by exact pts_nil) (fun _ _ _ _ _ => by exact (pe_ix ix_tup (pe_fld (pv 1) rfl) (pe_un un_neg pe_int) (fun _ _ => rfl)))))), ?_⟩)
  · obtain ⟨L, l, rfl, _⟩ := h
    rfl
  · obtain ⟨L, l, rfl, ⟨dx, la, ps, h⟩, h48, k⟩ := h
    have hpl : ps.length = l.length := h.am.1
    refine s_retP (el_lcv (n := (ps.map V.ref).length) (f := fun i => nV ((l.map (·.sold)).getD i 0)) (us := (solds l).map nV) (ep_lcL (K := K) (xs := ps.map V.ref) (fun i => [some (.ref L), some (.ref (ps.getD i 0))]) _ stays_val (ev_fld (ev_var rfl) h.ob T.lLaw T.nLaw_amendments l_amendments) (sq_of h.li) (by rw [List.length_map]; omega) ?_ ?_ ?_) ?_) ?_
    · intro i x H' hx e Q' q
      obtain ⟨p, hp, rfl⟩ := map_get hx
      rw [getD_of hp] at q
      exact q
    · intro i x _
      rfl
    · intro i x H' hx e
      obtain ⟨p, hp, rfl⟩ := map_get hx
      obtain ⟨a, ha, ham⟩ := h.am.at_ hp
      obtain ⟨adx, sa, da, ca, tt, cs, hh⟩ := ham.ex e
      rw [getD_of hp, getD_of (x := a.sold) (by rw [List.getElem?_map, ha]; rfl)]
      exact ep_of_ev (ev_op (ev_fld (ev_var rfl) hh.ob T.lAmendment T.nAmendment_days f_days) (ev_un ev_c ru_neg) (rv_ixT (v := nV a.sold) (st_of hh.da) rfl))
    · rw [List.length_map, hpl]
      have e := range_map nV 0 (l.map (·.sold))
      rw [List.length_map] at e
      exact e
    · rintro v H1 e1 ⟨p, rfl, np, hp⟩
      exact k p H1 e1 hp
theorem sc_Law_making_days : FnScope ["self", "found", "one"] ps_Law_making_days (defScope s_Law_making_days) := ⟨rfl, rfl, rfl, by decide +kernel, rfl, by decide +kernel, by decide +kernel⟩
theorem ok_making_days (T : Txt K mg A) : Cal P w K mg base CX0 1 A.fLaw_making_days ps_Law_making_days (sp_making_days A) := by
  have sc := sc_Law_making_days
  refine T.dLaw_making_days.ok sc (fun vs H Q E h => ?_) (fun cdv Ar outer s H vs Q E hr h => ⟨_, (pss_cons (ps_set (i := 1) sc.nd rfl (Or.inl rfl) (pe_lst pa_nil))
    (pss_cons (ps_for PassesOwn.never rfl (pi_list (pe_fld (pv 0) rfl)) (pg_name (i := 2) sc.nd rfl (Or.inl rfl)) (pss_one (ps_expr (pe_bm PySem.F.plainAttrs_list PySem.F.slot_list_extend PySem.F.type_list_extend mt_extend (pv 1) (pa_cons (pe_callTy call_list_of (by rfl) T.b_list (by decide +kernel) (pa_cons (pe_fld (pv 2) rfl) pa_nil)) pa_nil)))))
    (pss_one (ps_ret (pv 1))))), ?_⟩)
  · obtain ⟨L, l, rfl, _⟩ := h
    rfl
  · obtain ⟨L, l, rfl, ⟨dx, la, ps, h⟩, h48, k⟩ := h
    refine q_asgL (el_lst ea_nil (by decide)) fun fp H1 nf e1 hf => ?_
    refine q_forLn (K := K) (a := la) (xs := ps.map V.ref) (ev_fld (ev_var rfl) (e1 _ _ h.ob) T.lLaw T.nLaw_amendments l_amendments) (sq_of (e1 _ _ h.li)) (fun i σ' H' => ∃ v2, σ' = [some (.ref L), some (.ref fp), v2] ∧ Ex H H' ∧ H' fp = some (.lst ((SctDay.turns (l.take i)).map nV)))
      (fun H2 e2 => ⟨none, rfl, e1.trans e2, e2 _ _ hf⟩) (fun i σ' H' _ ⟨_, _, e, _⟩ => sq_of (e _ _ h.li)) ?_ ?_
    · rintro i x σ' H2 hx ⟨v2, rfl, e2, hf2⟩
      obtain ⟨p, hp, rfl⟩ := map_get hx
      obtain ⟨a, ha, ham⟩ := h.am.at_ hp
      obtain ⟨adx, sa, da, ca, tt, cs, hh⟩ := ham.ex e2
      refine s_ext hf2 (ev_var rfl) (ep_listT (K := K) (ev_fld (ev_var rfl) hh.ob T.lAmendment T.nAmendment_days f_days) (st_of hh.da)) fun v H3 e3 ⟨b, ev, hb⟩ => ⟨b, _, ev, hb, ?_, some (.ref p), rfl, Ex.mut (e2.trans e3) nf, ?_⟩
      · have := turns_len (l.take i)
        rw [List.length_take] at this
        rw [List.length_map, this]
        exact sz_of (by show 3 * min i l.length + 3 ≤ 100000; omega)
      · rw [take_snoc ha, turns_app, List.map_append]
        exact upd_same
    · rintro σ' H2 ⟨v2, rfl, e2, hf2⟩
      rw [List.length_map, h.am.1, List.take_length] at hf2
      exact s_ret (v := .ref fp) (ev_var rfl) fun H3 e3 => k fp H3 (e2.trans e3) (e3 _ _ hf2)
theorem sc_Law_learning_days : FnScope ["self", "found", "one", "day", "limit"] ps_Law_learning_days (defScope s_Law_learning_days) := ⟨rfl, rfl, rfl, by decide +kernel, rfl, by decide +kernel, by decide +kernel⟩
theorem ok_learning_days (T : Txt K mg A) : Cal P w K mg base CX0 1 A.fLaw_learning_days ps_Law_learning_days (sp_learning_days A) := by
  have sc := sc_Law_learning_days
  refine T.dLaw_learning_days.ok sc (fun vs H Q E h => ?_) (fun cdv Ar outer s H vs Q E hr h => ⟨_, (pss_cons (ps_set (i := 1) sc.nd rfl (Or.inl rfl) (pe_lst pa_nil))
    (pss_cons (ps_for PassesOwn.never rfl (pi_list (pe_fld (pv 0) rfl)) (pg_name (i := 2) sc.nd rfl (Or.inl rfl)) (pss_one (ps_expr (pe_bm PySem.F.plainAttrs_list PySem.F.slot_list_extend PySem.F.type_list_extend mt_extend (pv 1) (pa_cons (pe_op op_cat (pe_lst (pa_cons (pe_fld (pv 2) rfl) (pa_cons (pe_fld (pv 2) rfl) pa_nil))) (pe_lc (own := [("day", 3), ("limit", 4)]) (g := gTup K 2 (gCons (gName 3) (gCons (gName 4) (gNil)))) (hc := by rfl) sc.nd (pi_list (pe_fld (pv 2) rfl)) (blkOk_by (N := ["self", "found", "one", "day", "limit"]) (sc := defScope s_Law_learning_days) (by decide +kernel)) (fun _ _ _ _ _ => by exact pg_tup rfl (pgs_cons (pg_name (i := 3) sc.nd rfl (Or.inl rfl)) (pgs_cons (pg_name (i := 4) sc.nd rfl (Or.inl rfl)) pgs_nil))) (fun _ _ _ _ _ => by exact pts_nil) (fun _ _ _ _ _ => by exact (pv 3)))) pa_nil)))))
    (pss_one (ps_ret (pv 1))))), ?_⟩)
  · obtain ⟨L, l, rfl, _⟩ := h
    rfl
  · obtain ⟨L, l, rfl, ⟨dx, la, ps, h⟩, h48, k⟩ := h
    have f4 : ∀ a ∈ l, a.fixes.length ≤ 4 := fun a ha => by
      obtain ⟨i, hi⟩ := List.mem_iff_getElem?.mp ha
      obtain ⟨p, hp⟩ : ∃ p, ps[i]? = some p := ⟨_, List.getElem?_eq_getElem (by rw [h.am.1]; exact (List.getElem?_eq_some_iff.mp hi).1)⟩
      obtain ⟨_, _, _, _, _, _, hh⟩ := h.am.2 i p a hp hi
      exact hh.f4
    refine q_asgL (el_lst ea_nil (by decide)) fun fp H1 nf e1 hf => ?_
    refine q_forLn (K := K) (a := la) (xs := ps.map V.ref) (ev_fld (ev_var rfl) (e1 _ _ h.ob) T.lLaw T.nLaw_amendments l_amendments) (sq_of (e1 _ _ h.li)) (fun i σ' H' => ∃ v2, σ' = [some (.ref L), some (.ref fp), v2, none, none] ∧ Ex H H' ∧ H' fp = some (.lst ((newsI (l.take i)).map V.int)))
      (fun H2 e2 => ⟨none, rfl, e1.trans e2, e2 _ _ hf⟩) (fun i σ' H' _ ⟨_, _, e, _⟩ => sq_of (e _ _ h.li)) ?_ ?_
    · rintro i x σ' H2 hx ⟨v2, rfl, e2, hf2⟩
      obtain ⟨p, hp, rfl⟩ := map_get hx
      obtain ⟨a, ha, ham⟩ := h.am.at_ hp
      obtain ⟨adx, sa, da, ca, tt, cs, hh⟩ := ham.ex e2
      have hcl : (cs.map V.ref).length = a.fixes.length := by rw [List.length_map]; exact Paired.length hh.fx
      refine s_ext hf2 (ev_var rfl) (ep_ofL (el_cat (el_lst (ea_cons (ev_fld (ev_var rfl) hh.ob T.lAmendment T.nAmendment_known f_known) (ea_cons (ev_fld (ev_var rfl) hh.ob T.lAmendment T.nAmendment_withdrawn f_withdrawn) ea_nil)) (by show 2 ≤ 100000; decide))
        (el_of_lc (n := (cs.map V.ref).length) (f := fun i => nV (a.fixes.getD i (0, 0)).1) (us := a.fixes.map fun (f : Nat × Nat) => nV f.1) ?_ fun H3 e3 => ep_lcL (K := K) (xs := cs.map V.ref) (fun i => [some (.ref L), some (.ref fp), some (.ref p), some (nV (a.fixes.getD i (0, 0)).1), some (nV (a.fixes.getD i (0, 0)).2)]) _ stays_val (ev_fld (ev_var rfl) (hh.ex e3).ob T.lAmendment T.nAmendment_corrections f_corrections) (sq_of (hh.ex e3).co) (by rw [hcl]; have := hh.f4; omega) ?_ ?_ ?_) ?_)) ?_
      · rw [hcl]
        exact range_map (fun f : Nat × Nat => nV f.1) (0, 0) a.fixes
      · intro i x H' hx e Q' q
        obtain ⟨c, hc, rfl⟩ := map_get hx
        obtain ⟨f, hf', hcf⟩ := paired_get hh.fx hc
        rw [getD_of hf'] at q
        exact g_pair (e _ _ (e3 _ _ hcf)) q
      · intro i x _
        rfl
      · intro i x H' hx e
        exact ep_of_ev (ev_var rfl)
      · show 2 + (a.fixes.map _).length ≤ _
        rw [List.length_map]
        have := hh.f4
        exact sz_of (by omega)
      · rintro v H3 e3 ⟨b, ev, nb, hb⟩
        refine ⟨b, _, ev, hb, ?_, some (.ref p), rfl, Ex.mut (e2.trans e3) nf, ?_⟩
        · have := newsI_len (l.take i) fun b hb => f4 b (List.mem_of_mem_take hb)
          rw [List.length_take] at this
          have h4 := hh.f4
          rw [List.length_map]
          refine sz_of ?_
          rw [List.length_append, List.length_map]
          show (newsI (l.take i)).length + (2 + a.fixes.length) ≤ 100000
          omega
        · rw [take_snoc ha, newsI_app, List.map_append]
          have : (newsI [a]).map V.int = [nV a.known, V.int (wdr a)] ++ a.fixes.map fun (f : Nat × Nat) => nV f.1 := by
            show (((a.known : Int) :: wdr a :: a.fixes.map fun (f : Nat × Nat) => (f.1 : Int)) ++ []).map V.int = _
            rw [List.append_nil, List.map_cons, List.map_cons, List.map_map]
            rfl
          rw [this]
          exact upd_same
    · rintro σ' H2 ⟨v2, rfl, e2, hf2⟩
      rw [List.length_map, h.am.1, List.take_length] at hf2
      exact s_ret (v := .ref fp) (ev_var rfl) fun H3 e3 => k fp H3 (e2.trans e3) (e3 _ _ hf2)
end
end Bd
namespace Bd
open PySem PySem.Spec PyProof.Rows L2 Evl
def eOf (ts : List Nat) (i : Nat) : Nat := match ts[i]? with
  | some t => t - 1
  | none => SctDay.DAYS
theorem fold_ne {f : Nat → Nat} : ∀ (B : List Nat) (r : List (Nat × Nat)), r ≠ [] → B.foldl (stp f) r ≠ []
  | [], r, h => h
  | t :: B, r, h => fold_ne B _ (by
    unfold stp
    split
    · exact h
    · exact fun z => by simp at z)
theorem fold_len {f : Nat → Nat} : ∀ (B : List Nat) (r : List (Nat × Nat)), (B.foldl (stp f) r).length ≤ r.length + B.length
  | [], r => Nat.le_refl _
  | t :: B, r => by
    have ih := fold_len (f := f) B (stp f r t)
    have : (stp f r t).length ≤ r.length + 1 := by
      unfold stp
      split
      · omega
      · rw [List.length_append, List.length_singleton]
        exact Nat.le_refl _
    rw [List.foldl_cons, List.length_cons]
    omega
theorem rv_setLast {H : Hp} {p : Addr} {xs : List V} {x v : V} {Q : Hp → Prop} (h : H p = some (.lst (xs ++ [x]))) (q : Q (upd H p (.lst (xs ++ [v])))) : rSetL (.ref p) (.int (-1)) v H Q := by
  refine ⟨p, xs ++ [x], -1, xs.length, rfl, rfl, h, ?_, ?_⟩
  · unfold ixN
    rw [if_neg (by omega), if_pos (by rw [List.length_append, List.length_singleton]; omega), List.length_append, List.length_singleton]
    congr 1
    omega
  · rw [List.set_append_right _ _ (Nat.le_refl _), Nat.sub_self]
    exact q
theorem snoc_of {α : Type} {l : List α} (h : l ≠ []) : ∃ l' x, l = l' ++ [x] := ⟨l.dropLast, l.getLast h, (List.dropLast_concat_getLast h).symm⟩
theorem paired_snoc_inv {α β : Type} {R : α → β → Prop} : ∀ {l : List α} {l' : List β} {y : β}, Paired R l (l' ++ [y]) → ∃ l0 x, l = l0 ++ [x] ∧ Paired R l0 l' ∧ R x y
  | _, [], y, .cons r .nil => ⟨[], _, rfl, .nil, r⟩
  | _, b :: l', y, .cons r t => by
    obtain ⟨l0, x, e, h1, h2⟩ := paired_snoc_inv (l' := l') t
    exact ⟨_ :: l0, x, by rw [e]; rfl, .cons r h1, h2⟩
section
variable {P : Program} {w : World} {K : PySem.W.Frag} {mg : Str → Option Value} {base : Heap} {A : Adr}
theorem sc_turns_from : FnScope ["days", "first", "found", "day"] ps_turns_from (defScope s_turns_from) := ⟨rfl, rfl, rfl, by decide +kernel, rfl, by decide +kernel, by decide +kernel⟩
theorem ok_turns_from (T : Txt K mg A) : Cal P w K mg base CX0 1 A.fturns_from ps_turns_from sp_turns_from := by
  have sc := sc_turns_from
  refine T.dturns_from.ok sc (fun vs H Q E h => ?_) (fun cdv Ar outer s H vs Q E hr h => ⟨_, (pss_cons (ps_set (i := 2) sc.nd rfl (Or.inl rfl) (pe_disp (pps_cons (pv 1) pe_bl pps_nil) (by rfl) (by rfl) (fun z => by cases z) (by decide)))
    (pss_cons (ps_for PassesOwn.never rfl (pi_list (pv 0)) (pg_name (i := 3) sc.nd rfl (Or.inl rfl)) (pss_one (ps_if (pt_chain op_lt op_le (pv 1) (pv 3) (pconst T.gLAST_DAY)) (pss_one (ps_dput (hu_of hr) (pv 2) (pv 3) pe_bl rfl)) pss_nil)))
    (pss_one (ps_ret (pe_callB (cr_sortedM rfl) (by rfl) T.b_sorted (by decide +kernel) (pa_cons (pv 2) pa_nil)))))), ?_⟩)
  · obtain ⟨dp, ds, first, l, rfl, _⟩ := h
    rfl
  · obtain ⟨dp, ds, first, l, rfl, hd, hl, hm, k⟩ := h
    intro fp nf
    refine ⟨_, rfl, upd_same, [(Sum.inl (first : Int), .bl true)], rfl, by show 1 ≤ 15; decide, ?_⟩
    have hD : SctDay.DAYS = 100000 := rfl
    have e0 : Ex H (upd (upd H fp (.dK [])) fp (.dK (mergeK [] [(Sum.inl (first : Int), .bl true)]))) := Ex.mut (Ex.new nf) nf
    refine q_forLn (K := K) (a := dp) (xs := ds.map V.int) (ev_var rfl) (sq_of (e0 _ _ hd)) (fun i σ' H' => ∃ kvs v3, σ' = [some (.ref dp), some (nV first), some (.ref fp), v3] ∧ Ex H H' ∧ H' fp = some (.dK kvs) ∧ TInv first (ds.take i) kvs)
      (fun H1 e1 => ⟨_, none, rfl, e0.trans e1, e1 _ _ upd_same, List.pairwise_singleton _ _, Nat.le_refl _, fun k hk => ⟨first, List.mem_singleton.mp hk⟩, fun n => ?_⟩) (fun i σ' H' _ ⟨_, _, _, e, _⟩ => sq_of (e _ _ hd)) ?_ ?_
    · show (Sum.inl (n : Int) : L2.Key) ∈ [(Sum.inl (first : Int) : L2.Key)] ↔ _
      rw [List.mem_singleton, List.take_zero]
      constructor
      · intro z
        have z' : (n : Int) = (first : Int) := Sum.inl.inj z
        exact .inl (by omega)
      · rintro (z | ⟨_, _, z⟩)
        · rw [z]
        · cases z
    · rintro i x σ' H1 hx ⟨kvs, v3, rfl, e1, hf, I⟩
      obtain ⟨z, hz, rfl⟩ := map_get hx
      have hlt : i < ds.length := (List.getElem?_eq_some_iff.mp hz).1
      refine s_when (b := _) (et_test (ev_chain (ev_var rfl) (ev_var rfl) ev_c rv_I0 rv_I0)) (fun hb H2 e2 => ?_) (fun hb H2 e2 => ?_)
      · rw [Bool.and_eq_true, decide_eq_true_iff, decide_eq_true_iff] at hb
        obtain ⟨n, rfl⟩ : ∃ n : Nat, z = (n : Int) := ⟨z.toNat, by omega⟩
        refine ⟨_, rfl, _, rfl, fp, _, rfl, DPut.k (k := Sum.inl (n : Int)) (e2 _ _ hf) (sz_lt (by have := I.2.1; rw [List.length_take] at this; omega)), ?_⟩
        refine ⟨_, some (nV n), rfl, Ex.mut (e1.trans e2) nf, upd_same, put_nodup I.1, ?_, fun k hk => ?_, fun m => ?_⟩
        · have := length_putK kvs (Sum.inl (n : Int)) (.bl true)
          have := I.2.1
          rw [List.length_take] at this ⊢
          omega
        · rcases put_in.mp hk with q | q
          · exact ⟨n, q⟩
          · exact I.2.2.1 k q
        · rw [put_in, I.2.2.2 m, take_snoc hz, List.mem_append, List.mem_singleton]
          constructor
          · rintro (q | q | ⟨q1, q2, q3⟩)
            · have q' : (m : Int) = (n : Int) := Sum.inl.inj q
              exact .inr ⟨by omega, by omega, .inr q'⟩
            · exact .inl q
            · exact .inr ⟨q1, q2, .inl q3⟩
          · rintro (q | ⟨q1, q2, q3 | q3⟩)
            · exact .inr (.inl q)
            · exact .inr (.inr ⟨q1, q2, q3⟩)
            · exact .inl (by rw [q3])
      · rw [Bool.and_eq_false_iff, decide_eq_false_iff_not, decide_eq_false_iff_not] at hb
        refine ⟨kvs, some (.int z), rfl, e1.trans e2, e2 _ _ hf, I.1, ?_, I.2.2.1, fun m => ?_⟩
        · have := I.2.1
          rw [List.length_take] at this ⊢
          omega
        · rw [I.2.2.2 m, take_snoc hz, List.mem_append, List.mem_singleton]
          constructor
          · rintro (q | ⟨q1, q2, q3⟩)
            · exact .inl q
            · exact .inr ⟨q1, q2, .inl q3⟩
          · rintro (q | ⟨q1, q2, q3 | q3⟩)
            · exact .inl q
            · exact .inr ⟨q1, q2, q3⟩
            · exfalso
              rcases hb with hb | hb
              · exact hb (by omega)
              · exact hb (by omega)
    · rintro σ' H1 ⟨kvs, v3, rfl, e1, hf, I⟩
      rw [List.length_map, List.take_length] at I
      obtain ⟨ks, hks⟩ := keys_nat I.2.2.1
      have kn := nat_keys_nodup I.1 hks
      have srt : (first :: SctDay.behind first l).Pairwise (· < ·) := List.pairwise_cons.mpr ⟨fun b hb => ((behind_mem first l b).mp hb).2.1, behind_sorted first l⟩
      have pm : ks.Perm (first :: SctDay.behind first l) := (List.perm_ext_iff_of_nodup kn (srt.imp fun h => Nat.ne_of_lt h)).mpr fun n => by
        rw [← nat_keys_mem, ← hks, I.2.2.2 n, List.mem_cons, behind_mem]
        constructor
        · rintro (q | ⟨q1, q2, q3⟩)
          · exact .inl q
          · exact .inr ⟨(hm n q1).mp q3, q1, q2⟩
        · rintro (q | ⟨q1, q2, q3⟩)
          · exact .inl q
          · exact .inr ⟨q2, q3, (hm n q2).mpr q1⟩
      refine s_retP (P := fun v H2 => ∃ p, v = .ref p ∧ H2 p = some (.lst ((first :: SctDay.behind first l).map nV))) ?_ ?_
      · intro H2 e2 Q' q'
        refine ⟨_, rfl, fp, kvs, ks.map fun (n : Nat) => (n : Int), rfl, .inl (e2 _ _ hf), by rw [hks, List.map_map]; rfl, fun ns' p pm' ri np => ?_⟩
        have : ns' = (first :: SctDay.behind first l).map fun (n : Nat) => (n : Int) := rise_unique ri (rise_nat srt) (pm'.trans (pm.map _))
        refine q' _ _ (Ex.new np) ⟨p, rfl, ?_⟩
        rw [this, List.map_map]
        exact upd_same
      · rintro v H2 e2 ⟨p, rfl, hp⟩
        exact k p H2 (e1.trans e2) hp
theorem sc_stretches : FnScope ["turns", "ways", "found", "at", "turn", "last"] ps_stretches (defScope s_stretches) := ⟨rfl, rfl, rfl, by decide +kernel, rfl, by decide +kernel, by decide +kernel⟩
theorem ok_stretches (T : Txt K mg A) : Cal P w K mg base CX0 1 A.fstretches ps_stretches sp_stretches := by
  have sc := sc_stretches
  refine T.dstretches.ok sc (fun vs H Q E h => ?_) (fun cdv Ar outer s H vs Q E hr h => ⟨_, (pss_cons (ps_set (i := 2) sc.nd rfl (Or.inl rfl) (pe_lst pa_nil))
    (pss_cons (ps_for PassesOwn.never rfl (pi_enum (by rfl) T.b_enumerate (pa_cons (pv 0) pa_nil)) (pg_tup rfl (pgs_cons (pg_name (i := 3) sc.nd rfl (Or.inl rfl)) (pgs_cons (pg_name (i := 4) sc.nd rfl (Or.inl rfl)) pgs_nil))) (pss_cons (ps_set (i := 5) sc.nd rfl (Or.inl rfl) (pe_ifExp (pt_cmpR op_lt (pe_op op_add (pv 3) pe_int) (pe_callB call_len_seq (by rfl) T.b_len PySem.boot_len (pa_cons (pv 0) pa_nil)) (nomark _)) (pe_op op_sub (pe_ix ix_list (pv 0) (pe_op op_add (pv 3) pe_int) (fun _ _ => rfl)) pe_int) (pconst T.gLAST_DAY)))
    (pss_one (ps_if (PW.pt (pw_and (pt_truth (pv 2) (by intro _; rfl)) (pw_and1 (pt_cmpR op_eq (pe_ix ix_tup (pe_ix ix_list (pv 2) (pe_un un_neg pe_int) (fun _ _ => rfl)) pe_int (fun _ _ => rfl)) (pe_ix ix_list (pv 1) (pv 3) (fun _ _ => rfl)) (nomark _))))) (pss_one (ps_asg (pe_tup (pa_cons (pe_ix ix_tup (pe_ix ix_list (pv 2) (pe_un un_neg pe_int) (fun _ _ => rfl)) pe_int (fun _ _ => rfl)) (pa_cons (pv 5) (pa_cons (pe_ix ix_list (pv 1) (pv 3) (fun _ _ => rfl)) pa_nil)))) (pg_sub (pv 2) (pe_un un_neg pe_int) set_list))) (pss_one (ps_expr (pe_bm PySem.F.plainAttrs_list PySem.F.slot_list_append PySem.F.type_list_append mt_append (pv 2) (pa_cons (pe_tup (pa_cons (pv 4) (pa_cons (pv 5) (pa_cons (pe_ix ix_list (pv 1) (pv 3) (fun _ _ => rfl)) pa_nil)))) pa_nil))))))))
    (pss_one (ps_ret (pv 2))))), ?_⟩)
  · obtain ⟨tp, wp, ts, f, rfl, _⟩ := h
    rfl
  · obtain ⟨tp, wp, ts, f, rfl, ht, hw, hl, hs, k⟩ := h
    refine q_asgL (el_lst ea_nil (by decide)) fun fp H1 nf e1 hf => ?_
    have hlen : (ts.map nV).length = ts.length := List.length_map ..
    refine ⟨_, rfl, tp, ts.map nV, rfl, sq_of (e1 _ _ ht), for_it walk_enum (fun i σ' H' => ∃ qs v3 v4 v5, σ' = [some (.ref tp), some (.ref wp), some (.ref fp), v3, v4, v5] ∧ Ex H H' ∧ H' fp = some (.lst (qs.map V.ref)) ∧ Paired (TrAt H') qs (tri (eOf ts i) ((ts.take i).foldl (stp f) [])))
      ⟨[], none, none, none, rfl, e1, hf, .nil⟩ (fun i σ' H' _ ⟨_, _, _, _, _, e, _⟩ => sq_of (e _ _ ht)) ?_ ?_⟩
    · rintro i x σ' H2 H3 hi ⟨qs, v3, v4, v5, rfl, e2, hf2, pr⟩ ⟨Tt, xi, y, rfl, nT, rfl, ex, ey⟩
      obtain ⟨t, hti, rfl⟩ := map_get ey
      have exi : V.int (i : Int) = xi := Option.some.inj ex
      subst exi
      have e3 : Ex H2 (upd H2 Tt (.tup [.int (i : Int), nV t])) := Ex.new nT
      refine g_pair upd_same ?_
      have hf3 := e3 _ _ hf2
      have pr3 : Paired (TrAt (upd H2 Tt (.tup [.int (i : Int), nV t]))) qs (tri (eOf ts i) ((ts.take i).foldl (stp f) [])) := paired_imp (fun _ _ q => e3 _ _ q) pr
      have E3 := e2.trans e3
      generalize upd H2 Tt (.tup [.int (i : Int), nV t]) = H3 at hf3 pr3 E3
      clear hf2 pr e3 nT e2 H2
      have hwi : (ts.map fun t => nV (f t))[i]? = some (nV (f t)) := by rw [List.getElem?_map, hti]; rfl
      have hilt : i < ts.length := (List.getElem?_eq_some_iff.mp hti).1
      -- last
      refine q_asg (v := nV (eOf ts (i + 1))) (ev_if (b := decide (i + 1 < ts.length)) (et_is (et_test (ev_op (ev_op (ev_var rfl) ev_c rv_I0) (ev_len (ev_var rfl) (sq_of (E3 _ _ ht))) rv_I0)) (by
          rw [hlen]
          exact decide_eq_decide.mpr (by omega))) (fun hb => ?_) (fun hb => ?_)) fun H4 e4 => ?_
      · have hb' := of_decide_eq_true hb
        obtain ⟨t', ht'⟩ : ∃ t', ts[i + 1]? = some t' := ⟨_, List.getElem?_eq_getElem hb'⟩
        have lt : t < t' := by
          have q := List.pairwise_iff_getElem.mp hs i (i + 1) hilt hb' (by omega)
          rw [(List.getElem?_eq_some_iff.mp hti).2, (List.getElem?_eq_some_iff.mp ht').2] at q
          exact q
        have e : eOf ts (i + 1) = t' - 1 := by unfold eOf; rw [ht']
        rw [e]
        refine ev_is (ev_op (ev_op (ev_var rfl) (ev_op (ev_var rfl) ev_c rv_I0) (rv_ixL (v := nV t') (sq_of (E3 _ _ ht)) (atI_nat (j := i + 1) (by rw [List.getElem?_map, ht']; rfl)))) ev_c rv_I0) ?_
        show V.int ((t' : Int) - 1) = V.int ((t' - 1 : Nat) : Int)
        congr 1
        omega
      · have hb' := of_decide_eq_false hb
        have e : eOf ts (i + 1) = SctDay.DAYS := by
          unfold eOf
          rw [List.getElem?_eq_none (by omega)]
        rw [e]
        exact ev_c
      · have E4 := E3.trans e4
        have hf4 := e4 _ _ hf3
        have pr4 : Paired (TrAt H4) qs (tri (eOf ts i) ((ts.take i).foldl (stp f) [])) := paired_imp (fun _ _ q => e4 _ _ q) pr3
        have st := fold_take (f := stp f) (b := ([] : List (Nat × Nat))) hti
        have eti : eOf ts i = t - 1 := by unfold eOf; rw [hti]
        rw [eti] at pr4
        have hql : qs.length ≤ i := by
          rw [Paired.length pr4, tri_len]
          have := fold_len (f := f) (ts.take i) []
          rw [List.length_take, List.length_nil] at this
          omega
        -- the new stretch
        have app : ¬ (((ts.take i).foldl (stp f) []).getLast?.map fun (y : Nat × Nat) => y.2) = some (f t) → ∀ H5, Ex H4 H5 →
            tDrop (tBM K "list" rAppend (tVar 2) (tCons (tTup (tCons (tVar 4) (tCons (tVar 5) (tCons (tOp (rIxL K) (tVar 1) (tVar 3)) tNil)))) tNil))
              { nx := (fun σ' H' => ∃ qs v3 v4 v5, σ' = [some (.ref tp), some (.ref wp), some (.ref fp), v3, v4, v5] ∧ Ex H H' ∧ H' fp = some (.lst (qs.map V.ref)) ∧ Paired (TrAt H') qs (tri (eOf ts (i + 1)) ((ts.take (i + 1)).foldl (stp f) []))), rt := fun _ _ => True }
              [some (.ref tp), some (.ref wp), some (.ref fp), some (.int (i : Int)), some (nV t), some (nV (eOf ts (i + 1)))] H5 := fun hn H5 e5 => by
          refine s_appU (e5 _ _ hf4) (ev_var rfl) (eu_tup (ea_cons (ev_var rfl) (ea_cons (ev_var rfl) (ea_cons (ev_op (ev_var rfl) (ev_var rfl) (rv_ixL (v := nV (f t)) (sq_of (e5 _ _ (E4 _ _ hw))) (atI_nat hwi))) ea_nil))) (by show 3 ≤ 100000; decide)) (by rw [List.length_map]; omega) fun p H6 np e6 hp => ?_
          refine ⟨qs ++ [p], _, _, _, rfl, Ex.mut ((E4.trans e5).trans e6) nf, by rw [List.map_append]; exact upd_same, ?_⟩
          rw [st, stp_no hn, tri_snoc]
          have hf6 : H6 fp = some (.lst (qs.map V.ref)) := e6 _ _ (e5 _ _ hf4)
          refine paired_app (paired_imp (fun q y h => ?_) pr4) ?_
          · have z := e6 _ _ (e5 _ _ h)
            show upd H6 fp _ q = _
            rw [upd_ne (ne_of z hf6 (by intro q; cases q))]
            exact z
          · show upd H6 fp _ p = _
            rw [upd_ne (ne_of hp hf6 (by intro q; cases q))]
            exact hp
        cases hr : (ts.take i).foldl (stp f) [] with
        | nil =>
          have hq0 : qs = [] := by
            have := Paired.length pr4
            rw [hr] at this
            exact List.length_eq_zero_iff.mp this
          refine s_if (b := false) (et_is (et_and (b := true) (et_tru (ev_var rfl) hf4) (fun q => by rw [hq0] at q; cases q)) (by rw [hq0]; rfl)) (fun q => by cases q) (fun _ H5 e5 => app (by rw [hr]; exact fun q => by cases q) H5 e5)
        | cons r0 rr =>
          obtain ⟨r', y, er⟩ := snoc_of (show r0 :: rr ≠ [] from fun z => by cases z)
          rw [er] at hr
          rw [hr, tri_snoc] at pr4
          obtain ⟨q0, q, eq, pr0, hq⟩ := paired_snoc_inv pr4
          have hlast : (((ts.take i).foldl (stp f) []).getLast?.map fun (y : Nat × Nat) => y.2) = some y.2 := by rw [hr, List.getLast?_append]; rfl
          subst eq
          have hf4' : H4 fp = some (.lst (q0.map V.ref ++ [.ref q])) := by rw [hf4, List.map_append]; rfl
          refine s_if (b := y.2 == f t) (et_is (et_and (et_tru (ev_var rfl) hf4') (fun _ => et_test (ev_op (ev_op (ev_op (ev_var rfl) (ev_un ev_c ru_neg) (rv_ixL (v := .ref q) (sq_of hf4') (atI_last _ _))) ev_c (rv_ixT (v := nV y.2) (st_of hq) rfl))
            (ev_op (ev_var rfl) (ev_var rfl) (rv_ixL (v := nV (f t)) (sq_of (E4 _ _ hw)) (atI_nat hwi))) (rv_eq rfl)))) (by rw [dec_eq, show (!(q0.map V.ref ++ [V.ref q]).isEmpty) = true by cases q0 <;> rfl, Bool.true_and])) (fun hb H5 e5 => ?_) (fun hb H5 e5 => ?_)
          · have ey : y.2 = f t := eq_of_beq hb
            have hf5 := e5 _ _ hf4'
            refine (eu_tup (σ := [some (.ref tp), some (.ref wp), some (.ref fp), some (.int (i : Int)), some (nV t), some (nV (eOf ts (i + 1)))]) (ea_cons (ev_op (ev_op (ev_var (i := 2) rfl) (ev_un ev_c ru_neg) (rv_ixL (v := .ref q) (sq_of hf5) (atI_last _ _))) ev_c (rv_ixT (v := nV y.1) (st_of (e5 _ _ hq)) rfl)) (ea_cons (ev_var (i := 5) rfl) (ea_cons (ev_op (ev_var (i := 1) rfl) (ev_var (i := 3) rfl) (rv_ixL (v := nV (f t)) (sq_of (e5 _ _ (E4 _ _ hw))) (atI_nat hwi))) ea_nil))) (by show 3 ≤ 100000; decide)) H5 (Ex.refl _) _ fun p H6 np e6 hp => ?_
            refine ⟨_, rfl, _, rfl, ?_⟩
            have hf6 := e6 _ _ hf5
            refine rv_setLast hf6 ?_
            refine ⟨q0 ++ [p], _, _, _, rfl, Ex.mut ((E4.trans e5).trans e6) nf, by rw [List.map_append]; exact upd_same, ?_⟩
            rw [st, stp_yes (by rw [hlast, ey]), hr, tri_snoc]
            refine paired_app (paired_imp (fun q' y' h => ?_) pr0) ?_
            · have z := e6 _ _ (e5 _ _ h)
              show upd H6 fp _ q' = _
              rw [upd_ne (ne_of z hf6 (by intro q; cases q))]
              exact z
            · show upd H6 fp _ p = _
              rw [upd_ne (ne_of hp hf6 (by intro q; cases q)), ey]
              exact hp
          · refine app (by
              rw [hlast]
              exact fun z => by
                rw [Option.some.inj z, beq_self_eq_true] at hb
                cases hb) H5 e5
    · rintro σ' H2 ⟨qs, v3, v4, v5, rfl, e2, hf2, pr⟩
      rw [hlen, List.take_length] at pr
      have e : eOf ts ts.length = SctDay.DAYS := by
        unfold eOf
        rw [List.getElem?_eq_none (Nat.le_refl _)]
      rw [e] at pr
      exact s_ret (v := .ref fp) (ev_var rfl) fun H3 e3 => k fp H3 nf (e2.trans e3) (Tris.ex e3 ⟨qs, hf2, pr⟩)
end
end Bd
namespace Bd
open PySem PySem.Spec PyProof.Rows L2 Evl
theorem dd_len : ∀ l : List Nat, (dd l).length ≤ l.length
  | [] => Nat.le_refl _
  | a :: l => by
    have ih := dd_len l
    have e : dd (a :: l) = if (dd l).head? = some a then dd l else a :: dd l := rfl
    rw [e, List.length_cons]
    split
    · omega
    · rw [List.length_cons]
      omega
theorem behind_len (n : Nat) (l : List Nat) : (SctDay.behind n l).length ≤ l.length := by
  refine Nat.le_trans (dd_len _) ?_
  rw [(List.mergeSort_perm _ _).length_eq]
  exact List.length_filter_le _ _
theorem LaAt.rep {A : Adr} {H : Hp} {p : Addr} {l : List AM} {dx la : Addr} {ps : List Addr} (h : LaAt A H p l dx la ps) : ∀ a ∈ l, RepOk a ∧ a.fixes.length ≤ 4 := fun a ha => by
  obtain ⟨i, hi⟩ := List.mem_iff_getElem?.mp ha
  obtain ⟨p, hp⟩ : ∃ p, ps[i]? = some p := ⟨_, List.getElem?_eq_getElem (by rw [h.am.1]; exact (List.getElem?_eq_some_iff.mp hi).1)⟩
  obtain ⟨_, _, _, _, _, _, hh⟩ := h.am.2 i p a hp hi
  exact ⟨hh.rp, hh.f4⟩
theorem nat_mem {l : List Nat} {n : Nat} : (n : Int) ∈ l.map (fun (n : Nat) => (n : Int)) ↔ n ∈ l := by
  rw [List.mem_map]
  exact ⟨fun ⟨m, z1, z2⟩ => by
    have : m = n := by omega
    rw [← this]
    exact z1, fun q => ⟨n, q, rfl⟩⟩
theorem map_nV (l : List Nat) : l.map nV = (l.map fun (n : Nat) => (n : Int)).map V.int := by
  rw [List.map_map]
  rfl
theorem news_mem {l : List AM} {n : Nat} : (n : Int) ∈ newsI l ↔ n ∈ SctDay.news l := by
  unfold newsI SctDay.news
  rw [List.mem_flatMap, List.mem_flatMap]
  refine exists_congr fun a => and_congr_right fun _ => ?_
  rw [List.mem_cons, List.mem_cons, List.mem_map, List.mem_cons, List.mem_append, List.mem_map, Option.mem_toList]
  have e : (n : Int) = wdr a ↔ a.void = some n := by
    unfold wdr
    cases a.void with
    | none => exact ⟨fun z => by
        have z' : (n : Int) = -1 := z
        omega, fun z => by cases z⟩
    | some v => exact ⟨fun z => by
        have : (n : Int) = (v : Int) := z
        congr 1
        omega, fun z => by rw [Option.some.inj z]⟩
  rw [e]
  constructor
  · rintro (z | z | ⟨f, z1, z2⟩)
    · exact .inl (by omega)
    · exact .inr (.inr z)
    · exact .inr (.inl ⟨f, z1, by omega⟩)
  · rintro (z | ⟨f, z1, z2⟩ | z)
    · exact .inl (by omega)
    · exact .inr (.inr ⟨f, z1, by omega⟩)
    · exact .inr (.inl z)
theorem news_len : ∀ l : List AM, (∀ a ∈ l, a.fixes.length ≤ 4) → (SctDay.news l).length ≤ 6 * l.length
  | [], _ => Nat.le_refl _
  | a :: l, h => by
    have ih := news_len l fun b hb => h b (List.mem_cons_of_mem _ hb)
    have h4 := h a List.mem_cons_self
    have e : SctDay.news (a :: l) = (a.known :: (a.fixes.map (fun (f : Nat × Nat) => f.1) ++ a.void.toList)) ++ SctDay.news l := rfl
    have e2 : a.void.toList.length ≤ 1 := by cases a.void <;> simp
    rw [e, List.length_append, List.length_cons, List.length_append, List.length_map, List.length_cons]
    omega
def LstP (us : List V) : V → Hp → Prop := fun v H => ∃ p, v = .ref p ∧ H p = some (.lst us)
def TrisP (H0 : Hp) (L : List (Nat × Nat × Nat)) : V → Hp → Prop := fun v H => ∃ p, v = .ref p ∧ H0 p = none ∧ Tris H p L
theorem spp_mono {sp : Sp} {vs : List V} {H : Hp} {P P' : V → Hp → Prop} (h : SpP sp vs H P) (k : ∀ v H2, P v H2 → P' v H2) : SpP sp vs H P' := fun H1 e Q q E => h H1 e Q (fun v H2 e2 p => q v H2 e2 (k v H2 p)) E
def sp_selling (A : Adr) : Sp := fun vs H Q _ => ∃ (L gp : Addr) (l : List AM) (g : GO) (d n x : Nat), vs = [.ref L, .ref gp, nV d, nV n, nV x] ∧ La A H L l ∧ Go A H gp g ∧ l.length ≤ 48 ∧
  ∀ p H2, H p = none → Ex H H2 → Tris H2 p (tri SctDay.DAYS (SctDay.stretches (fun s => SctDay.way l g d s x) n (SctDay.turns l))) → Q (.ref p) H2
def sp_making (A : Adr) : Sp := fun vs H Q _ => ∃ (L gp : Addr) (l : List AM) (g : GO) (n x : Nat), vs = [.ref L, .ref gp, nV n, nV x] ∧ La A H L l ∧ Go A H gp g ∧ l.length ≤ 48 ∧
  ∀ p H2, H p = none → Ex H H2 → Tris H2 p (tri SctDay.DAYS (SctDay.stretches (fun t => SctDay.way l g t t x) n (SctDay.turns l))) → Q (.ref p) H2
def sp_learning (A : Adr) : Sp := fun vs H Q _ => ∃ (L gp : Addr) (l : List AM) (g : GO) (d s n : Nat), vs = [.ref L, .ref gp, nV d, nV s, nV n] ∧ La A H L l ∧ Go A H gp g ∧ l.length ≤ 48 ∧
  ∀ p H2, H p = none → Ex H H2 → Tris H2 p (tri SctDay.DAYS (SctDay.stretches (fun t => SctDay.way l g d s t) n (SctDay.news l))) → Q (.ref p) H2
section
variable {P : Program} {w : World} {K : PySem.W.Frag} {mg : Str → Option Value} {base : Heap} {A : Adr}
theorem spv_way {H : Hp} {L gp : Addr} {l : List AM} {g : GO} (h : La A H L l) (hg : Go A H gp g) (h48 : l.length ≤ 48) (d s x : Nat) : SpV (sp_way A) [.ref L, .ref gp, nV d, nV s, nV x] H (nV (SctDay.way l g d s x)) := fun H1 e Q q E => ⟨L, gp, l, g, d, s, x, rfl, h.ex e, hg.ex e, h48, q⟩
theorem spp_days1 {H : Hp} {L : Addr} {l : List AM} (h : La A H L l) (h48 : l.length ≤ 48) : SpP (sp_selling_days A) [.ref L] H fun v H2 => ∃ p, v = .ref p ∧ H2 p = some (.lst ((solds l).map nV)) := fun H1 e Q q E => ⟨L, l, rfl, h.ex e, h48, fun p H2 e2 hp => q (.ref p) H2 e2 ⟨p, rfl, hp⟩⟩
theorem spp_days2 {H : Hp} {L : Addr} {l : List AM} (h : La A H L l) (h48 : l.length ≤ 48) : SpP (sp_making_days A) [.ref L] H fun v H2 => ∃ p, v = .ref p ∧ H2 p = some (.lst ((SctDay.turns l).map nV)) := fun H1 e Q q E => ⟨L, l, rfl, h.ex e, h48, fun p H2 e2 hp => q (.ref p) H2 e2 ⟨p, rfl, hp⟩⟩
theorem spp_days3 {H : Hp} {L : Addr} {l : List AM} (h : La A H L l) (h48 : l.length ≤ 48) : SpP (sp_learning_days A) [.ref L] H fun v H2 => ∃ p, v = .ref p ∧ H2 p = some (.lst ((newsI l).map V.int)) := fun H1 e Q q E => ⟨L, l, rfl, h.ex e, h48, fun p H2 e2 hp => q (.ref p) H2 e2 ⟨p, rfl, hp⟩⟩
theorem spp_turns_from {H : Hp} {dp : Addr} {ds : List Int} {n : Nat} {l : List Nat} (h : H dp = some (.lst (ds.map V.int))) (hl : ds.length ≤ 1000) (hm : ∀ m : Nat, n < m → ((m : Int) ∈ ds ↔ m ∈ l)) : SpP sp_turns_from [.ref dp, nV n] H fun v H2 => ∃ p, v = .ref p ∧ H2 p = some (.lst ((n :: SctDay.behind n l).map nV)) := fun H1 e Q q E =>
  ⟨dp, ds, n, l, rfl, e _ _ h, hl, hm, fun p H2 e2 hp => q (.ref p) H2 e2 ⟨p, rfl, hp⟩⟩
theorem spp_stretches {H : Hp} {tp wp : Addr} {n : Nat} {l : List Nat} {f : Nat → Nat} (h : H tp = some (.lst ((n :: SctDay.behind n l).map nV))) (hw : H wp = some (.lst ((n :: SctDay.behind n l).map fun t => nV (f t)))) (hl : l.length ≤ 999) : SpP sp_stretches [.ref tp, .ref wp] H fun v H2 => ∃ p, v = .ref p ∧ H p = none ∧ Tris H2 p (tri SctDay.DAYS (SctDay.stretches f n l)) := fun H1 e Q q E =>
  ⟨tp, wp, n :: SctDay.behind n l, f, rfl, e _ _ h, e _ _ hw, by have := behind_len n l; rw [List.length_cons]; omega, List.pairwise_cons.mpr ⟨fun b hb => ((behind_mem n l b).mp hb).2.1, behind_sorted n l⟩, fun p H2 np e2 hp => q (.ref p) H2 e2 ⟨p, rfl, fresh_back e np, hp⟩⟩
theorem lc_ways {σ : L2.St} {H : Hp} {tl te : TE} {tp : Addr} {ts : List Nat} {f : Nat → Nat} {j : Nat} {vs : List Nat} (hv : ∀ y, wipe ((wipe σ vs).set j (some y)) vs = wipe σ vs) (h : Ev tl σ H (.ref tp)) (ht : H tp = some (.lst (ts.map nV))) (hl : ts.length ≤ 1000)
    (he : ∀ (t : Nat) H1, Ex H H1 → Ev te ((wipe σ vs).set j (some (nV t))) H1 (nV (f t))) : EvP (tLc (iList K tl) (gName j) tYes te vs) σ H fun v H1 => ∃ p, v = .ref p ∧ H p = none ∧ H1 p = some (.lst (ts.map fun t => nV (f t))) := by
  have hlen : (ts.map nV).length = ts.length := List.length_map ..
  refine el_lcv (n := (ts.map nV).length) (f := fun i => nV (f (ts.getD i 0))) (ep_lcL (K := K) (xs := ts.map nV) (fun i => (wipe σ vs).set j (some (nV (ts.getD i 0)))) _ stays_val h (sq_of ht) (by omega) ?_ ?_ ?_) ?_
  · intro i x H' hx e Q' q
    obtain ⟨t, ht', rfl⟩ := map_get hx
    rw [getD_of ht'] at q
    exact q
  · intro i x _
    exact hv _
  · intro i x H' hx e
    exact ep_of_ev (he _ _ e)
  · rw [hlen]
    exact range_map (fun t => nV (f t)) 0 ts
theorem sc_Law_selling : FnScope ["self", "goods", "made", "first", "day", "turns", "turn"] ps_Law_selling (defScope s_Law_selling) := ⟨rfl, rfl, rfl, by decide +kernel, rfl, by decide +kernel, by decide +kernel⟩
theorem ok_selling (T : Txt K mg A) : Cal P w K mg base CX0 5 A.fLaw_selling ps_Law_selling (sp_selling A) := by
  have sc := sc_Law_selling
  have c_Law_way : Cal P w K mg base CX0 4 _ _ _ := ok_way T
  have c_Law_selling_days : Cal P w K mg base CX0 1 _ _ _ := ok_selling_days T
  have c_turns_from : Cal P w K mg base CX0 1 _ _ _ := ok_turns_from T
  have c_stretches : Cal P w K mg base CX0 1 _ _ _ := ok_stretches T
  refine T.dLaw_selling.ok sc (fun vs H Q E h => ?_) (fun cdv Ar outer s H vs Q E hr h => ⟨_, (pss_cons (ps_set (i := 5) sc.nd rfl (Or.inl rfl) (pcall c_turns_from T.gturns_from (hr.mono (by decide)) pass0 (by exact (pa_cons (pmeth0 c_Law_selling_days (pv 0) T.lLaw T.eLaw_selling_days (hr.mono (by decide)) pass0) (pa_cons (pv 3) pa_nil)))))
    (pss_one (ps_ret (pcall c_stretches T.gstretches (hr.mono (by decide)) pass0 (by exact (pa_cons (pv 5) (pa_cons (pe_lc (own := [("turn", 6)]) (hc := by rfl) sc.nd (pi_list (pv 5)) (blkOk_by (N := ["self", "goods", "made", "first", "day", "turns", "turn"]) (sc := defScope s_Law_selling) (by decide +kernel)) (fun _ _ _ _ _ => by exact pg_name (i := 6) sc.nd rfl (Or.inl rfl)) (fun _ _ _ _ _ => by exact pts_nil) (fun _ _ _ _ _ => by exact (pmeth c_Law_way (pv 0) T.lLaw T.eLaw_way (hr.mono (by decide)) pass0 (by exact (pa_cons (pv 1) (pa_cons (pv 2) (pa_cons (pv 6) (pa_cons (pv 4) pa_nil)))))))) pa_nil))))))), ?_⟩)
  · obtain ⟨L, gp, l, g, d, n, x, rfl, _⟩ := h
    rfl
  · obtain ⟨L, gp, l, g, d, n, x, rfl, hLa, hg, h48, k⟩ := h
    obtain ⟨dx, la, ps, h⟩ := id hLa
    rw [← sell_eq (fun a ha => (h.rep a ha).1) g d x n] at k
    have sl : (solds l).length = l.length := List.length_map ..
    refine q_asgP (P := LstP ((n :: SctDay.behind n (solds l)).map nV)) (ep_callP1 (ep_meth (ev_var rfl) h.ob (l_no (by decide +kernel)) ea_nil (spp_days1 hLa h48)) (ev_var rfl) fun v H1 e1 ⟨p, ev, hp⟩ => by
      rw [ev]
      rw [map_nV] at hp
      exact spp_turns_from hp (by rw [List.length_map]; omega) fun m _ => nat_mem) fun v H1 e1 ⟨tp, ev, ht⟩ => ?_
    subst ev
    have hl1 := hLa.ex e1
    obtain ⟨dx1, la1, ps1, h1⟩ := id hl1
    refine s_retP (P := TrisP H1 (tri SctDay.DAYS (SctDay.stretches (fun s => SctDay.way l g d s x) n (solds l)))) (ep_callP2 (ev_var rfl) (lc_ways (K := K) (f := fun s => SctDay.way l g d s x) (fun y => rfl) (ev_var rfl) ht (by have := behind_len n (solds l); rw [List.length_cons]; omega) fun t H2 e2 => ev_meth (ev_var rfl) (e2 _ _ h1.ob) (l_no (by decide +kernel)) (ea_cons (ev_var rfl) (ea_cons (ev_var rfl) (ea_cons (ev_var rfl) (ea_cons (ev_var rfl) ea_nil)))) (spv_way (hl1.ex e2) (hg.ex (e1.trans e2)) h48 d t x)) fun v H2 e2 ⟨wp, ev, nw, hw⟩ => by
      rw [ev]
      exact spp_mono (spp_stretches (e2 _ _ ht) hw (by omega)) fun v H3 ⟨p, a, b, c⟩ => ⟨p, a, fresh_back e2 b, c⟩) fun v H2 e2 ⟨p, ev, np, hp⟩ => ?_
    rw [ev]
    exact k p H2 (fresh_back e1 np) (e1.trans e2) hp
theorem sc_Law_making : FnScope ["self", "goods", "first", "day", "turns", "turn"] ps_Law_making (defScope s_Law_making) := ⟨rfl, rfl, rfl, by decide +kernel, rfl, by decide +kernel, by decide +kernel⟩
theorem ok_making (T : Txt K mg A) : Cal P w K mg base CX0 5 A.fLaw_making ps_Law_making (sp_making A) := by
  have sc := sc_Law_making
  have c_Law_way : Cal P w K mg base CX0 4 _ _ _ := ok_way T
  have c_Law_making_days : Cal P w K mg base CX0 1 _ _ _ := ok_making_days T
  have c_turns_from : Cal P w K mg base CX0 1 _ _ _ := ok_turns_from T
  have c_stretches : Cal P w K mg base CX0 1 _ _ _ := ok_stretches T
  refine T.dLaw_making.ok sc (fun vs H Q E h => ?_) (fun cdv Ar outer s H vs Q E hr h => ⟨_, (pss_cons (ps_set (i := 4) sc.nd rfl (Or.inl rfl) (pcall c_turns_from T.gturns_from (hr.mono (by decide)) pass0 (by exact (pa_cons (pmeth0 c_Law_making_days (pv 0) T.lLaw T.eLaw_making_days (hr.mono (by decide)) pass0) (pa_cons (pv 2) pa_nil)))))
    (pss_one (ps_ret (pcall c_stretches T.gstretches (hr.mono (by decide)) pass0 (by exact (pa_cons (pv 4) (pa_cons (pe_lc (own := [("turn", 5)]) (hc := by rfl) sc.nd (pi_list (pv 4)) (blkOk_by (N := ["self", "goods", "first", "day", "turns", "turn"]) (sc := defScope s_Law_making) (by decide +kernel)) (fun _ _ _ _ _ => by exact pg_name (i := 5) sc.nd rfl (Or.inl rfl)) (fun _ _ _ _ _ => by exact pts_nil) (fun _ _ _ _ _ => by exact (pmeth c_Law_way (pv 0) T.lLaw T.eLaw_way (hr.mono (by decide)) pass0 (by exact (pa_cons (pv 1) (pa_cons (pv 5) (pa_cons (pv 5) (pa_cons (pv 3) pa_nil)))))))) pa_nil))))))), ?_⟩)
  · obtain ⟨L, gp, l, g, n, x, rfl, _⟩ := h
    rfl
  · obtain ⟨L, gp, l, g, n, x, rfl, hLa, hg, h48, k⟩ := h
    obtain ⟨dx, la, ps, h⟩ := id hLa
    have sl := turns_len l
    refine q_asgP (P := LstP ((n :: SctDay.behind n (SctDay.turns l)).map nV)) (ep_callP1 (ep_meth (ev_var rfl) h.ob (l_no (by decide +kernel)) ea_nil (spp_days2 hLa h48)) (ev_var rfl) fun v H1 e1 ⟨p, ev, hp⟩ => by
      rw [ev]
      rw [map_nV] at hp
      exact spp_turns_from hp (by rw [List.length_map]; omega) fun m _ => nat_mem) fun v H1 e1 ⟨tp, ev, ht⟩ => ?_
    subst ev
    have hl1 := hLa.ex e1
    obtain ⟨dx1, la1, ps1, h1⟩ := id hl1
    refine s_retP (P := TrisP H1 (tri SctDay.DAYS (SctDay.stretches (fun t => SctDay.way l g t t x) n (SctDay.turns l)))) (ep_callP2 (ev_var rfl) (lc_ways (K := K) (f := fun t => SctDay.way l g t t x) (fun y => rfl) (ev_var rfl) ht (by have := behind_len n (SctDay.turns l); rw [List.length_cons]; omega) fun t H2 e2 => ev_meth (ev_var rfl) (e2 _ _ h1.ob) (l_no (by decide +kernel)) (ea_cons (ev_var rfl) (ea_cons (ev_var rfl) (ea_cons (ev_var rfl) (ea_cons (ev_var rfl) ea_nil)))) (spv_way (hl1.ex e2) (hg.ex (e1.trans e2)) h48 t t x)) fun v H2 e2 ⟨wp, ev, nw, hw⟩ => by
      rw [ev]
      exact spp_mono (spp_stretches (e2 _ _ ht) hw (by omega)) fun v H3 ⟨p, a, b, c⟩ => ⟨p, a, fresh_back e2 b, c⟩) fun v H2 e2 ⟨p, ev, np, hp⟩ => ?_
    rw [ev]
    exact k p H2 (fresh_back e1 np) (e1.trans e2) hp
theorem sc_Law_learning : FnScope ["self", "goods", "made", "sold", "first", "turns", "turn"] ps_Law_learning (defScope s_Law_learning) := ⟨rfl, rfl, rfl, by decide +kernel, rfl, by decide +kernel, by decide +kernel⟩
theorem ok_learning (T : Txt K mg A) : Cal P w K mg base CX0 5 A.fLaw_learning ps_Law_learning (sp_learning A) := by
  have sc := sc_Law_learning
  have c_Law_way : Cal P w K mg base CX0 4 _ _ _ := ok_way T
  have c_Law_learning_days : Cal P w K mg base CX0 1 _ _ _ := ok_learning_days T
  have c_turns_from : Cal P w K mg base CX0 1 _ _ _ := ok_turns_from T
  have c_stretches : Cal P w K mg base CX0 1 _ _ _ := ok_stretches T
  refine T.dLaw_learning.ok sc (fun vs H Q E h => ?_) (fun cdv Ar outer s H vs Q E hr h => ⟨_, (pss_cons (ps_set (i := 5) sc.nd rfl (Or.inl rfl) (pcall c_turns_from T.gturns_from (hr.mono (by decide)) pass0 (by exact (pa_cons (pmeth0 c_Law_learning_days (pv 0) T.lLaw T.eLaw_learning_days (hr.mono (by decide)) pass0) (pa_cons (pv 4) pa_nil)))))
    (pss_one (ps_ret (pcall c_stretches T.gstretches (hr.mono (by decide)) pass0 (by exact (pa_cons (pv 5) (pa_cons (pe_lc (own := [("turn", 6)]) (hc := by rfl) sc.nd (pi_list (pv 5)) (blkOk_by (N := ["self", "goods", "made", "sold", "first", "turns", "turn"]) (sc := defScope s_Law_learning) (by decide +kernel)) (fun _ _ _ _ _ => by exact pg_name (i := 6) sc.nd rfl (Or.inl rfl)) (fun _ _ _ _ _ => by exact pts_nil) (fun _ _ _ _ _ => by exact (pmeth c_Law_way (pv 0) T.lLaw T.eLaw_way (hr.mono (by decide)) pass0 (by exact (pa_cons (pv 1) (pa_cons (pv 2) (pa_cons (pv 3) (pa_cons (pv 6) pa_nil)))))))) pa_nil))))))), ?_⟩)
  · obtain ⟨L, gp, l, g, d, s, n, rfl, _⟩ := h
    rfl
  · obtain ⟨L, gp, l, g, d, sd, n, rfl, hLa, hg, h48, k⟩ := h
    obtain ⟨dx, la, ps, h⟩ := id hLa
    have sl := newsI_len l fun a ha => (h.rep a ha).2
    have sl2 : (SctDay.news l).length ≤ 6 * l.length := by
      refine news_len l fun a ha => (h.rep a ha).2
    refine q_asgP (P := LstP ((n :: SctDay.behind n (SctDay.news l)).map nV)) (ep_callP1 (ep_meth (ev_var rfl) h.ob (l_no (by decide +kernel)) ea_nil (spp_days3 hLa h48)) (ev_var rfl) fun v H1 e1 ⟨p, ev, hp⟩ => by
      rw [ev]
      exact spp_turns_from hp (by omega) fun m _ => news_mem) fun v H1 e1 ⟨tp, ev, ht⟩ => ?_
    subst ev
    have hl1 := hLa.ex e1
    obtain ⟨dx1, la1, ps1, h1⟩ := id hl1
    refine s_retP (P := TrisP H1 (tri SctDay.DAYS (SctDay.stretches (fun t => SctDay.way l g d sd t) n (SctDay.news l)))) (ep_callP2 (ev_var rfl) (lc_ways (K := K) (f := fun t => SctDay.way l g d sd t) (fun y => rfl) (ev_var rfl) ht (by have := behind_len n (SctDay.news l); rw [List.length_cons]; omega) fun t H2 e2 => ev_meth (ev_var rfl) (e2 _ _ h1.ob) (l_no (by decide +kernel)) (ea_cons (ev_var rfl) (ea_cons (ev_var rfl) (ea_cons (ev_var rfl) (ea_cons (ev_var rfl) ea_nil)))) (spv_way (hl1.ex e2) (hg.ex (e1.trans e2)) h48 d sd t)) fun v H2 e2 ⟨wp, ev, nw, hw⟩ => by
      rw [ev]
      exact spp_mono (spp_stretches (e2 _ _ ht) hw (by omega)) fun v H3 ⟨p, a, b, c⟩ => ⟨p, a, fresh_back e2 b, c⟩) fun v H2 e2 ⟨p, ev, np, hp⟩ => ?_
    rw [ev]
    exact k p H2 (fresh_back e1 np) (e1.trans e2) hp
end
end Bd
namespace Bd
open PySem PySem.Spec PyProof.Rows L2 Evl
/-! ### refusals -/
def Fails (A : Adr) (n : Int) (E : XK) (H : Hp) : Prop := ∀ H1 d, Ex H H1 → H1 d = some (.xd [("number", .int n)]) → E (.ref A.cRefused) (some d) H1
theorem Fails.ex {A : Adr} {n : Int} {E : XK} {H H' : Hp} (e : Ex H H') (h : Fails A n E H) : Fails A n E H' := fun H1 d e1 hd => h H1 d (e.trans e1) hd
def sp_RefusedI (A : Adr) : Sp := fun vs H Q _ => ∃ (a : Addr) (v : V), vs = [.ref a, v] ∧ H a = some (exo a A.cRefused none) ∧ ∀ dx, H dx = none → dx ≠ a → Q .non (upd (upd H dx (exd dx [("number", v)])) a (exo a A.cRefused (some dx)))
def sp_need (A : Adr) : Sp := fun vs H Q E => ∃ (b : Bool) (n : Int), vs = [.bl b, .int n] ∧ (b = true → RetV .non H Q) ∧ (b = false → Fails A n E H)
def sp_are_days (K : PySem.W.Frag) : Sp := fun vs H Q _ => ∃ (np : Addr) (zs : List Int), vs = [.ref np] ∧ SqL K H np (zs.map V.int) ∧ zs.length ≤ 40000 ∧ RetV (.bl (zs.all SctDay.isDay)) H Q
theorem isDay_is (z : Int) : SctDay.isDay z = (decide (0 ≤ z) && decide (z ≤ 100000)) := rfl
section
variable {K : PySem.W.Frag} {σ : L2.St} {H H' : Hp} {D : Ends} {tz tu : TS} {g : TG} {ta tb tn te tl : TE} {A : Adr} {E : XK}
theorem q_must {b : Bool} {m : Int} (hb : Ev tb σ H (.bl b)) (hn : Ev tn σ H (.int m)) (h2 : b = false → Fails A m E H) (h1 : b = true → ∀ H1, Ex H H1 → tz D σ H1) : tSeq (tDrop (tCall (sp_need A) [] E (tCons tb (tCons tn tNil)))) tz D σ H :=
  hb H (Ex.refl _) _ fun H1 e1 => hn H1 e1 _ fun H2 e2 => ⟨b, m, rfl, fun q H3 e3 => h1 q H3 ((e1.trans e2).trans e3), fun q => (h2 q).ex (e1.trans e2)⟩
theorem s_must {b : Bool} {m : Int} (hb : Ev tb σ H (.bl b)) (hn : Ev tn σ H (.int m)) (h2 : b = false → Fails A m E H) (h1 : b = true → ∀ H1, Ex H H1 → D.nx σ H1) : tDrop (tCall (sp_need A) [] E (tCons tb (tCons tn tNil))) D σ H :=
  hb H (Ex.refl _) _ fun H1 e1 => hn H1 e1 _ fun H2 e2 => ⟨b, m, rfl, fun q H3 e3 => h1 q H3 ((e1.trans e2).trans e3), fun q => (h2 q).ex (e1.trans e2)⟩
theorem meth_raw {C a dx : Addr} {fs : List (Str × V)} {m : Str} {sp : Sp} {vs : List V} {tr : TA} {Q : VK} (h : Ev ta σ H (.ref a)) (ho : H a = some (.ins C dx fs)) (hl : fs.lookup m = none) (hr : EvA tr σ H vs) (hs : ∀ H1, Ex H H1 → sp (.ref a :: (vs ++ [])) H1 Q E) : tMeth C m sp [] E ta tr σ H Q :=
  h H (Ex.refl _) _ fun H2 e2 => ⟨a, dx, fs, rfl, e2 _ _ ho, hl, hr H2 e2 _ fun H3 e3 => hs H3 (e2.trans e3)⟩
theorem call_raw {sp : Sp} {vs : List V} {tr : TA} {Q : VK} (hr : EvA tr σ H vs) (hs : ∀ H1, Ex H H1 → sp (vs ++ []) H1 Q E) : tCall sp [] E tr σ H Q := hr H (Ex.refl _) _ fun H1 e1 => hs H1 e1
theorem ev_lt2 {ta tb tc : TE} {z lo hi : Int} (h1 : Ev ta σ H (.int lo)) (h2 : Ev tb σ H (.int z)) (h3 : Ev tc σ H (.int hi)) : Ev (tChain (rI0 fun i j => .bl (decide (i ≤ j))) (rI0 fun i j => .bl (decide (i ≤ j))) ta tb tc) σ H (.bl (decide (lo ≤ z) && decide (z ≤ hi))) := ev_chain h1 h2 h3 rv_I0 rv_I0
theorem ev_neg {n : Int} (h : Ev ta σ H (.int n)) : Ev (tUn (rU fun i => .int (-i)) ta) σ H (.int (-n)) := ev_un h ru_neg
theorem ev_callV {sp : Sp} {vs : List V} {tr : TA} {z : V} (h : EvA tr σ H vs) (hs : SpV sp (vs ++ []) H z) : Ev (tCall sp [] E tr) σ H z := ev_call h hs
/-- f([..]) : a new list as the one argument -/
theorem ev_callL {sp : Sp} {us : List V} {z : V} (h : EvL ta σ H us) (hs : ∀ p H1, Ex H H1 → H1 p = some (.lst us) → SpV sp [.ref p] H1 z) : Ev (tCall sp [] E (tCons ta tNil)) σ H z := fun H1 e Q q =>
  h H1 e _ fun p H2 np e2 hp => hs p H2 (e.trans e2) hp H2 (Ex.refl _) Q (fun H3 e3 => q H3 (e2.trans e3)) E
theorem spv_are_days {np : Addr} {zs : List Int} (h : SqL K H np (zs.map V.int)) (hl : zs.length ≤ 40000) : SpV (sp_are_days K) [.ref np] H (.bl (zs.all SctDay.isDay)) := fun H1 e Q q E => ⟨np, zs, rfl, ex_l e h, hl, q⟩
end
/-! ### the desk -/
def deF (L gd bd : Addr) : List (Str × V) := [("law", .ref L), ("goods", .ref gd), ("batches", .ref bd)]
def baF (b : Nat × Nat) : List (Str × V) := [("goods", nV b.1), ("made", nV b.2)]
def Ba (A : Adr) (H : Hp) (p : Addr) (b : Nat × Nat) : Prop := ∃ dx, H p = some (.ins A.cBatch dx (baF b))
structure DRel {α : Type} (R : Addr → α → Prop) (kvs : List (L2.Key × V)) (rows : SctDay.Rows α) : Prop where
  nd : (kvs.map (·.1)).Nodup
  nat : ∀ k ∈ kvs.map (·.1), ∃ n : Nat, k = Sum.inl (n : Int)
  no : ∀ n : Nat, valV kvs (Sum.inl (n : Int)) = none ↔ rows.at_ n = none
  yes : ∀ (n : Nat) (v : V), valV kvs (Sum.inl (n : Int)) = some v → ∃ p a, v = .ref p ∧ rows.at_ n = some a ∧ R p a
theorem DRel.mono {α : Type} {R R' : Addr → α → Prop} {kvs : List (L2.Key × V)} {rows : SctDay.Rows α} (h : DRel R kvs rows) (k : ∀ p a, R p a → R' p a) : DRel R' kvs rows := ⟨h.nd, h.nat, h.no, fun n v hv => by
  obtain ⟨p, a, h1, h2, h3⟩ := h.yes n v hv
  exact ⟨p, a, h1, h2, k p a h3⟩⟩
/-- what the state keeps -/
structure WfS (S : SctDay.State) : Prop where
  l48 : S.law.length ≤ 48
  gs : (S.goods.map (·.1)).Pairwise (· < ·)
  g16 : ∀ n ∈ S.goods.map (·.1), n < 16
  bs : (S.batches.map (·.1)).Pairwise (· < ·)
  b32 : ∀ n ∈ S.batches.map (·.1), n < 32
  bg : ∀ n b, S.batches.at_ n = some b → (S.goods.at_ b.1).isSome = true
  bm : ∀ n b, S.batches.at_ n = some b → b.2 ≤ SctDay.DAYS
structure DkAt (A : Adr) (fr : Addr → Prop) (H : Hp) (D : Addr) (S : SctDay.State) (dx L ldx la gd bd : Addr) (ps : List Addr) (gk bk : List (L2.Key × V)) : Prop where
  ob : H D = some (.ins A.cDesk dx (deF L gd bd))
  lw : LaAt A H L S.law ldx la ps
  gh : H gd = some (.dK gk)
  bh : H bd = some (.dK bk)
  gr : DRel (fun p g => ∃ gdx ca ts, GoAt A H p g gdx ca ts ∧ ca ≠ gd ∧ ca ≠ bd) gk S.goods
  br : DRel (fun p b => Ba A H p b) bk S.batches
  gb : gd ≠ bd
  cn : ∀ p ∈ ps, ∀ C dx' fs ca, H p = some (.ins C dx' fs) → fs.lookup ("corrections" : Str) = some (V.ref ca) → ca ≠ la ∧ ¬ fr ca
  fl : ¬ fr la
  fg : ¬ fr gd
  fb : ¬ fr bd
  fp : ∀ p ∈ ps, ¬ fr p
  wf : WfS S
def Dk (A : Adr) (fr : Addr → Prop) (H : Hp) (D : Addr) (S : SctDay.State) : Prop := ∃ dx L ldx la gd bd ps gk bk, DkAt A fr H D S dx L ldx la gd bd ps gk bk
section
variable {A : Adr} {fr : Addr → Prop} {H H' : Hp} {D : Addr} {S : SctDay.State} {dx L ldx la gd bd : Addr} {ps : List Addr} {gk bk : List (L2.Key × V)}
theorem LaAt.ins {l : List AM} (h : LaAt A H L l ldx la ps) : ∀ p ∈ ps, ∃ C dx' fs, H p = some (.ins C dx' fs) := fun p hp => by
  obtain ⟨i, hi⟩ := List.mem_iff_getElem?.mp hp
  obtain ⟨a, _, _, _, _, _, _, _, hh⟩ := h.am.at_ hi
  exact ⟨_, _, _, hh.ob⟩
theorem DkAt.ex (e : Ex H H') (h : DkAt A fr H D S dx L ldx la gd bd ps gk bk) : DkAt A fr H' D S dx L ldx la gd bd ps gk bk :=
  ⟨e _ _ h.ob, h.lw.ex e, e _ _ h.gh, e _ _ h.bh, h.gr.mono fun p g ⟨gdx, ca, ts, h1, h2⟩ => ⟨gdx, ca, ts, h1.ex e, h2⟩, h.br.mono fun p b ⟨dx, h1⟩ => ⟨dx, e _ _ h1⟩, h.gb, fun p hp C dx' fs ca ho hl => by
    obtain ⟨C2, dx2, fs2, h2⟩ := h.lw.ins p hp
    rw [e _ _ h2] at ho
    cases ho
    exact h.cn p hp _ _ _ ca h2 hl, h.fl, h.fg, h.fb, h.fp, h.wf⟩
theorem Dk.ex (e : Ex H H') (h : Dk A fr H D S) : Dk A fr H' D S := by
  obtain ⟨dx, L, ldx, la, gd, bd, ps, gk, bk, h⟩ := h
  exact ⟨dx, L, ldx, la, gd, bd, ps, gk, bk, h.ex e⟩
theorem d_law : (deF L gd bd).lookup ("law" : Str) = some (.ref L) := lk_here
theorem d_goods : (deF L gd bd).lookup ("goods" : Str) = some (.ref gd) := (lk_past (by decide +kernel)).trans lk_here
theorem d_batches : (deF L gd bd).lookup ("batches" : Str) = some (.ref bd) := (lk_past (by decide +kernel)).trans ((lk_past (by decide +kernel)).trans lk_here)
theorem d_no {m : Str} (h1 : (m == ("law" : Str)) = false) (h2 : (m == ("goods" : Str)) = false) (h3 : (m == ("batches" : Str)) = false) : (deF L gd bd).lookup m = none := (lk_past h1).trans ((lk_past h2).trans ((lk_past h3).trans rfl))
theorem b_goods {b : Nat × Nat} : (baF b).lookup ("goods" : Str) = some (nV b.1) := lk_here
theorem b_made {b : Nat × Nat} : (baF b).lookup ("made" : Str) = some (nV b.2) := (lk_past (by decide +kernel)).trans lk_here
theorem DkAt.law (h : DkAt A fr H D S dx L ldx la gd bd ps gk bk) : La A H L S.law := ⟨ldx, la, ps, h.lw⟩
end
/-- the amendment's address -/
def sp_Desk_amendment (A : Adr) : Sp := fun vs H Q E => ∃ (fr : Addr → Prop) (D : Addr) (S : SctDay.State) (dx L ldx la gd bd : Addr) (ps : List Addr) (gk bk : List (L2.Key × V)) (n : Nat), vs = [.ref D, nV n] ∧ DkAt A fr H D S dx L ldx la gd bd ps gk bk ∧
  (∀ p, ps[n]? = some p → RetV (.ref p) H Q) ∧ (ps[n]? = none → Fails A (-3) E H)
def sp_Desk_own_goods (A : Adr) : Sp := fun vs H Q E => ∃ (fr : Addr → Prop) (D : Addr) (S : SctDay.State) (dx L ldx la gd bd : Addr) (ps : List Addr) (gk bk : List (L2.Key × V)) (n : Nat), vs = [.ref D, nV n] ∧ DkAt A fr H D S dx L ldx la gd bd ps gk bk ∧
  (∀ v, valV gk (Sum.inl (n : Int)) = some v → RetV v H Q) ∧ (valV gk (Sum.inl (n : Int)) = none → Fails A (-3) E H)
def sp_Desk_batch (A : Adr) : Sp := fun vs H Q E => ∃ (fr : Addr → Prop) (D : Addr) (S : SctDay.State) (dx L ldx la gd bd : Addr) (ps : List Addr) (gk bk : List (L2.Key × V)) (n : Nat), vs = [.ref D, nV n] ∧ DkAt A fr H D S dx L ldx la gd bd ps gk bk ∧
  (∀ v, valV bk (Sum.inl (n : Int)) = some v → RetV v H Q) ∧ (valV bk (Sum.inl (n : Int)) = none → Fails A (-3) E H)
section
variable {P : Program} {w : World} {K : PySem.W.Frag} {mg : Str → Option Value} {base : Heap} {A : Adr}
theorem sc_RefusedI : FnScope ["self", "number"] ps_RefusedI (defScope s_RefusedI) := ⟨rfl, rfl, rfl, by decide +kernel, rfl, by decide +kernel, by decide +kernel⟩
theorem ok_RefusedI (T : Txt K mg A) : Cal P w K mg base CX0 1 A.fRefusedI ps_RefusedI (sp_RefusedI A) := by
  have sc := sc_RefusedI
  refine T.dRefusedI.ok sc (fun vs H Q E h => ?_) (fun cdv Ar outer s H vs Q E hr h => ⟨_, (pss_one (ps_ost (pv 0) (pv 1))), ?_⟩)
  · obtain ⟨a, v, rfl, _⟩ := h
    rfl
  · obtain ⟨a, v, rfl, h, k⟩ := h
    exact ⟨_, rfl, _, rfl, a, A.cRefused, rfl, T.rO, T.nRefused_number, .inl ⟨h, fun dx nd ne => k dx nd ne⟩⟩
theorem sc_need : FnScope ["is_right", "number"] ps_need (defScope s_need) := ⟨rfl, rfl, rfl, by decide +kernel, rfl, by decide +kernel, by decide +kernel⟩
theorem ok_need (T : Txt K mg A) : Cal P w K mg base (L2.CX P w) 3 A.fneed ps_need (sp_need A) := by
  have sc := sc_need
  obtain ⟨fd1, F1, b1, kp1⟩ := (ok_RefusedI (P := P) (w := w) (base := base) T).ex
  refine T.dneed.okX sc (fun vs H Q E h => ?_) (fun cdv Ar outer s H vs Q E hr h => ⟨_, (pss_one (ps_if (pt_not (pt_val (pv 0))) (pss_one (ps_raise rfl (takes_of rfl rfl rfl rfl) (pmk_oex T.rO T.rI T.rT F1 (hr.mono (by decide)) b1 .nil pass0 rfl T.gRefused (by exact (pa_cons (pv 1) pa_nil))))) pss_nil)), ?_⟩)
  · obtain ⟨b, n, rfl, _⟩ := h
    rfl
  · obtain ⟨b, n, rfl, k1, k2⟩ := h
    refine s_when (b := !b) (et_not (et_B (ev_var rfl))) (fun hb H1 e1 => ?_) (fun hb H1 e1 => k1 (by simpa using hb) H1 e1)
    have hb' : b = false := by simpa using hb
    refine ⟨_, rfl, by show 1 ≤ 1000; decide, fun a na => ⟨a, .int n, rfl, upd_same, fun dx nd ne => ⟨rfl, dx, [("number", .int n)], upd_same, by rw [upd_ne ne]; exact upd_same, by rw [upd_ne ne] at nd; exact nd, ?_⟩⟩⟩
    refine k2 hb' _ dx (fun b o hbo => ?_) upd_same
    have h1 := e1 _ _ hbo
    have hba : b ≠ a := ne_of_none h1 na
    have hbd : b ≠ dx := fun z => by
      rw [z] at h1
      rw [upd_ne ne, h1] at nd
      cases nd
    rw [upd_ne hbd, del_ne hba, upd_ne hba, upd_ne hbd, upd_ne hba]
    exact h1
theorem sc_are_days : FnScope ["numbers", "number"] ps_are_days (defScope s_are_days) := ⟨rfl, rfl, rfl, by decide +kernel, rfl, by decide +kernel, by decide +kernel⟩
theorem ok_are_days (T : Txt K mg A) : Cal P w K mg base CX0 1 A.fare_days ps_are_days (sp_are_days K) := by
  have sc := sc_are_days
  refine T.dare_days.ok sc (fun vs H Q E h => ?_) (fun cdv Ar outer s H vs Q E hr h => ⟨_, (pss_one (ps_ret (pe_callB (cr_all rfl) (by rfl) T.b_all (by decide +kernel) (pa_cons (pe_lc (own := [("number", 1)]) (hc := by rfl) sc.nd (pi_list (pv 0)) (blkOk_by (N := ["numbers", "number"]) (sc := defScope s_are_days) (by decide +kernel)) (fun _ _ _ _ _ => by exact pg_name (i := 1) sc.nd rfl (Or.inl rfl)) (fun _ _ _ _ _ => by exact pts_nil) (fun _ _ _ _ _ => by exact (pe_chain op_le op_le pe_int (pv 1) (pconst T.gLAST_DAY)))) pa_nil)))), ?_⟩)
  · obtain ⟨np, zs, rfl, _⟩ := h
    rfl
  · obtain ⟨np, zs, rfl, hz, hl, k⟩ := h
    have hlen : (zs.map V.int).length = zs.length := List.length_map ..
    refine s_ret (v := .bl (zs.all SctDay.isDay)) (ev_cbP (el_lcv (n := (zs.map V.int).length) (f := fun i => .bl (SctDay.isDay (zs.getD i 0))) (us := (zs.map SctDay.isDay).map V.bl) (ep_lcL (K := K) (xs := zs.map V.int) (fun i => [some (.ref np), some (.int (zs.getD i 0))]) _ stays_val (ev_var rfl) hz (by omega) ?_ ?_ ?_) ?_) fun v H1 e1 ⟨p, ev, np, hp⟩ => ?_) fun H1 e1 => k H1 e1
    · intro i x H' hx e Q' q
      obtain ⟨z, hz', rfl⟩ := map_get hx
      rw [getD_of hz'] at q
      exact q
    · intro i x _
      rfl
    · intro i x H' hx e
      exact ep_of_ev (ev_is (ev_lt2 ev_c (ev_var rfl) ev_c) (by rw [isDay_is]))
    · rw [hlen, List.map_map]
      exact range_map (fun z => V.bl (SctDay.isDay z)) 0 zs
    · intro H2 e2 Q' q
      refine ⟨p, zs.map SctDay.isDay, by rw [ev], sq_of (e2 _ _ hp), ?_⟩
      have : (zs.map SctDay.isDay).all id = zs.all SctDay.isDay := by rw [List.all_map]; rfl
      rw [this]
      exact q H2 (Ex.refl _)
theorem sc_Desk_amendment : FnScope ["self", "number"] ps_Desk_amendment (defScope s_Desk_amendment) := ⟨rfl, rfl, rfl, by decide +kernel, rfl, by decide +kernel, by decide +kernel⟩
theorem ok_Desk_amendment (T : Txt K mg A) : Cal P w K mg base (L2.CX P w) 4 A.fDesk_amendment ps_Desk_amendment (sp_Desk_amendment A) := by
  have sc := sc_Desk_amendment
  have c_need : Cal P w K mg base (L2.CX P w) 3 _ _ _ := ok_need T
  refine T.dDesk_amendment.okX sc (fun vs H Q E h => ?_) (fun cdv Ar outer s H vs Q E hr h => ⟨_, (pss_cons (ps_expr (pcall c_need T.gneed (hr.mono (by decide)) (passes_call (takes_of rfl rfl rfl rfl) (fun _ _ _ _ z => z)) (by exact (pa_cons (pe_cmpR op_lt (pv 1) (pe_callB call_len_seq (by rfl) T.b_len PySem.boot_len (pa_cons (pe_fld (pe_fld (pv 0) rfl) rfl) pa_nil)) (nomark _)) (pa_cons (pe_un un_neg pe_int) pa_nil)))))
    (pss_one (ps_ret (pe_ix ix_list (pe_fld (pe_fld (pv 0) rfl) rfl) (pv 1) (fun _ _ => rfl))))), ?_⟩)
  · obtain ⟨fr, D, S, dx, L, ldx, la, gd, bd, ps, gk, bk, n, rfl, _⟩ := h
    rfl
  · obtain ⟨fr, D, S, dx, L, ldx, la, gd, bd, ps, gk, bk, n, rfl, h, k1, k2⟩ := h
    have lst : ∀ H1, Ex H H1 → Ev (tFld K (tFld K (tVar 0) "law") "amendments") [some (.ref D), some (nV n)] H1 (.ref la) := fun H1 e1 => ev_fld (ev_fld (ev_var rfl) (h.ex e1).ob T.lDesk T.nDesk_law d_law) (h.ex e1).lw.ob T.lLaw T.nLaw_amendments l_amendments
    refine q_must (b := decide ((n : Int) < ((ps.map V.ref).length : Int))) (ev_op (ev_var rfl) (ev_len (lst H (Ex.refl _)) (sq_of h.lw.li)) rv_I0) (ev_neg ev_c) (fun hb => k2 ?_) (fun hb H1 e1 => ?_)
    · have := of_decide_eq_false hb
      rw [List.length_map] at this
      exact List.getElem?_eq_none (by omega)
    · have := of_decide_eq_true hb
      rw [List.length_map] at this
      obtain ⟨p, hp⟩ : ∃ p, ps[n]? = some p := ⟨_, List.getElem?_eq_getElem (by omega)⟩
      exact s_ret (v := .ref p) (ev_op (lst H1 e1) (ev_var rfl) (rv_ixL (sq_of (h.ex e1).lw.li) (atI_nat (by rw [List.getElem?_map, hp]; rfl)))) fun H2 e2 => k1 p hp H2 (e1.trans e2)
theorem sc_Desk_own_goods : FnScope ["self", "number"] ps_Desk_own_goods (defScope s_Desk_own_goods) := ⟨rfl, rfl, rfl, by decide +kernel, rfl, by decide +kernel, by decide +kernel⟩
theorem ok_Desk_own_goods (T : Txt K mg A) : Cal P w K mg base (L2.CX P w) 4 A.fDesk_own_goods ps_Desk_own_goods (sp_Desk_own_goods A) := by
  have sc := sc_Desk_own_goods
  have c_need : Cal P w K mg base (L2.CX P w) 3 _ _ _ := ok_need T
  refine T.dDesk_own_goods.okX sc (fun vs H Q E h => ?_) (fun cdv Ar outer s H vs Q E hr h => ⟨_, (pss_cons (ps_expr (pcall c_need T.gneed (hr.mono (by decide)) (passes_call (takes_of rfl rfl rfl rfl) (fun _ _ _ _ z => z)) (by exact (pa_cons (pe_cmp (pc_din (hu_of hr) (pv 1) (pe_fld (pv 0) rfl)) rfl) (pa_cons (pe_un un_neg pe_int) pa_nil)))))
    (pss_one (ps_ret (pe_dget (hu_of hr) (pe_fld (pv 0) rfl) (pv 1) (fun _ _ => rfl))))), ?_⟩)
  · obtain ⟨fr, D, S, dx, L, ldx, la, gd, bd, ps, gk, bk, n, rfl, _⟩ := h
    rfl
  · obtain ⟨fr, D, S, dx, L, ldx, la, gd, bd, ps, gk, bk, n, rfl, h, k1, k2⟩ := h
    refine q_must (b := (valV gk (Sum.inl (n : Int))).isSome) (ev_din (ev_var rfl) (ev_fld (ev_var rfl) h.ob T.lDesk T.nDesk_goods d_goods) (DGet.k (k := Sum.inl (n : Int)) h.gh)) (ev_neg ev_c) (fun hb => k2 (by simpa using hb)) (fun hb H1 e1 => ?_)
    obtain ⟨v, hv⟩ := Option.isSome_iff_exists.mp hb
    exact s_ret (v := v) (ev_dget (ev_fld (ev_var rfl) (h.ex e1).ob T.lDesk T.nDesk_goods d_goods) (ev_var rfl) (by rw [← hv]; exact DGet.k (k := Sum.inl (n : Int)) (h.ex e1).gh)) fun H2 e2 => k1 v hv H2 (e1.trans e2)
theorem sc_Desk_batch : FnScope ["self", "number"] ps_Desk_batch (defScope s_Desk_batch) := ⟨rfl, rfl, rfl, by decide +kernel, rfl, by decide +kernel, by decide +kernel⟩
theorem ok_Desk_batch (T : Txt K mg A) : Cal P w K mg base (L2.CX P w) 4 A.fDesk_batch ps_Desk_batch (sp_Desk_batch A) := by
  have sc := sc_Desk_batch
  have c_need : Cal P w K mg base (L2.CX P w) 3 _ _ _ := ok_need T
  refine T.dDesk_batch.okX sc (fun vs H Q E h => ?_) (fun cdv Ar outer s H vs Q E hr h => ⟨_, (pss_cons (ps_expr (pcall c_need T.gneed (hr.mono (by decide)) (passes_call (takes_of rfl rfl rfl rfl) (fun _ _ _ _ z => z)) (by exact (pa_cons (pe_cmp (pc_din (hu_of hr) (pv 1) (pe_fld (pv 0) rfl)) rfl) (pa_cons (pe_un un_neg pe_int) pa_nil)))))
    (pss_one (ps_ret (pe_dget (hu_of hr) (pe_fld (pv 0) rfl) (pv 1) (fun _ _ => rfl))))), ?_⟩)
  · obtain ⟨fr, D, S, dx, L, ldx, la, gd, bd, ps, gk, bk, n, rfl, _⟩ := h
    rfl
  · obtain ⟨fr, D, S, dx, L, ldx, la, gd, bd, ps, gk, bk, n, rfl, h, k1, k2⟩ := h
    refine q_must (b := (valV bk (Sum.inl (n : Int))).isSome) (ev_din (ev_var rfl) (ev_fld (ev_var rfl) h.ob T.lDesk T.nDesk_batches d_batches) (DGet.k (k := Sum.inl (n : Int)) h.bh)) (ev_neg ev_c) (fun hb => k2 (by simpa using hb)) (fun hb H1 e1 => ?_)
    obtain ⟨v, hv⟩ := Option.isSome_iff_exists.mp hb
    exact s_ret (v := v) (ev_dget (ev_fld (ev_var rfl) (h.ex e1).ob T.lDesk T.nDesk_batches d_batches) (ev_var rfl) (by rw [← hv]; exact DGet.k (k := Sum.inl (n : Int)) (h.ex e1).bh)) fun H2 e2 => k1 v hv H2 (e1.trans e2)
end
end Bd
namespace Bd
open PySem PySem.Spec PyProof.Rows L2 Evl
/-- what an asking call answers -/
def AskOut (A : Adr) (E : XK) (Q : VK) (H : Hp) (a : SctBase.Answer) : Prop := (0 ≤ a.code → ∀ p H2, Ex H H2 → H2 p = some (.lst ((a.code :: a.nums).map V.int)) → Q (.ref p) H2) ∧ (a.code < 0 → Fails A a.code E H)
theorem AskOut.no {A : Adr} {E : XK} {Q : VK} {H : Hp} {k : Nat} (h : AskOut A E Q H (SctBase.no k)) (hk : 1 ≤ k) : Fails A (-(k : Int)) E H := h.2 (by show -(k : Int) < 0; omega)
theorem AskOut.yes {A : Adr} {E : XK} {Q : VK} {H : Hp} {l : List Int} (h : AskOut A E Q H (SctBase.tells l)) : ∀ p H2, Ex H H2 → H2 p = some (.lst ((0 :: l).map V.int)) → Q (.ref p) H2 := h.1 (Int.le_refl _)
section
variable {K : PySem.W.Frag} {σ : L2.St} {H H' : Hp} {D : Ends} {tz tu : TS} {g : TG} {ta tb tn te tl : TE} {A : Adr} {E : XK}
theorem el_listT {p : Addr} {xs : List V} (ha : Ev ta σ H (.ref p)) (h : SqT K H p xs) : EvL (tCB (rListS K) (tCons ta tNil)) σ H xs := fun H1 e Q q =>
  ha H1 e _ fun H2 e2 => ⟨p, xs, rfl, Or.inr (ex_t (e.trans e2) h), fun l hl => q l _ (fresh_back e2 hl) (e2.trans (Ex.new hl)) upd_same⟩
theorem el_listP {xs : List V} (ha : EvP ta σ H fun v H1 => ∃ t, v = .ref t ∧ H1 t = some (.tup xs)) : EvL (tCB (rListS K) (tCons ta tNil)) σ H xs := fun H1 e Q q =>
  ha H1 e _ fun v H2 e2 ⟨t, ev, ht⟩ => ⟨t, xs, by rw [ev], Or.inr (st_of ht), fun l hl => q l _ (fresh_back e2 hl) (e2.trans (Ex.new hl)) upd_same⟩
theorem g_un3 {c : Addr} {u v w : V} {i j k : Nat} {Q : L2.St → Hp → Prop} (h : SqL K H c [u, v, w]) (q : Q (((σ.set i (some u)).set j (some v)).set k (some w)) H) : gUnl K 3 (gCons (gName i) (gCons (gName j) (gCons (gName k) gNil))) (.ref c) σ H Q :=
  ⟨c, [u, v, w], rfl, h, rfl, u, [v, w], rfl, v, [w], rfl, w, [], rfl, rfl, q⟩
theorem g_un4 {c : Addr} {u v w x : V} {i j k l : Nat} {Q : L2.St → Hp → Prop} (h : SqL K H c [u, v, w, x]) (q : Q ((((σ.set i (some u)).set j (some v)).set k (some w)).set l (some x)) H) : gUnl K 4 (gCons (gName i) (gCons (gName j) (gCons (gName k) (gCons (gName l) gNil)))) (.ref c) σ H Q :=
  ⟨c, [u, v, w, x], rfl, h, rfl, u, [v, w, x], rfl, v, [w, x], rfl, w, [x], rfl, x, [], rfl, rfl, q⟩
theorem g_un5 {c : Addr} {u v w x y : V} {i j k l m : Nat} {Q : L2.St → Hp → Prop} (h : SqL K H c [u, v, w, x, y]) (q : Q (((((σ.set i (some u)).set j (some v)).set k (some w)).set l (some x)).set m (some y)) H) : gUnl K 5 (gCons (gName i) (gCons (gName j) (gCons (gName k) (gCons (gName l) (gCons (gName m) gNil))))) (.ref c) σ H Q :=
  ⟨c, [u, v, w, x, y], rfl, h, rfl, u, [v, w, x, y], rfl, v, [w, x, y], rfl, w, [x, y], rfl, x, [y], rfl, y, [], rfl, rfl, q⟩
theorem cut1 (x : V) (xs : List V) : cutV (x :: xs) (some 1) none = xs := by
  unfold cutV
  rw [HT.sIx_none, show HT.sIx (x :: xs).length 0 (some 1) = min 1 (x :: xs).length from HT.sIx_nat _ 0 1]
  rw [show min 1 (x :: xs).length = 1 by rw [List.length_cons]; omega, List.drop_one, List.tail_cons, List.length_cons, Nat.add_sub_cancel, List.take_length]
/-- are_days(numbers[1:]) -/
theorem ev_days1 {np : Addr} {z : Int} {zs : List Int} {E : XK} (h : Ev ta σ H (.ref np)) (hn : SqL K H np ((z :: zs).map V.int)) (hl : zs.length ≤ 40000) : Ev (tCall (sp_are_days K) [] E (tCons (tSl (rSlL K) ta (tPart (tC (.int 1))) tNoPart) tNil)) σ H (.bl (zs.all SctDay.isDay)) :=
  ev_callL (us := zs.map V.int) (by
    have q := el_sl h (eo_some (σ := σ) (H := H) (te := tC (.int 1)) ev_c) eo_none hn
    rw [List.map_cons, cut1] at q
    exact q) fun p H1 e1 hp => spv_are_days (sq_of hp) hl
/-- are_days([..]) -/
theorem ev_daysL {tr : TA} {zs : List Int} {E : XK} (h : EvA tr σ H (zs.map V.int)) (hl : zs.length ≤ 40000) : Ev (tCall (sp_are_days K) [] E (tCons (tLst tr) tNil)) σ H (.bl (zs.all SctDay.isDay)) :=
  ev_callL (us := zs.map V.int) (el_lst h (by rw [List.length_map]; omega)) fun p H1 e1 hp => spv_are_days (sq_of hp) hl
end
theorem day_nat {z : Int} (h : SctDay.isDay z = true) : ∃ n : Nat, z = (n : Int) ∧ n ≤ SctDay.DAYS := by
  rw [isDay_is, Bool.and_eq_true, decide_eq_true_iff, decide_eq_true_iff] at h
  have hD : SctDay.DAYS = 100000 := rfl
  exact ⟨z.toNat, by omega, by omega⟩
theorem of_nat {many : Nat} {z : Int} (h : SctDay.isOf many z = true) : ∃ n : Nat, z = (n : Int) ∧ n < many := by
  unfold SctDay.isOf at h
  rw [Bool.and_eq_true, decide_eq_true_iff, decide_eq_true_iff] at h
  exact ⟨z.toNat, by omega, by omega⟩
theorem of_le (k : Nat) (z : Int) : (decide (0 ≤ z) && decide (z ≤ (k : Int))) = SctDay.isOf (k + 1) z := by
  unfold SctDay.isOf
  congr 1
  exact decide_eq_decide.mpr (by omega)
theorem in_le (lo hi : Nat) (z : Int) : (decide ((lo : Int) ≤ z) && decide (z ≤ (hi : Int))) = SctDay.isIn lo hi z := rfl
theorem all1 (x : Int) : [x].all SctDay.isDay = SctDay.isDay x := by simp
theorem all2 (x y : Int) : [x, y].all SctDay.isDay = (SctDay.isDay x && SctDay.isDay y) := by simp
theorem all3 (x y z : Int) : [x, y, z].all SctDay.isDay = (SctDay.isDay x && (SctDay.isDay y && SctDay.isDay z)) := by simp
theorem all4 (w x y z : Int) : [w, x, y, z].all SctDay.isDay = (SctDay.isDay w && (SctDay.isDay x && (SctDay.isDay y && SctDay.isDay z))) := by simp
def sp_amendment_told (A : Adr) : Sp := fun vs H Q E => ∃ (fr : Addr → Prop) (D : Addr) (S : SctDay.State) (n x : Int), vs = [.ref D, .int n, .int x] ∧ Dk A fr H D S ∧ AskOut A E Q H (S.asks (.amendment n x))
def sp_law_told (A : Adr) (K : PySem.W.Frag) : Sp := fun vs H Q E => ∃ (fr : Addr → Prop) (D np : Addr) (S : SctDay.State) (k c d s x : Int), vs = [.ref D, .ref np] ∧ Dk A fr H D S ∧ SqL K H np ([k, c, d, s, x].map V.int) ∧ AskOut A E Q H (S.asks (.law k c d s x))
section
variable {P : Program} {w : World} {K : PySem.W.Frag} {mg : Str → Option Value} {base : Heap} {A : Adr}
theorem sc_amendment_told : FnScope ["desk", "number", "day", "one", "sort_of", "limit", "some"] ps_amendment_told (defScope s_amendment_told) := ⟨rfl, rfl, rfl, by decide +kernel, rfl, by decide +kernel, by decide +kernel⟩
theorem ok_amendment_told (T : Txt K mg A) : Cal P w K mg base (L2.CX P w) 5 A.famendment_told ps_amendment_told (sp_amendment_told A) := by
  have sc := sc_amendment_told
  have c_need : Cal P w K mg base (L2.CX P w) 3 _ _ _ := ok_need T
  have c_are_days : Cal P w K mg base CX0 1 _ _ _ := ok_are_days T
  have c_Desk_amendment : Cal P w K mg base (L2.CX P w) 4 _ _ _ := ok_Desk_amendment T
  have c_Amendment_is_void : Cal P w K mg base CX0 1 _ _ _ := ok_is_void T
  have c_Amendment_is_repeal : Cal P w K mg base CX0 1 _ _ _ := ok_is_repeal T
  have c_Amendment_limit_on : Cal P w K mg base CX0 1 _ _ _ := ok_limit_on T
  have c_Amendment_matter : Cal P w K mg base CX0 1 _ _ _ := ok_matter T
  refine T.damendment_told.okX sc (fun vs H Q E h => ?_) (fun cdv Ar outer s H vs Q E hr h => ⟨_, (pss_cons (ps_expr (pcall c_need T.gneed (hr.mono (by decide)) (passes_call (takes_of rfl rfl rfl rfl) (fun _ _ _ _ z => z)) (by exact (pa_cons (pe_and (pe_chain op_le op_lt pe_int (pv 1) (pconst T.gMOST_AMENDMENTS)) (pe_one (pcall c_are_days T.gare_days (hr.mono (by decide)) pass0 (by exact (pa_cons (pe_lst (pa_cons (pv 2) pa_nil)) pa_nil))))) (pa_cons (pe_un un_neg pe_int) pa_nil)))))
    (pss_cons (ps_set (i := 3) sc.nd rfl (Or.inl rfl) (pmeth c_Desk_amendment (pv 0) T.lDesk T.eDesk_amendment (hr.mono (by decide)) (passes_call (takes_of rfl rfl rfl rfl) (fun _ _ _ _ z => z)) (by exact (pa_cons (pv 1) pa_nil))))
    (pss_cons (ps_expr (pcall c_need T.gneed (hr.mono (by decide)) (passes_call (takes_of rfl rfl rfl rfl) (fun _ _ _ _ z => z)) (by exact (pa_cons (pe_cmpR op_le (pe_fld (pv 3) rfl) (pv 2) (nomark _)) (pa_cons (pe_un un_neg pe_int) pa_nil)))))
    (pss_cons (ps_set (i := 4) sc.nd rfl (Or.inl rfl) (pe_ifExp (pt_val (pmeth c_Amendment_is_void (pv 3) T.lAmendment T.eAmendment_is_void (hr.mono (by decide)) pass0 (by exact (pa_cons (pv 2) pa_nil)))) pe_int (pe_ifExp (pt_val (pmeth0 c_Amendment_is_repeal (pv 3) T.lAmendment T.eAmendment_is_repeal (hr.mono (by decide)) pass0)) pe_int pe_int)))
    (pss_cons (ps_set (i := 5) sc.nd rfl (Or.inl rfl) (pe_ifExp (pt_val (pmeth0 c_Amendment_is_repeal (pv 3) T.lAmendment T.eAmendment_is_repeal (hr.mono (by decide)) pass0)) pe_int (pmeth c_Amendment_limit_on (pv 3) T.lAmendment T.eAmendment_limit_on (hr.mono (by decide)) pass0 (by exact (pa_cons (pv 2) pa_nil)))))
    (pss_cons (ps_set (i := 6) sc.nd rfl (Or.inl rfl) (pe_callTy call_list_of (by rfl) T.b_list (by decide +kernel) (pa_cons (pmeth0 c_Amendment_matter (pv 3) T.lAmendment T.eAmendment_matter (hr.mono (by decide)) pass0) pa_nil)))
    (pss_one (ps_ret (pe_op op_cat (pe_op op_cat (pe_op op_cat (pe_lst (pa_cons pe_int (pa_cons (pv 4) (pa_cons (pe_fld (pv 3) rfl) (pa_cons (pe_fld (pv 3) rfl) (pa_cons (pv 5) pa_nil)))))) (pe_callTy call_list_of (by rfl) T.b_list (by decide +kernel) (pa_cons (pe_fld (pv 3) rfl) pa_nil))) (pe_lst (pa_cons (pe_callB call_len_seq (by rfl) T.b_len PySem.boot_len (pa_cons (pv 6) pa_nil)) pa_nil))) (pv 6)))))))))), ?_⟩)
  · obtain ⟨fr, D, S, n, x, rfl, _⟩ := h
    rfl
  · obtain ⟨fr, D, S, n, x, rfl, ⟨dx, L, ldx, la, gd, bd, ps, gk, bk, h⟩, out⟩ := h
    have sp : S.asks (.amendment n x) = if (SctDay.isOf SctDay.AMENDMENTS n && SctDay.isDay x) = false then SctDay.RANGE else match S.law[n.toNat]? with
      | none => SctDay.NONE
      | some y => if x < (y.known : Int) then SctDay.NONE else SctBase.tells (y.row x.toNat) := rfl
    rw [sp] at out
    have bq : ((decide (0 ≤ n) && decide (n < 48)) && [x].all SctDay.isDay) = (SctDay.isOf SctDay.AMENDMENTS n && SctDay.isDay x) := by rw [all1]; rfl
    refine q_must (ev_is (ev_andV (ev_chain ev_c (ev_var rfl) ev_c rv_I0 rv_I0) fun _ => ev_daysL (zs := [x]) (ea_cons (ev_var rfl) ea_nil) (by show 1 ≤ 40000; decide)) (congrArg V.bl bq)) (ev_neg ev_c) (fun hb => ?_) (fun hb H1 e1 => ?_)
    · rw [if_pos hb] at out
      exact out.no (by decide)
    · rw [if_neg (by rw [hb]; decide)] at out
      rw [Bool.and_eq_true] at hb
      obtain ⟨n, rfl, hn⟩ := of_nat hb.1
      obtain ⟨x, rfl, hx⟩ := day_nat hb.2
      simp only [Int.toNat_natCast] at out
      have h1 := h.ex e1
      refine meth_raw (ev_var rfl) h1.ob (d_no (by decide +kernel) (by decide +kernel) (by decide +kernel)) (ea_cons (ev_var rfl) ea_nil) fun H2 e2 => ⟨fr, D, S, dx, L, ldx, la, gd, bd, ps, gk, bk, n, rfl, h1.ex e2, fun p hp H3 e3 => ?_, fun hp => ?_⟩
      · obtain ⟨a, ha, ham⟩ := h.lw.am.at_ hp
        rw [ha] at out
        have E3 := (e1.trans e2).trans e3
        have ham3 := ham.ex E3
        obtain ⟨adx, sa, da, ca, tt, cs, hh⟩ := id ham3
        show tSeq _ _ _ _ _
        refine q_must (b := decide ((a.known : Int) ≤ (x : Int))) (ev_op (ev_fld (ev_var rfl) hh.ob T.lAmendment T.nAmendment_known f_known) (ev_var rfl) rv_I0) (ev_neg ev_c) (fun hb => ?_) (fun hb H4 e4 => ?_)
        · have := of_decide_eq_false hb
          have out' : AskOut A E Q H (if (x : Int) < (a.known : Int) then SctDay.NONE else SctBase.tells (a.row x)) := out
          rw [if_pos (by omega)] at out'
          exact (out'.no (by decide)).ex E3
        · have hkn := of_decide_eq_true hb
          have out' : AskOut A E Q H (if (x : Int) < (a.known : Int) then SctDay.NONE else SctBase.tells (a.row x)) := out
          rw [if_neg (by omega)] at out'
          have h4 := hh.ex e4
          have ham4 := ham3.ex e4
          have hvoid : (a.isKnown x = false) ↔ isVoid a (x : Int) = true := by
            rw [← isKnown_nat, decide_eq_true hkn, Bool.true_and]
            cases isVoid a (x : Int) <;> simp
          refine q_asg (v := .int (if a.isKnown x = false then 2 else if a.repeal = true then 1 else 0)) (ev_if (et_B (ev_meth (ev_var rfl) h4.ob f_no_is_void (ea_cons (ev_var rfl) ea_nil) (spv_is_void ham4 (x : Int)))) (fun hv => by rw [if_pos (hvoid.mpr hv)]; exact ev_c) (fun hv => by
            rw [if_neg (fun z => by rw [hvoid.mp z] at hv; cases hv)]
            exact ev_if (et_B (ev_meth (ev_var rfl) h4.ob f_no_is_repeal ea_nil (spv_is_repeal ham4))) (fun hq => by rw [if_pos hq]; exact ev_c) (fun hq => by rw [if_neg (by rw [hq]; decide)]; exact ev_c))) fun H5 e5 => ?_
          have h5 := h4.ex e5
          have ham5 := ham4.ex e5
          refine q_asg (v := nV (a.limitOn x)) (ev_if (et_B (ev_meth (ev_var rfl) h5.ob f_no_is_repeal ea_nil (spv_is_repeal ham5))) (fun hq => by
            have z := h5.rp hq
            have : a.limitOn x = 0 := by
              unfold SctDay.Amendment.limitOn
              rw [z.2.2.1, z.2.2.2]
              rfl
            rw [this]
            exact ev_c) (fun hq => ev_meth (ev_var rfl) h5.ob f_no_limit_on (ea_cons (ev_var rfl) ea_nil) (spv_limit_on ham5 hq x))) fun H6 e6 => ?_
          have h6 := h5.ex e6
          refine q_asgL (el_listP (K := K) (ep_meth (ev_var rfl) h6.ob f_no_matter ea_nil (spp_matter (ham5.ex e6)))) fun sp H7 nsp e7 hsp => ?_
          have h7 := h6.ex e7
          have l4 : a.of_.length ≤ 4 := by rw [← hh.pe.length_eq]; exact hh.ne.2
          refine s_retL (el_catR (el_cat (el_cat (el_lst (ea_cons ev_c (ea_cons (ev_var rfl) (ea_cons (ev_fld (ev_var rfl) h7.ob T.lAmendment T.nAmendment_known f_known) (ea_cons (ev_fld (ev_var rfl) h7.ob T.lAmendment T.nAmendment_kind f_kind) (ea_cons (ev_var rfl) ea_nil))))) (by show 5 ≤ 100000; decide)) (el_listT (K := K) (ev_fld (ev_var rfl) h7.ob T.lAmendment T.nAmendment_days f_days) (st_of h7.da)) (by show 5 + 3 ≤ sizeLine; decide))
            (el_lst (ea_cons (ev_len (ev_var rfl) (sq_of hsp)) ea_nil) (by show 1 ≤ 100000; decide)) (by show 8 + 1 ≤ sizeLine; decide)) (ev_var rfl) hsp (by show 9 + (a.of_.map nV).length ≤ sizeLine; rw [List.length_map]; exact sz_of (by omega))) fun p H8 np e8 hp8 => ?_
          refine out'.yes p H8 ((((E3.trans e4).trans e5).trans e6).trans (e7.trans e8)) ?_
          rw [hp8]
          unfold SctDay.Amendment.row
          simp [nV, SctBase.num]
      · have : S.law[n]? = none := by
          rw [List.getElem?_eq_none_iff] at hp ⊢
          rw [← h.lw.am.1]
          exact hp
        rw [this] at out
        have out' : AskOut A E Q H SctDay.NONE := out
        exact (out'.no (by decide)).ex (e1.trans e2)
theorem sc_law_told : FnScope ["desk", "numbers", "kind", "new", "made", "sold", "day", "found", "one", "limit"] ps_law_told (defScope s_law_told) := ⟨rfl, rfl, rfl, by decide +kernel, rfl, by decide +kernel, by decide +kernel⟩
theorem ok_law_told (T : Txt K mg A) : Cal P w K mg base (L2.CX P w) 4 A.flaw_told ps_law_told (sp_law_told A K) := by
  have sc := sc_law_told
  have c_need : Cal P w K mg base (L2.CX P w) 3 _ _ _ := ok_need T
  have c_are_days : Cal P w K mg base CX0 1 _ _ _ := ok_are_days T
  have c_ruling : Cal P w K mg base CX0 3 _ _ _ := ok_ruling T
  refine T.dlaw_told.okX sc (fun vs H Q E h => ?_) (fun cdv Ar outer s H vs Q E hr h => ⟨_, (pss_cons (ps_asg (pv 1) (pg_unl rfl (pgs_cons (pg_name (i := 2) sc.nd rfl (Or.inl rfl)) (pgs_cons (pg_name (i := 3) sc.nd rfl (Or.inl rfl)) (pgs_cons (pg_name (i := 4) sc.nd rfl (Or.inl rfl)) (pgs_cons (pg_name (i := 5) sc.nd rfl (Or.inl rfl)) (pgs_cons (pg_name (i := 6) sc.nd rfl (Or.inl rfl)) pgs_nil)))))))
    (pss_cons (ps_expr (pcall c_need T.gneed (hr.mono (by decide)) (passes_call (takes_of rfl rfl rfl rfl) (fun _ _ _ _ z => z)) (by exact (pa_cons (pe_and (pe_chain op_le op_le pe_int (pv 2) pe_int) (pe_one (pcall c_are_days T.gare_days (hr.mono (by decide)) pass0 (by exact (pa_cons (pe_slice sl_list (pv 1) (po_some pe_int) po_none) pa_nil))))) (pa_cons (pe_un un_neg pe_int) pa_nil)))))
    (pss_cons (ps_expr (pcall c_need T.gneed (hr.mono (by decide)) (passes_call (takes_of rfl rfl rfl rfl) (fun _ _ _ _ z => z)) (by exact (pa_cons (pe_chain op_le op_le (pv 3) (pv 4) (pv 5)) (pa_cons (pe_un un_neg pe_int) pa_nil)))))
    (pss_cons (ps_set (i := 7) sc.nd rfl (Or.inl rfl) (pe_lst (pa_cons pe_int pa_nil)))
    (pss_cons (ps_for (passes_of rfl) rfl (pi_list (pcall c_ruling T.gruling (hr.mono (by decide)) pass0 (by exact (pa_cons (pe_fld (pe_fld (pv 0) rfl) rfl) (pa_cons (pv 2) (pa_cons (pv 3) (pa_cons (pv 4) (pa_cons (pv 5) (pa_cons (pv 6) pa_nil))))))))) (pg_tup rfl (pgs_cons (pg_name (i := 8) sc.nd rfl (Or.inl rfl)) (pgs_cons (pg_name (i := 9) sc.nd rfl (Or.inl rfl)) pgs_nil))) (pss_one (ps_expr (pe_bm PySem.F.plainAttrs_list PySem.F.slot_list_extend PySem.F.type_list_extend mt_extend (pv 7) (pa_cons (pe_lst (pa_cons (pe_fld (pv 8) rfl) (pa_cons (pv 9) pa_nil))) pa_nil)))))
    (pss_one (ps_ret (pv 7)))))))), ?_⟩)
  · obtain ⟨fr, D, np, S, k, c, d, s, x, rfl, _⟩ := h
    rfl
  · obtain ⟨fr, D, np, S, k, c, d, s, x, rfl, ⟨dx, L, ldx, la, gd, bd, ps, gk, bk, h⟩, hnp, out⟩ := h
    have sp : S.asks (.law k c d s x) = if (SctDay.isOf SctDay.CLASSES k && (SctDay.isDay c && (SctDay.isDay d && (SctDay.isDay s && SctDay.isDay x)))) = false then SctDay.RANGE else if c ≤ d ∧ d ≤ s then SctBase.tells ((SctDay.limits S.law k.toNat c.toNat d.toNat s.toNat x.toNat).flatMap fun (y : Nat × AM) => [SctBase.num y.1, SctBase.num (y.2.limitOn x.toNat)]) else SctDay.NOT := rfl
    rw [sp] at out
    have bq : ((decide (0 ≤ k) && decide (k ≤ 7)) && [c, d, s, x].all SctDay.isDay) = (SctDay.isOf SctDay.CLASSES k && (SctDay.isDay c && (SctDay.isDay d && (SctDay.isDay s && SctDay.isDay x)))) := by rw [all4]; exact congrArg (· && _) (of_le 7 k)
    refine q_asgG (P := fun v H1 => v = .ref np) (ep_of_ev (ev_var rfl)) fun v H1 e1 ev => ?_
    subst ev
    refine g_un5 (ex_l e1 hnp) ?_
    refine q_must (ev_is (ev_andV (ev_lt2 ev_c (ev_var rfl) ev_c) fun _ => ev_days1 (zs := [c, d, s, x]) (ev_var rfl) (ex_l e1 hnp) (by show 4 ≤ 40000; decide)) (congrArg V.bl bq)) (ev_neg ev_c) (fun hb => ?_) (fun hb H2 e2 => ?_)
    · rw [if_pos hb] at out
      exact (out.no (by decide)).ex e1
    · rw [if_neg (by rw [hb]; decide)] at out
      rw [Bool.and_eq_true, Bool.and_eq_true, Bool.and_eq_true, Bool.and_eq_true] at hb
      obtain ⟨k, rfl, hk⟩ := of_nat hb.1
      obtain ⟨c, rfl, hc⟩ := day_nat hb.2.1
      obtain ⟨d, rfl, hd⟩ := day_nat hb.2.2.1
      obtain ⟨s, rfl, hs⟩ := day_nat hb.2.2.2.1
      obtain ⟨x, rfl, hx⟩ := day_nat hb.2.2.2.2
      simp only [Int.toNat_natCast] at out
      refine q_must (ev_lt2 (ev_var rfl) (ev_var rfl) (ev_var rfl)) (ev_neg ev_c) (fun hb2 => ?_) (fun hb2 H3 e3 => ?_)
      · rw [Bool.and_eq_false_iff, decide_eq_false_iff_not, decide_eq_false_iff_not] at hb2
        rw [if_neg (by rintro ⟨q1, q2⟩; rcases hb2 with z | z; exact z q1; exact z q2)] at out
        exact (out.no (by decide)).ex (e1.trans e2)
      · rw [Bool.and_eq_true, decide_eq_true_iff, decide_eq_true_iff] at hb2
        rw [if_pos hb2] at out
        refine q_asgL (el_lst (ea_cons ev_c ea_nil) (by show 1 ≤ 100000; decide)) fun fp H4 nf e4 hf => ?_
        have E4 := ((e1.trans e2).trans e3).trans e4
        have nf0 : H fp = none := fresh_back ((e1.trans e2).trans e3) nf
        have h4 := h.ex E4
        refine q_forP (K := K) (ep_call (ea_cons (ev_fld (ev_fld (ev_var rfl) h4.ob T.lDesk T.nDesk_law d_law) h4.lw.ob T.lLaw T.nLaw_amendments l_amendments) (ea_cons (ev_var rfl) (ea_cons (ev_var rfl) (ea_cons (ev_var rfl) (ea_cons (ev_var rfl) (ea_cons (ev_var rfl) ea_nil))))))
          (spp_ruling (k := k) (c := c) (d := d) (s := s) (x := x) h4.lw.li h4.lw.am h.wf.l48)) fun v H5 e5 ⟨p, ts, ev, np4, hp, pr⟩ => ⟨p, ts.map V.ref, ev, sq_of hp, (fun i σ' H' => ∃ v8 v9, σ' = [some (.ref D), some (.ref np), some (nV k), some (nV c), some (nV d), some (nV s), some (nV x), some (.ref fp), v8, v9] ∧ Ex H H' ∧ H' p = some (.lst (ts.map V.ref)) ∧ Paired (RuAt H' ps x) ts (SctDay.limits S.law k c d s x) ∧
              H' fp = some (.lst ((0 :: ((SctDay.limits S.law k c d s x).take i).flatMap fun (y : Nat × AM) => [SctBase.num y.1, SctBase.num (y.2.limitOn x)]).map V.int))),
            ⟨none, none, rfl, E4.trans e5, hp, pr, e5 _ _ hf⟩, (fun i σ' H' _ ⟨_, _, _, _, h, _⟩ => sq_of h), ?_, ?_⟩
        · rintro i t σ' H6 hi ⟨v8, v9, rfl, e6, hp6, pr6, hf6⟩
          obtain ⟨t, y, ap, rfl, hy, ht, ham⟩ := ru_get (h.lw.am.ex e6) pr6 hi
          refine g_pair ht ?_
          obtain ⟨adx, sa, da, ca, tt, cs, hh⟩ := ham
          have hlen : ((SctDay.limits S.law k c d s x).take i).length ≤ 48 := by
            have z1 := (List.getElem?_eq_some_iff.mp hy).1
            have z2 : (SctDay.limits S.law k c d s x).length ≤ S.law.length := by
              unfold SctDay.limits
              rw [List.length_map]
              refine Nat.le_trans (List.length_filter_le _ _) ?_
              rw [List.length_zipIdx]
              exact Nat.le_refl _
            have := h.wf.l48
            rw [List.length_take]
            omega
          refine s_ext hf6 (ev_var rfl) (ep_ofL (el_lst (ea_cons (ev_fld (ev_var rfl) hh.ob T.lAmendment T.nAmendment_number f_number) (ea_cons (ev_var rfl) ea_nil)) (by show 2 ≤ 100000; decide))) fun v H7 e7 ⟨b, ev, nb, hb⟩ => ⟨b, _, ev, hb, ?_, some (.ref ap), some (nV (y.2.limitOn x)), rfl, Ex.mut (e6.trans e7) nf0, ?_, ?_, ?_⟩
          · rw [List.length_map, List.length_cons, List.length_flatMap]
            have : ∀ l : List (Nat × AM), (l.map fun (y : Nat × AM) => ([SctBase.num y.1, SctBase.num (y.2.limitOn x)] : List Int).length).sum = 2 * l.length := fun l => by
              induction l with
              | nil => rfl
              | cons a l ih => rw [List.map_cons, List.sum_cons, ih, List.length_cons]; show 2 + 2 * l.length = 2 * (l.length + 1); omega
            rw [this]
            exact sz_of (show 2 * ((SctDay.limits S.law k c d s x).take i).length + 1 + 2 ≤ 100000 by omega)
          · rw [upd_ne]
            · exact e7 _ _ hp6
            · exact Ne.symm (ne_of_none hf np4)
          · exact paired_imp (fun q y' hq => by
              obtain ⟨ap', z1, z2⟩ := hq
              exact ⟨ap', z1, by rw [upd_ne (ne_of (e7 _ _ z2) (e7 _ _ hf6) (by intro q; cases q))]; exact e7 _ _ z2⟩) pr6
          · rw [take_snoc hy, List.flatMap_append, List.flatMap_cons, List.flatMap_nil, List.append_nil, ← List.cons_append, List.map_append]
            exact upd_same
        · rintro σ' H6 ⟨v8, v9, rfl, e6, hp6, pr6, hf6⟩
          rw [List.length_map, Paired.length pr, List.take_length] at hf6
          exact s_ret (v := .ref fp) (ev_var rfl) fun H7 e7 => out.yes fp H7 (e6.trans e7) (e7 _ _ hf6)
end
end Bd
namespace Bd
open PySem PySem.Spec PyProof.Rows L2 Evl
theorem tri_proj (e : Nat) : ∀ r : List (Nat × Nat), (tri e r).map (fun y => (y.1, y.2.2)) = r
  | [] => rfl
  | [y] => rfl
  | y :: z :: l => by
    have ih := tri_proj e (z :: l)
    show (y.1, y.2) :: (tri e (z :: l)).map (fun y => (y.1, y.2.2)) = y :: z :: l
    rw [ih]
theorem str_len (f : Nat → Nat) (n : Nat) (l : List Nat) : (SctDay.stretches f n l).length ≤ l.length + 1 := by
  rw [stretches_is]
  have := fold_len (f := f) (SctDay.behind n l) [(n, f n)]
  have := behind_len n l
  rw [List.length_singleton] at *
  omega
section
variable {K : PySem.W.Frag} {σ : L2.St} {H H' : Hp} {D : Ends} {tz tu : TS} {g : TG} {ta tb tn te tl : TE} {A : Adr} {E : XK} {P : V → Hp → Prop}
theorem call_rawP1 {sp : Sp} {Q : VK} (ha : EvP ta σ H P) (hs : ∀ v H1, Ex H H1 → P v H1 → sp [v] H1 Q E) : tCall sp [] E (tCons ta tNil) σ H Q := ha H (Ex.refl _) _ fun v H1 e1 p => hs v H1 e1 p
theorem q_eqF {w c : Int} (h : Ev ta σ H (.int w)) (hw : w ≠ c) (k : ∀ H1, Ex H H1 → tz D σ H1) : tSeq (tIfS (tTest (tOp rEq ta (tC (.int c)))) tu tNext) tz D σ H :=
  q_when (b := false) (et_is (et_test (ev_op h ev_c (rv_eq rfl))) (decide_eq_false fun z => hw (V.int.inj z))) (fun z => by cases z) fun _ H1 e1 => k H1 e1
theorem q_eqT {w c : Int} (h : Ev ta σ H (.int w)) (hw : w = c) (k : ∀ H1, Ex H H1 → tu { D with nx := tz D } σ H1) : tSeq (tIfS (tTest (tOp rEq ta (tC (.int c)))) tu tNext) tz D σ H :=
  q_when (b := true) (et_is (et_test (ev_op h ev_c (rv_eq rfl))) (decide_eq_true (by rw [hw]))) (fun _ H1 e1 => k H1 e1) fun z => by cases z
end
theorem AskOut.ex {A : Adr} {E : XK} {Q : VK} {H H' : Hp} {a : SctBase.Answer} (e : Ex H H') (h : AskOut A E Q H a) : AskOut A E Q H' a := ⟨fun hc p H2 e2 hp => h.1 hc p H2 (e.trans e2) hp, fun hc => (h.2 hc).ex e⟩
def agB (g d : Int) (rest : List Int) : Bool := (decide (0 ≤ g) && decide (g ≤ 15)) && (d :: rest).all SctDay.isDay
def agC (y : GO) (d : Int) (rest : List Int) (hs : Bool) : Prop := (y.first : Int) ≤ d ∧ (hs = true → d ≤ rest.headD 0)
instance agC_dec (y : GO) (d : Int) (rest : List Int) (hs : Bool) : Decidable (agC y d rest hs) := by
  unfold agC
  infer_instance
def nxtL : List (Nat × Nat × Nat) → List V
  | [] => [.int 1]
  | y :: _ => [.int 0, nV y.1, nV y.2.2]
def sp_asked_goods (A : Adr) (K : PySem.W.Frag) : Sp := fun vs H Q E => ∃ (fr : Addr → Prop) (D : Addr) (S : SctDay.State) (np : Addr) (g d : Int) (rest : List Int) (hs : Bool), vs = [.ref D, .ref np, .bl hs] ∧ Dk A fr H D S ∧ SqL K H np ((g :: d :: rest).map V.int) ∧ rest ≠ [] ∧ rest.length ≤ 4 ∧
  (agB g d rest = false → Fails A (-1) E H) ∧ (agB g d rest = true → S.goods.at_ g.toNat = none → Fails A (-3) E H) ∧
  ∀ p y, agB g d rest = true → S.goods.at_ g.toNat = some y → Go A H p y → (agC y d rest hs → RetV (.ref p) H Q) ∧ (¬ agC y d rest hs → Fails A (-4) E H)
def sp_because (A : Adr) : Sp := fun vs H Q _ => ∃ (fr : Addr → Prop) (D : Addr) (S : SctDay.State) (p : Addr) (y : GO) (d s x : Nat), vs = [.ref D, .ref p, nV d, nV s, nV x] ∧ Dk A fr H D S ∧ Go A H p y ∧
  ((SctDay.limits S.law y.k y.first d s x).find? (breachP y x) = none → ∀ q H2, Ex H H2 → H2 q = some (.lst [.int 1]) → Q (.ref q) H2) ∧
  ∀ z, (SctDay.limits S.law y.k y.first d s x).find? (breachP y x) = some z → ∀ q H2, Ex H H2 → H2 q = some (.lst [.int 0, nV z.1, nV (z.2.limitOn x), nV (y.low z.2.of_), nV (y.high z.2.of_)]) → Q (.ref q) H2
def sp_last_told (A : Adr) : Sp := fun vs H Q E => ∃ (p : Addr) (n e wy : Nat) (L' : List (Nat × Nat × Nat)), vs = [.ref p] ∧ Tris H p ((n, e, wy) :: L') ∧ (wy ≠ 1 → Fails A (-4) E H) ∧
  (wy = 1 → ∀ q H2, Ex H H2 → H2 q = some (.lst (if e = SctDay.DAYS then [.int 1] else [.int 0, nV e])) → Q (.ref q) H2)
def sp_next_told : Sp := fun vs H Q _ => ∃ (p : Addr) (n e wy : Nat) (L' : List (Nat × Nat × Nat)), vs = [.ref p] ∧ Tris H p ((n, e, wy) :: L') ∧
  ∀ q H2, Ex H H2 → H2 q = some (.lst (nxtL L')) → Q (.ref q) H2
section
variable {P : Program} {w : World} {K : PySem.W.Frag} {mg : Str → Option Value} {base : Heap} {A : Adr}
theorem spp_breach {H : Hp} {L gp : Addr} {l : List AM} {g : GO} (h : La A H L l) (hg : Go A H gp g) (h48 : l.length ≤ 48) (d s x : Nat) : SpP (sp_breach A) [.ref L, .ref gp, nV d, nV s, nV x] H fun v H2 =>
    ((SctDay.limits l g.k g.first d s x).find? (breachP g x) = none ∧ v = .non) ∨ ∃ z p, (SctDay.limits l g.k g.first d s x).find? (breachP g x) = some z ∧ v = .ref p ∧ H2 p = some (.lst [nV z.1, nV (z.2.limitOn x), nV (g.low z.2.of_), nV (g.high z.2.of_)]) := fun H1 e Q q E =>
  ⟨L, gp, l, g, d, s, x, rfl, h.ex e, hg.ex e, h48, fun hn H2 e2 => q .non H2 e2 (.inl ⟨hn, rfl⟩), fun z hz p H2 e2 hp => q (.ref p) H2 e2 (.inr ⟨z, p, hz, rfl, hp⟩)⟩
theorem spp_selling {H : Hp} {L gp : Addr} {l : List AM} {g : GO} (h : La A H L l) (hg : Go A H gp g) (h48 : l.length ≤ 48) (d n x : Nat) : SpP (sp_selling A) [.ref L, .ref gp, nV d, nV n, nV x] H (TrisP H (tri SctDay.DAYS (SctDay.stretches (fun s => SctDay.way l g d s x) n (SctDay.turns l)))) := fun H1 e Q q E =>
  ⟨L, gp, l, g, d, n, x, rfl, h.ex e, hg.ex e, h48, fun p H2 np e2 hp => q (.ref p) H2 e2 ⟨p, rfl, fresh_back e np, hp⟩⟩
theorem spp_making {H : Hp} {L gp : Addr} {l : List AM} {g : GO} (h : La A H L l) (hg : Go A H gp g) (h48 : l.length ≤ 48) (n x : Nat) : SpP (sp_making A) [.ref L, .ref gp, nV n, nV x] H (TrisP H (tri SctDay.DAYS (SctDay.stretches (fun t => SctDay.way l g t t x) n (SctDay.turns l)))) := fun H1 e Q q E =>
  ⟨L, gp, l, g, n, x, rfl, h.ex e, hg.ex e, h48, fun p H2 np e2 hp => q (.ref p) H2 e2 ⟨p, rfl, fresh_back e np, hp⟩⟩
theorem spp_learning {H : Hp} {L gp : Addr} {l : List AM} {g : GO} (h : La A H L l) (hg : Go A H gp g) (h48 : l.length ≤ 48) (d s n : Nat) : SpP (sp_learning A) [.ref L, .ref gp, nV d, nV s, nV n] H (TrisP H (tri SctDay.DAYS (SctDay.stretches (fun t => SctDay.way l g d s t) n (SctDay.news l)))) := fun H1 e Q q E =>
  ⟨L, gp, l, g, d, s, n, rfl, h.ex e, hg.ex e, h48, fun p H2 np e2 hp => q (.ref p) H2 e2 ⟨p, rfl, fresh_back e np, hp⟩⟩
theorem sc_asked_goods : FnScope ["desk", "numbers", "has_sold", "goods"] ps_asked_goods (defScope s_asked_goods) := ⟨rfl, rfl, rfl, by decide +kernel, rfl, by decide +kernel, by decide +kernel⟩
theorem ok_asked_goods (T : Txt K mg A) : Cal P w K mg base (L2.CX P w) 5 A.fasked_goods ps_asked_goods (sp_asked_goods A K) := by
  have sc := sc_asked_goods
  have c_need : Cal P w K mg base (L2.CX P w) 3 _ _ _ := ok_need T
  have c_are_days : Cal P w K mg base CX0 1 _ _ _ := ok_are_days T
  have c_Desk_own_goods : Cal P w K mg base (L2.CX P w) 4 _ _ _ := ok_Desk_own_goods T
  refine T.dasked_goods.okX sc (fun vs H Q E h => ?_) (fun cdv Ar outer s H vs Q E hr h => ⟨_, (pss_cons (ps_expr (pcall c_need T.gneed (hr.mono (by decide)) (passes_call (takes_of rfl rfl rfl rfl) (fun _ _ _ _ z => z)) (by exact (pa_cons (pe_and (pe_chain op_le op_le pe_int (pe_ix ix_list (pv 1) pe_int (fun _ _ => rfl)) pe_int) (pe_one (pcall c_are_days T.gare_days (hr.mono (by decide)) pass0 (by exact (pa_cons (pe_slice sl_list (pv 1) (po_some pe_int) po_none) pa_nil))))) (pa_cons (pe_un un_neg pe_int) pa_nil)))))
    (pss_cons (ps_set (i := 3) sc.nd rfl (Or.inl rfl) (pmeth c_Desk_own_goods (pv 0) T.lDesk T.eDesk_own_goods (hr.mono (by decide)) (passes_call (takes_of rfl rfl rfl rfl) (fun _ _ _ _ z => z)) (by exact (pa_cons (pe_ix ix_list (pv 1) pe_int (fun _ _ => rfl)) pa_nil))))
    (pss_cons (ps_expr (pcall c_need T.gneed (hr.mono (by decide)) (passes_call (takes_of rfl rfl rfl rfl) (fun _ _ _ _ z => z)) (by exact (pa_cons (pe_and (pe_cmpR op_le (pe_fld (pv 3) rfl) (pe_ix ix_list (pv 1) pe_int (fun _ _ => rfl)) (nomark _)) (pe_one (pe_or (pe_not (pv 2)) (pe_one (pe_cmpR op_le (pe_ix ix_list (pv 1) pe_int (fun _ _ => rfl)) (pe_ix ix_list (pv 1) pe_int (fun _ _ => rfl)) (nomark _)))))) (pa_cons (pe_un un_neg pe_int) pa_nil)))))
    (pss_one (ps_ret (pv 3)))))), ?_⟩)
  · obtain ⟨fr, D, S, np, g, d, rest, hs, rfl, _⟩ := h
    rfl
  · obtain ⟨fr, D, S, np, g, d, rest, hs, rfl, ⟨dx, L, ldx, la, gd, bd, ps, gk, bk, h⟩, hnp, hne, hl4, k1, k2, k3⟩ := h
    obtain ⟨r0, rr, rfl⟩ : ∃ r0 rr, rest = r0 :: rr := by
      cases rest with
      | nil => exact absurd rfl hne
      | cons a b => exact ⟨a, b, rfl⟩
    have i0 : ∀ H1, Ex H H1 → Ev (tOp (rIxL K) (tVar 1) (tC (.int 0))) [some (.ref D), some (.ref np), some (.bl hs), none] H1 (.int g) := fun H1 e1 => ev_op (ev_var rfl) ev_c (rv_ixL (ex_l e1 hnp) (atI_nat (j := 0) rfl))
    refine q_must (b := agB g d (r0 :: rr)) (ev_andV (ev_lt2 ev_c (i0 H (Ex.refl _)) ev_c) fun _ => ev_days1 (zs := d :: r0 :: rr) (ev_var rfl) hnp (by rw [List.length_cons]; omega)) (ev_neg ev_c) k1 (fun hb H1 e1 => ?_)
    have hb' := hb
    unfold agB at hb'
    rw [Bool.and_eq_true] at hb'
    obtain ⟨g, rfl, hg⟩ := of_nat (many := 16) (by have := hb'.1; rw [show (decide (0 ≤ g) && decide (g ≤ 15)) = SctDay.isOf 16 g from of_le 15 g] at this; exact this)
    have h1 := h.ex e1
    simp only [Int.toNat_natCast] at k2 k3
    refine meth_raw (ev_var rfl) h1.ob (d_no (by decide +kernel) (by decide +kernel) (by decide +kernel)) (ea_cons (i0 H1 e1) ea_nil) fun H2 e2 => ⟨fr, D, S, dx, L, ldx, la, gd, bd, ps, gk, bk, g, rfl, h1.ex e2, fun v hv H3 e3 => ?_, fun hv => ?_⟩
    · obtain ⟨p, y, rfl, hy, gdx, ca, ts, hgo, _⟩ := h.gr.yes g v hv
      have E3 := (e1.trans e2).trans e3
      have hgo3 := hgo.ex E3
      obtain ⟨q1, q2⟩ := k3 p y hb hy ⟨gdx, ca, ts, hgo⟩
      show tSeq _ _ _ _ _
      have dec : (decide ((y.first : Int) ≤ d) && (!hs || decide (d ≤ r0))) = decide (agC y d (r0 :: rr) hs) := by
        unfold agC
        cases hs with
        | true =>
          rw [Bool.not_true, Bool.false_or, ← Bool.decide_and]
          exact decide_eq_decide.mpr ⟨fun z => ⟨z.1, fun _ => z.2⟩, fun z => ⟨z.1, z.2 rfl⟩⟩
        | false =>
          rw [Bool.not_false, Bool.true_or, Bool.and_true]
          exact decide_eq_decide.mpr ⟨fun z => ⟨z, fun q => by cases q⟩, fun z => z.1⟩
      refine q_must (ev_is (ev_andV (ev_op (ev_fld (ev_var rfl) hgo3.ob T.lGoods T.nGoods_new g_new) (ev_op (ev_var rfl) ev_c (rv_ixL (ex_l E3 hnp) (atI_nat (j := 1) rfl))) rv_I0) fun _ => ev_orV (ev_notV (ev_var rfl)) fun _ => ev_op (ev_op (ev_var rfl) ev_c (rv_ixL (ex_l E3 hnp) (atI_nat (j := 1) rfl))) (ev_op (ev_var rfl) ev_c (rv_ixL (ex_l E3 hnp) (atI_nat (j := 2) rfl))) rv_I0) (congrArg V.bl dec)) (ev_neg ev_c) (fun hb2 => (q2 (of_decide_eq_false hb2)).ex E3) (fun hb2 H4 e4 => ?_)
      exact s_ret (v := .ref p) (ev_var rfl) fun H5 e5 => q1 (of_decide_eq_true hb2) H5 ((E3.trans e4).trans e5)
    · exact (k2 hb ((h.gr.no g).mp hv)).ex (e1.trans e2)
theorem sc_because : FnScope ["desk", "goods", "made", "sold", "day", "found"] ps_because (defScope s_because) := ⟨rfl, rfl, rfl, by decide +kernel, rfl, by decide +kernel, by decide +kernel⟩
theorem ok_because (T : Txt K mg A) : Cal P w K mg base CX0 5 A.fbecause ps_because (sp_because A) := by
  have sc := sc_because
  have c_Law_breach : Cal P w K mg base CX0 4 _ _ _ := ok_breach T
  refine T.dbecause.ok sc (fun vs H Q E h => ?_) (fun cdv Ar outer s H vs Q E hr h => ⟨_, (pss_cons (ps_set (i := 5) sc.nd rfl (Or.inl rfl) (pmeth c_Law_breach (pe_fld (pv 0) rfl) T.lLaw T.eLaw_breach (hr.mono (by decide)) pass0 (by exact (pa_cons (pv 1) (pa_cons (pv 2) (pa_cons (pv 3) (pa_cons (pv 4) pa_nil)))))))
    (pss_one (ps_ret (pe_ifExp (pt_cmpR op_isN (pv 5) pe_non (nomark _)) (pe_lst (pa_cons pe_int pa_nil)) (pe_op op_cat (pe_lst (pa_cons pe_int pa_nil)) (pv 5)))))), ?_⟩)
  · obtain ⟨fr, D, S, p, y, d, s, x, rfl, _⟩ := h
    rfl
  · obtain ⟨fr, D, S, p, y, d, s, x, rfl, ⟨dx, L, ldx, la, gd, bd, ps, gk, bk, h⟩, hg, k1, k2⟩ := h
    refine q_asgP (ep_meth (ev_fld (ev_var rfl) h.ob T.lDesk T.nDesk_law d_law) h.lw.ob (l_no (by decide +kernel)) (ea_cons (ev_var rfl) (ea_cons (ev_var rfl) (ea_cons (ev_var rfl) (ea_cons (ev_var rfl) ea_nil)))) (spp_breach h.law hg h.wf.l48 d s x)) fun v H1 e1 out => ?_
    rcases out with ⟨hn, rfl⟩ | ⟨z, q, hz, rfl, hq⟩
    · refine s_retL (xs := [.int 1]) (fun H2 e2 Q' q' => ?_) fun q H2 nq e2 hq => k1 hn q H2 (e1.trans e2) hq
      exact ⟨_, rfl, rfl, _, rfl, iteT ((el_lst (ea_cons ev_c ea_nil) (by show 1 ≤ 100000; decide)) H2 (Ex.refl _) Q' q')⟩
    · refine s_retL (xs := [.int 0] ++ [nV z.1, nV (z.2.limitOn x), nV (y.low z.2.of_), nV (y.high z.2.of_)]) (fun H2 e2 Q' q' => ?_) fun q H2 nq e2 hq => k2 z hz q H2 (e1.trans e2) hq
      refine ⟨_, rfl, rfl, _, rfl, iteF ((el_catR (el_lst (ea_cons ev_c ea_nil) (by show 1 ≤ 100000; decide)) (ev_var rfl) (e2 _ _ hq) (by show 1 + 4 ≤ sizeLine; decide)) H2 (Ex.refl _) Q' q')⟩
theorem sc_last_told : FnScope ["some"] ps_last_told (defScope s_last_told) := ⟨rfl, rfl, rfl, by decide +kernel, rfl, by decide +kernel, by decide +kernel⟩
theorem ok_last_told (T : Txt K mg A) : Cal P w K mg base (L2.CX P w) 4 A.flast_told ps_last_told (sp_last_told A) := by
  have sc := sc_last_told
  have c_need : Cal P w K mg base (L2.CX P w) 3 _ _ _ := ok_need T
  refine T.dlast_told.okX sc (fun vs H Q E h => ?_) (fun cdv Ar outer s H vs Q E hr h => ⟨_, (pss_cons (ps_expr (pcall c_need T.gneed (hr.mono (by decide)) (passes_call (takes_of rfl rfl rfl rfl) (fun _ _ _ _ z => z)) (by exact (pa_cons (pe_cmpR op_eq (pe_ix ix_tup (pe_ix ix_list (pv 0) pe_int (fun _ _ => rfl)) pe_int (fun _ _ => rfl)) pe_int (nomark _)) (pa_cons (pe_un un_neg pe_int) pa_nil)))))
    (pss_one (ps_ret (pe_ifExp (pt_cmpR op_eq (pe_ix ix_tup (pe_ix ix_list (pv 0) pe_int (fun _ _ => rfl)) pe_int (fun _ _ => rfl)) (pconst T.gLAST_DAY) (nomark _)) (pe_lst (pa_cons pe_int pa_nil)) (pe_lst (pa_cons pe_int (pa_cons (pe_ix ix_tup (pe_ix ix_list (pv 0) pe_int (fun _ _ => rfl)) pe_int (fun _ _ => rfl)) pa_nil))))))), ?_⟩)
  · obtain ⟨p, n, e, wy, L', rfl, _⟩ := h
    rfl
  · obtain ⟨p, n, e, wy, L', rfl, ⟨qs, hp, pr⟩, k1, k2⟩ := h
    cases pr with
    | @cons q _ qr _ hq prr =>
      have hq : H q = some (.tup [nV n, nV e, nV wy]) := hq
      have it : ∀ (j : Nat) (v : V) H1, Ex H H1 → ([nV n, nV e, nV wy] : List V)[j]? = some v → Ev (tOp (rIxT K) (tOp (rIxL K) (tVar 0) (tC (.int 0))) (tC (.int (j : Int)))) [some (.ref p)] H1 v := fun j v H1 e1 hv =>
        ev_op (ev_op (ev_var rfl) ev_c (rv_ixL (v := .ref q) (sq_of (e1 _ _ hp)) (atI_nat (j := 0) rfl))) ev_c (rv_ixT (st_of (e1 _ _ hq)) (atI_nat hv))
      refine q_must (b := decide (nV wy = nV 1)) (ev_op (it 2 (nV wy) H (Ex.refl _) rfl) ev_c (rv_eq rfl)) (ev_neg ev_c) (fun hb => k1 fun z => by rw [z] at hb; simp at hb) (fun hb H1 e1 => ?_)
      have hw : wy = 1 := by
        have z : (wy : Int) = ((1 : Nat) : Int) := V.int.inj (of_decide_eq_true hb)
        omega
      refine s_retL (xs := if e = SctDay.DAYS then [.int 1] else [.int 0, nV e]) (fun H2 e2 Q' q' => ?_) fun r H2 nr e2 hr2 => k2 hw r H2 (e1.trans e2) hr2
      refine (et_test (ev_op (it 1 (nV e) H2 (e1.trans e2) rfl) ev_c (rv_eq rfl))) H2 (Ex.refl _) _ fun H3 e3 => ?_
      have E3 := (e1.trans e2).trans e3
      by_cases c : e = SctDay.DAYS
      · rw [if_pos c] at q'
        rw [decide_eq_true (by rw [c]; rfl)]
        exact iteT ((el_lst (ea_cons ev_c ea_nil) (by show 1 ≤ 100000; decide)) H3 (Ex.refl _) Q' fun r H4 nr e4 hr4 => q' r H4 (fresh_back e3 nr) (e3.trans e4) hr4)
      · rw [if_neg c] at q'
        rw [decide_eq_false (fun z => c (by
          have z' : (e : Int) = 100000 := V.int.inj z
          show e = 100000
          omega))]
        exact iteF ((el_lst (ea_cons ev_c (ea_cons (it 1 (nV e) H3 E3 rfl) ea_nil)) (by show 2 ≤ 100000; decide)) H3 (Ex.refl _) Q' fun r H4 nr e4 hr4 => q' r H4 (fresh_back e3 nr) (e3.trans e4) hr4)
theorem sc_next_told : FnScope ["some"] ps_next_told (defScope s_next_told) := ⟨rfl, rfl, rfl, by decide +kernel, rfl, by decide +kernel, by decide +kernel⟩
theorem ok_next_told (T : Txt K mg A) : Cal P w K mg base CX0 1 A.fnext_told ps_next_told sp_next_told := by
  have sc := sc_next_told
  refine T.dnext_told.ok sc (fun vs H Q E h => ?_) (fun cdv Ar outer s H vs Q E hr h => ⟨_, (pss_one (ps_ret (pe_ifExp (pt_cmpR op_gt (pe_callB call_len_seq (by rfl) T.b_len PySem.boot_len (pa_cons (pv 0) pa_nil)) pe_int (nomark _)) (pe_lst (pa_cons pe_int (pa_cons (pe_ix ix_tup (pe_ix ix_list (pv 0) pe_int (fun _ _ => rfl)) pe_int (fun _ _ => rfl)) (pa_cons (pe_ix ix_tup (pe_ix ix_list (pv 0) pe_int (fun _ _ => rfl)) pe_int (fun _ _ => rfl)) pa_nil)))) (pe_lst (pa_cons pe_int pa_nil))))), ?_⟩)
  · obtain ⟨p, n, e, wy, L', rfl, _⟩ := h
    rfl
  · obtain ⟨p, n, e, wy, L', rfl, ⟨qs, hp, pr⟩, k⟩ := h
    cases pr with
    | @cons q _ qr _ hq prr =>
      refine s_retL (xs := nxtL L') (fun H2 e2 Q' q' => ?_) fun r H2 nr e2 hr2 => k r H2 e2 hr2
      refine (et_test (ev_op (ev_len (K := K) (ev_var rfl) (sq_of (e2 _ _ hp))) ev_c rv_I0)) H2 (Ex.refl _) _ fun H3 e3 => ?_
      have E3 := e2.trans e3
      have ll := Paired.length prr
      cases L' with
      | nil =>
        rw [decide_eq_false (by rw [List.length_map, List.length_cons, ll]; decide)]
        exact iteF ((el_lst (ea_cons ev_c ea_nil) (by show 1 ≤ 100000; decide)) H3 (Ex.refl _) Q' fun r H4 nr e4 hr4 => q' r H4 (fresh_back e3 nr) (e3.trans e4) hr4)
      | cons y L2 =>
        cases prr with
        | @cons q2 _ qr2 _ hq2 _ =>
          have hq2 : H q2 = some (.tup [nV y.1, nV y.2.1, nV y.2.2]) := hq2
          rw [decide_eq_true (by rw [List.length_map, List.length_cons, List.length_cons]; omega)]
          have it : ∀ (j : Nat) (v : V), ([nV y.1, nV y.2.1, nV y.2.2] : List V)[j]? = some v → Ev (tOp (rIxT K) (tOp (rIxL K) (tVar 0) (tC (.int 1))) (tC (.int (j : Int)))) [some (.ref p)] H3 v := fun j v hv =>
            ev_op (ev_op (ev_var rfl) ev_c (rv_ixL (v := .ref q2) (sq_of (E3 _ _ hp)) (atI_nat (j := 1) rfl))) ev_c (rv_ixT (st_of (E3 _ _ hq2)) (atI_nat hv))
          exact iteT ((el_lst (ea_cons ev_c (ea_cons (it 0 (nV y.1) rfl) (ea_cons (it 2 (nV y.2.2) rfl) ea_nil))) (by show 3 ≤ 100000; decide)) H3 (Ex.refl _) Q' fun r H4 nr e4 hr4 => q' r H4 (fresh_back e3 nr) (e3.trans e4) hr4)
end
end Bd
namespace Bd
open PySem PySem.Spec PyProof.Rows L2 Evl
def OgCall (w : Int) (zs : List Int) (c : SctDay.Call) : Prop :=
  (w = 14 ∧ ∃ g d x, zs = [g, d, x] ∧ c = .making g d x) ∨ (w = 16 ∧ ∃ g d x, zs = [g, d, x] ∧ c = .days g d x) ∨ (w = 11 ∧ ∃ g d s x, zs = [g, d, s, x] ∧ c = .may g d s x) ∨ (w = 12 ∧ ∃ g d s x, zs = [g, d, s, x] ∧ c = .because g d s x) ∨
  (w = 13 ∧ ∃ g d s x, zs = [g, d, s, x] ∧ c = .until_ g d s x) ∨ (w = 15 ∧ ∃ g d s x, zs = [g, d, s, x] ∧ c = .next g d s x) ∨ (w = 17 ∧ ∃ g d s x, zs = [g, d, s, x] ∧ c = .learned g d s x)
def sp_of_goods (A : Adr) (K : PySem.W.Frag) : Sp := fun vs H Q E => ∃ (fr : Addr → Prop) (D : Addr) (S : SctDay.State) (w : Int) (np : Addr) (zs : List Int) (c : SctDay.Call), vs = [.ref D, .int w, .ref np] ∧ Dk A fr H D S ∧ SqL K H np (zs.map V.int) ∧ OgCall w zs c ∧ AskOut A E Q H (S.asks c)
theorem ag4 (g d s x : Int) : (SctDay.isOf SctDay.GOODS g && (SctDay.isDay d && (SctDay.isDay s && SctDay.isDay x))) = agB g d [s, x] := by
  unfold agB
  rw [all3]
  exact congrArg (· && _) (of_le 15 g).symm
theorem ag3 (g d x : Int) : (SctDay.isOf SctDay.GOODS g && (SctDay.isDay d && SctDay.isDay x)) = agB g d [x] := by
  unfold agB
  rw [all2]
  exact congrArg (· && _) (of_le 15 g).symm
theorem ag4_nat {g d s x : Int} (h : agB g d [s, x] = true) : ∃ g' d' s' x' : Nat, g = g' ∧ d = d' ∧ s = s' ∧ x = x' ∧ d' ≤ SctDay.DAYS ∧ s' ≤ SctDay.DAYS := by
  rw [← ag4, Bool.and_eq_true, Bool.and_eq_true, Bool.and_eq_true] at h
  obtain ⟨g', e1, _⟩ := of_nat h.1
  obtain ⟨d', e2, l2⟩ := day_nat h.2.1
  obtain ⟨s', e3, l3⟩ := day_nat h.2.2.1
  obtain ⟨x', e4, _⟩ := day_nat h.2.2.2
  exact ⟨g', d', s', x', e1, e2, e3, e4, l2, l3⟩
theorem ag3_nat {g d x : Int} (h : agB g d [x] = true) : ∃ g' d' x' : Nat, g = g' ∧ d = d' ∧ x = x' ∧ d' ≤ SctDay.DAYS := by
  rw [← ag3, Bool.and_eq_true, Bool.and_eq_true] at h
  obtain ⟨g', e1, _⟩ := of_nat h.1
  obtain ⟨d', e2, l2⟩ := day_nat h.2.1
  obtain ⟨x', e4, _⟩ := day_nat h.2.2
  exact ⟨g', d', x', e1, e2, e4, l2⟩
section
variable {K : PySem.W.Frag} {A : Adr} {mg : Str → Option Value}
theorem og_begin (T : Txt K mg A) {tz : TS} {fr : Addr → Prop} {D0 np : Addr} {S : SctDay.State} {H : Hp} {E : XK} {Q : VK} {D : Ends} {w g d x sE : Int} {rest : List Int} {hs : Bool} {f : GO → SctBase.Answer} (h : Dk A fr H D0 S) (hnp : SqL K H np ((g :: d :: rest).map V.int)) (hne : rest ≠ []) (hl4 : rest.length ≤ 4)
    (hw : (!inV (.int w) [.int 14, .int 16]) = hs) (hx : atI ((g :: d :: rest).map V.int) (-1) = some (.int x)) (out : AskOut A E Q H (if agB g d rest = false then SctDay.RANGE else S.goodsOn g d sE f)) (hc : ∀ y : GO, agC y d rest hs ↔ ((y.first : Int) ≤ d ∧ d ≤ sE))
    (k : ∀ p L y H1, agB g d rest = true → Ex H H1 → La A H1 L S.law → Go A H1 p y → (y.first : Int) ≤ d → d ≤ sE → AskOut A E Q H1 (f y) →
      tz D [some (.ref D0), some (.int w), some (.ref np), some (.ref p), some (.ref L), some (.int d), some (.int x), none, none, none, none, none] H1) :
    tSeq (tPar 3 4 (tCons (tCall (sp_asked_goods A K) [] E (tCons (tVar 0) (tCons (tVar 2) (tCons (tOp (rIn K true) (tVar 1) (tTup (tCons (tC (.int 14)) (tCons (tC (.int 16)) tNil)))) tNil)))) (tCons (tFld K (tVar 0) "law") tNil)))
      (tSeq (tPar 5 6 (tCons (tOp (rIxL K) (tVar 2) (tC (.int 1))) (tCons (tOp (rIxL K) (tVar 2) (tUn (rU fun i => .int (-i)) (tC (.int 1)))) tNil))) tz) D
      [some (.ref D0), some (.int w), some (.ref np), none, none, none, none, none, none, none, none, none] H := by
  obtain ⟨dx, L, ldx, la, gd, bd, ps, gk, bk, hd⟩ := id h
  refine call_raw (vs := [.ref D0, .ref np, .bl hs]) (ea_cons (ev_var rfl) (ea_cons (ev_var rfl) (ea_cons (ev_is (ev_niU (ev_var rfl) (eu_tup (ea_cons ev_c (ea_cons ev_c ea_nil)) (by show 2 ≤ 100000; decide)) rfl rfl) (congrArg V.bl hw)) ea_nil))) fun H1 e1 => ?_
  refine ⟨fr, D0, S, np, g, d, rest, hs, rfl, h.ex e1, ex_l e1 hnp, hne, hl4, fun hb => ?_, fun hb hn => ?_, fun p y hb hy hgo => ⟨fun hcc H2 e2 => ?_, fun hcc => ?_⟩⟩
  · rw [if_pos hb] at out
    exact (out.no (by decide)).ex e1
  · rw [if_neg (by rw [hb]; decide)] at out
    unfold SctDay.State.goodsOn at out
    rw [hn] at out
    have out' : AskOut A E Q H SctDay.NONE := out
    exact (out'.no (by decide)).ex e1
  · rw [if_neg (by rw [hb]; decide)] at out
    unfold SctDay.State.goodsOn at out
    rw [hy] at out
    have out' : AskOut A E Q H (if (y.first : Int) ≤ d ∧ d ≤ sE then f y else SctDay.NOT) := out
    have hcc' := (hc y).mp hcc
    rw [if_pos hcc'] at out'
    refine (ev_fld (K := K) (ev_var rfl) (hd.ex (e1.trans e2)).ob T.lDesk T.nDesk_law d_law) H2 (Ex.refl _) _ fun H3 e3 => ?_
    refine ⟨_, _, rfl, ?_⟩
    have E3 := (e1.trans e2).trans e3
    refine q_par (x := .int d) (y := .int x) (ea_cons (ev_op (ev_var rfl) ev_c (rv_ixL (ex_l E3 hnp) (atI_nat (j := 1) rfl))) (ea_cons (ev_op (ev_var rfl) (ev_neg ev_c) (rv_ixL (ex_l E3 hnp) hx)) ea_nil)) fun H4 e4 => ?_
    exact k p L y H4 hb (E3.trans e4) (hd.ex (E3.trans e4)).law (hgo.ex ((e2.trans e3).trans e4)) hcc'.1 hcc'.2 (out'.ex (E3.trans e4))
  · rw [if_neg (by rw [hb]; decide)] at out
    unfold SctDay.State.goodsOn at out
    rw [hy] at out
    have out' : AskOut A E Q H (if (y.first : Int) ≤ d ∧ d ≤ sE then f y else SctDay.NOT) := out
    rw [if_neg (fun z => hcc ((hc y).mpr z))] at out'
    exact (out'.no (by decide)).ex e1
end
section
variable {P : Program} {w : World} {K : PySem.W.Frag} {mg : Str → Option Value} {base : Heap} {A : Adr}
theorem lt_use {E : XK} {Q : VK} {H H1 : Hp} {p : Addr} {f : Nat → Nat} {n : Nat} {l : List Nat} (e : Ex H H1) (h : Tris H1 p (tri SctDay.DAYS (SctDay.stretches f n l)))
    (out : AskOut A E Q H (if f n = 1 then (match SctDay.firstOther f n 1 l with
      | none => ⟨1, []⟩
      | some t => SctBase.tells [SctBase.num (t - 1)]) else SctDay.NOT)) : sp_last_told A [.ref p] H1 Q E := by
  obtain ⟨en, L', e1, e2, e3⟩ := tri_first f n l
  rw [e1] at h
  refine ⟨p, n, en, f n, L', rfl, h, fun hn => ?_, fun hn q H2 e4 hq => ?_⟩
  · rw [if_neg hn] at out
    exact (out.no (by decide)).ex e
  · rw [if_pos hn] at out
    rw [hn] at e2 e3
    cases hf : SctDay.firstOther f n 1 l with
    | none =>
      rw [hf] at out
      rw [if_pos (e2 hf).1] at hq
      exact out.1 (by show (0 : Int) ≤ 1; decide) q H2 (e.trans e4) hq
    | some t =>
      rw [hf] at out
      obtain ⟨z1, z2, _⟩ := e3 t hf
      rw [if_neg (by omega)] at hq
      refine out.1 (by show (0 : Int) ≤ 0; decide) q H2 (e.trans e4) ?_
      rw [hq, z1]
      rfl
theorem nt_use {E : XK} {Q : VK} {H H1 : Hp} {p : Addr} {f : Nat → Nat} {n : Nat} {l : List Nat} (e : Ex H H1) (h : Tris H1 p (tri SctDay.DAYS (SctDay.stretches f n l)))
    (out : AskOut A E Q H (match SctDay.firstOther f n (f n) l with
      | none => ⟨1, []⟩
      | some t => SctBase.tells [SctBase.num t, SctBase.num (f t)])) : ∀ E', sp_next_told [.ref p] H1 Q E' := fun E' => by
  obtain ⟨en, L', e1, e2, e3⟩ := tri_first f n l
  rw [e1] at h
  refine ⟨p, n, en, f n, L', rfl, h, fun q H2 e4 hq => ?_⟩
  cases hf : SctDay.firstOther f n (f n) l with
  | none =>
    rw [hf] at out
    rw [(e2 hf).2] at hq
    exact out.1 (by show (0 : Int) ≤ 1; decide) q H2 (e.trans e4) hq
  | some t =>
    rw [hf] at out
    obtain ⟨_, _, en2, L2, z⟩ := e3 t hf
    rw [z] at hq
    exact out.1 (by show (0 : Int) ≤ 0; decide) q H2 (e.trans e4) hq
theorem sc_of_goods : FnScope ["desk", "word", "numbers", "goods", "law", "made", "day", "found", "first", "last", "way", "sold"] ps_of_goods (defScope s_of_goods) := ⟨rfl, rfl, rfl, by decide +kernel, rfl, by decide +kernel, by decide +kernel⟩
theorem ok_of_goods (T : Txt K mg A) : Cal P w K mg base (L2.CX P w) 6 A.fof_goods ps_of_goods (sp_of_goods A K) := by
  have sc := sc_of_goods
  have c_asked_goods : Cal P w K mg base (L2.CX P w) 5 _ _ _ := ok_asked_goods T
  have c_last_told : Cal P w K mg base (L2.CX P w) 4 _ _ _ := ok_last_told T
  have c_next_told : Cal P w K mg base CX0 1 _ _ _ := ok_next_told T
  have c_because : Cal P w K mg base CX0 5 _ _ _ := ok_because T
  have c_Law_making : Cal P w K mg base CX0 5 _ _ _ := ok_making T
  have c_Law_selling : Cal P w K mg base CX0 5 _ _ _ := ok_selling T
  have c_Law_learning : Cal P w K mg base CX0 5 _ _ _ := ok_learning T
  have c_Law_way : Cal P w K mg base CX0 4 _ _ _ := ok_way T
  refine T.dof_goods.okX sc (fun vs H Q E h => ?_) (fun cdv Ar outer s H vs Q E hr h => ⟨_, (pss_cons (ps_par (i := 3) (j := 4) (by rfl) sc.nd rfl rfl (by decide) rfl rfl (by exact (pa_cons (pcall c_asked_goods T.gasked_goods (hr.mono (by decide)) (passes_call (takes_of rfl rfl rfl rfl) (fun _ _ _ _ z => z)) (by exact (pa_cons (pv 0) (pa_cons (pv 2) (pa_cons (pe_cmpR op_notIn_seq (pv 1) (pe_tup (pa_cons pe_int (pa_cons pe_int pa_nil))) (by rfl)) pa_nil))))) (pa_cons (pe_fld (pv 0) rfl) pa_nil))) (by rfl))
    (pss_cons (ps_par (i := 5) (j := 6) (by rfl) sc.nd rfl rfl (by decide) rfl rfl (by exact (pa_cons (pe_ix ix_list (pv 2) pe_int (fun _ _ => rfl)) (pa_cons (pe_ix ix_list (pv 2) (pe_un un_neg pe_int) (fun _ _ => rfl)) pa_nil))) (by rfl))
    (pss_cons (ps_if (pt_cmpR op_eq (pv 1) pe_int (nomark _)) (pss_one (ps_ret (pcall c_last_told T.glast_told (hr.mono (by decide)) (passes_call (takes_of rfl rfl rfl rfl) (fun _ _ _ _ z => z)) (by exact (pa_cons (pmeth c_Law_making (pv 4) T.lLaw T.eLaw_making (hr.mono (by decide)) pass0 (by exact (pa_cons (pv 3) (pa_cons (pv 5) (pa_cons (pv 6) pa_nil))))) pa_nil))))) pss_nil)
    (pss_cons (ps_if (pt_cmpR op_eq (pv 1) pe_int (nomark _)) (pss_cons (ps_set (i := 7) sc.nd rfl (Or.inl rfl) (pe_lst (pa_cons pe_int pa_nil)))
    (pss_cons (ps_for (passes_of rfl) rfl (pi_list (pmeth c_Law_selling (pv 4) T.lLaw T.eLaw_selling (hr.mono (by decide)) pass0 (by exact (pa_cons (pv 3) (pa_cons (pv 5) (pa_cons (pv 5) (pa_cons (pv 6) pa_nil))))))) (pg_tup rfl (pgs_cons (pg_name (i := 8) sc.nd rfl (Or.inl rfl)) (pgs_cons (pg_name (i := 9) sc.nd rfl (Or.inl rfl)) (pgs_cons (pg_name (i := 10) sc.nd rfl (Or.inl rfl)) pgs_nil)))) (pss_one (ps_expr (pe_bm PySem.F.plainAttrs_list PySem.F.slot_list_extend PySem.F.type_list_extend mt_extend (pv 7) (pa_cons (pe_lst (pa_cons (pv 8) (pa_cons (pv 10) pa_nil))) pa_nil)))))
    (pss_one (ps_ret (pv 7))))) pss_nil)
    (pss_cons (ps_set (i := 11) sc.nd rfl (Or.inl rfl) (pe_ix ix_list (pv 2) pe_int (fun _ _ => rfl)))
    (pss_cons (ps_if (pt_cmpR op_eq (pv 1) pe_int (nomark _)) (pss_one (ps_ret (pe_lst (pa_cons pe_int (pa_cons (pmeth c_Law_way (pv 4) T.lLaw T.eLaw_way (hr.mono (by decide)) pass0 (by exact (pa_cons (pv 3) (pa_cons (pv 5) (pa_cons (pv 11) (pa_cons (pv 6) pa_nil)))))) pa_nil))))) pss_nil)
    (pss_cons (ps_if (pt_cmpR op_eq (pv 1) pe_int (nomark _)) (pss_one (ps_ret (pcall c_because T.gbecause (hr.mono (by decide)) pass0 (by exact (pa_cons (pv 0) (pa_cons (pv 3) (pa_cons (pv 5) (pa_cons (pv 11) (pa_cons (pv 6) pa_nil))))))))) pss_nil)
    (pss_cons (ps_if (pt_cmpR op_eq (pv 1) pe_int (nomark _)) (pss_one (ps_ret (pcall c_last_told T.glast_told (hr.mono (by decide)) (passes_call (takes_of rfl rfl rfl rfl) (fun _ _ _ _ z => z)) (by exact (pa_cons (pmeth c_Law_selling (pv 4) T.lLaw T.eLaw_selling (hr.mono (by decide)) pass0 (by exact (pa_cons (pv 3) (pa_cons (pv 5) (pa_cons (pv 11) (pa_cons (pv 6) pa_nil)))))) pa_nil))))) pss_nil)
    (pss_cons (ps_if (pt_cmpR op_eq (pv 1) pe_int (nomark _)) (pss_one (ps_ret (pcall c_next_told T.gnext_told (hr.mono (by decide)) pass0 (by exact (pa_cons (pmeth c_Law_selling (pv 4) T.lLaw T.eLaw_selling (hr.mono (by decide)) pass0 (by exact (pa_cons (pv 3) (pa_cons (pv 5) (pa_cons (pv 11) (pa_cons (pv 6) pa_nil)))))) pa_nil))))) pss_nil)
    (pss_one (ps_ret (pcall c_next_told T.gnext_told (hr.mono (by decide)) pass0 (by exact (pa_cons (pmeth c_Law_learning (pv 4) T.lLaw T.eLaw_learning (hr.mono (by decide)) pass0 (by exact (pa_cons (pv 3) (pa_cons (pv 5) (pa_cons (pv 11) (pa_cons (pv 6) pa_nil)))))) pa_nil)))))))))))))), ?_⟩)
  · obtain ⟨fr, D, S, wd, np, zs, c, rfl, _⟩ := h
    rfl
  · obtain ⟨fr, D, S, wd, np, zs, c, rfl, h, hnp, oc, out⟩ := h
    have l48 : S.law.length ≤ 48 := by
      obtain ⟨_, _, _, _, _, _, _, _, _, hd⟩ := id h
      exact hd.wf.l48
    rcases oc with ⟨rfl, g, d, x, rfl, rfl⟩ | ⟨rfl, g, d, x, rfl, rfl⟩ | ⟨rfl, g, d, s, x, rfl, rfl⟩ | ⟨rfl, g, d, s, x, rfl, rfl⟩ | ⟨rfl, g, d, s, x, rfl, rfl⟩ | ⟨rfl, g, d, s, x, rfl, rfl⟩ | ⟨rfl, g, d, s, x, rfl, rfl⟩
    · -- making
      have sp : S.asks (.making g d x) = if (SctDay.isOf SctDay.GOODS g && (SctDay.isDay d && SctDay.isDay x)) = false then SctDay.RANGE else S.goodsOn g d d fun (y : GO) => if SctDay.way S.law y d.toNat d.toNat x.toNat = 1 then (match SctDay.firstOther (fun t => SctDay.way S.law y t t x.toNat) d.toNat 1 (SctDay.turns S.law) with
        | none => ⟨1, []⟩
        | some t => SctBase.tells [SctBase.num (t - 1)]) else SctDay.NOT := rfl
      rw [sp, ag3] at out
      refine og_begin T (rest := [x]) h hnp (by simp) (by show 1 ≤ 4; decide) rfl rfl out (fun y => ⟨fun z => ⟨z.1, Int.le_refl _⟩, fun z => ⟨z.1, fun q => by cases q⟩⟩) fun p L y H1 hb e1 hLa hgo c1 c2 out1 => ?_
      obtain ⟨g, d, x, rfl, rfl, rfl, hd1⟩ := ag3_nat hb
      simp only [Int.toNat_natCast] at out1
      obtain ⟨_, _, _, hLa'⟩ := id hLa
      refine q_eqT (ev_var rfl) rfl fun H2 e2 => ?_
      have hl2 := hLa.ex e2
      exact call_rawP1 (ep_meth (ev_var rfl) (e2 _ _ hLa'.ob) (l_no (by decide +kernel)) (ea_cons (ev_var rfl) (ea_cons (ev_var rfl) (ea_cons (ev_var rfl) ea_nil))) (spp_making hl2 (hgo.ex e2) l48 d x)) fun v H3 e3 ⟨q, ev, nq, hq⟩ => by
        rw [ev]
        exact lt_use (f := fun t => SctDay.way S.law y t t x) (e2.trans e3) hq out1
    · -- days
      have sp : S.asks (.days g d x) = if (SctDay.isOf SctDay.GOODS g && (SctDay.isDay d && SctDay.isDay x)) = false then SctDay.RANGE else S.goodsOn g d d fun (y : GO) => SctBase.tells ((SctDay.stretches (fun s => SctDay.way S.law y d.toNat s x.toNat) d.toNat (SctDay.turns S.law)).flatMap fun (z : Nat × Nat) => [SctBase.num z.1, SctBase.num z.2]) := rfl
      rw [sp, ag3] at out
      refine og_begin T (rest := [x]) h hnp (by simp) (by show 1 ≤ 4; decide) rfl rfl out (fun y => ⟨fun z => ⟨z.1, Int.le_refl _⟩, fun z => ⟨z.1, fun q => by cases q⟩⟩) fun p L y H1 hb e1 hLa hgo c1 c2 out1 => ?_
      obtain ⟨g, d, x, rfl, rfl, rfl, hd1⟩ := ag3_nat hb
      simp only [Int.toNat_natCast] at out1
      obtain ⟨_, _, _, hLa'⟩ := id hLa
      refine q_eqF (ev_var rfl) (by decide) fun H2 e2 => q_eqT (ev_var rfl) rfl fun H3 e3 => ?_
      refine q_asgL (el_lst (ea_cons ev_c ea_nil) (by show 1 ≤ 100000; decide)) fun fp H4 nf e4 hf => ?_
      have E4 := (e2.trans e3).trans e4
      have nf1 : H1 fp = none := fresh_back (e2.trans e3) nf
      have slen := str_len (fun s => SctDay.way S.law y d s x) d (SctDay.turns S.law)
      rw [turns_len] at slen
      have proj := tri_proj SctDay.DAYS (SctDay.stretches (fun s => SctDay.way S.law y d s x) d (SctDay.turns S.law))
      refine q_forP (K := K) (ep_meth (ev_var rfl) (E4 _ _ hLa'.ob) (l_no (by decide +kernel)) (ea_cons (ev_var rfl) (ea_cons (ev_var rfl) (ea_cons (ev_var rfl) (ea_cons (ev_var rfl) ea_nil)))) (spp_selling (hLa.ex E4) (hgo.ex E4) l48 d d x)) fun v H5 e5 ⟨q, ev, nq, qs, hq, pr⟩ => ⟨q, qs.map V.ref, ev, sq_of hq, (fun i σ' H' => ∃ v8 v9 v10, σ' = [some (.ref D), some (.int 16), some (.ref np), some (.ref p), some (.ref L), some (nV d), some (nV x), some (.ref fp), v8, v9, v10, none] ∧ Ex H1 H' ∧ H' q = some (.lst (qs.map V.ref)) ∧ Paired (TrAt H') qs (tri SctDay.DAYS (SctDay.stretches (fun s => SctDay.way S.law y d s x) d (SctDay.turns S.law))) ∧
          H' fp = some (.lst ((0 :: ((SctDay.stretches (fun s => SctDay.way S.law y d s x) d (SctDay.turns S.law)).take i).flatMap fun (z : Nat × Nat) => [SctBase.num z.1, SctBase.num z.2]).map V.int))),
        ⟨none, none, none, rfl, E4.trans e5, hq, pr, e5 _ _ hf⟩, (fun i σ' H' _ ⟨_, _, _, _, _, h, _⟩ => sq_of h), ?_, ?_⟩
      · rintro i t σ' H6 hi ⟨v8, v9, v10, rfl, e6, hq6, pr6, hf6⟩
        obtain ⟨ta, hta, rfl⟩ := map_get hi
        obtain ⟨yy, hy, hty⟩ := paired_get pr6 hta
        have hzz : (SctDay.stretches (fun s => SctDay.way S.law y d s x) d (SctDay.turns S.law))[i]? = some (yy.1, yy.2.2) := by
          rw [← proj, List.getElem?_map, hy]
          rfl
        refine g_triple hty ?_
        refine s_ext hf6 (ev_var rfl) (ep_ofL (el_lst (ea_cons (ev_var rfl) (ea_cons (ev_var rfl) ea_nil)) (by show 2 ≤ 100000; decide))) fun v H7 e7 ⟨b, ev, nb, hb⟩ => ⟨b, _, ev, hb, ?_, some (nV yy.1), some (nV yy.2.1), some (nV yy.2.2), rfl, Ex.mut (e6.trans e7) nf1, ?_, ?_, ?_⟩
        · rw [List.length_map, List.length_cons, List.length_flatMap]
          have : ∀ l : List (Nat × Nat), (l.map fun (z : Nat × Nat) => ([SctBase.num z.1, SctBase.num z.2] : List Int).length).sum = 2 * l.length := fun l => by
            induction l with
            | nil => rfl
            | cons a l ih => rw [List.map_cons, List.sum_cons, ih, List.length_cons]; show 2 + 2 * l.length = 2 * (l.length + 1); omega
          rw [this]
          have tl : ((SctDay.stretches (fun s => SctDay.way S.law y d s x) d (SctDay.turns S.law)).take i).length ≤ 3 * 48 + 1 := by rw [List.length_take]; omega
          exact sz_of (show 2 * ((SctDay.stretches (fun s => SctDay.way S.law y d s x) d (SctDay.turns S.law)).take i).length + 1 + 2 ≤ 100000 by omega)
        · rw [upd_ne]
          · exact e7 _ _ hq6
          · exact Ne.symm (ne_of_none hf nq)
        · exact paired_imp (fun q' y' h' => by
            have z := e7 _ _ h'
            show upd H7 fp _ q' = _
            rw [upd_ne (ne_of z (e7 _ _ hf6) (by intro q; cases q))]
            exact z) pr6
        · rw [take_snoc hzz, List.flatMap_append, List.flatMap_cons, List.flatMap_nil, List.append_nil, ← List.cons_append, List.map_append]
          exact upd_same
      · rintro σ' H6 ⟨v8, v9, v10, rfl, e6, hq6, pr6, hf6⟩
        have hlen := Paired.length pr
        rw [tri_len] at hlen
        rw [List.length_map, hlen, List.take_length] at hf6
        exact s_ret (v := .ref fp) (ev_var rfl) fun H7 e7 => out1.yes fp H7 (e6.trans e7) (e7 _ _ hf6)
    all_goals
      refine og_begin T (rest := [s, x]) (sE := s) (hs := true) (f := _) h hnp (by simp) (by show 2 ≤ 4; decide) rfl rfl (by rw [← ag4]; exact out) (fun y => ⟨fun z => ⟨z.1, z.2 rfl⟩, fun z => ⟨z.1, fun _ => z.2⟩⟩) fun p L y H1 hb e1 hLa hgo c1 c2 out1 => ?_
      obtain ⟨g, d, s, x, rfl, rfl, rfl, rfl, hd1, hs1⟩ := ag4_nat hb
      simp only [Int.toNat_natCast] at out1
      obtain ⟨_, _, _, hLa'⟩ := id hLa
      refine q_eqF (ev_var rfl) (by decide) fun H2 e2 => q_eqF (ev_var rfl) (by decide) fun H3 e3 => ?_
      have E3 := e2.trans e3
      refine q_asg (v := nV s) (ev_op (ev_var rfl) ev_c (rv_ixL (ex_l (e1.trans E3) hnp) (atI_nat (j := 2) rfl))) fun H4 e4 => ?_
      have E4 := E3.trans e4
    · -- may
      refine q_eqT (ev_var rfl) rfl fun H5 e5 => ?_
      have E5 := E4.trans e5
      refine s_retL (el_lst (ea_cons ev_c (ea_cons (ev_meth (ev_var rfl) (E5 _ _ hLa'.ob) (l_no (by decide +kernel)) (ea_cons (ev_var rfl) (ea_cons (ev_var rfl) (ea_cons (ev_var rfl) (ea_cons (ev_var rfl) ea_nil)))) (spv_way (hLa.ex E5) (hgo.ex E5) l48 d s x)) ea_nil)) (by show 2 ≤ 100000; decide)) fun q H6 nq e6 hq => out1.yes q H6 (E5.trans e6) hq
    · -- because
      refine q_eqF (ev_var rfl) (by decide) fun H5 e5 => q_eqT (ev_var rfl) rfl fun H6 e6 => ?_
      have E6 := (E4.trans e5).trans e6
      have out2 : AskOut A E Q H1 (match (SctDay.limits S.law y.k y.first d s x).find? (breachP y x) with
        | none => ⟨1, []⟩
        | some z => SctBase.tells [SctBase.num z.1, SctBase.num (z.2.limitOn x), SctBase.num (y.low z.2.of_), SctBase.num (y.high z.2.of_)]) := out1
      refine call_raw (ea_cons (ev_var rfl) (ea_cons (ev_var rfl) (ea_cons (ev_var rfl) (ea_cons (ev_var rfl) (ea_cons (ev_var rfl) ea_nil))))) fun H7 e7 => ⟨fr, D, S, p, y, d, s, x, rfl, h.ex (e1.trans (E6.trans e7)), hgo.ex (E6.trans e7), fun hn q H8 e8 hq => ?_, fun z hz q H8 e8 hq => ?_⟩
      · rw [hn] at out2
        exact out2.1 (by show (0 : Int) ≤ 1; decide) q H8 ((E6.trans e7).trans e8) hq
      · rw [hz] at out2
        exact out2.1 (by show (0 : Int) ≤ 0; decide) q H8 ((E6.trans e7).trans e8) hq
    · -- until
      refine q_eqF (ev_var rfl) (by decide) fun H5 e5 => q_eqF (ev_var rfl) (by decide) fun H6 e6 => q_eqT (ev_var rfl) rfl fun H7 e7 => ?_
      have E7 := ((E4.trans e5).trans e6).trans e7
      exact call_rawP1 (ep_meth (ev_var rfl) (E7 _ _ hLa'.ob) (l_no (by decide +kernel)) (ea_cons (ev_var rfl) (ea_cons (ev_var rfl) (ea_cons (ev_var rfl) (ea_cons (ev_var rfl) ea_nil)))) (spp_selling (hLa.ex E7) (hgo.ex E7) l48 d s x)) fun v H8 e8 ⟨q, ev, nq, hq⟩ => by
        rw [ev]
        exact lt_use (f := fun s => SctDay.way S.law y d s x) (E7.trans e8) hq out1
    · -- next
      refine q_eqF (ev_var rfl) (by decide) fun H5 e5 => q_eqF (ev_var rfl) (by decide) fun H6 e6 => q_eqF (ev_var rfl) (by decide) fun H7 e7 => q_eqT (ev_var rfl) rfl fun H8 e8 => ?_
      have E8 := (((E4.trans e5).trans e6).trans e7).trans e8
      exact call_rawP1 (ep_meth (ev_var rfl) (E8 _ _ hLa'.ob) (l_no (by decide +kernel)) (ea_cons (ev_var rfl) (ea_cons (ev_var rfl) (ea_cons (ev_var rfl) (ea_cons (ev_var rfl) ea_nil)))) (spp_selling (hLa.ex E8) (hgo.ex E8) l48 d s x)) fun v H9 e9 ⟨q, ev, nq, hq⟩ => by
        rw [ev]
        exact nt_use (f := fun s => SctDay.way S.law y d s x) (E8.trans e9) hq out1 _
    · -- learned
      refine q_eqF (ev_var rfl) (by decide) fun H5 e5 => q_eqF (ev_var rfl) (by decide) fun H6 e6 => q_eqF (ev_var rfl) (by decide) fun H7 e7 => q_eqF (ev_var rfl) (by decide) fun H8 e8 => ?_
      have E8 := (((E4.trans e5).trans e6).trans e7).trans e8
      exact call_rawP1 (ep_meth (ev_var rfl) (E8 _ _ hLa'.ob) (l_no (by decide +kernel)) (ea_cons (ev_var rfl) (ea_cons (ev_var rfl) (ea_cons (ev_var rfl) (ea_cons (ev_var rfl) ea_nil)))) (spp_learning (hLa.ex E8) (hgo.ex E8) l48 d s x)) fun v H9 e9 ⟨q, ev, nq, hq⟩ => by
        rw [ev]
        exact nt_use (f := fun t => SctDay.way S.law y d s t) (E8.trans e9) hq out1 _
end
end Bd
namespace Bd
open PySem PySem.Spec PyProof.Rows L2 Evl
section
variable {A : Adr} {fr : Addr → Prop} {H H' : Hp} {D : Addr} {S : SctDay.State} {dx L ldx la gd bd : Addr} {ps : List Addr} {gk bk : List (L2.Key × V)} {K : PySem.W.Frag} {σ : L2.St} {mg : Str → Option Value}
structure BtAt (A : Adr) (H : Hp) (S : SctDay.State) (gk : List (L2.Key × V)) (n : Nat) (p : Addr) (b : Nat × Nat) (gp : Addr) (g : GO) : Prop where
  at_ : S.batches.at_ n = some b
  ob : Ba A H p b
  day : b.2 ≤ SctDay.DAYS
  ga : S.goods.at_ b.1 = some g
  gv : valV gk (Sum.inl (b.1 : Int)) = some (.ref gp)
  go : Go A H gp g
theorem DkAt.batch (h : DkAt A fr H D S dx L ldx la gd bd ps gk bk) {n : Nat} {v : V} (hv : valV bk (Sum.inl (n : Int)) = some v) : ∃ p b gp g, v = .ref p ∧ BtAt A H S gk n p b gp g := by
  obtain ⟨p, b, rfl, hb, hba⟩ := h.br.yes n v hv
  obtain ⟨g, hg⟩ := Option.isSome_iff_exists.mp (h.wf.bg n b hb)
  cases hq : valV gk (Sum.inl (b.1 : Int)) with
  | none =>
    have := (h.gr.no b.1).mp hq
    rw [hg] at this
    cases this
  | some v =>
    obtain ⟨gp, g', rfl, hg', gdx, ca, ts, hgo, _⟩ := h.gr.yes _ _ hq
    rw [hg] at hg'
    cases hg'
    exact ⟨p, b, gp, g, rfl, hb, hba, h.wf.bm n b hb, hg, hq, gdx, ca, ts, hgo⟩
theorem BtAt.ex {n : Nat} {p gp : Addr} {b : Nat × Nat} {g : GO} (e : Ex H H') (h : BtAt A H S gk n p b gp g) : BtAt A H' S gk n p b gp g := ⟨h.at_, (by obtain ⟨dx, h1⟩ := h.ob; exact ⟨dx, e _ _ h1⟩), h.day, h.ga, h.gv, h.go.ex e⟩
theorem ev_made (T : Txt K mg A) {n j : Nat} {p gp : Addr} {b : Nat × Nat} {g : GO} (hb : BtAt A H S gk n p b gp g) (hj : σ[j]? = some (some (.ref p))) : Ev (tFld K (tVar j) "made") σ H (nV b.2) := by
  obtain ⟨bx, h1⟩ := hb.ob
  exact ev_fld (ev_var hj) h1 T.lBatch T.nBatch_made b_made
theorem ev_own (T : Txt K mg A) (h : DkAt A fr H D S dx L ldx la gd bd ps gk bk) {n i j : Nat} {p gp : Addr} {b : Nat × Nat} {g : GO} (hb : BtAt A H S gk n p b gp g) (hi : σ[i]? = some (some (.ref D))) (hj : σ[j]? = some (some (.ref p))) :
    Ev (tDGet (tFld K (tVar i) "goods") (tFld K (tVar j) "goods")) σ H (.ref gp) := by
  obtain ⟨bx, h1⟩ := hb.ob
  exact ev_dget (ev_fld (ev_var hi) h.ob T.lDesk T.nDesk_goods d_goods) (ev_fld (ev_var hj) h1 T.lBatch T.nBatch_goods b_goods) (by rw [← hb.gv]; exact DGet.k (k := Sum.inl (b.1 : Int)) h.gh)
theorem in_nat {hi : Nat} {z : Int} (h : SctDay.isIn 1 hi z = true) : ∃ n : Nat, z = (n : Int) ∧ 1 ≤ n ∧ n ≤ hi := by
  unfold SctDay.isIn at h
  rw [Bool.and_eq_true, decide_eq_true_iff, decide_eq_true_iff] at h
  exact ⟨z.toNat, by omega, by omega, by omega⟩
theorem on_none {b s : Int} {f : GO → Nat → SctBase.Answer} (h : S.batches.at_ b.toNat = none) : S.batchOn b s f = SctDay.NONE := by
  unfold SctDay.State.batchOn
  rw [h]
theorem on_some {n : Nat} {s : Int} {p gp : Addr} {b : Nat × Nat} {g : GO} {f : GO → Nat → SctBase.Answer} (h : BtAt A H S gk n p b gp g) : S.batchOn (n : Int) s f = if (b.2 : Int) ≤ s then f g b.2 else SctDay.NOT := by
  unfold SctDay.State.batchOn
  rw [Int.toNat_natCast, h.at_]
  dsimp only
  rw [h.ga]
end
def sp_stands (A : Adr) (K : PySem.W.Frag) : Sp := fun vs H Q E => ∃ (fr : Addr → Prop) (D : Addr) (S : SctDay.State) (np : Addr) (b s x : Int), vs = [.ref D, .ref np] ∧ Dk A fr H D S ∧ SqL K H np (([b, s, x] : List Int).map V.int) ∧ AskOut A E Q H (S.asks (.stands b s x))
def sp_fallen (A : Adr) : Sp := fun vs H Q E => ∃ (fr : Addr → Prop) (D : Addr) (S : SctDay.State) (s x : Int), vs = [.ref D, .int s, .int x] ∧ Dk A fr H D S ∧ AskOut A E Q H (S.asks (.fallen s x))
def sp_left (A : Adr) (K : PySem.W.Frag) : Sp := fun vs H Q E => ∃ (fr : Addr → Prop) (D : Addr) (S : SctDay.State) (np : Addr) (b n r s x : Int), vs = [.ref D, .ref np] ∧ Dk A fr H D S ∧ SqL K H np (([b, n, r, s, x] : List Int).map V.int) ∧ AskOut A E Q H (S.asks (.left_ b n r s x))
def sp_latest (A : Adr) (K : PySem.W.Frag) : Sp := fun vs H Q E => ∃ (fr : Addr → Prop) (D : Addr) (S : SctDay.State) (np : Addr) (b n r x : Int), vs = [.ref D, .ref np] ∧ Dk A fr H D S ∧ SqL K H np (([b, n, r, x] : List Int).map V.int) ∧ AskOut A E Q H (S.asks (.latest b n r x))
def sp_told (A : Adr) : Sp := fun vs H Q E => ∃ (fr : Addr → Prop) (D : Addr) (S : SctDay.State), vs = [.ref D] ∧ Dk A fr H D S ∧ AskOut A E Q H (S.asks .told)
section
variable {P : Program} {w : World} {K : PySem.W.Frag} {mg : Str → Option Value} {base : Heap} {A : Adr}
theorem sc_stands : FnScope ["desk", "numbers", "number", "sold", "day", "batch"] ps_stands (defScope s_stands) := ⟨rfl, rfl, rfl, by decide +kernel, rfl, by decide +kernel, by decide +kernel⟩
theorem ok_stands (T : Txt K mg A) : Cal P w K mg base (L2.CX P w) 5 A.fstands ps_stands (sp_stands A K) := by
  have sc := sc_stands
  have c_need : Cal P w K mg base (L2.CX P w) 3 _ _ _ := ok_need T
  have c_are_days : Cal P w K mg base CX0 1 _ _ _ := ok_are_days T
  have c_Desk_batch : Cal P w K mg base (L2.CX P w) 4 _ _ _ := ok_Desk_batch T
  have c_Law_way : Cal P w K mg base CX0 4 _ _ _ := ok_way T
  refine T.dstands.okX sc (fun vs H Q E h => ?_) (fun cdv Ar outer s H vs Q E hr h => ⟨_, (pss_cons (ps_asg (pv 1) (pg_unl rfl (pgs_cons (pg_name (i := 2) sc.nd rfl (Or.inl rfl)) (pgs_cons (pg_name (i := 3) sc.nd rfl (Or.inl rfl)) (pgs_cons (pg_name (i := 4) sc.nd rfl (Or.inl rfl)) pgs_nil)))))
    (pss_cons (ps_expr (pcall c_need T.gneed (hr.mono (by decide)) (passes_call (takes_of rfl rfl rfl rfl) (fun _ _ _ _ z => z)) (by exact (pa_cons (pe_and (pe_chain op_le op_le pe_int (pv 2) pe_int) (pe_one (pcall c_are_days T.gare_days (hr.mono (by decide)) pass0 (by exact (pa_cons (pe_lst (pa_cons (pv 3) (pa_cons (pv 4) pa_nil))) pa_nil))))) (pa_cons (pe_un un_neg pe_int) pa_nil)))))
    (pss_cons (ps_set (i := 5) sc.nd rfl (Or.inl rfl) (pmeth c_Desk_batch (pv 0) T.lDesk T.eDesk_batch (hr.mono (by decide)) (passes_call (takes_of rfl rfl rfl rfl) (fun _ _ _ _ z => z)) (by exact (pa_cons (pv 2) pa_nil))))
    (pss_cons (ps_expr (pcall c_need T.gneed (hr.mono (by decide)) (passes_call (takes_of rfl rfl rfl rfl) (fun _ _ _ _ z => z)) (by exact (pa_cons (pe_cmpR op_ge (pv 3) (pe_fld (pv 5) rfl) (nomark _)) (pa_cons (pe_un un_neg pe_int) pa_nil)))))
    (pss_one (ps_ret (pe_lst (pa_cons pe_int (pa_cons (pmeth c_Law_way (pe_fld (pv 0) rfl) T.lLaw T.eLaw_way (hr.mono (by decide)) pass0 (by exact (pa_cons (pe_dget (hu_of hr) (pe_fld (pv 0) rfl) (pe_fld (pv 5) rfl) (fun _ _ => rfl)) (pa_cons (pe_fld (pv 5) rfl) (pa_cons (pv 3) (pa_cons (pv 4) pa_nil)))))) pa_nil))))))))), ?_⟩)
  · obtain ⟨fr, D, S, np, b, s, x, rfl, _⟩ := h
    rfl
  · obtain ⟨fr, D, S, np, b, s, x, rfl, ⟨dx, L, ldx, la, gd, bd, ps, gk, bk, h⟩, hnp, out⟩ := h
    have sp : S.asks (.stands b s x) = if (SctDay.isOf SctDay.BATCHES b && (SctDay.isDay s && SctDay.isDay x)) = false then SctDay.RANGE else S.batchOn b s fun (g : GO) (d : Nat) => SctBase.tells [SctBase.num (SctDay.way S.law g d s.toNat x.toNat)] := rfl
    rw [sp] at out
    have bq : ((decide (0 ≤ b) && decide (b ≤ 31)) && [s, x].all SctDay.isDay) = (SctDay.isOf SctDay.BATCHES b && (SctDay.isDay s && SctDay.isDay x)) := by rw [all2]; exact congrArg (· && _) (of_le 31 b)
    refine q_asgG (P := fun v H1 => v = .ref np) (ep_of_ev (ev_var rfl)) fun v H1 e1 ev => ?_
    subst ev
    refine g_un3 (ex_l e1 hnp) ?_
    refine q_must (ev_is (ev_andV (ev_lt2 ev_c (ev_var rfl) ev_c) fun _ => ev_daysL (zs := [s, x]) (ea_cons (ev_var rfl) (ea_cons (ev_var rfl) ea_nil)) (by show 2 ≤ 40000; decide)) (congrArg V.bl bq)) (ev_neg ev_c) (fun hb => ?_) (fun hb H2 e2 => ?_)
    · rw [if_pos hb] at out
      exact (out.no (by decide)).ex e1
    · rw [if_neg (by rw [hb]; decide)] at out
      rw [Bool.and_eq_true, Bool.and_eq_true] at hb
      obtain ⟨b, rfl, hb1⟩ := of_nat hb.1
      obtain ⟨s, rfl, hs⟩ := day_nat hb.2.1
      obtain ⟨x, rfl, hx⟩ := day_nat hb.2.2
      simp only [Int.toNat_natCast] at out
      have E2 := e1.trans e2
      have h2 := h.ex E2
      refine meth_raw (ev_var rfl) h2.ob (d_no (by decide +kernel) (by decide +kernel) (by decide +kernel)) (ea_cons (ev_var rfl) ea_nil) fun H3 e3 => ⟨fr, D, S, dx, L, ldx, la, gd, bd, ps, gk, bk, b, rfl, h2.ex e3, fun v hv H4 e4 => ?_, fun hv => ?_⟩
      · have E4 := (E2.trans e3).trans e4
        have h4 := h.ex E4
        obtain ⟨p, y, gp, g, rfl, hbt⟩ := h4.batch hv
        rw [on_some hbt] at out
        show tSeq _ _ _ _ _
        refine q_must (b := decide ((y.2 : Int) ≤ (s : Int))) (ev_op (ev_var rfl) (ev_made T hbt rfl) rv_I0) (ev_neg ev_c) (fun hb => ?_) (fun hb H5 e5 => ?_)
        · rw [if_neg (of_decide_eq_false hb)] at out
          exact (out.no (by decide)).ex E4
        · rw [if_pos (of_decide_eq_true hb)] at out
          have b5 := hbt.ex e5
          have E5 := E4.trans e5
          have h5 := h.ex E5
          refine s_retL (el_lst (ea_cons ev_c (ea_cons (ev_meth (ev_fld (ev_var rfl) h5.ob T.lDesk T.nDesk_law d_law) h5.lw.ob (l_no (by decide +kernel)) (ea_cons (ev_own T h5 b5 rfl rfl) (ea_cons (ev_made T b5 rfl) (ea_cons (ev_var rfl) (ea_cons (ev_var rfl) ea_nil)))) (spv_way h5.law b5.go h5.wf.l48 y.2 s x)) ea_nil)) (by show 2 ≤ 100000; decide)) fun q H6 nq e6 hq => out.yes q H6 (E5.trans e6) hq
      · rw [on_none (by rw [Int.toNat_natCast]; exact (h.br.no b).mp hv)] at out
        exact (out.no (by decide)).ex (E2.trans e3)
theorem sc_left : FnScope ["desk", "numbers", "number", "bottles", "rate", "sold", "day", "batch", "first", "last", "way", "days"] ps_left (defScope s_left) := ⟨rfl, rfl, rfl, by decide +kernel, rfl, by decide +kernel, by decide +kernel⟩
theorem ok_left (T : Txt K mg A) : Cal P w K mg base (L2.CX P w) 6 A.fleft ps_left (sp_left A K) := by
  have sc := sc_left
  have c_need : Cal P w K mg base (L2.CX P w) 3 _ _ _ := ok_need T
  have c_are_days : Cal P w K mg base CX0 1 _ _ _ := ok_are_days T
  have c_Desk_batch : Cal P w K mg base (L2.CX P w) 4 _ _ _ := ok_Desk_batch T
  have c_Law_selling : Cal P w K mg base CX0 5 _ _ _ := ok_selling T
  refine T.dleft.okX sc (fun vs H Q E h => ?_) (fun cdv Ar outer s H vs Q E hr h => ⟨_, (pss_cons (ps_asg (pv 1) (pg_unl rfl (pgs_cons (pg_name (i := 2) sc.nd rfl (Or.inl rfl)) (pgs_cons (pg_name (i := 3) sc.nd rfl (Or.inl rfl)) (pgs_cons (pg_name (i := 4) sc.nd rfl (Or.inl rfl)) (pgs_cons (pg_name (i := 5) sc.nd rfl (Or.inl rfl)) (pgs_cons (pg_name (i := 6) sc.nd rfl (Or.inl rfl)) pgs_nil)))))))
    (pss_cons (ps_expr (pcall c_need T.gneed (hr.mono (by decide)) (passes_call (takes_of rfl rfl rfl rfl) (fun _ _ _ _ z => z)) (by exact (pa_cons (pe_and (pe_chain op_le op_le pe_int (pv 2) pe_int) (pe_and (pe_chain op_le op_le pe_int (pv 3) pe_int) (pe_and (pe_chain op_le op_le pe_int (pv 4) pe_int) (pe_one (pcall c_are_days T.gare_days (hr.mono (by decide)) pass0 (by exact (pa_cons (pe_lst (pa_cons (pv 5) (pa_cons (pv 6) pa_nil))) pa_nil))))))) (pa_cons (pe_un un_neg pe_int) pa_nil)))))
    (pss_cons (ps_set (i := 7) sc.nd rfl (Or.inl rfl) (pmeth c_Desk_batch (pv 0) T.lDesk T.eDesk_batch (hr.mono (by decide)) (passes_call (takes_of rfl rfl rfl rfl) (fun _ _ _ _ z => z)) (by exact (pa_cons (pv 2) pa_nil))))
    (pss_cons (ps_expr (pcall c_need T.gneed (hr.mono (by decide)) (passes_call (takes_of rfl rfl rfl rfl) (fun _ _ _ _ z => z)) (by exact (pa_cons (pe_cmpR op_ge (pv 5) (pe_fld (pv 7) rfl) (nomark _)) (pa_cons (pe_un un_neg pe_int) pa_nil)))))
    (pss_cons (ps_asg (pe_ix ix_list (pmeth c_Law_selling (pe_fld (pv 0) rfl) T.lLaw T.eLaw_selling (hr.mono (by decide)) pass0 (by exact (pa_cons (pe_dget (hu_of hr) (pe_fld (pv 0) rfl) (pe_fld (pv 7) rfl) (fun _ _ => rfl)) (pa_cons (pe_fld (pv 7) rfl) (pa_cons (pv 5) (pa_cons (pv 6) pa_nil)))))) pe_int (fun _ _ => rfl)) (pg_tup rfl (pgs_cons (pg_name (i := 8) sc.nd rfl (Or.inl rfl)) (pgs_cons (pg_name (i := 9) sc.nd rfl (Or.inl rfl)) (pgs_cons (pg_name (i := 10) sc.nd rfl (Or.inl rfl)) pgs_nil)))))
    (pss_cons (ps_set (i := 11) sc.nd rfl (Or.inl rfl) (pe_ifExp (pt_cmpR op_eq (pv 10) pe_int (nomark _)) (pe_op op_add (pe_op op_sub (pv 9) (pv 8)) pe_int) pe_int))
    (pss_one (ps_ret (pe_lst (pa_cons pe_int (pa_cons (pe_callB (call_max2 rfl) (by rfl) T.b_max (by decide +kernel) (pa_cons pe_int (pa_cons (pe_op op_sub (pv 3) (pe_op op_mul (pv 4) (pv 11))) pa_nil))) pa_nil))))))))))), ?_⟩)
  · obtain ⟨fr, D, S, np, b, n, r, s, x, rfl, _⟩ := h
    rfl
  · obtain ⟨fr, D, S, np, b, n, r, s, x, rfl, ⟨dx, L, ldx, la, gd, bd, ps, gk, bk, h⟩, hnp, out⟩ := h
    have sp : S.asks (.left_ b n r s x) = if (SctDay.isOf SctDay.BATCHES b && (SctDay.isIn 1 SctDay.BOTTLES n && (SctDay.isIn 1 SctDay.RATE r && (SctDay.isDay s && SctDay.isDay x)))) = false then SctDay.RANGE else S.batchOn b s fun (g : GO) (d : Nat) => SctBase.tells [SctBase.num (S.leftOf g d n.toNat r.toNat s.toNat x.toNat)] := rfl
    rw [sp] at out
    have bq : ((decide (0 ≤ b) && decide (b ≤ 31)) && ((decide (1 ≤ n) && decide (n ≤ 1000000)) && ((decide (1 ≤ r) && decide (r ≤ 10000)) && [s, x].all SctDay.isDay))) = (SctDay.isOf SctDay.BATCHES b && (SctDay.isIn 1 SctDay.BOTTLES n && (SctDay.isIn 1 SctDay.RATE r && (SctDay.isDay s && SctDay.isDay x)))) := by rw [all2]; exact congrArg (· && _) (of_le 31 b)
    refine q_asgG (P := fun v H1 => v = .ref np) (ep_of_ev (ev_var rfl)) fun v H1 e1 ev => ?_
    subst ev
    refine g_un5 (ex_l e1 hnp) ?_
    refine q_must (ev_is (ev_andV (ev_lt2 ev_c (ev_var rfl) ev_c) fun _ => ev_andV (ev_lt2 ev_c (ev_var rfl) ev_c) fun _ => ev_andV (ev_lt2 ev_c (ev_var rfl) ev_c) fun _ => ev_daysL (zs := [s, x]) (ea_cons (ev_var rfl) (ea_cons (ev_var rfl) ea_nil)) (by show 2 ≤ 40000; decide)) (congrArg V.bl bq)) (ev_neg ev_c) (fun hb => ?_) (fun hb H2 e2 => ?_)
    · rw [if_pos hb] at out
      exact (out.no (by decide)).ex e1
    · rw [if_neg (by rw [hb]; decide)] at out
      rw [Bool.and_eq_true, Bool.and_eq_true, Bool.and_eq_true, Bool.and_eq_true] at hb
      obtain ⟨b, rfl, hb1⟩ := of_nat hb.1
      obtain ⟨n, rfl, hn, hn1⟩ := in_nat hb.2.1
      obtain ⟨r, rfl, hr1, hr2⟩ := in_nat hb.2.2.1
      obtain ⟨s, rfl, hs⟩ := day_nat hb.2.2.2.1
      obtain ⟨x, rfl, hx⟩ := day_nat hb.2.2.2.2
      simp only [Int.toNat_natCast] at out
      have E2 := e1.trans e2
      have h2 := h.ex E2
      refine meth_raw (ev_var rfl) h2.ob (d_no (by decide +kernel) (by decide +kernel) (by decide +kernel)) (ea_cons (ev_var rfl) ea_nil) fun H3 e3 => ⟨fr, D, S, dx, L, ldx, la, gd, bd, ps, gk, bk, b, rfl, h2.ex e3, fun v hv H4 e4 => ?_, fun hv => ?_⟩
      · have E4 := (E2.trans e3).trans e4
        have h4 := h.ex E4
        obtain ⟨p, y, gp, g, rfl, hbt⟩ := h4.batch hv
        rw [on_some hbt] at out
        show tSeq _ _ _ _ _
        refine q_must (b := decide ((y.2 : Int) ≤ (s : Int))) (ev_op (ev_var rfl) (ev_made T hbt rfl) rv_I0) (ev_neg ev_c) (fun hb => ?_) (fun hb H5 e5 => ?_)
        · rw [if_neg (of_decide_eq_false hb)] at out
          exact (out.no (by decide)).ex E4
        · have hys := of_decide_eq_true hb
          rw [if_pos hys] at out
          have b5 := hbt.ex e5
          have E5 := E4.trans e5
          have h5 := h.ex E5
          obtain ⟨en, L', t1, t2, t3⟩ := tri_first (S.wayOf g y.2 x) s (SctDay.turns S.law)
          have lf := left_is (S := S) (fun a ha => (h5.lw.rep a ha).1) g (d := y.2) (n := n) (r := r) (s := s) (x := x) (by omega) hs t1
          rw [lf] at out
          have hse : s ≤ en + 1 := by
            cases hf : SctDay.firstOther (S.wayOf g y.2 x) s (S.wayOf g y.2 x s) (SctDay.turns S.law) with
            | none => have := (t2 hf).1; omega
            | some t => have := (t3 t hf).1; have := firstOther_le hf; omega
          refine q_asgG (P := fun v H6 => ∃ q, v = .ref q ∧ H6 q = some (.tup [nV s, nV en, nV (S.wayOf g y.2 x s)])) ?_ fun v H6 e6 ⟨q, ev, hq⟩ => ?_
          · intro H6 e6 Q' q'
            refine ep_meth (ev_fld (ev_var rfl) (h5.ex e6).ob T.lDesk T.nDesk_law d_law) (h5.ex e6).lw.ob (l_no (by decide +kernel)) (ea_cons (ev_own T (h5.ex e6) (b5.ex e6) rfl rfl) (ea_cons (ev_made T (b5.ex e6) rfl) (ea_cons (ev_var rfl) (ea_cons (ev_var rfl) ea_nil)))) (spp_selling (h5.ex e6).law (b5.ex e6).go h5.wf.l48 y.2 s x) H6 (Ex.refl _) _ fun v H7 e7 ⟨q0, ev, nq, qs, hq0, pr⟩ => ?_
            subst ev
            change Paired (TrAt H7) qs (tri SctDay.DAYS (SctDay.stretches (S.wayOf g y.2 x) s (SctDay.turns S.law))) at pr
            rw [t1] at pr
            cases pr with
            | @cons q1 _ qr _ hq1 _ =>
              exact ⟨q0, _, 0, .ref q1, rfl, rfl, sq_of hq0, atI_nat (j := 0) rfl, q' (.ref q1) H7 e7 ⟨q1, rfl, hq1⟩⟩
          · subst ev
            refine g_triple hq ?_
            refine q_asg (v := .int (if S.wayOf g y.2 x s = 1 then (en : Int) - s + 1 else 0)) (ev_if (et_test (ev_op (ev_var rfl) ev_c (rv_eq rfl))) (fun hv => ?_) (fun hv => ?_)) fun H7 e7 => ?_
            · have hw : S.wayOf g y.2 x s = 1 := by
                have z : ((S.wayOf g y.2 x s : Nat) : Int) = 1 := V.int.inj (of_decide_eq_true hv)
                omega
              rw [if_pos hw]
              exact ev_op (ev_op (ev_var rfl) (ev_var rfl) rv_I0) ev_c rv_I0
            · have hw : S.wayOf g y.2 x s ≠ 1 := fun z => of_decide_eq_false hv (by rw [z]; rfl)
              rw [if_neg hw]
              exact ev_c
            · have E7 := (E5.trans e6).trans e7
              refine s_retL (xs := [.int 0, nV (if S.wayOf g y.2 x s = 1 then n - r * (en + 1 - s) else n)]) (el_lst (ea_cons ev_c (ea_cons (ev_is (ev_max2 ev_c (ev_op (ev_var rfl) (ev_op (ev_var rfl) (ev_var rfl) (rv_I (by left; have : SctDay.RATE = 10000 := rfl; constructor <;> omega))) rv_I0)) (congrArg V.int ?_)) ea_nil)) (by show 2 ≤ 100000; decide)) fun q H8 nq e8 hq => out.yes q H8 (E7.trans e8) hq
              by_cases c : S.wayOf g y.2 x s = 1
              · rw [if_pos c, if_pos c]
                have e1 : ((en : Int) - s + 1) = ((en + 1 - s : Nat) : Int) := by omega
                rw [e1, ← Int.natCast_mul]
                split <;> omega
              · rw [if_neg c, if_neg c, Int.mul_zero]
                split <;> omega
      · rw [on_none (by rw [Int.toNat_natCast]; exact (h.br.no b).mp hv)] at out
        exact (out.no (by decide)).ex (E2.trans e3)
end
end Bd
namespace Bd
open PySem PySem.Spec PyProof.Rows L2 Evl
theorem DRel.keys {α : Type} {R : Addr → α → Prop} {kvs : List (L2.Key × V)} {rows : SctDay.Rows α} (h : DRel R kvs rows) (hs : (rows.map (·.1)).Pairwise (· < ·)) : ∃ ks : List Nat, kvs.map (·.1) = ks.map (fun (n : Nat) => (Sum.inl (n : Int) : L2.Key)) ∧ ks.Perm (rows.map (·.1)) := by
  obtain ⟨ks, hks⟩ := keys_nat h.nat
  refine ⟨ks, hks, (List.perm_ext_iff_of_nodup (nat_keys_nodup h.nd hks) (hs.imp fun h => Nat.ne_of_lt h)).mpr fun n => ?_⟩
  rw [← nat_keys_mem, ← hks]
  have z := h.no n
  rw [val_none, at_none] at z
  exact ⟨fun q => Classical.byContradiction fun r => (z.mpr r) q, fun q => Classical.byContradiction fun r => (z.mp r) q⟩
theorem DRel.len {α : Type} {R : Addr → α → Prop} {kvs : List (L2.Key × V)} {rows : SctDay.Rows α} (h : DRel R kvs rows) (hs : (rows.map (·.1)).Pairwise (· < ·)) : kvs.length = rows.length := by
  obtain ⟨ks, e, p⟩ := h.keys hs
  have z := congrArg List.length e
  have z2 := p.length_eq
  rw [List.length_map, List.length_map] at z
  rw [List.length_map] at z2
  omega
theorem rise_len {n : Nat} : ∀ (l : List Nat) (a : Nat), l.Pairwise (· < ·) → (∀ x ∈ l, a ≤ x ∧ x < n) → l.length ≤ n - a
  | [], a, _, _ => Nat.zero_le _
  | x :: l, a, h, k => by
    rw [List.pairwise_cons] at h
    have := rise_len l (x + 1) h.2 fun y hy => ⟨h.1 y hy, (k y (List.mem_cons_of_mem _ hy)).2⟩
    have := k x List.mem_cons_self
    rw [List.length_cons]
    omega
theorem rows_len {α : Type} {n : Nat} {l : SctDay.Rows α} (h : (l.map (·.1)).Pairwise (· < ·)) (k : ∀ x ∈ l.map (·.1), x < n) : l.length ≤ n := by
  have := rise_len _ 0 h fun x hx => ⟨Nat.zero_le _, k x hx⟩
  rw [List.length_map] at this
  omega
section
variable {K : PySem.W.Frag} {σ : L2.St} {H H' : Hp} {g : TG} {te tl : TE} {tt : TT} {vs : List Nat} {xs : List V}
def FilOut (H : Hp) (n : Nat) : V → Hp → Prop := fun v H2 => ∃ p ys, v = .ref p ∧ H p = none ∧ H2 p = some (.lst ys) ∧ ys.length = n
theorem ep_lcF {α : Type} {l : List α} {p : α → Bool} {a : Addr} (σi : Nat → L2.St) (h : Ev tl σ H (.ref a)) (hx : SqL K H a xs) (hl : xs.length = l.length) (hz : xs.length ≤ 40000)
    (hg : ∀ i x H', xs[i]? = some x → Ex H H' → ∀ Q : L2.St → Hp → Prop, Q (σi i) H' → g x (wipe σ vs) H' Q) (hw : ∀ i x, xs[i]? = some x → wipe (σi i) vs = wipe σ vs)
    (ht : ∀ i x z H', xs[i]? = some x → l[i]? = some z → Ex H H' → EvT tt (σi i) H' (p z)) (he : ∀ i x H', xs[i]? = some x → Ex H H' → EvP te (σi i) H' fun _ _ => True) : EvP (tLc (iList K tl) g tt te vs) σ H (FilOut H (l.filter p).length) := fun H0 e0 Q q =>
  h H0 e0 _ fun H1 e1 => ⟨a, rfl, ⟨xs, ex_l (e0.trans e1) hx⟩, fun d hd =>
    lc_it walk_list (fun i H2 => ∃ acc, Ex H1 H2 ∧ H2 d = some (.lst acc) ∧ acc.length = ((l.take i).filter p).length) ⟨[], Ex.new hd, upd_same, by rw [List.take_zero]; rfl⟩
      (fun i H2 _ ⟨_, e2, _⟩ => ex_l ((e0.trans e1).trans e2) hx)
      (fun i x H2 H3 hi hw2 ⟨eH, hi'⟩ => by
        subst eH
        obtain ⟨acc, e2, ha, hla⟩ := hw2
        have E2 : Ex H H3 := (e0.trans e1).trans e2
        refine hg i x H3 hi' E2 _ ⟨hw i x hi', ?_⟩
        obtain ⟨z, hz'⟩ : ∃ z, l[i]? = some z := ⟨_, List.getElem?_eq_getElem (by omega)⟩
        refine ht i x z H3 hi' hz' E2 H3 (Ex.refl _) _ fun H4 e4 => ?_
        have le : ((l.take i).filter p).length ≤ i := by
          refine Nat.le_trans (List.length_filter_le _ _) ?_
          rw [List.length_take]
          omega
        by_cases c : p z = true
        · rw [if_pos c]
          refine he i x H4 hi' (E2.trans e4) H4 (Ex.refl _) _ fun v H5 e5 _ => ⟨acc, e5 _ _ (e4 _ _ ha), sz_lt (by omega), acc ++ [v], Ex.mut ((e2.trans e4).trans e5) hd, upd_same, ?_⟩
          rw [take_snoc hz', List.filter_append, List.length_append, List.length_append, hla, List.filter_cons, if_pos c]
          rfl
        · rw [if_neg c]
          refine ⟨acc, e2.trans e4, e4 _ _ ha, ?_⟩
          rw [take_snoc hz', List.filter_append, List.length_append, hla, List.filter_cons, if_neg c]
          rfl)
      (fun H2 ⟨acc, e2, ha, hla⟩ => q (.ref d) H2 (e1.trans e2) ⟨d, acc, rfl, fresh_back (e0.trans e1) hd, ha, by rw [hla, hl, List.take_length]⟩)⟩
theorem ev_lenD {ta : TE} {p : Addr} {kvs : List (L2.Key × V)} (ha : Ev ta σ H (.ref p)) (h : H p = some (.dK kvs)) : Ev (tCB (fun xs H Q => ∃ a kvs, xs = [V.ref a] ∧ H a = some (.dK kvs) ∧ Q (.int kvs.length) H) (tCons ta tNil)) σ H (.int (kvs.length : Int)) := fun H1 e Q q =>
  ha H1 e _ fun H2 e2 => ⟨p, kvs, rfl, (e.trans e2) _ _ h, q H2 e2⟩
end
def fallP (S : SctDay.State) (s x : Nat) (y : Nat × (Nat × Nat)) : Bool := match S.goods.at_ y.2.1 with
    | some g => decide (y.2.2 ≤ s) && SctDay.way S.law g y.2.2 s x != 1
    | none => false
section
variable {P : Program} {w : World} {K : PySem.W.Frag} {mg : Str → Option Value} {base : Heap} {A : Adr}
theorem sc_latest : FnScope ["desk", "numbers", "number", "bottles", "rate", "day", "batch", "days", "found", "first", "last", "way"] ps_latest (defScope s_latest) := ⟨rfl, rfl, rfl, by decide +kernel, rfl, by decide +kernel, by decide +kernel⟩
theorem ok_latest (T : Txt K mg A) : Cal P w K mg base (L2.CX P w) 6 A.flatest ps_latest (sp_latest A K) := by
  have sc := sc_latest
  have c_need : Cal P w K mg base (L2.CX P w) 3 _ _ _ := ok_need T
  have c_are_days : Cal P w K mg base CX0 1 _ _ _ := ok_are_days T
  have c_Desk_batch : Cal P w K mg base (L2.CX P w) 4 _ _ _ := ok_Desk_batch T
  have c_Law_selling : Cal P w K mg base CX0 5 _ _ _ := ok_selling T
  refine T.dlatest.okX sc (fun vs H Q E h => ?_) (fun cdv Ar outer s H vs Q E hr h => ⟨_, (pss_cons (ps_asg (pv 1) (pg_unl rfl (pgs_cons (pg_name (i := 2) sc.nd rfl (Or.inl rfl)) (pgs_cons (pg_name (i := 3) sc.nd rfl (Or.inl rfl)) (pgs_cons (pg_name (i := 4) sc.nd rfl (Or.inl rfl)) (pgs_cons (pg_name (i := 5) sc.nd rfl (Or.inl rfl)) pgs_nil))))))
    (pss_cons (ps_expr (pcall c_need T.gneed (hr.mono (by decide)) (passes_call (takes_of rfl rfl rfl rfl) (fun _ _ _ _ z => z)) (by exact (pa_cons (pe_and (pe_chain op_le op_le pe_int (pv 2) pe_int) (pe_and (pe_chain op_le op_le pe_int (pv 3) pe_int) (pe_and (pe_chain op_le op_le pe_int (pv 4) pe_int) (pe_one (pcall c_are_days T.gare_days (hr.mono (by decide)) pass0 (by exact (pa_cons (pe_lst (pa_cons (pv 5) pa_nil)) pa_nil))))))) (pa_cons (pe_un un_neg pe_int) pa_nil)))))
    (pss_cons (ps_set (i := 6) sc.nd rfl (Or.inl rfl) (pmeth c_Desk_batch (pv 0) T.lDesk T.eDesk_batch (hr.mono (by decide)) (passes_call (takes_of rfl rfl rfl rfl) (fun _ _ _ _ z => z)) (by exact (pa_cons (pv 2) pa_nil))))
    (pss_cons (ps_par (i := 7) (j := 8) (by rfl) sc.nd rfl rfl (by decide) rfl rfl (by exact (pa_cons (pe_un un_neg (pe_op op_fdivN (pe_un un_neg (pv 3)) (pv 4))) (pa_cons (pe_un un_neg pe_int) pa_nil))) (by rfl))
    (pss_cons (ps_for (passes_of rfl) rfl (pi_list (pmeth c_Law_selling (pe_fld (pv 0) rfl) T.lLaw T.eLaw_selling (hr.mono (by decide)) pass0 (by exact (pa_cons (pe_dget (hu_of hr) (pe_fld (pv 0) rfl) (pe_fld (pv 6) rfl) (fun _ _ => rfl)) (pa_cons (pe_fld (pv 6) rfl) (pa_cons (pe_fld (pv 6) rfl) (pa_cons (pv 5) pa_nil))))))) (pg_tup rfl (pgs_cons (pg_name (i := 9) sc.nd rfl (Or.inl rfl)) (pgs_cons (pg_name (i := 10) sc.nd rfl (Or.inl rfl)) (pgs_cons (pg_name (i := 11) sc.nd rfl (Or.inl rfl)) pgs_nil)))) (pss_one (ps_if (PW.pt (pw_and (pt_cmpR op_eq (pv 11) pe_int (nomark _)) (pw_and1 (pt_cmpR op_ge (pe_op op_add (pe_op op_sub (pv 10) (pv 9)) pe_int) (pv 7) (nomark _))))) (pss_one (ps_set (i := 8) sc.nd rfl (Or.inl rfl) (pe_op op_add (pe_op op_sub (pv 10) (pv 7)) pe_int))) pss_nil)))
    (pss_cons (ps_expr (pcall c_need T.gneed (hr.mono (by decide)) (passes_call (takes_of rfl rfl rfl rfl) (fun _ _ _ _ z => z)) (by exact (pa_cons (pe_cmpR op_ge (pv 8) pe_int (nomark _)) (pa_cons (pe_un un_neg pe_int) pa_nil)))))
    (pss_one (ps_ret (pe_lst (pa_cons pe_int (pa_cons (pv 8) pa_nil))))))))))), ?_⟩)
  · obtain ⟨fr, D, S, np, b, n, r, x, rfl, _⟩ := h
    rfl
  · obtain ⟨fr, D, S, np, b, n, r, x, rfl, ⟨dx, L, ldx, la, gd, bd, ps, gk, bk, h⟩, hnp, out⟩ := h
    have sp : S.asks (.latest b n r x) = if (SctDay.isOf SctDay.BATCHES b && (SctDay.isIn 1 SctDay.BOTTLES n && (SctDay.isIn 1 SctDay.RATE r && SctDay.isDay x))) = false then SctDay.RANGE else S.batchOn b SctDay.DAYS fun (g : GO) (d : Nat) => match S.latestOf g d n.toNat r.toNat x.toNat with
      | none => SctDay.NOT
      | some s => SctBase.tells [SctBase.num s] := rfl
    rw [sp] at out
    have bq : ((decide (0 ≤ b) && decide (b ≤ 31)) && ((decide (1 ≤ n) && decide (n ≤ 1000000)) && ((decide (1 ≤ r) && decide (r ≤ 10000)) && [x].all SctDay.isDay))) = (SctDay.isOf SctDay.BATCHES b && (SctDay.isIn 1 SctDay.BOTTLES n && (SctDay.isIn 1 SctDay.RATE r && SctDay.isDay x))) := by rw [all1]; exact congrArg (· && _) (of_le 31 b)
    refine q_asgG (P := fun v H1 => v = .ref np) (ep_of_ev (ev_var rfl)) fun v H1 e1 ev => ?_
    subst ev
    refine g_un4 (ex_l e1 hnp) ?_
    refine q_must (ev_is (ev_andV (ev_lt2 ev_c (ev_var rfl) ev_c) fun _ => ev_andV (ev_lt2 ev_c (ev_var rfl) ev_c) fun _ => ev_andV (ev_lt2 ev_c (ev_var rfl) ev_c) fun _ => ev_daysL (zs := [x]) (ea_cons (ev_var rfl) ea_nil) (by show 1 ≤ 40000; decide)) (congrArg V.bl bq)) (ev_neg ev_c) (fun hb => ?_) (fun hb H2 e2 => ?_)
    · rw [if_pos hb] at out
      exact (out.no (by decide)).ex e1
    · rw [if_neg (by rw [hb]; decide)] at out
      rw [Bool.and_eq_true, Bool.and_eq_true, Bool.and_eq_true] at hb
      obtain ⟨b, rfl, hb1⟩ := of_nat hb.1
      obtain ⟨n, rfl, hn, hn1⟩ := in_nat hb.2.1
      obtain ⟨r, rfl, hr1, hr2⟩ := in_nat hb.2.2.1
      obtain ⟨x, rfl, hx⟩ := day_nat hb.2.2.2
      simp only [Int.toNat_natCast] at out
      have E2 := e1.trans e2
      have h2 := h.ex E2
      refine meth_raw (ev_var rfl) h2.ob (d_no (by decide +kernel) (by decide +kernel) (by decide +kernel)) (ea_cons (ev_var rfl) ea_nil) fun H3 e3 => ⟨fr, D, S, dx, L, ldx, la, gd, bd, ps, gk, bk, b, rfl, h2.ex e3, fun v hv H4 e4 => ?_, fun hv => ?_⟩
      · have E4 := (E2.trans e3).trans e4
        have h4 := h.ex E4
        obtain ⟨p, y, gp, g, rfl, hbt⟩ := h4.batch hv
        rw [on_some hbt, if_pos (by have := hbt.day; omega)] at out
        show tSeq _ _ _ _ _
        have R1 : SctDay.RATE = 10000 := rfl
        refine q_par (x := .int (SctDay.takes n r : Nat)) (y := .int (-1)) (ea_cons (ev_is (ev_neg (ev_op (ev_neg (ev_var rfl)) (ev_var rfl) (rv_I ⟨by omega, by show Int.natAbs (r : Int) < 2 ^ 30; omega⟩))) (congrArg V.int (takes_is n r hr1))) (ea_cons (ev_neg ev_c) ea_nil)) fun H5 e5 => ?_
        have E5 := E4.trans e5
        have h5 := h.ex E5
        have b5 := hbt.ex e5
        have lt := latest_is S g y.2 n r x
        refine q_forP (K := K) (ep_meth (ev_fld (ev_var rfl) h5.ob T.lDesk T.nDesk_law d_law) h5.lw.ob (l_no (by decide +kernel)) (ea_cons (ev_own T h5 b5 rfl rfl) (ea_cons (ev_made T b5 rfl) (ea_cons (ev_made T b5 rfl) (ea_cons (ev_var rfl) ea_nil)))) (spp_selling h5.law b5.go h5.wf.l48 y.2 y.2 x)) fun v H6 e6 ⟨q, ev, nq, qs, hq, pr⟩ => ⟨q, qs.map V.ref, ev, sq_of hq, (fun i σ' H' => ∃ v9 v10 v11, σ' = [some (.ref D), some (.ref np), some (nV b), some (nV n), some (nV r), some (nV x), some (.ref p), some (nV (SctDay.takes n r)), some (.int (((tri SctDay.DAYS (SctDay.stretches (S.wayOf g y.2 x) y.2 (SctDay.turns S.law))).take i).foldl (latLoop (SctDay.takes n r : Nat)) (-1))), v9, v10, v11] ∧ Ex H6 H'),
          ⟨none, none, none, rfl, Ex.refl _⟩, (fun i σ' H' _ ⟨_, _, _, _, h⟩ => sq_of (h _ _ hq)), ?_, ?_⟩
        · rintro i t σ' H7 hi ⟨v9, v10, v11, rfl, e7⟩
          obtain ⟨ta, hta, rfl⟩ := map_get hi
          obtain ⟨yy, hy, hty⟩ := paired_get pr hta
          change (tri SctDay.DAYS (SctDay.stretches (S.wayOf g y.2 x) y.2 (SctDay.turns S.law)))[i]? = some yy at hy
          refine g_triple (e7 _ _ hty) ?_
          refine s_when (b := decide (yy.2.2 = 1 ∧ ((SctDay.takes n r : Nat) : Int) ≤ (yy.2.1 : Int) - yy.1 + 1)) (et_is (et_and (et_test (ev_op (ev_var rfl) ev_c (rv_eq rfl))) fun _ => et_test (ev_op (ev_op (ev_op (ev_var rfl) (ev_var rfl) rv_I0) ev_c rv_I0) (ev_var rfl) rv_I0)) ?_) (fun hb H8 e8 => ?_) (fun hb H8 e8 => ?_)
          · rw [← Bool.decide_and]
            refine decide_eq_decide.mpr ⟨fun z => ⟨?_, z.2⟩, fun z => ⟨?_, z.2⟩⟩
            · have z1 : ((yy.2.2 : Nat) : Int) = 1 := V.int.inj z.1
              omega
            · show V.int ((yy.2.2 : Nat) : Int) = V.int 1
              rw [z.1]
              rfl
          · have hb' := of_decide_eq_true hb
            refine s_asg (v := .int ((yy.2.1 : Int) - (SctDay.takes n r : Nat) + 1)) (ev_op (ev_op (ev_var rfl) (ev_var rfl) rv_I0) ev_c rv_I0) fun H9 e9 => ⟨some (nV yy.1), some (nV yy.2.1), some (nV yy.2.2), ?_, (e7.trans e8).trans e9⟩
            rw [fold_take hy, show ∀ o, latLoop (SctDay.takes n r : Nat) o yy = (yy.2.1 : Int) - (SctDay.takes n r : Nat) + 1 from fun o => if_pos hb']
            rfl
          · have hb' := of_decide_eq_false hb
            refine ⟨some (nV yy.1), some (nV yy.2.1), some (nV yy.2.2), ?_, e7.trans e8⟩
            rw [fold_take hy, show ∀ o, latLoop (SctDay.takes n r : Nat) o yy = o from fun o => if_neg hb']
            rfl
        · rintro σ' H7 ⟨v9, v10, v11, rfl, e7⟩
          have hlen := Paired.length pr
          change qs.length = (tri SctDay.DAYS (SctDay.stretches (S.wayOf g y.2 x) y.2 (SctDay.turns S.law))).length at hlen
          rw [List.length_map, hlen, List.take_length]
          have E7 := (E5.trans e6).trans e7
          rw [lt]
          cases hl : S.latestOf g y.2 n r x with
          | none =>
            rw [hl] at out
            have out' : AskOut A E Q H SctDay.NOT := out
            exact q_must (b := false) (ev_op (ev_var rfl) ev_c rv_I0) (ev_neg ev_c) (fun _ => (out'.no (by decide)).ex E7) (fun hb => by cases hb)
          | some sv =>
            rw [hl] at out
            have out' : AskOut A E Q H (SctBase.tells [SctBase.num sv]) := out
            refine q_must (b := decide ((0 : Int) ≤ (sv : Int))) (ev_op (ev_var rfl) ev_c rv_I0) (ev_neg ev_c) (fun hb => absurd (of_decide_eq_false hb) (by omega)) (fun hb H8 e8 => ?_)
            exact s_retL (el_lst (ea_cons ev_c (ea_cons (ev_var rfl) ea_nil)) (by show 2 ≤ 100000; decide)) fun q2 H9 nq e9 hq2 => out'.yes q2 H9 (E7.trans (e8.trans e9)) hq2
      · rw [on_none (by rw [Int.toNat_natCast]; exact (h.br.no b).mp hv)] at out
        exact (out.no (by decide)).ex (E2.trans e3)
theorem sc_fallen : FnScope ["desk", "sold", "day", "found", "number", "batch"] ps_fallen (defScope s_fallen) := ⟨rfl, rfl, rfl, by decide +kernel, rfl, by decide +kernel, by decide +kernel⟩
theorem ok_fallen (T : Txt K mg A) : Cal P w K mg base (L2.CX P w) 5 A.ffallen ps_fallen (sp_fallen A) := by
  have sc := sc_fallen
  have c_need : Cal P w K mg base (L2.CX P w) 3 _ _ _ := ok_need T
  have c_are_days : Cal P w K mg base CX0 1 _ _ _ := ok_are_days T
  have c_Law_way : Cal P w K mg base CX0 4 _ _ _ := ok_way T
  refine T.dfallen.okX sc (fun vs H Q E h => ?_) (fun cdv Ar outer s H vs Q E hr h => ⟨_, (pss_cons (ps_expr (pcall c_need T.gneed (hr.mono (by decide)) (passes_call (takes_of rfl rfl rfl rfl) (fun _ _ _ _ z => z)) (by exact (pa_cons (pcall c_are_days T.gare_days (hr.mono (by decide)) pass0 (by exact (pa_cons (pe_lst (pa_cons (pv 1) (pa_cons (pv 2) pa_nil))) pa_nil))) (pa_cons (pe_un un_neg pe_int) pa_nil)))))
    (pss_cons (ps_set (i := 3) sc.nd rfl (Or.inl rfl) (pe_lst (pa_cons pe_int pa_nil)))
    (pss_cons (ps_for (passes_of rfl) rfl (pi_list (pe_callB (cr_sortedM rfl) (by rfl) T.b_sorted (by decide +kernel) (pa_cons (pe_fld (pv 0) rfl) pa_nil))) (pg_name (i := 4) sc.nd rfl (Or.inl rfl)) (pss_cons (ps_set (i := 5) sc.nd rfl (Or.inl rfl) (pe_dget (hu_of hr) (pe_fld (pv 0) rfl) (pv 4) (fun _ _ => rfl)))
    (pss_one (ps_if (PW.pt (pw_and (pt_cmpR op_le (pe_fld (pv 5) rfl) (pv 1) (nomark _)) (pw_and1 (pt_cmpR op_ne (pmeth c_Law_way (pe_fld (pv 0) rfl) T.lLaw T.eLaw_way (hr.mono (by decide)) pass0 (by exact (pa_cons (pe_dget (hu_of hr) (pe_fld (pv 0) rfl) (pe_fld (pv 5) rfl) (fun _ _ => rfl)) (pa_cons (pe_fld (pv 5) rfl) (pa_cons (pv 1) (pa_cons (pv 2) pa_nil)))))) pe_int (nomark _))))) (pss_one (ps_expr (pe_bm PySem.F.plainAttrs_list PySem.F.slot_list_append PySem.F.type_list_append mt_append (pv 3) (pa_cons (pv 4) pa_nil)))) pss_nil))))
    (pss_one (ps_ret (pv 3)))))), ?_⟩)
  · obtain ⟨fr, D, S, s, x, rfl, _⟩ := h
    rfl
  · obtain ⟨fr, D, S, s, x, rfl, ⟨dx, L, ldx, la, gd, bd, ps, gk, bk, h⟩, out⟩ := h
    have sp : S.asks (.fallen s x) = if (SctDay.isDay s && SctDay.isDay x) = false then SctDay.RANGE else SctBase.tells ((S.batches.filter (fallP S s.toNat x.toNat)).map fun (y : Nat × (Nat × Nat)) => SctBase.num y.1) := rfl
    rw [sp] at out
    refine q_must (ev_is (ev_daysL (zs := [s, x]) (ea_cons (ev_var rfl) (ea_cons (ev_var rfl) ea_nil)) (by show 2 ≤ 40000; decide)) (congrArg V.bl (all2 s x))) (ev_neg ev_c) (fun hb => ?_) (fun hb H1 e1 => ?_)
    · rw [if_pos hb] at out
      exact out.no (by decide)
    · rw [if_neg (by rw [hb]; decide)] at out
      rw [Bool.and_eq_true] at hb
      obtain ⟨s, rfl, hs⟩ := day_nat hb.1
      obtain ⟨x, rfl, hx⟩ := day_nat hb.2
      simp only [Int.toNat_natCast] at out
      refine q_asgL (el_lst (ea_cons ev_c ea_nil) (by show 1 ≤ 100000; decide)) fun fp H2 nf e2 hf => ?_
      have nf0 : H fp = none := fresh_back e1 nf
      have E2 := e1.trans e2
      have h2 := h.ex E2
      obtain ⟨ks, hks, pm⟩ := h.br.keys h.wf.bs
      have bl32 : S.batches.length ≤ 32 := rows_len h.wf.bs h.wf.b32
      refine q_forP (K := K) (P := fun v H3 => ∃ p, v = .ref p ∧ H2 p = none ∧ H3 p = some (.lst (S.batches.map fun (y : Nat × (Nat × Nat)) => nV y.1))) ?_ fun v H3 e3 ⟨q, ev, nq, hq⟩ => ⟨q, _, ev, sq_of hq, (fun i σ' H' => ∃ v4 v5, σ' = [some (.ref D), some (nV s), some (nV x), some (.ref fp), v4, v5] ∧ Ex H H' ∧ H' q = some (.lst (S.batches.map fun (y : Nat × (Nat × Nat)) => nV y.1)) ∧ H' fp = some (.lst ((0 :: (((S.batches.take i).filter (fallP S s x)).map fun (y : Nat × (Nat × Nat)) => SctBase.num y.1)).map V.int))),
        ⟨none, none, rfl, E2.trans e3, hq, e3 _ _ hf⟩, (fun i σ' H' _ ⟨_, _, _, _, h, _⟩ => sq_of h), ?_, ?_⟩
      · intro H3 e3 Q' q'
        refine (ev_fld (K := K) (ev_var rfl) (h2.ex e3).ob T.lDesk T.nDesk_batches d_batches) H3 (Ex.refl _) _ fun H4 e4 => ⟨bd, bk, ks.map fun (n : Nat) => (n : Int), rfl, .inl (e4 _ _ (h2.ex e3).bh), by rw [hks, List.map_map]; rfl, fun ns' p pm' ri np => ?_⟩
        have : ns' = (S.batches.map (·.1)).map fun (n : Nat) => (n : Int) := rise_unique ri (rise_nat h.wf.bs) (pm'.trans (pm.map _))
        refine q' _ _ (e4.trans (Ex.new np)) ⟨p, rfl, fresh_back (e3.trans e4) np, ?_⟩
        rw [this, List.map_map, List.map_map]
        exact upd_same
      · rintro i t σ' H4 hi ⟨v4, v5, rfl, e4, hq4, hf4⟩
        obtain ⟨y, hy, rfl⟩ := map_get hi
        have h4 := h.ex e4
        have hya : S.batches.at_ y.1 = some y.2 := at_of h.wf.bs (List.mem_of_getElem? hy)
        obtain ⟨v, hv⟩ : ∃ v, valV bk (Sum.inl (y.1 : Int)) = some v := by
          cases hv : valV bk (Sum.inl (y.1 : Int)) with
          | some v => exact ⟨v, rfl⟩
          | none =>
            rw [(h.br.no y.1).mp hv] at hya
            cases hya
        obtain ⟨p, b, gp, g, rfl, hbt⟩ := h4.batch hv
        have eb : b = y.2 := by
          have z := hbt.at_
          rw [hya] at z
          exact (Option.some.inj z).symm
        subst eb
        refine q_asg (v := .ref p) (ev_dget (ev_fld (ev_var rfl) h4.ob T.lDesk T.nDesk_batches d_batches) (ev_var rfl) (by rw [← hv]; exact DGet.k (k := Sum.inl (y.1 : Int)) h4.bh)) fun H5 e5 => ?_
        have h5 := h4.ex e5
        have b5 := hbt.ex e5
        have fe : fallP S s x y = (decide ((y.2.2 : Int) ≤ (s : Int)) && !decide (nV (SctDay.way S.law g y.2.2 s x) = V.int 1)) := by
          unfold fallP
          rw [hbt.ga]
          dsimp only
          have z1 : decide (y.2.2 ≤ s) = decide ((y.2.2 : Int) ≤ (s : Int)) := decide_eq_decide.mpr (by omega)
          rw [z1, show (V.int 1) = nV 1 from rfl, dec_eq]
          rfl
        refine s_when (b := fallP S s x y) (et_is (et_and (et_test (ev_op (ev_made T b5 rfl) (ev_var rfl) rv_I0)) fun _ => et_test (ev_op (ev_meth (ev_fld (ev_var rfl) h5.ob T.lDesk T.nDesk_law d_law) h5.lw.ob (l_no (by decide +kernel)) (ea_cons (ev_own T h5 b5 rfl rfl) (ea_cons (ev_made T b5 rfl) (ea_cons (ev_var rfl) (ea_cons (ev_var rfl) ea_nil)))) (spv_way h5.law b5.go h5.wf.l48 y.2.2 s x)) ev_c (rv_ne rfl))) fe.symm) (fun hb H6 e6 => ?_) (fun hb H6 e6 => ?_)
        · refine s_app (e6 _ _ (e5 _ _ hf4)) (ev_var rfl) (v := nV y.1) (ev_var rfl) ?_ fun H7 e7 => ⟨some (nV y.1), some (.ref p), rfl, Ex.mut (((e4.trans e5).trans e6).trans e7) nf0, ?_, ?_⟩
          · rw [List.length_map, List.length_cons, List.length_map]
            have := List.length_filter_le (fallP S s x) (S.batches.take i)
            rw [List.length_take] at this
            omega
          · rw [upd_ne]
            · exact ((e5.trans e6).trans e7) _ _ hq4
            · exact Ne.symm (ne_of_none hf nq)
          · rw [take_snoc hy, List.filter_append, List.filter_cons, if_pos hb, List.filter_nil, List.map_append, ← List.cons_append, List.map_append]
            exact upd_same
        · refine ⟨some (nV y.1), some (.ref p), rfl, (e4.trans e5).trans e6, (e5.trans e6) _ _ hq4, ?_⟩
          rw [take_snoc hy, List.filter_append, List.filter_cons, if_neg (by rw [hb]; decide), List.filter_nil, List.append_nil]
          exact (e5.trans e6) _ _ hf4
      · rintro σ' H4 ⟨v4, v5, rfl, e4, hq4, hf4⟩
        rw [List.length_map, List.take_length] at hf4
        exact s_ret (v := .ref fp) (ev_var rfl) fun H5 e5 => out.yes fp H5 (e4.trans e5) (e5 _ _ hf4)
theorem sc_told : FnScope ["desk", "gone", "one"] ps_told (defScope s_told) := ⟨rfl, rfl, rfl, by decide +kernel, rfl, by decide +kernel, by decide +kernel⟩
theorem ok_told (T : Txt K mg A) : Cal P w K mg base CX0 1 A.ftold ps_told (sp_told A) := by
  have sc := sc_told
  refine T.dtold.ok sc (fun vs H Q E h => ?_) (fun cdv Ar outer s H vs Q E hr h => ⟨_, (pss_cons (ps_setLc (i := 1) (own := [("one", 2)]) (tt := tTest (tOp (rI0 fun i j => .bl (decide (j ≤ i))) (tFld K (tVar 2) "withdrawn") (tC (.int 0)))) (hc := by rfl) sc.nd rfl rfl (sw_true rfl rfl rfl (by decide +kernel)) (pi_list (pe_fld (pe_fld (pv 0) rfl) rfl)) (blkOk_by (N := ["desk", "gone", "one"]) (sc := defScope s_told) (by decide +kernel)) (fun _ _ _ _ _ => by exact pg_name (i := 2) sc.nd rfl (Or.inl rfl)) (fun _ _ _ _ _ => by exact pts_one (pt_cmpR op_ge (pe_fld (pv 2) rfl) pe_int (nomark _))) (fun _ _ _ _ _ => by exact (pv 2)))
    (pss_one (ps_ret (pe_lst (pa_cons pe_int (pa_cons (pe_callB call_len_seq (by rfl) T.b_len PySem.boot_len (pa_cons (pe_fld (pe_fld (pv 0) rfl) rfl) pa_nil)) (pa_cons (pe_callB call_len_seq (by rfl) T.b_len PySem.boot_len (pa_cons (pv 1) pa_nil)) (pa_cons (pe_callB call_lenD (by rfl) T.b_len PySem.boot_len (pa_cons (pe_fld (pv 0) rfl) pa_nil)) (pa_cons (pe_callB call_lenD (by rfl) T.b_len PySem.boot_len (pa_cons (pe_fld (pv 0) rfl) pa_nil)) pa_nil))))))))), ?_⟩)
  · obtain ⟨fr, D, S, rfl, _⟩ := h
    rfl
  · obtain ⟨fr, D, S, rfl, ⟨dx, L, ldx, la, gd, bd, ps, gk, bk, h⟩, out⟩ := h
    have lst : ∀ σ H1, Ex H H1 → σ[0]? = some (some (.ref D)) → Ev (tFld K (tFld K (tVar 0) "law") "amendments") σ H1 (.ref la) := fun σ H1 e1 h0 => ev_fld (ev_fld (ev_var h0) (h.ex e1).ob T.lDesk T.nDesk_law d_law) (h.ex e1).lw.ob T.lLaw T.nLaw_amendments l_amendments
    have ll : ps.length = S.law.length := h.lw.am.1
    refine q_asgP (P := FilOut H (S.law.filter fun (a : AM) => a.void.isSome).length) (ep_lcF (K := K) (l := S.law) (xs := ps.map V.ref) (fun i => [some (.ref D), none, some (.ref (ps.getD i 0))]) (lst _ _ (Ex.refl _) rfl) (sq_of h.lw.li) (by rw [List.length_map]; exact ll) (by have := h.wf.l48; rw [List.length_map]; omega) ?_ ?_ ?_ ?_) fun v H1 e1 ⟨p, ys, ev, np, hp, hl⟩ => ?_
    · intro i t H' hi e Q' q'
      obtain ⟨z, hz, rfl⟩ := map_get hi
      rw [getD_of hz] at q'
      exact q'
    · intro i t hi
      rfl
    · intro i t z H' hi hz e
      obtain ⟨ap, hap, rfl⟩ := map_get hi
      rw [getD_of hap]
      obtain ⟨adx, sa, da, ca, tt, cs, hh⟩ := (h.ex e).lw.am.2 i ap z hap hz
      refine et_is (et_test (ev_op (ev_fld (ev_var rfl) hh.ob T.lAmendment T.nAmendment_withdrawn f_withdrawn) ev_c rv_I0)) ?_
      unfold wdr
      cases z.void with
      | none => rfl
      | some v => exact decide_eq_true (by show (0 : Int) ≤ (v : Int); omega)
    · intro i t H' hi e
      obtain ⟨ap, hap, rfl⟩ := map_get hi
      exact fun H2 e2 Q' q' => ev_var (v := .ref (ps.getD i 0)) rfl H2 e2 Q' fun H3 e3 => q' _ H3 e3 trivial
    · subst ev
      have h1 := h.ex e1
      refine s_retL (xs := ([0, SctBase.num S.law.length, SctBase.num (S.law.filter fun (a : AM) => a.void.isSome).length, SctBase.num S.goods.length, SctBase.num S.batches.length] : List Int).map V.int) (el_lst (ea_cons ev_c (ea_cons (ev_is (ev_len (lst _ _ e1 rfl) (sq_of h1.lw.li)) (by rw [List.length_map, ll]; rfl)) (ea_cons (ev_is (ev_len (ev_var rfl) (sq_of hp)) (by rw [hl]; rfl)) (ea_cons (ev_is (ev_lenD (ev_fld (ev_var rfl) h1.ob T.lDesk T.nDesk_goods d_goods) h1.gh) (by rw [h1.gr.len h.wf.gs]; rfl)) (ea_cons (ev_is (ev_lenD (ev_fld (ev_var rfl) h1.ob T.lDesk T.nDesk_batches d_batches) h1.bh) (by rw [h1.br.len h.wf.bs]; rfl)) ea_nil))))) (by show 5 ≤ 100000; decide)) fun q H2 nq e2 hq => out.yes q H2 (e1.trans e2) hq
end
end Bd
namespace Bd
open PySem PySem.Spec PyProof.Rows L2 Evl
/-! ### one object of the heap changes -/
section
variable {A : Adr} {fr : Addr → Prop} {H H' : Hp} {D z : Addr} {S : SctDay.State} {dx L ldx la gd bd : Addr} {ps : List Addr} {gk bk : List (L2.Key × V)} {oz o : HO}
theorem amF_i {i j : Nat} {a b : AM} {sa da ca sb db cb : Addr} (h : amF i a sa da ca = amF j b sb db cb) : i = j := by
  unfold amF at h
  have z : nV i = nV j := (Prod.mk.inj (List.cons.inj h).1).2
  have z2 : (i : Int) = (j : Int) := V.int.inj z
  omega
theorem goF_ne {g : GO} {c : Addr} {i : Nat} {a : AM} {sa da ca : Addr} : goF g c ≠ amF i a sa da ca := fun h => by
  have z := congrArg List.length h
  have z2 : (3 : Nat) = 8 := z
  omega
theorem baF_ne {b : Nat × Nat} {i : Nat} {a : AM} {sa da ca : Addr} : baF b ≠ amF i a sa da ca := fun h => by
  have z := congrArg List.length h
  have z2 : (2 : Nat) = 8 := z
  omega
theorem laF_ne {c : Addr} {i : Nat} {a : AM} {sa da ca : Addr} : laF c ≠ amF i a sa da ca := fun h => by
  have z := congrArg List.length h
  have z2 : (1 : Nat) = 8 := z
  omega
theorem deF_ne {b c d : Addr} {i : Nat} {a : AM} {sa da ca : Addr} : deF b c d ≠ amF i a sa da ca := fun h => by
  have z := congrArg List.length h
  have z2 : (3 : Nat) = 8 := z
  omega
theorem AmAt.upd {p : Addr} {i : Nat} {a : AM} {adx sa da ca : Addr} {ts : List Nat} {cs : List Addr} (h : AmAt A H p i a adx sa da ca ts cs) (hz : H z = some oz) (k1 : ∀ x, oz ≠ .ins A.cAmendment x (amF i a sa da ca)) (k2 : ∀ vs, oz ≠ .tup vs) (k3 : ca ≠ z) : AmAt A (upd H z o) p i a adx sa da ca ts cs :=
  ⟨by rw [upd_ne (ne_of h.ob hz (fun q => k1 _ q.symm))]; exact h.ob, by rw [upd_ne (ne_of h.su hz (fun q => k2 _ q.symm))]; exact h.su, h.pe, h.ri, h.ne, by rw [upd_ne (ne_of h.da hz (fun q => k2 _ q.symm))]; exact h.da,
    by rw [upd_ne k3]; exact h.co, paired_imp (fun c f hc => by rw [upd_ne (ne_of hc hz (fun q => k2 _ q.symm))]; exact hc) h.fx, h.f4, h.rp⟩
theorem GoAt.upd {p : Addr} {g : GO} {gdx ca : Addr} {ts : List Addr} (h : GoAt A H p g gdx ca ts) (hz : H z = some oz) (k1 : ∀ x, oz ≠ .ins A.cGoods x (goF g ca)) (k2 : ∀ vs, oz ≠ .tup vs) (k3 : ca ≠ z) : GoAt A (upd H z o) p g gdx ca ts :=
  ⟨by rw [upd_ne (ne_of h.ob hz (fun q => k1 _ q.symm))]; exact h.ob, by rw [upd_ne k3]; exact h.co, paired_imp (fun c f hc => by rw [upd_ne (ne_of hc hz (fun q => k2 _ q.symm))]; exact hc) h.it, h.nd, h.lo⟩
theorem DkAt.am_at (h : DkAt A fr H D S dx L ldx la gd bd ps gk bk) {i : Nat} {p : Addr} {a : AM} (hp : ps[i]? = some p) (ha : S.law[i]? = some a) : ∃ adx sa da ca ts cs, AmAt A H p i a adx sa da ca ts cs ∧ ca ≠ la ∧ ¬ fr ca := by
  obtain ⟨adx, sa, da, ca, ts, cs, hh⟩ := h.lw.am.2 i p a hp ha
  exact ⟨adx, sa, da, ca, ts, cs, hh, h.cn p (List.mem_of_getElem? hp) _ _ _ ca hh.ob f_corrections⟩
theorem DkAt.cn_upd (h : DkAt A fr H D S dx L ldx la gd bd ps gk bk) (hz : H z = some oz) (k : ∀ C x fs, oz ≠ .ins C x fs) : ∀ p ∈ ps, ∀ C dx' fs ca, upd H z o p = some (.ins C dx' fs) → fs.lookup ("corrections" : Str) = some (V.ref ca) → ca ≠ la ∧ ¬ fr ca := fun p hp C x fs ca h1 h2 => by
  obtain ⟨C0, x0, fs0, h0⟩ := h.lw.ins p hp
  rw [upd_ne (ne_of h0 hz (fun q => k _ _ _ q.symm))] at h1
  exact h.cn p hp C x fs ca h1 h2
theorem DkAt.setG (h : DkAt A fr H D S dx L ldx la gd bd ps gk bk) {gk' : List (L2.Key × V)} {rows' : SctDay.Rows GO} (hr : DRel (fun p g => ∃ gdx ca ts, GoAt A H p g gdx ca ts ∧ ca ≠ gd ∧ ca ≠ bd) gk' rows') (hw : WfS { S with goods := rows' }) : DkAt A fr (upd H gd (.dK gk')) D { S with goods := rows' } dx L ldx la gd bd ps gk' bk :=
  ⟨by rw [upd_ne (ne_of h.ob h.gh (by intro q; cases q))]; exact h.ob,
   ⟨by rw [upd_ne (ne_of h.lw.ob h.gh (by intro q; cases q))]; exact h.lw.ob, by rw [upd_ne (ne_of h.lw.li h.gh (by intro q; cases q))]; exact h.lw.li,
    h.lw.am.1, fun i p a hp ha => by
      obtain ⟨adx, sa, da, ca, ts, cs, hh, _⟩ := h.am_at hp ha
      exact ⟨adx, sa, da, ca, ts, cs, hh.upd h.gh (fun _ q => by cases q) (fun _ q => by cases q) (ne_of hh.co h.gh (by intro q; cases q))⟩⟩,
   upd_same, by rw [upd_ne (Ne.symm h.gb)]; exact h.bh,
   hr.mono fun p g ⟨gdx, ca, ts, h1, h2, h3⟩ => ⟨gdx, ca, ts, h1.upd h.gh (fun _ q => by cases q) (fun _ q => by cases q) h2, h2, h3⟩,
   h.br.mono fun p b ⟨x, hb⟩ => ⟨x, by rw [upd_ne (ne_of hb h.gh (by intro q; cases q))]; exact hb⟩,
   h.gb, h.cn_upd h.gh (fun _ _ _ q => by cases q), h.fl, h.fg, h.fb, h.fp, hw⟩
theorem DkAt.setB (h : DkAt A fr H D S dx L ldx la gd bd ps gk bk) {bk' : List (L2.Key × V)} {rows' : SctDay.Rows (Nat × Nat)} (hr : DRel (fun p b => Ba A H p b) bk' rows') (hw : WfS { S with batches := rows' }) : DkAt A fr (upd H bd (.dK bk')) D { S with batches := rows' } dx L ldx la gd bd ps gk bk' :=
  ⟨by rw [upd_ne (ne_of h.ob h.bh (by intro q; cases q))]; exact h.ob,
   ⟨by rw [upd_ne (ne_of h.lw.ob h.bh (by intro q; cases q))]; exact h.lw.ob, by rw [upd_ne (ne_of h.lw.li h.bh (by intro q; cases q))]; exact h.lw.li,
    h.lw.am.1, fun i p a hp ha => by
      obtain ⟨adx, sa, da, ca, ts, cs, hh, _⟩ := h.am_at hp ha
      exact ⟨adx, sa, da, ca, ts, cs, hh.upd h.bh (fun _ q => by cases q) (fun _ q => by cases q) (ne_of hh.co h.bh (by intro q; cases q))⟩⟩,
   by rw [upd_ne h.gb]; exact h.gh, upd_same,
   h.gr.mono fun p g ⟨gdx, ca, ts, h1, h2, h3⟩ => ⟨gdx, ca, ts, h1.upd h.bh (fun _ q => by cases q) (fun _ q => by cases q) h3, h2, h3⟩,
   hr.mono fun p b ⟨x, hb⟩ => ⟨x, by rw [upd_ne (ne_of hb h.bh (by intro q; cases q))]; exact hb⟩,
   h.gb, h.cn_upd h.bh (fun _ _ _ q => by cases q), h.fl, h.fg, h.fb, h.fp, hw⟩
theorem DkAt.app (h : DkAt A fr H D S dx L ldx la gd bd ps gk bk) {p : Addr} {a : AM} {adx sa da ca : Addr} {ts : List Nat} {cs : List Addr} (hp : AmAt A H p S.law.length a adx sa da ca ts cs) (hca : ca ≠ la ∧ ¬ fr ca) (hfr : ¬ fr p) (hw : WfS { S with law := S.law ++ [a] }) :
    DkAt A fr (upd H la (.lst ((ps ++ [p]).map V.ref))) D { S with law := S.law ++ [a] } dx L ldx la gd bd (ps ++ [p]) gk bk :=
  ⟨by rw [upd_ne (ne_of h.ob h.lw.li (by intro q; cases q))]; exact h.ob,
   ⟨by rw [upd_ne (ne_of h.lw.ob h.lw.li (by intro q; cases q))]; exact h.lw.ob, upd_same,
    by rw [List.length_append, List.length_append, h.lw.am.1]; rfl, fun i q b hq hb => by
      by_cases c : i < ps.length
      · rw [List.getElem?_append_left c] at hq
        rw [List.getElem?_append_left (by rw [← h.lw.am.1]; exact c)] at hb
        obtain ⟨adx, sa, da, ca, ts, cs, hh, hc⟩ := h.am_at hq hb
        exact ⟨adx, sa, da, ca, ts, cs, hh.upd h.lw.li (fun _ q => by cases q) (fun _ q => by cases q) hc.1⟩
      · have ei : i = ps.length := by
          have := (List.getElem?_eq_some_iff.mp hq).1
          rw [List.length_append, List.length_singleton] at this
          omega
        subst ei
        rw [List.getElem?_append_right (Nat.le_refl _), Nat.sub_self] at hq
        rw [h.lw.am.1, List.getElem?_append_right (Nat.le_refl _), Nat.sub_self] at hb
        cases hq
        cases hb
        rw [h.lw.am.1]
        exact ⟨adx, sa, da, ca, ts, cs, hp.upd h.lw.li (fun _ q => by cases q) (fun _ q => by cases q) hca.1⟩⟩,
   by rw [upd_ne (ne_of h.gh h.lw.li (by intro q; cases q))]; exact h.gh, by rw [upd_ne (ne_of h.bh h.lw.li (by intro q; cases q))]; exact h.bh,
   h.gr.mono fun p g ⟨gdx, ca, ts, h1, h2, h3⟩ => ⟨gdx, ca, ts, h1.upd h.lw.li (fun _ q => by cases q) (fun _ q => by cases q) (ne_of h1.co h.lw.li (by intro q; cases q)), h2, h3⟩,
   h.br.mono fun p b ⟨x, hb⟩ => ⟨x, by rw [upd_ne (ne_of hb h.lw.li (by intro q; cases q))]; exact hb⟩,
   h.gb, fun q hq C x fs c h1 h2 => by
     rcases List.mem_append.mp hq with hq | hq
     · exact h.cn_upd h.lw.li (fun _ _ _ q => by cases q) q hq C x fs c h1 h2
     · rw [List.mem_singleton.mp hq, upd_ne (ne_of hp.ob h.lw.li (by intro q; cases q)), hp.ob] at h1
       cases h1
       rw [f_corrections] at h2
       cases h2
       exact hca,
   h.fl, h.fg, h.fb, fun q hq => (List.mem_append.mp hq).elim (h.fp q) (fun z => by rw [List.mem_singleton.mp z]; exact hfr), hw⟩
/-- a list that the state has nothing to do with -/
theorem DkAt.fupd (h : DkAt A fr H D S dx L ldx la gd bd ps gk bk) {xs ys : List V} (hf : fr z) (hz : H z = some (.lst xs)) : DkAt A fr (upd H z (.lst ys)) D S dx L ldx la gd bd ps gk bk :=
  ⟨by rw [upd_ne (ne_of h.ob hz (by intro q; cases q))]; exact h.ob,
   ⟨by rw [upd_ne (ne_of h.lw.ob hz (by intro q; cases q))]; exact h.lw.ob, by rw [upd_ne (fun e => h.fl (by rw [e]; exact hf))]; exact h.lw.li,
    h.lw.am.1, fun i p a hp ha => by
      obtain ⟨adx, sa, da, ca, ts, cs, hh, hc⟩ := h.am_at hp ha
      exact ⟨adx, sa, da, ca, ts, cs, hh.upd hz (fun _ q => by cases q) (fun _ q => by cases q) (fun e => hc.2 (by rw [e]; exact hf))⟩⟩,
   by rw [upd_ne (ne_of h.gh hz (by intro q; cases q))]; exact h.gh, by rw [upd_ne (ne_of h.bh hz (by intro q; cases q))]; exact h.bh,
   h.gr.mono fun p g ⟨gdx, ca, ts, h1, h2, h3⟩ => ⟨gdx, ca, ts, h1.upd hz (fun _ q => by cases q) (fun _ q => by cases q) (ne_of h1.co hz (by intro q; cases q)), h2, h3⟩,
   h.br.mono fun p b ⟨x, hb⟩ => ⟨x, by rw [upd_ne (ne_of hb hz (by intro q; cases q))]; exact hb⟩,
   h.gb, h.cn_upd hz (fun _ _ _ q => by cases q), h.fl, h.fg, h.fb, h.fp, h.wf⟩
theorem Dk.fupd (h : Dk A fr H D S) {xs ys : List V} (hf : fr z) (hz : H z = some (.lst xs)) : Dk A fr (upd H z (.lst ys)) D S := by
  obtain ⟨dx, L, ldx, la, gd, bd, ps, gk, bk, h⟩ := h
  exact ⟨dx, L, ldx, la, gd, bd, ps, gk, bk, h.fupd hf hz⟩
theorem DkAt.setA (h : DkAt A fr H D S dx L ldx la gd bd ps gk bk) {n : Nat} {p : Addr} {a a' : AM} {adx sa da ca ca' : Addr} {ts : List Nat} {cs : List Addr} (hp : ps[n]? = some p) (h0 : H p = some (.ins A.cAmendment adx (amF n a sa da ca)))
    (hn : AmAt A (upd H p (.ins A.cAmendment adx (amF n a' sa da ca'))) p n a' adx sa da ca' ts cs) (hca : ca' ≠ la ∧ ¬ fr ca') (hw : WfS { S with law := S.law.set n a' }) :
    DkAt A fr (upd H p (.ins A.cAmendment adx (amF n a' sa da ca'))) D { S with law := S.law.set n a' } dx L ldx la gd bd ps gk bk :=
  ⟨by rw [upd_ne (ne_of h.ob h0 (by intro q; injection q with _ _ q; exact deF_ne q))]; exact h.ob,
   ⟨by rw [upd_ne (ne_of h.lw.ob h0 (by intro q; injection q with _ _ q; exact laF_ne q))]; exact h.lw.ob, by rw [upd_ne (ne_of h.lw.li h0 (by intro q; cases q))]; exact h.lw.li,
    by rw [List.length_set]; exact h.lw.am.1, fun i q b hq hb => by
      by_cases c : i = n
      · subst c
        rw [hp] at hq
        cases hq
        have lt : i < S.law.length := by rw [← h.lw.am.1]; exact (List.getElem?_eq_some_iff.mp hp).1
        rw [List.getElem?_set_self lt] at hb
        cases hb
        exact ⟨adx, sa, da, ca', ts, cs, hn⟩
      · rw [List.getElem?_set_ne (fun z => c z.symm)] at hb
        obtain ⟨adx2, sa2, da2, ca2, ts2, cs2, hh, hc⟩ := h.am_at hq hb
        exact ⟨adx2, sa2, da2, ca2, ts2, cs2, hh.upd h0 (fun _ q => by injection q with _ _ q; exact c (amF_i q).symm) (fun _ q => by cases q) (ne_of hh.co h0 (by intro q; cases q))⟩⟩,
   by rw [upd_ne (ne_of h.gh h0 (by intro q; cases q))]; exact h.gh, by rw [upd_ne (ne_of h.bh h0 (by intro q; cases q))]; exact h.bh,
   h.gr.mono fun p g ⟨gdx, ca, ts, h1, h2, h3⟩ => ⟨gdx, ca, ts, h1.upd h0 (fun _ q => by injection q with _ _ q; exact goF_ne q.symm) (fun _ q => by cases q) (ne_of h1.co h0 (by intro q; cases q)), h2, h3⟩,
   h.br.mono fun p b ⟨x, hb⟩ => ⟨x, by rw [upd_ne (ne_of hb h0 (by intro q; injection q with _ _ q; exact baF_ne q))]; exact hb⟩,
   h.gb, fun q hq C x fs c h1 h2 => by
     by_cases e : q = p
     · rw [e, upd_same] at h1
       cases h1
       rw [f_corrections] at h2
       cases h2
       exact hca
     · rw [upd_ne e] at h1
       exact h.cn q hq C x fs c h1 h2,
   h.fl, h.fg, h.fb, h.fp, hw⟩
end
/-! ### the rows and their dicts -/
section
variable {α : Type} {R : Addr → α → Prop} {kvs : List (L2.Key × V)} {rows : SctDay.Rows α}
theorem DRel.put (h : DRel R kvs rows) {n : Nat} {p : Addr} {a : α} (hR : R p a) : DRel R (putK kvs (Sum.inl (n : Int)) (.ref p)) (rows.put n a) :=
  ⟨put_nodup h.nd, fun k hk => (put_in.mp hk).elim (fun e => ⟨n, e⟩) (h.nat k), fun m => by
    rw [valV_put, put_at]
    by_cases c : m = n
    · rw [if_pos c, if_pos (by rw [c])]
      exact ⟨(fun q => nomatch q), (fun q => nomatch q)⟩
    · rw [if_neg c, if_neg (fun q => c (by have := Sum.inl.inj q; omega))]
      exact h.no m, fun m v hv => by
    rw [valV_put] at hv
    rw [put_at]
    by_cases c : m = n
    · rw [if_pos (by rw [c])] at hv
      rw [if_pos c]
      exact ⟨p, a, (Option.some.inj hv).symm, rfl, hR⟩
    · rw [if_neg (fun q => c (by have := Sum.inl.inj q; omega))] at hv
      rw [if_neg c]
      exact h.yes m v hv⟩
theorem valV_drop (k j : L2.Key) : ∀ kvs : List (L2.Key × V), valV (dropK kvs k) j = if j = k then none else valV kvs j
  | [] => by
    show valV ([] : List (L2.Key × V)) j = _
    rw [valV_nil]
    split <;> rfl
  | kv :: r => by
    have ih := valV_drop k j r
    unfold dropK at ih ⊢
    rw [List.filter_cons]
    by_cases c : kv.1 = k
    · rw [if_neg (by simp [c]), ih]
      by_cases d : j = k
      · rw [if_pos d, if_pos d]
      · rw [if_neg d, if_neg d, valV_neg (fun q => d (by rw [← q]; exact c))]
    · rw [if_pos (by simpa using c)]
      by_cases d : kv.1 = j
      · rw [valV_pos d, valV_pos d, if_neg (fun q => c (by rw [d]; exact q))]
      · rw [valV_neg d, valV_neg d, ih]
theorem DRel.drop (h : DRel R kvs rows) (n : Nat) : DRel R (dropK kvs (Sum.inl (n : Int))) (rows.but n) :=
  ⟨h.nd.sublist (List.Sublist.map _ List.filter_sublist), fun k hk => by
    obtain ⟨kv, hkv, e⟩ := List.mem_map.mp hk
    exact h.nat k (List.mem_map.mpr ⟨kv, (List.mem_filter.mp hkv).1, e⟩), fun m => by
    rw [valV_drop, but_at]
    by_cases c : m = n
    · rw [if_pos c, if_pos (by rw [c])]
      exact ⟨fun _ => rfl, fun _ => rfl⟩
    · rw [if_neg c, if_neg (fun q => c (by have := Sum.inl.inj q; omega))]
      exact h.no m, fun m v hv => by
    rw [valV_drop] at hv
    rw [but_at]
    by_cases c : m = n
    · rw [if_pos (by rw [c])] at hv
      cases hv
    · rw [if_neg (fun q => c (by have := Sum.inl.inj q; omega))] at hv
      rw [if_neg c]
      exact h.yes m v hv⟩
end
section
variable {S : SctDay.State}
theorem WfS.law (h : WfS S) {l : List AM} (hl : l.length ≤ 48) : WfS { S with law := l } := ⟨hl, h.gs, h.g16, h.bs, h.b32, h.bg, h.bm⟩
theorem WfS.gput (h : WfS S) {n : Nat} {g : GO} (hn : n < 16) : WfS { S with goods := S.goods.put n g } :=
  ⟨h.l48, (put_rows n g _ h.gs).1, fun m hm => ((put_rows n g _ h.gs).2 m |>.mp hm).elim (fun e => by omega) (h.g16 m), h.bs, h.b32, fun m b hb => by
    show ((S.goods.put n g).at_ b.1).isSome = true
    rw [put_at]
    split
    · rfl
    · exact h.bg m b hb, h.bm⟩
theorem WfS.gbut (h : WfS S) {n : Nat} (hn : ∀ m b, S.batches.at_ m = some b → b.1 ≠ n) : WfS { S with goods := S.goods.but n } :=
  ⟨h.l48, (but_rows _ n h.gs).1, fun m hm => h.g16 m ((but_rows _ n h.gs).2 m |>.mp hm).2, h.bs, h.b32, fun m b hb => by
    show ((S.goods.but n).at_ b.1).isSome = true
    rw [but_at, if_neg (hn m b hb)]
    exact h.bg m b hb, h.bm⟩
theorem WfS.bput (h : WfS S) {n : Nat} {b : Nat × Nat} (hn : n < 32) (hg : (S.goods.at_ b.1).isSome = true) (hd : b.2 ≤ SctDay.DAYS) : WfS { S with batches := S.batches.put n b } :=
  ⟨h.l48, h.gs, h.g16, (put_rows n b _ h.bs).1, fun m hm => ((put_rows n b _ h.bs).2 m |>.mp hm).elim (fun e => by omega) (h.b32 m), fun m c hc => by
    change (S.batches.put n b).at_ m = some c at hc
    rw [put_at] at hc
    split at hc
    · cases hc
      exact hg
    · exact h.bg m c hc, fun m c hc => by
    change (S.batches.put n b).at_ m = some c at hc
    rw [put_at] at hc
    split at hc
    · cases hc
      exact hd
    · exact h.bm m c hc⟩
theorem WfS.bbut (h : WfS S) {n : Nat} : WfS { S with batches := S.batches.but n } :=
  ⟨h.l48, h.gs, h.g16, (but_rows _ n h.bs).1, fun m hm => h.b32 m ((but_rows _ n h.bs).2 m |>.mp hm).2, fun m c hc => by
    change (S.batches.but n).at_ m = some c at hc
    rw [but_at] at hc
    split at hc
    · cases hc
    · exact h.bg m c hc, fun m c hc => by
    change (S.batches.but n).at_ m = some c at hc
    rw [but_at] at hc
    split at hc
    · cases hc
    · exact h.bm m c hc⟩
theorem wf_start : WfS SctDay.start := ⟨by decide, List.Pairwise.nil, (fun n h => nomatch h), List.Pairwise.nil, (fun n h => nomatch h), (fun n b h => nomatch h), (fun n b h => nomatch h)⟩
end
/-! ### what a change promises -/
def Keep (fr : Addr → Prop) (H H' : Hp) : Prop := ∀ b o, fr b → H b = some o → H' b = some o
theorem Keep.ex {fr : Addr → Prop} {H H' : Hp} (e : Ex H H') : Keep fr H H' := fun b o _ h => e b o h
theorem Keep.trans {fr : Addr → Prop} {H H' H2 : Hp} (h : Keep fr H H') (k : Keep fr H' H2) : Keep fr H H2 := fun b o f q => k b o f (h b o f q)
theorem Keep.upd {fr : Addr → Prop} {H H' : Hp} {z : Addr} {o : HO} (h : Keep fr H H') (hz : ¬ fr z) : Keep fr H (upd H' z o) := fun b u f q => by
  rw [upd_ne (fun e => hz (by rw [← e]; exact f))]
  exact h b u f q
def FrIn (fr : Addr → Prop) (H : Hp) : Prop := ∀ b, fr b → ∃ o, H b = some o
theorem FrIn.ex {fr : Addr → Prop} {H H' : Hp} (e : Ex H H') (h : FrIn fr H) : FrIn fr H' := fun b f => by
  obtain ⟨o, q⟩ := h b f
  exact ⟨o, e _ _ q⟩
theorem FrIn.not {fr : Addr → Prop} {H : Hp} {p : Addr} (h : FrIn fr H) (hp : H p = none) : ¬ fr p := fun f => by
  obtain ⟨o, q⟩ := h p f
  rw [hp] at q
  cases q
def ChOut (A : Adr) (fr : Addr → Prop) (D : Addr) (E : XK) (Q : VK) (H : Hp) (r : SctDay.State × SctBase.Answer) : Prop :=
  (0 ≤ r.2.code → ∀ H' p, Dk A fr H' D r.1 → Keep fr H H' → H' p = some (.lst ((r.2.code :: r.2.nums).map V.int)) → Q (.ref p) H') ∧ (r.2.code < 0 → Fails A r.2.code E H)
theorem ChOut.no {A : Adr} {fr : Addr → Prop} {D : Addr} {E : XK} {Q : VK} {H : Hp} {S : SctDay.State} {k : Nat} (h : ChOut A fr D E Q H (S, SctBase.no k)) (hk : 1 ≤ k) : Fails A (-(k : Int)) E H := h.2 (by show -(k : Int) < 0; omega)
theorem ChOut.yes {A : Adr} {fr : Addr → Prop} {D : Addr} {E : XK} {Q : VK} {H : Hp} {S : SctDay.State} {l : List Int} (h : ChOut A fr D E Q H (S, SctBase.tells l)) : ∀ H' p, Dk A fr H' D S → Keep fr H H' → H' p = some (.lst ((0 :: l).map V.int)) → Q (.ref p) H' := h.1 (Int.le_refl _)
/-- a question changes nothing -/
theorem ChOut.ask {A : Adr} {fr : Addr → Prop} {D : Addr} {E : XK} {Q : VK} {H : Hp} {S : SctDay.State} {a : SctBase.Answer} (h : ChOut A fr D E Q H (S, a)) (hD : Dk A fr H D S) : AskOut A E Q H a :=
  ⟨fun hc p H2 e hp => h.1 hc H2 p (hD.ex e) (Keep.ex e) hp, h.2⟩
end Bd
namespace Bd
open PySem PySem.Spec PyProof.Rows L2 Evl
/-! ### making -/
section
variable {A : Adr} {σ : L2.St} {H : Hp} {E : XK} {Q : VK}
theorem make_law (k : ∀ x dx q H3, Ex H H3 → H x = none → H q = none → q ≠ x → H3 x = some (.ins A.cLaw dx (laF q)) → H3 q = some (.lst []) → Q (.ref x) H3) : tMake A.cLaw (sp_LawI A) [] E tNil σ H Q := fun x dx hx hd ne =>
  ⟨x, dx, rfl, upd_same, fun q hq qn => ⟨rfl, by
    rw [upd_ne qn] at hq
    have hqd : q ≠ dx := fun z => by rw [z, upd_same] at hq; cases hq
    rw [upd_ne hqd] at hq
    refine k x dx q _ (fun b o hb => ?_) hx hq qn upd_same (by rw [upd_ne qn]; exact upd_same)
    rw [upd_ne (ne_of_none hb hx), upd_ne (ne_of_none hb hq), upd_ne (ne_of_none hb hx), upd_ne (ne_of_none hb hd)]
    exact hb⟩⟩
theorem make_goods {v1 v2 v3 : V} (k : ∀ x dx H3, Ex H H3 → H x = none → H3 x = some (.ins A.cGoods dx [("kind", v1), ("new", v2), ("contents", v3)]) → Q (.ref x) H3) :
    ∀ x dx, H x = none → H dx = none → dx ≠ x → sp_GoodsI A (.ref x :: ([v1, v2, v3] ++ [])) (upd (upd H dx (.own x)) x (.ins A.cGoods dx [])) (fun v H2 => v = .non ∧ Q (.ref x) H2) E := fun x dx hx hd ne =>
  ⟨x, dx, v1, v2, v3, rfl, upd_same, rfl, by
    refine k x dx _ (fun b o hb => ?_) hx upd_same
    rw [upd_ne (ne_of_none hb hx), upd_ne (ne_of_none hb hx), upd_ne (ne_of_none hb hd)]
    exact hb⟩
theorem make_batch {v1 v2 : V} (k : ∀ x dx H3, Ex H H3 → H x = none → H3 x = some (.ins A.cBatch dx [("goods", v1), ("made", v2)]) → Q (.ref x) H3) :
    ∀ x dx, H x = none → H dx = none → dx ≠ x → sp_BatchI A (.ref x :: ([v1, v2] ++ [])) (upd (upd H dx (.own x)) x (.ins A.cBatch dx [])) (fun v H2 => v = .non ∧ Q (.ref x) H2) E := fun x dx hx hd ne =>
  ⟨x, dx, v1, v2, rfl, upd_same, rfl, by
    refine k x dx _ (fun b o hb => ?_) hx upd_same
    rw [upd_ne (ne_of_none hb hx), upd_ne (ne_of_none hb hx), upd_ne (ne_of_none hb hd)]
    exact hb⟩
theorem make_am {v1 v2 v3 v4 v5 v6 : V} (k : ∀ x dx q H3, Ex H H3 → H x = none → H q = none → q ≠ x → H3 x = some (.ins A.cAmendment dx [("number", v1), ("known", v2), ("kind", v3), ("substances", v4), ("limit", v5), ("days", v6), ("corrections", .ref q), ("withdrawn", .int (-1))]) → H3 q = some (.lst []) → Q (.ref x) H3) :
    ∀ x dx, H x = none → H dx = none → dx ≠ x → sp_AmendmentI A (.ref x :: ([v1, v2, v3, v4, v5, v6] ++ [])) (upd (upd H dx (.own x)) x (.ins A.cAmendment dx [])) (fun v H2 => v = .non ∧ Q (.ref x) H2) E := fun x dx hx hd ne =>
  ⟨x, dx, v1, v2, v3, v4, v5, v6, rfl, upd_same, fun q hq qn => ⟨rfl, by
    rw [upd_ne qn] at hq
    have hqd : q ≠ dx := fun z => by rw [z, upd_same] at hq; cases hq
    rw [upd_ne hqd] at hq
    refine k x dx q _ (fun b o hb => ?_) hx hq qn upd_same (by rw [upd_ne qn]; exact upd_same)
    rw [upd_ne (ne_of_none hb hx), upd_ne (ne_of_none hb hq), upd_ne (ne_of_none hb hx), upd_ne (ne_of_none hb hd)]
    exact hb⟩⟩
end
section
variable {K : PySem.W.Frag} {σ : L2.St} {H : Hp} {D : Ends} {tz : TS} {ta tv : TE} {f : Str}
theorem q_fldX (h : tv σ H fun y H1 => ta σ H1 fun x H2 => ∃ a C dx fs, x = .ref a ∧ H2 a = some (.ins C dx fs) ∧ Cls K C ∧ NoAttr K C f ∧ fs.length < 1000 ∧ tz D σ (upd H2 a (.ins C dx (putF f y fs)))) : tSeq (sFld K ta tv f) tz D σ H := h
theorem s_fldX (h : tv σ H fun y H1 => ta σ H1 fun x H2 => ∃ a C dx fs, x = .ref a ∧ H2 a = some (.ins C dx fs) ∧ Cls K C ∧ NoAttr K C f ∧ fs.length < 1000 ∧ D.nx σ (upd H2 a (.ins C dx (putF f y fs)))) : sFld K ta tv f D σ H := h
theorem ep_cat1 {tt : TE} {ca : Addr} {xs ys : List V} (h : Ev ta σ H (.ref ca)) (hc : H ca = some (.lst xs)) (hu : EvU tt σ H ys) (hl : xs.length ≤ 1000) : EvP (tOp rCat ta (tLst (tCons tt tNil))) σ H (fun v H1 => ∃ q t, v = .ref q ∧ H q = none ∧ H1 q = some (.lst (xs ++ [.ref t])) ∧ H1 t = some (.tup ys)) := fun H1 e Q q =>
  h H1 e _ fun H2 e2 => hu H2 (e.trans e2) _ fun t H3 nt e3 ht => ⟨sz_of (by show 1 ≤ 100000; decide), fun p hp => ⟨ca, p, xs, [.ref t], rfl, rfl, (Ex.new hp) _ _ (e3 _ _ ((e.trans e2) _ _ hc)), upd_same, sz_of (by show xs.length + 1 ≤ 100000; omega), fun r hr => by
    have hr3 : H3 r = none := fresh_back (Ex.new hp) hr
    refine q _ _ ((e2.trans e3).trans ((Ex.new hp).trans (Ex.new hr))) ⟨r, t, rfl, fresh_back ((e.trans e2).trans e3) hr3, upd_same, ?_⟩
    rw [upd_ne (ne_of_none ((Ex.new hp) _ _ ht) hr), upd_ne (ne_of_none ht hp)]
    exact ht⟩⟩
end
theorem am_wdr (i : Nat) (a : AM) (sa da ca : Addr) (p : Nat) : putF ("withdrawn" : Str) (nV p) (amF i a sa da ca) = amF i { a with void := some p } sa da ca := by
  unfold amF
  rw [put_past (by decide +kernel), put_past (by decide +kernel), put_past (by decide +kernel), put_past (by decide +kernel), put_past (by decide +kernel), put_past (by decide +kernel), put_past (by decide +kernel), put_here]
  rfl
theorem am_fix (i : Nat) (a : AM) (sa da ca ca' : Addr) (fs : List (Nat × Nat)) : putF ("corrections" : Str) (.ref ca') (amF i a sa da ca) = amF i { a with fixes := fs } sa da ca' := by
  unfold amF
  rw [put_past (by decide +kernel), put_past (by decide +kernel), put_past (by decide +kernel), put_past (by decide +kernel), put_past (by decide +kernel), put_past (by decide +kernel), put_here]
  rfl
theorem wdr_neg (a : AM) : decide (wdr a < 0) = !a.void.isSome := by
  unfold wdr
  cases a.void with
  | none => rfl
  | some v => exact decide_eq_false (by show ¬ (v : Int) < 0; omega)
def sp_DeskI (A : Adr) : Sp := fun vs H Q _ => ∃ (p dx : Addr), vs = [.ref p] ∧ H p = some (.ins A.cDesk dx []) ∧
  ∀ H3 L ldx la gd bd, (∀ b o, b ≠ p → H b = some o → H3 b = some o) → H la = none → H gd = none → H bd = none → DkAt A (fun _ => False) H3 p SctDay.start dx L ldx la gd bd [] [] [] → Q .non H3
def sp_withdraw (A : Adr) : Sp := fun vs H Q E => ∃ (fr : Addr → Prop) (D : Addr) (S : SctDay.State) (a p : Int), vs = [.ref D, .int a, .int p] ∧ Dk A fr H D S ∧ FrIn fr H ∧ ChOut A fr D E Q H (SctDay.step S (.withdraw a p))
def sp_correct (A : Adr) : Sp := fun vs H Q E => ∃ (fr : Addr → Prop) (D : Addr) (S : SctDay.State) (a p b : Int), vs = [.ref D, .int a, .int p, .int b] ∧ Dk A fr H D S ∧ FrIn fr H ∧ ChOut A fr D E Q H (SctDay.step S (.correct a p b))
def sp_drop (A : Adr) : Sp := fun vs H Q E => ∃ (fr : Addr → Prop) (D : Addr) (S : SctDay.State) (g : Int), vs = [.ref D, .int g] ∧ Dk A fr H D S ∧ FrIn fr H ∧ ChOut A fr D E Q H (SctDay.step S (.drop g))
def sp_sell (A : Adr) : Sp := fun vs H Q E => ∃ (fr : Addr → Prop) (D : Addr) (S : SctDay.State) (b : Int), vs = [.ref D, .int b] ∧ Dk A fr H D S ∧ FrIn fr H ∧ ChOut A fr D E Q H (SctDay.step S (.sold b))
def sp_make (A : Adr) (K : PySem.W.Frag) : Sp := fun vs H Q E => ∃ (fr : Addr → Prop) (D : Addr) (S : SctDay.State) (np : Addr) (b g d : Int), vs = [.ref D, .ref np] ∧ Dk A fr H D S ∧ SqL K H np (([b, g, d] : List Int).map V.int) ∧ FrIn fr H ∧ ChOut A fr D E Q H (SctDay.step S (.make b g d))
section
variable {P : Program} {w : World} {K : PySem.W.Frag} {mg : Str → Option Value} {base : Heap} {A : Adr}
theorem sc_DeskI : FnScope ["self"] ps_DeskI (defScope s_DeskI) := ⟨rfl, rfl, rfl, by decide +kernel, rfl, by decide +kernel, by decide +kernel⟩
theorem ok_DeskI (T : Txt K mg A) : Cal P w K mg base CX0 3 A.fDeskI ps_DeskI (sp_DeskI A) := by
  have sc := sc_DeskI
  have c_LawI : Cal P w K mg base CX0 1 _ _ _ := ok_LawI T
  refine T.dDeskI.ok sc (fun vs H Q E h => ?_) (fun cdv Ar outer s H vs Q E hr h => ⟨_, (pss_cons (ps_fld (pv 0) (pmake0 c_LawI T.mLaw T.gLaw (hr.mono (by decide)) pass0) rfl)
    (pss_cons (ps_fld (pv 0) pe_dnewK rfl)
    (pss_one (ps_fld (pv 0) pe_dnewK rfl)))), ?_⟩)
  · obtain ⟨p, dx, rfl, _⟩ := h
    rfl
  · obtain ⟨p, dx, rfl, hp, k⟩ := h
    refine q_fldX (make_law fun x ldx q H1 e1 hx hq qx h1x h1q => ⟨.ref p, rfl, p, A.cDesk, dx, [], rfl, e1 _ _ hp, T.lDesk, T.nDesk_law, by show 0 < 1000; decide, ?_⟩)
    have npx : p ≠ x := ne_of_none hp hx
    have npq : p ≠ q := ne_of_none hp hq
    refine q_fldX fun gd hgd => ⟨.ref p, rfl, p, A.cDesk, dx, _, rfl, by rw [upd_ne (fun z => by rw [← z, upd_same] at hgd; cases hgd)]; exact upd_same, T.lDesk, T.nDesk_goods, by show 1 < 1000; decide, ?_⟩
    have gp : gd ≠ p := fun z => by rw [z, upd_same] at hgd; cases hgd
    rw [upd_ne gp] at hgd
    have gx : gd ≠ x := fun z => by rw [z, h1x] at hgd; cases hgd
    have gq : gd ≠ q := fun z => by rw [z, h1q] at hgd; cases hgd
    refine s_fldX fun bd hbd => ⟨.ref p, rfl, p, A.cDesk, dx, _, rfl, by rw [upd_ne (fun z => by rw [← z, upd_same] at hbd; cases hbd)]; exact upd_same, T.lDesk, T.nDesk_batches, by show 2 < 1000; decide, ?_⟩
    have bp : bd ≠ p := fun z => by rw [z, upd_same] at hbd; cases hbd
    rw [upd_ne bp] at hbd
    have bg : bd ≠ gd := fun z => by rw [z, upd_same] at hbd; cases hbd
    rw [upd_ne bg, upd_ne bp] at hbd
    have bx : bd ≠ x := fun z => by rw [z, h1x] at hbd; cases hbd
    have bq : bd ≠ q := fun z => by rw [z, h1q] at hbd; cases hbd
    refine k _ x ldx q gd bd (fun b o nb hb => ?_) hq (fresh_back e1 hgd) (fresh_back e1 hbd) ⟨?_, ⟨?_, ?_, rfl, (fun i p a h => nomatch h)⟩, ?_, ?_, ?_, ?_, Ne.symm bg, (fun p hp => nomatch hp), (fun z => z), (fun z => z), (fun z => z), (fun p hp => nomatch hp), wf_start⟩
    · have := e1 _ _ hb
      rw [upd_ne nb, upd_ne (ne_of_none this hbd), upd_ne nb, upd_ne (ne_of_none this hgd), upd_ne nb]
      exact this
    · rw [upd_same]
      congr 2
    · rw [upd_ne (Ne.symm npx), upd_ne (Ne.symm bx), upd_ne (Ne.symm npx), upd_ne (Ne.symm gx), upd_ne (Ne.symm npx)]
      exact h1x
    · rw [upd_ne (Ne.symm npq), upd_ne (Ne.symm bq), upd_ne (Ne.symm npq), upd_ne (Ne.symm gq), upd_ne (Ne.symm npq)]
      exact h1q
    · rw [upd_ne gp, upd_ne (Ne.symm bg), upd_ne gp, upd_same]
    · rw [upd_ne bp, upd_same]
    · exact ⟨List.nodup_nil, (fun k hk => nomatch hk), fun n => ⟨fun _ => rfl, fun _ => rfl⟩, (fun n v hv => nomatch hv)⟩
    · exact ⟨List.nodup_nil, (fun k hk => nomatch hk), fun n => ⟨fun _ => rfl, fun _ => rfl⟩, (fun n v hv => nomatch hv)⟩
theorem sc_withdraw : FnScope ["desk", "number", "day", "one"] ps_withdraw (defScope s_withdraw) := ⟨rfl, rfl, rfl, by decide +kernel, rfl, by decide +kernel, by decide +kernel⟩
theorem ok_withdraw (T : Txt K mg A) : Cal P w K mg base (L2.CX P w) 5 A.fwithdraw ps_withdraw (sp_withdraw A) := by
  have sc := sc_withdraw
  have c_need : Cal P w K mg base (L2.CX P w) 3 _ _ _ := ok_need T
  have c_are_days : Cal P w K mg base CX0 1 _ _ _ := ok_are_days T
  have c_Desk_amendment : Cal P w K mg base (L2.CX P w) 4 _ _ _ := ok_Desk_amendment T
  refine T.dwithdraw.okX sc (fun vs H Q E h => ?_) (fun cdv Ar outer s H vs Q E hr h => ⟨_, (pss_cons (ps_expr (pcall c_need T.gneed (hr.mono (by decide)) (passes_call (takes_of rfl rfl rfl rfl) (fun _ _ _ _ z => z)) (by exact (pa_cons (pe_and (pe_chain op_le op_lt pe_int (pv 1) (pconst T.gMOST_AMENDMENTS)) (pe_one (pcall c_are_days T.gare_days (hr.mono (by decide)) pass0 (by exact (pa_cons (pe_lst (pa_cons (pv 2) pa_nil)) pa_nil))))) (pa_cons (pe_un un_neg pe_int) pa_nil)))))
    (pss_cons (ps_set (i := 3) sc.nd rfl (Or.inl rfl) (pmeth c_Desk_amendment (pv 0) T.lDesk T.eDesk_amendment (hr.mono (by decide)) (passes_call (takes_of rfl rfl rfl rfl) (fun _ _ _ _ z => z)) (by exact (pa_cons (pv 1) pa_nil))))
    (pss_cons (ps_expr (pcall c_need T.gneed (hr.mono (by decide)) (passes_call (takes_of rfl rfl rfl rfl) (fun _ _ _ _ z => z)) (by exact (pa_cons (pe_cmpR op_lt (pe_fld (pv 3) rfl) pe_int (nomark _)) (pa_cons (pe_un un_neg pe_int) pa_nil)))))
    (pss_cons (ps_expr (pcall c_need T.gneed (hr.mono (by decide)) (passes_call (takes_of rfl rfl rfl rfl) (fun _ _ _ _ z => z)) (by exact (pa_cons (pe_cmpR op_ge (pv 2) (pe_fld (pv 3) rfl) (nomark _)) (pa_cons (pe_un un_neg pe_int) pa_nil)))))
    (pss_cons (ps_fld (pv 3) (pv 2) rfl)
    (pss_one (ps_ret (pe_lst (pa_cons pe_int pa_nil))))))))), ?_⟩)
  · obtain ⟨fr, D, S, n, x, rfl, _⟩ := h
    rfl
  · obtain ⟨fr, D, S, n, x, rfl, ⟨dx, L, ldx, la, gd, bd, ps, gk, bk, h⟩, hfr, out⟩ := h
    have sp : SctDay.step S (.withdraw n x) = if (SctDay.isOf SctDay.AMENDMENTS n && SctDay.isDay x) = false then (S, SctDay.RANGE) else match S.law[n.toNat]? with
      | none => (S, SctDay.NONE)
      | some y => if y.void.isSome = true then (S, SctDay.THERE) else if x < (y.known : Int) then (S, SctDay.NOT) else ({ S with law := S.law.set n.toNat { y with void := some x.toNat } }, SctDay.DONE) := rfl
    rw [sp] at out
    have bq : ((decide (0 ≤ n) && decide (n < 48)) && [x].all SctDay.isDay) = (SctDay.isOf SctDay.AMENDMENTS n && SctDay.isDay x) := by rw [all1]; rfl
    refine q_must (ev_is (ev_andV (ev_chain ev_c (ev_var rfl) ev_c rv_I0 rv_I0) fun _ => ev_daysL (zs := [x]) (ea_cons (ev_var rfl) ea_nil) (by show 1 ≤ 40000; decide)) (congrArg V.bl bq)) (ev_neg ev_c) (fun hb => ?_) (fun hb H1 e1 => ?_)
    · rw [if_pos hb] at out
      exact out.no (by decide)
    · rw [if_neg (by rw [hb]; decide)] at out
      rw [Bool.and_eq_true] at hb
      obtain ⟨n, rfl, hn⟩ := of_nat hb.1
      obtain ⟨x, rfl, hx⟩ := day_nat hb.2
      simp only [Int.toNat_natCast] at out
      have h1 := h.ex e1
      refine meth_raw (ev_var rfl) h1.ob (d_no (by decide +kernel) (by decide +kernel) (by decide +kernel)) (ea_cons (ev_var rfl) ea_nil) fun H2 e2 => ⟨fr, D, S, dx, L, ldx, la, gd, bd, ps, gk, bk, n, rfl, h1.ex e2, fun p hp H3 e3 => ?_, fun hp => ?_⟩
      · obtain ⟨a, ha, _⟩ := h.lw.am.at_ hp
        rw [ha] at out
        have E3 := (e1.trans e2).trans e3
        have h3 := h.ex E3
        obtain ⟨adx, sa, da, ca, ts, cs, hh, hca⟩ := h3.am_at hp ha
        show tSeq _ _ _ _ _
        have out' : ChOut A fr D E Q H (if a.void.isSome = true then (S, SctDay.THERE) else if (x : Int) < (a.known : Int) then (S, SctDay.NOT) else ({ S with law := S.law.set n { a with void := some x } }, SctDay.DONE)) := out
        refine q_must (b := decide (wdr a < 0)) (ev_op (ev_fld (ev_var rfl) hh.ob T.lAmendment T.nAmendment_withdrawn f_withdrawn) ev_c rv_I0) (ev_neg ev_c) (fun hb => ?_) (fun hb H4 e4 => ?_)
        · rw [wdr_neg, Bool.not_eq_false'] at hb
          rw [if_pos hb] at out'
          exact (out'.no (by decide)).ex E3
        · rw [wdr_neg, Bool.not_eq_true'] at hb
          rw [if_neg (by rw [hb]; decide)] at out'
          have hh4 := hh.ex e4
          refine q_must (b := decide ((a.known : Int) ≤ (x : Int))) (ev_op (ev_var rfl) (ev_fld (ev_var rfl) hh4.ob T.lAmendment T.nAmendment_known f_known) rv_I0) (ev_neg ev_c) (fun hb => ?_) (fun hb H5 e5 => ?_)
          · have := of_decide_eq_false hb
            rw [if_pos (by omega)] at out'
            exact (out'.no (by decide)).ex (E3.trans e4)
          · have := of_decide_eq_true hb
            rw [if_neg (by omega)] at out'
            have E5 := (E3.trans e4).trans e5
            have h5 := h.ex E5
            have hh5 := hh4.ex e5
            refine q_fldX ⟨nV x, rfl, .ref p, rfl, p, _, _, _, rfl, hh5.ob, T.lAmendment, T.nAmendment_withdrawn, by show 8 < 1000; decide, ?_⟩
            rw [am_wdr]
            have hn' : AmAt A (upd H5 p (.ins A.cAmendment adx (amF n { a with void := some x } sa da ca))) p n { a with void := some x } adx sa da ca ts cs :=
              ⟨upd_same, by rw [upd_ne (ne_of hh5.su hh5.ob (by intro q; cases q))]; exact hh5.su, hh5.pe, hh5.ri, hh5.ne, by rw [upd_ne (ne_of hh5.da hh5.ob (by intro q; cases q))]; exact hh5.da, by rw [upd_ne (ne_of hh5.co hh5.ob (by intro q; cases q))]; exact hh5.co,
                paired_imp (fun c f hc => by rw [upd_ne (ne_of hc hh5.ob (by intro q; cases q))]; exact hc) hh5.fx, hh5.f4, hh5.rp⟩
            have D6 := h5.setA hp hh5.ob hn' hca (h.wf.law (by rw [List.length_set]; exact h.wf.l48))
            refine s_retL (xs := [.int 0]) (el_lst (ea_cons ev_c ea_nil) (by show 1 ≤ 100000; decide)) fun q H6 nq e6 hq => ?_
            exact out'.yes H6 q ⟨_, _, _, _, _, _, _, _, _, D6.ex e6⟩ (((Keep.ex E5).upd (h.fp p (List.mem_of_getElem? hp))).trans (Keep.ex e6)) hq
      · have hl : S.law[n]? = none := List.getElem?_eq_none (by rw [← h.lw.am.1]; exact List.getElem?_eq_none_iff.mp hp)
        rw [hl] at out
        have out' : ChOut A fr D E Q H (S, SctDay.NONE) := out
        exact (out'.no (by decide)).ex (e1.trans e2)
theorem sc_correct : FnScope ["desk", "number", "day", "limit", "one"] ps_correct (defScope s_correct) := ⟨rfl, rfl, rfl, by decide +kernel, rfl, by decide +kernel, by decide +kernel⟩
theorem ok_correct (T : Txt K mg A) : Cal P w K mg base (L2.CX P w) 5 A.fcorrect ps_correct (sp_correct A) := by
  have sc := sc_correct
  have c_need : Cal P w K mg base (L2.CX P w) 3 _ _ _ := ok_need T
  have c_are_days : Cal P w K mg base CX0 1 _ _ _ := ok_are_days T
  have c_Desk_amendment : Cal P w K mg base (L2.CX P w) 4 _ _ _ := ok_Desk_amendment T
  have c_Amendment_is_repeal : Cal P w K mg base CX0 1 _ _ _ := ok_is_repeal T
  refine T.dcorrect.okX sc (fun vs H Q E h => ?_) (fun cdv Ar outer s H vs Q E hr h => ⟨_, (pss_cons (ps_expr (pcall c_need T.gneed (hr.mono (by decide)) (passes_call (takes_of rfl rfl rfl rfl) (fun _ _ _ _ z => z)) (by exact (pa_cons (pe_and (pe_chain op_le op_lt pe_int (pv 1) (pconst T.gMOST_AMENDMENTS)) (pe_and (pcall c_are_days T.gare_days (hr.mono (by decide)) pass0 (by exact (pa_cons (pe_lst (pa_cons (pv 2) pa_nil)) pa_nil))) (pe_one (pe_chain op_le op_le pe_int (pv 3) (pconst T.gMOST_CONTENT))))) (pa_cons (pe_un un_neg pe_int) pa_nil)))))
    (pss_cons (ps_set (i := 4) sc.nd rfl (Or.inl rfl) (pmeth c_Desk_amendment (pv 0) T.lDesk T.eDesk_amendment (hr.mono (by decide)) (passes_call (takes_of rfl rfl rfl rfl) (fun _ _ _ _ z => z)) (by exact (pa_cons (pv 1) pa_nil))))
    (pss_cons (ps_expr (pcall c_need T.gneed (hr.mono (by decide)) (passes_call (takes_of rfl rfl rfl rfl) (fun _ _ _ _ z => z)) (by exact (pa_cons (pe_and (pe_not (pmeth0 c_Amendment_is_repeal (pv 4) T.lAmendment T.eAmendment_is_repeal (hr.mono (by decide)) pass0)) (pe_one (pe_cmpR op_ge (pv 2) (pe_fld (pv 4) rfl) (nomark _)))) (pa_cons (pe_un un_neg pe_int) pa_nil)))))
    (pss_cons (ps_expr (pcall c_need T.gneed (hr.mono (by decide)) (passes_call (takes_of rfl rfl rfl rfl) (fun _ _ _ _ z => z)) (by exact (pa_cons (pe_cmpR op_lt (pe_callB call_len_seq (by rfl) T.b_len PySem.boot_len (pa_cons (pe_fld (pv 4) rfl) pa_nil)) (pconst T.gMOST_CORRECTIONS) (nomark _)) (pa_cons (pe_un un_neg pe_int) pa_nil)))))
    (pss_cons (ps_fld (pv 4) (pe_op op_cat (pe_fld (pv 4) rfl) (pe_lst (pa_cons (pe_tup (pa_cons (pv 2) (pa_cons (pv 3) pa_nil))) pa_nil))) rfl)
    (pss_one (ps_ret (pe_lst (pa_cons pe_int pa_nil))))))))), ?_⟩)
  · obtain ⟨fr, D, S, n, x, b, rfl, _⟩ := h
    rfl
  · obtain ⟨fr, D, S, n, x, b, rfl, ⟨dx, L, ldx, la, gd, bd, ps, gk, bk, h⟩, hfr, out⟩ := h
    have sp : SctDay.step S (.correct n x b) = if (SctDay.isOf SctDay.AMENDMENTS n && (SctDay.isDay x && SctDay.isIn 0 SctDay.WHOLE b)) = false then (S, SctDay.RANGE) else match S.law[n.toNat]? with
      | none => (S, SctDay.NONE)
      | some y => if y.repeal = true ∨ x < (y.known : Int) then (S, SctDay.NOT) else if SctDay.FIXES ≤ y.fixes.length then (S, SctDay.FULL) else ({ S with law := S.law.set n.toNat { y with fixes := y.fixes ++ [(x.toNat, b.toNat)] } }, SctDay.DONE) := rfl
    rw [sp] at out
    have bq : ((decide (0 ≤ n) && decide (n < 48)) && ([x].all SctDay.isDay && (decide (0 ≤ b) && decide (b ≤ 1000000)))) = (SctDay.isOf SctDay.AMENDMENTS n && (SctDay.isDay x && SctDay.isIn 0 SctDay.WHOLE b)) := by rw [all1]; rfl
    refine q_must (ev_is (ev_andV (ev_chain ev_c (ev_var rfl) ev_c rv_I0 rv_I0) fun _ => ev_andV (ev_daysL (zs := [x]) (ea_cons (ev_var rfl) ea_nil) (by show 1 ≤ 40000; decide)) fun _ => ev_lt2 ev_c (ev_var rfl) ev_c) (congrArg V.bl bq)) (ev_neg ev_c) (fun hb => ?_) (fun hb H1 e1 => ?_)
    · rw [if_pos hb] at out
      exact out.no (by decide)
    · rw [if_neg (by rw [hb]; decide)] at out
      rw [Bool.and_eq_true, Bool.and_eq_true] at hb
      obtain ⟨n, rfl, hn⟩ := of_nat hb.1
      obtain ⟨x, rfl, hx⟩ := day_nat hb.2.1
      obtain ⟨b, rfl⟩ : ∃ b' : Nat, b = (b' : Int) := by
        have z := hb.2.2
        unfold SctDay.isIn at z
        rw [Bool.and_eq_true, decide_eq_true_iff] at z
        exact ⟨b.toNat, by have := z.1; omega⟩
      simp only [Int.toNat_natCast] at out
      have h1 := h.ex e1
      refine meth_raw (ev_var rfl) h1.ob (d_no (by decide +kernel) (by decide +kernel) (by decide +kernel)) (ea_cons (ev_var rfl) ea_nil) fun H2 e2 => ⟨fr, D, S, dx, L, ldx, la, gd, bd, ps, gk, bk, n, rfl, h1.ex e2, fun p hp H3 e3 => ?_, fun hp => ?_⟩
      · obtain ⟨a, ha, _⟩ := h.lw.am.at_ hp
        rw [ha] at out
        have E3 := (e1.trans e2).trans e3
        have h3 := h.ex E3
        obtain ⟨adx, sa, da, ca, ts, cs, hh, hca⟩ := h3.am_at hp ha
        show tSeq _ _ _ _ _
        have out' : ChOut A fr D E Q H (if a.repeal = true ∨ (x : Int) < (a.known : Int) then (S, SctDay.NOT) else if SctDay.FIXES ≤ a.fixes.length then (S, SctDay.FULL) else ({ S with law := S.law.set n { a with fixes := a.fixes ++ [(x, b)] } }, SctDay.DONE)) := out
        refine q_must (b := !a.repeal && decide ((a.known : Int) ≤ (x : Int))) (ev_andV (ev_notV (ev_meth (ev_var rfl) hh.ob f_no_is_repeal ea_nil (spv_is_repeal ⟨adx, sa, da, ca, ts, cs, hh⟩))) fun _ => ev_op (ev_var rfl) (ev_fld (ev_var rfl) hh.ob T.lAmendment T.nAmendment_known f_known) rv_I0) (ev_neg ev_c) (fun hb => ?_) (fun hb H4 e4 => ?_)
        · rw [Bool.and_eq_false_iff, Bool.not_eq_false', decide_eq_false_iff_not] at hb
          rw [if_pos (hb.elim .inl fun z => .inr (by omega))] at out'
          exact (out'.no (by decide)).ex E3
        · rw [Bool.and_eq_true, Bool.not_eq_true', decide_eq_true_iff] at hb
          rw [if_neg (fun z => z.elim (fun z => by rw [hb.1] at z; cases z) (fun z => by have := hb.2; omega))] at out'
          have hh4 := hh.ex e4
          have csl : cs.length = a.fixes.length := Paired.length hh.fx
          refine q_must (b := decide ((((cs.map V.ref).length : Nat) : Int) < 4)) (ev_op (ev_len (ev_fld (ev_var rfl) hh4.ob T.lAmendment T.nAmendment_corrections f_corrections) (sq_of hh4.co)) ev_c rv_I0) (ev_neg ev_c) (fun hb => ?_) (fun hb2 H5 e5 => ?_)
          · have := of_decide_eq_false hb
            rw [List.length_map, csl] at this
            rw [if_pos (by show 4 ≤ a.fixes.length; omega)] at out'
            exact (out'.no (by decide)).ex (E3.trans e4)
          · have lt := of_decide_eq_true hb2
            rw [List.length_map, csl] at lt
            rw [if_neg (by show ¬ 4 ≤ a.fixes.length; omega)] at out'
            have E5 := (E3.trans e4).trans e5
            have hh5 := hh4.ex e5
            refine q_fldX ((ep_cat1 (σ := [some (.ref D), some (nV n), some (nV x), some (nV b), some (.ref p)]) (ys := [nV x, nV b]) (ev_fld (ev_var rfl) hh5.ob T.lAmendment T.nAmendment_corrections f_corrections) hh5.co (eu_tup (ea_cons (ev_var rfl) (ea_cons (ev_var rfl) ea_nil)) (by show 2 ≤ 100000; decide)) (by rw [List.length_map, csl]; omega)) H5 (Ex.refl _) _ fun v H6 e6 ⟨q, t, ev, nq, hq, ht⟩ => ?_)
            subst ev
            have E6 := E5.trans e6
            have h6 := h.ex E6
            have hh6 := hh5.ex e6
            refine ⟨.ref p, rfl, p, _, _, _, rfl, hh6.ob, T.lAmendment, T.nAmendment_corrections, by show 8 < 1000; decide, ?_⟩
            rw [am_fix n a sa da ca q (a.fixes ++ [(x, b)])]
            have hn' : AmAt A (upd H6 p (.ins A.cAmendment adx (amF n { a with fixes := a.fixes ++ [(x, b)] } sa da q))) p n { a with fixes := a.fixes ++ [(x, b)] } adx sa da q ts (cs ++ [t]) :=
              ⟨upd_same, by rw [upd_ne (ne_of hh6.su hh6.ob (by intro q; cases q))]; exact hh6.su, hh6.pe, hh6.ri, hh6.ne, by rw [upd_ne (ne_of hh6.da hh6.ob (by intro q; cases q))]; exact hh6.da, by
                rw [upd_ne (ne_of hq hh6.ob (by intro q; cases q)), hq, List.map_append]
                rfl,
                paired_app (paired_imp (fun c f hc => by rw [upd_ne (ne_of hc hh6.ob (by intro q; cases q))]; exact hc) hh6.fx) (by rw [upd_ne (ne_of ht hh6.ob (by intro q; cases q))]; exact ht), by
                show (a.fixes ++ [(x, b)]).length ≤ 4
                rw [List.length_append, List.length_singleton]
                omega, fun z => by rw [hb.1] at z; cases z⟩
            have D7 := h6.setA hp hh6.ob hn' ⟨Ne.symm (ne_of_none (h.ex E5).lw.li nq), hfr.not (fresh_back E5 nq)⟩ (h.wf.law (by rw [List.length_set]; exact h.wf.l48))
            refine s_retL (xs := [.int 0]) (el_lst (ea_cons ev_c ea_nil) (by show 1 ≤ 100000; decide)) fun r H7 nr e7 hr => ?_
            exact out'.yes H7 r ⟨_, _, _, _, _, _, _, _, _, D7.ex e7⟩ (((Keep.ex E6).upd (h.fp p (List.mem_of_getElem? hp))).trans (Keep.ex e7)) hr
      · have hl : S.law[n]? = none := List.getElem?_eq_none (by rw [← h.lw.am.1]; exact List.getElem?_eq_none_iff.mp hp)
        rw [hl] at out
        have out' : ChOut A fr D E Q H (S, SctDay.NONE) := out
        exact (out'.no (by decide)).ex (e1.trans e2)
end
end Bd
namespace Bd
open PySem PySem.Spec PyProof.Rows L2 Evl
section
variable {K : PySem.W.Frag} {σ : L2.St} {H H' : Hp} {D : Ends} {tz : TS} {ta tb td ty : TE}
theorem q_pop {a : Addr} {kvs : List (L2.Key × V)} {k : L2.Key} {v : V} (hd : Ev td σ H (.ref a)) (ha : H a = some (.dK kvs)) (hy : Ev ty σ H (kV k)) (hv : valV kvs k = some v) (q : ∀ H1, Ex H H1 → tz D σ (upd H1 a (.dK (dropK kvs k)))) : tSeq (tDrop (tDPop1 td ty)) tz D σ H :=
  hd H (Ex.refl _) _ fun H1 e1 => ⟨a, rfl, .inl ⟨kvs, .inl (e1 _ _ ha)⟩, hy H1 e1 _ fun H2 e2 => ⟨kvs, k, v, (e1.trans e2) _ _ ha, rfl, hv, q H2 (e1.trans e2)⟩⟩
theorem q_dputX {tv : TE} (h : tv σ H fun v H1 => td σ H1 fun x H2 => ty σ H2 fun y H3 => ∃ a H4, x = .ref a ∧ DPut H3 a y v H4 ∧ tz D σ H4) : tSeq (sDPut td ty tv) tz D σ H := h
theorem q_callX {sp : Sp} {E : XK} {tr : TA} (h : tr σ H fun vs H1 => sp (vs ++ []) H1 (fun _ H2 => tz D σ H2) E) : tSeq (tDrop (tCall sp [] E tr)) tz D σ H := h
end
section
variable {A : Adr} {σ : L2.St} {H : Hp} {E : XK} {tr : TA}
theorem ep_batch {v1 v2 : V} (ha : EvA tr σ H [v1, v2]) : EvP (tMake A.cBatch (sp_BatchI A) [] E tr) σ H (fun v H1 => ∃ x dx, v = .ref x ∧ H x = none ∧ H1 x = some (.ins A.cBatch dx [("goods", v1), ("made", v2)])) := fun H1 e Q q =>
  ha H1 e _ fun H2 e2 => make_batch (Q := Q) fun x dx H3 e3 hx h3 => q _ _ (e2.trans e3) ⟨x, dx, rfl, fresh_back (e.trans e2) hx, h3⟩
theorem ep_goods {v1 v2 v3 : V} (ha : EvA tr σ H [v1, v2, v3]) : EvP (tMake A.cGoods (sp_GoodsI A) [] E tr) σ H (fun v H1 => ∃ x dx, v = .ref x ∧ H x = none ∧ H1 x = some (.ins A.cGoods dx [("kind", v1), ("new", v2), ("contents", v3)])) := fun H1 e Q q =>
  ha H1 e _ fun H2 e2 => make_goods (Q := Q) fun x dx H3 e3 hx h3 => q _ _ (e2.trans e3) ⟨x, dx, rfl, fresh_back (e.trans e2) hx, h3⟩
theorem ep_am {P : V → V → Hp → Prop} {v1 v2 v3 v5 : V} (ha : ∀ H1, Ex H H1 → ∀ Q : List V → Hp → Prop, (∀ v4 v6 H2, Ex H1 H2 → P v4 v6 H2 → Q [v1, v2, v3, v4, v5, v6] H2) → tr σ H1 Q) : EvP (tMake A.cAmendment (sp_AmendmentI A) [] E tr) σ H (fun v H3 => ∃ x dx q H1 v4 v6, v = .ref x ∧ Ex H H1 ∧ P v4 v6 H1 ∧ Ex H1 H3 ∧ H1 x = none ∧ H1 q = none ∧ q ≠ x ∧ H3 x = some (.ins A.cAmendment dx [("number", v1), ("known", v2), ("kind", v3), ("substances", v4), ("limit", v5), ("days", v6), ("corrections", .ref q), ("withdrawn", .int (-1))]) ∧ H3 q = some (.lst [])) := fun H1 e Q q =>
  ha H1 e _ fun v4 v6 H2 e2 p => make_am (Q := Q) fun x dx r H3 e3 hx hq ne h3 h4 => q _ _ (e2.trans e3) ⟨x, dx, r, H2, v4, v6, rfl, e.trans e2, p, e3, hx, hq, ne, h3, h4⟩
end
theorem lc_keysD {σ : L2.St} {H : Hp} {td te : TE} {g : TG} {vs : List Nat} {Q : VK} {d : Addr} {o : Obj} {kvs : List (L2.Key × V)} (hd : Ev td σ H (.ref d)) (hf : H d = some (.frz o (.dK kvs))) (Pv : Hp → Addr → Nat → Hp → Prop) (h0 : ∀ H1 D, Ex H H1 → H1 D = none → Pv H1 D 0 (upd H1 D (.lst [])))
    (hG : ∀ H1 D i H', Ex H H1 → H1 D = none → Pv H1 D i H' → H' d = some (.frz o (.dK kvs)))
    (hs : ∀ H1 D i k v H', Ex H H1 → H1 D = none → kvs[i]? = some (k, v) → Pv H1 D i H' → g (kV k) (wipe σ vs) H' fun σ2 H2 => wipe σ2 vs = wipe σ vs ∧ te σ2 H2 fun y H4 => ∃ acc, H4 D = some (.lst acc) ∧ acc.length < sizeLine ∧ Pv H1 D (i + 1) (upd H4 D (.lst (acc ++ [y]))))
    (he : ∀ H1 D H', Ex H H1 → H1 D = none → Pv H1 D kvs.length H' → Q (.ref D) H') : tLc (iKeys td) g tYes te vs σ H Q :=
  hd H (Ex.refl _) _ fun H1 e1 => ⟨d, o, rfl, .inl ⟨kvs, e1 _ _ hf, fun D hD => lc_it walk_keys (Pv H1 D) (h0 H1 D e1 hD) (fun i H' _ p => hG H1 D i H' e1 hD p) (fun i x H' H2 hi p ⟨eH, k, v, hk, hx⟩ => by
    subst eH
    subst hx
    exact hs H1 D i k v H2 e1 hD hk p) (fun H' p => he H1 D H' e1 hD p)⟩⟩
/-- the batches of some goods -/
def dropF (S : SctDay.State) (n : Nat) (kv : L2.Key × V) : Bool := match kv.1 with
  | .inl z => (match S.batches.at_ z.toNat with
    | some b => b.1 == n
    | none => false)
  | .inr _ => false
theorem drop_any {A : Adr} {fr : Addr → Prop} {H : Hp} {D : Addr} {S : SctDay.State} {dx L ldx la gd bd : Addr} {ps : List Addr} {gk bk : List (L2.Key × V)} (h : DkAt A fr H D S dx L ldx la gd bd ps gk bk) (n : Nat) : (bk.map (dropF S n)).any id = S.batches.any fun (y : Nat × (Nat × Nat)) => y.2.1 == n := by
  apply Bool.eq_iff_iff.mpr
  rw [List.any_eq_true, List.any_eq_true]
  constructor
  · rintro ⟨c, hc, e⟩
    obtain ⟨kv, hkv, e2⟩ := List.mem_map.mp hc
    obtain ⟨m, hm⟩ := h.br.nat kv.1 (List.mem_map_of_mem (f := fun x : L2.Key × V => x.1) hkv)
    rw [show c = true from e] at e2
    unfold dropF at e2
    rw [hm] at e2
    dsimp only at e2
    rw [Int.toNat_natCast] at e2
    cases hb : S.batches.at_ m with
    | none => rw [hb] at e2; cases e2
    | some b =>
      rw [hb] at e2
      exact ⟨(m, b), at_mem hb, e2⟩
  · rintro ⟨y, hy, e⟩
    have hya : S.batches.at_ y.1 = some y.2 := at_of h.wf.bs hy
    cases hv : valV bk (Sum.inl (y.1 : Int)) with
    | none => rw [(h.br.no y.1).mp hv] at hya; cases hya
    | some v =>
      refine ⟨true, List.mem_map.mpr ⟨_, val_mem hv, ?_⟩, rfl⟩
      unfold dropF
      dsimp only
      rw [Int.toNat_natCast, hya]
      exact e
section
variable {P : Program} {w : World} {K : PySem.W.Frag} {mg : Str → Option Value} {base : Heap} {A : Adr}
/-- the locked comprehension of drop -/
theorem ep_drop (T : Txt K mg A) {fr : Addr → Prop} {H : Hp} {D : Addr} {S : SctDay.State} {dx L ldx la gd bd : Addr} {ps : List Addr} {gk bk : List (L2.Key × V)} (h : DkAt A fr H D S dx L ldx la gd bd ps gk bk) (n : Nat) :
    EvP (tLockE (tLc (iKeys (tFld K (tVar 0) "batches")) (gName 2) tYes (tOp rEq (tFld K (tDGet (tFld K (tVar 0) "batches") (tVar 2)) "goods") (tVar 1)) [2])) [some (.ref D), some (nV n), none] H (fun v H1 => ∃ d, v = .ref d ∧ H1 d = some (.lst ((bk.map (dropF S n)).map V.bl))) := fun H1 e1 Q q => by
  have h1 := h.ex e1
  refine ⟨bd, _, h1.bh, trivial, fun od => ?_⟩
  have bl32 : bk.length ≤ 32 := by
    rw [h.br.len h.wf.bs]
    exact rows_len h.wf.bs h.wf.b32
  have ob : upd H1 bd (.frz od (.dK bk)) D = some (.ins A.cDesk dx (deF L gd bd)) := by
    rw [upd_ne (ne_of h1.ob h1.bh (by intro q; cases q))]
    exact h1.ob
  have key : Ev (tFld K (tVar 0) "batches") [some (.ref D), some (nV n), none] (upd H1 bd (.frz od (.dK bk))) (.ref bd) := ev_fld (ev_var rfl) ob T.lDesk T.nDesk_batches d_batches
  refine lc_keysD key upd_same (fun H2 d i H3 => Ex H2 H3 ∧ H3 d = some (.lst (((bk.take i).map (dropF S n)).map V.bl))) (fun H2 d e2 hd => ⟨Ex.new hd, upd_same⟩) (fun H2 d i H3 e2 hd ⟨e3, _⟩ => e3 _ _ (e2 _ _ upd_same)) (fun H2 d i k v H4 e2 hd hk ⟨e3, h3⟩ => ?_) (fun H2 d H3 e2 hd ⟨e3, h3⟩ => ?_)
  · have hi : i < bk.length := (List.getElem?_eq_some_iff.mp hk).1
    have E3 := e2.trans e3
    obtain ⟨m, hm⟩ := h.br.nat k (List.mem_map.mpr ⟨(k, v), List.mem_of_getElem? hk, rfl⟩)
    subst hm
    have hv : valV bk (Sum.inl (m : Int)) = some v := val_of h.br.nd (List.mem_of_getElem? hk)
    obtain ⟨p, b, rfl, hb, x, hba⟩ := h1.br.yes m v hv
    have hb3 : H4 p = some (.ins A.cBatch x (baF b)) := E3 _ _ (by rw [upd_ne (ne_of hba h1.bh (by intro q; cases q))]; exact hba)
    have rd : DGet H4 bd (nV m) (some (.ref p)) := by
      rw [← hv]
      exact .inl ⟨bk, Sum.inl (m : Int), .inr ⟨od, E3 _ _ upd_same⟩, rfl, rfl⟩
    show _ ∧ _
    refine ⟨rfl, ?_⟩
    have fe : dropF S n (Sum.inl (m : Int), V.ref p) = decide (nV b.1 = nV n) := by
      unfold dropF
      dsimp only
      rw [Int.toNat_natCast, hb, dec_eq]
    refine (ev_op (ev_fld (ev_dget (ev_fld (ev_var rfl) (E3 _ _ ob) T.lDesk T.nDesk_batches d_batches) (ev_var rfl) rd) hb3 T.lBatch T.nBatch_goods b_goods) (ev_var rfl) (rv_eq rfl)) H4 (Ex.refl _) _ fun H5 e5 => ⟨_, e5 _ _ h3, sz_lt ?_, Ex.mut (e3.trans e5) hd, ?_⟩
    · rw [List.length_map, List.length_map, List.length_take]
      omega
    · rw [take_snoc hk, List.map_append, List.map_append, ← fe]
      exact upd_same
  · rw [List.take_length] at h3
    have E3 := e2.trans e3
    have nd : bd ≠ d := ne_of_none (e2 _ _ upd_same) hd
    refine ⟨E3 _ _ upd_same, q _ _ (fun b o hb => ?_) ⟨d, rfl, by rw [upd_ne (Ne.symm nd)]; exact h3⟩⟩
    by_cases c : b = bd
    · rw [c, upd_same, ← h1.bh, ← c]
      exact hb
    · rw [upd_ne c]
      exact E3 _ _ (by rw [upd_ne c]; exact hb)
theorem sc_drop : FnScope ["desk", "number", "at"] ps_drop (defScope s_drop) := ⟨rfl, rfl, rfl, by decide +kernel, rfl, by decide +kernel, by decide +kernel⟩
theorem ok_drop (T : Txt K mg A) : Cal P w K mg base (L2.CX P w) 5 A.fdrop ps_drop (sp_drop A) := by
  have sc := sc_drop
  have c_need : Cal P w K mg base (L2.CX P w) 3 _ _ _ := ok_need T
  have c_Desk_own_goods : Cal P w K mg base (L2.CX P w) 4 _ _ _ := ok_Desk_own_goods T
  refine T.ddrop.okX sc (fun vs H Q E h => ?_) (fun cdv Ar outer s H vs Q E hr h => ⟨_, (pss_cons (ps_expr (pcall c_need T.gneed (hr.mono (by decide)) (passes_call (takes_of rfl rfl rfl rfl) (fun _ _ _ _ z => z)) (by exact (pa_cons (pe_chain op_le op_le pe_int (pv 1) pe_int) (pa_cons (pe_un un_neg pe_int) pa_nil)))))
    (pss_cons (ps_expr (pmeth c_Desk_own_goods (pv 0) T.lDesk T.eDesk_own_goods (hr.mono (by decide)) (passes_call (takes_of rfl rfl rfl rfl) (fun _ _ _ _ z => z)) (by exact (pa_cons (pv 1) pa_nil))))
    (pss_cons (ps_expr (pcall c_need T.gneed (hr.mono (by decide)) (passes_call (takes_of rfl rfl rfl rfl) (fun _ _ _ _ z => z)) (by exact (pa_cons (pe_not (pe_callB (cr_any rfl) (by rfl) T.b_any (by decide +kernel) (pa_cons (pe_lock (pe_lc (own := [("at", 2)]) (te := (tOp rEq (tFld K (tDGet (tFld K (tVar 0) "batches") (tVar 2)) "goods") (tVar 1))) (hc := by rfl) sc.nd (pi_keys (pe_fld (pv 0) rfl)) (blkOk_by (N := ["desk", "number", "at"]) (sc := defScope s_drop) (by decide +kernel)) (fun _ _ _ _ _ => by exact pg_name (i := 2) sc.nd rfl (Or.inl rfl)) (fun _ _ _ _ _ => by exact pts_nil) (fun _ _ _ _ _ => by exact (pe_cmpR op_eq (pe_fld (pe_dget (hu_of hr) (pe_fld (pv 0) rfl) (pv 2) (fun _ _ => rfl)) rfl) (pv 1) (nomark _))))) pa_nil))) (pa_cons (pe_un un_neg pe_int) pa_nil)))))
    (pss_cons (ps_expr (pe_dpop1 (pe_fld (pv 0) rfl) (pv 1) ⟨rfl, rfl, rfl, rfl⟩))
    (pss_one (ps_ret (pe_lst (pa_cons pe_int pa_nil)))))))), ?_⟩)
  · obtain ⟨fr, D, S, g, rfl, _⟩ := h
    rfl
  · obtain ⟨fr, D, S, g, rfl, ⟨dx, L, ldx, la, gd, bd, ps, gk, bk, h⟩, hfr, out⟩ := h
    have sp : SctDay.step S (.drop g) = if SctDay.isOf SctDay.GOODS g = false then (S, SctDay.RANGE) else if (S.goods.at_ g.toNat).isNone = true then (S, SctDay.NONE) else if S.batches.any (fun (y : Nat × (Nat × Nat)) => y.2.1 == g.toNat) = true then (S, SctDay.NOT) else ({ S with goods := S.goods.but g.toNat }, SctDay.DONE) := rfl
    rw [sp] at out
    refine q_must (ev_is (ev_lt2 ev_c (ev_var rfl) ev_c) (congrArg V.bl (of_le 15 g))) (ev_neg ev_c) (fun hb => ?_) (fun hb H1 e1 => ?_)
    · rw [if_pos (show SctDay.isOf SctDay.GOODS g = false from hb)] at out
      exact out.no (by decide)
    · rw [if_neg (by rw [show SctDay.isOf SctDay.GOODS g = true from hb]; decide)] at out
      obtain ⟨n, rfl, hn⟩ := of_nat hb
      simp only [Int.toNat_natCast] at out
      have h1 := h.ex e1
      refine meth_raw (ev_var rfl) h1.ob (d_no (by decide +kernel) (by decide +kernel) (by decide +kernel)) (ea_cons (ev_var rfl) ea_nil) fun H2 e2 => ⟨fr, D, S, dx, L, ldx, la, gd, bd, ps, gk, bk, n, rfl, h1.ex e2, fun v hv H3 e3 => ?_, fun hv => ?_⟩
      · have E3 := (e1.trans e2).trans e3
        have h3 := h.ex E3
        have nn : ¬ (S.goods.at_ n).isNone = true := fun z => by
          rw [(h.gr.no n).mpr (Option.isNone_iff_eq_none.mp z)] at hv
          cases hv
        rw [if_neg nn] at out
        show tSeq _ _ _ _ _
        refine q_must (b := !(S.batches.any fun (y : Nat × (Nat × Nat)) => y.2.1 == n)) (ev_notV (ev_cbP (ep_drop T h3 n) fun v H4 e4 ⟨d, ev, hd⟩ => ?_)) (ev_neg ev_c) (fun hb => ?_) (fun hb H4 e4 => ?_)
        · subst ev
          intro H5 e5 Q' q'
          exact ⟨d, _, rfl, sq_of (e5 _ _ hd), by rw [drop_any h n]; exact q' H5 (Ex.refl _)⟩
        · rw [Bool.not_eq_false'] at hb
          rw [if_pos hb] at out
          exact (out.no (by decide)).ex E3
        · rw [Bool.not_eq_true'] at hb
          rw [if_neg (by rw [hb]; decide)] at out
          have E4 := E3.trans e4
          have h4 := h.ex E4
          have hw : WfS { S with goods := S.goods.but n } := h.wf.gbut fun m b hm e => by
            have z := List.any_eq_false.mp hb (m, b) (at_mem hm)
            exact z (by rw [show ((m, b) : Nat × (Nat × Nat)).2.1 = n from e]; exact beq_self_eq_true n)
          refine q_pop (kvs := gk) (k := Sum.inl (n : Int)) (v := v) (ev_fld (ev_var rfl) h4.ob T.lDesk T.nDesk_goods d_goods) h4.gh (ev_var rfl) hv fun H5 e5 => ?_
          have D5 := (h4.ex e5).setG ((h4.ex e5).gr.drop n) hw
          refine s_retL (xs := [.int 0]) (el_lst (ea_cons ev_c ea_nil) (by show 1 ≤ 100000; decide)) fun q H6 nq e6 hq => ?_
          exact out.yes H6 q ⟨_, _, _, _, _, _, _, _, _, D5.ex e6⟩ (((Keep.ex (E4.trans e5)).upd h.fg).trans (Keep.ex e6)) hq
      · rw [if_pos (by rw [(h.gr.no n).mp hv]; rfl)] at out
        exact (out.no (by decide)).ex (e1.trans e2)
theorem sc_sell : FnScope ["desk", "number"] ps_sell (defScope s_sell) := ⟨rfl, rfl, rfl, by decide +kernel, rfl, by decide +kernel, by decide +kernel⟩
theorem ok_sell (T : Txt K mg A) : Cal P w K mg base (L2.CX P w) 5 A.fsell ps_sell (sp_sell A) := by
  have sc := sc_sell
  have c_need : Cal P w K mg base (L2.CX P w) 3 _ _ _ := ok_need T
  have c_Desk_batch : Cal P w K mg base (L2.CX P w) 4 _ _ _ := ok_Desk_batch T
  refine T.dsell.okX sc (fun vs H Q E h => ?_) (fun cdv Ar outer s H vs Q E hr h => ⟨_, (pss_cons (ps_expr (pcall c_need T.gneed (hr.mono (by decide)) (passes_call (takes_of rfl rfl rfl rfl) (fun _ _ _ _ z => z)) (by exact (pa_cons (pe_chain op_le op_le pe_int (pv 1) pe_int) (pa_cons (pe_un un_neg pe_int) pa_nil)))))
    (pss_cons (ps_expr (pmeth c_Desk_batch (pv 0) T.lDesk T.eDesk_batch (hr.mono (by decide)) (passes_call (takes_of rfl rfl rfl rfl) (fun _ _ _ _ z => z)) (by exact (pa_cons (pv 1) pa_nil))))
    (pss_cons (ps_expr (pe_dpop1 (pe_fld (pv 0) rfl) (pv 1) ⟨rfl, rfl, rfl, rfl⟩))
    (pss_one (ps_ret (pe_lst (pa_cons pe_int pa_nil))))))), ?_⟩)
  · obtain ⟨fr, D, S, g, rfl, _⟩ := h
    rfl
  · obtain ⟨fr, D, S, g, rfl, ⟨dx, L, ldx, la, gd, bd, ps, gk, bk, h⟩, hfr, out⟩ := h
    have sp : SctDay.step S (.sold g) = if SctDay.isOf SctDay.BATCHES g = false then (S, SctDay.RANGE) else if (S.batches.at_ g.toNat).isNone = true then (S, SctDay.NONE) else ({ S with batches := S.batches.but g.toNat }, SctDay.DONE) := rfl
    rw [sp] at out
    refine q_must (ev_is (ev_lt2 ev_c (ev_var rfl) ev_c) (congrArg V.bl (of_le 31 g))) (ev_neg ev_c) (fun hb => ?_) (fun hb H1 e1 => ?_)
    · rw [if_pos (show SctDay.isOf SctDay.BATCHES g = false from hb)] at out
      exact out.no (by decide)
    · rw [if_neg (by rw [show SctDay.isOf SctDay.BATCHES g = true from hb]; decide)] at out
      obtain ⟨n, rfl, hn⟩ := of_nat hb
      simp only [Int.toNat_natCast] at out
      have h1 := h.ex e1
      refine meth_raw (ev_var rfl) h1.ob (d_no (by decide +kernel) (by decide +kernel) (by decide +kernel)) (ea_cons (ev_var rfl) ea_nil) fun H2 e2 => ⟨fr, D, S, dx, L, ldx, la, gd, bd, ps, gk, bk, n, rfl, h1.ex e2, fun v hv H3 e3 => ?_, fun hv => ?_⟩
      · have E3 := (e1.trans e2).trans e3
        have h3 := h.ex E3
        have nn : ¬ (S.batches.at_ n).isNone = true := fun z => by
          rw [(h.br.no n).mpr (Option.isNone_iff_eq_none.mp z)] at hv
          cases hv
        rw [if_neg nn] at out
        show tSeq _ _ _ _ _
        refine q_pop (kvs := bk) (k := Sum.inl (n : Int)) (v := v) (ev_fld (ev_var rfl) h3.ob T.lDesk T.nDesk_batches d_batches) h3.bh (ev_var rfl) hv fun H5 e5 => ?_
        have D5 := (h3.ex e5).setB ((h3.ex e5).br.drop n) h.wf.bbut
        refine s_retL (xs := [.int 0]) (el_lst (ea_cons ev_c ea_nil) (by show 1 ≤ 100000; decide)) fun q H6 nq e6 hq => ?_
        exact out.yes H6 q ⟨_, _, _, _, _, _, _, _, _, D5.ex e6⟩ (((Keep.ex (E3.trans e5)).upd h.fb).trans (Keep.ex e6)) hq
      · rw [if_pos (by rw [(h.br.no n).mp hv]; rfl)] at out
        exact (out.no (by decide)).ex (e1.trans e2)
theorem sc_make : FnScope ["desk", "numbers", "number", "goods", "made", "own"] ps_make (defScope s_make) := ⟨rfl, rfl, rfl, by decide +kernel, rfl, by decide +kernel, by decide +kernel⟩
theorem ok_make (T : Txt K mg A) : Cal P w K mg base (L2.CX P w) 5 A.fmake ps_make (sp_make A K) := by
  have sc := sc_make
  have c_need : Cal P w K mg base (L2.CX P w) 3 _ _ _ := ok_need T
  have c_are_days : Cal P w K mg base CX0 1 _ _ _ := ok_are_days T
  have c_Desk_own_goods : Cal P w K mg base (L2.CX P w) 4 _ _ _ := ok_Desk_own_goods T
  have c_Law_way : Cal P w K mg base CX0 4 _ _ _ := ok_way T
  have c_BatchI : Cal P w K mg base CX0 1 _ _ _ := ok_BatchI T
  refine T.dmake.okX sc (fun vs H Q E h => ?_) (fun cdv Ar outer s H vs Q E hr h => ⟨_, (pss_cons (ps_asg (pv 1) (pg_unl rfl (pgs_cons (pg_name (i := 2) sc.nd rfl (Or.inl rfl)) (pgs_cons (pg_name (i := 3) sc.nd rfl (Or.inl rfl)) (pgs_cons (pg_name (i := 4) sc.nd rfl (Or.inl rfl)) pgs_nil)))))
    (pss_cons (ps_expr (pcall c_need T.gneed (hr.mono (by decide)) (passes_call (takes_of rfl rfl rfl rfl) (fun _ _ _ _ z => z)) (by exact (pa_cons (pe_and (pe_chain op_le op_le pe_int (pv 2) pe_int) (pe_and (pe_chain op_le op_le pe_int (pv 3) pe_int) (pe_one (pcall c_are_days T.gare_days (hr.mono (by decide)) pass0 (by exact (pa_cons (pe_lst (pa_cons (pv 4) pa_nil)) pa_nil)))))) (pa_cons (pe_un un_neg pe_int) pa_nil)))))
    (pss_cons (ps_set (i := 5) sc.nd rfl (Or.inl rfl) (pmeth c_Desk_own_goods (pv 0) T.lDesk T.eDesk_own_goods (hr.mono (by decide)) (passes_call (takes_of rfl rfl rfl rfl) (fun _ _ _ _ z => z)) (by exact (pa_cons (pv 3) pa_nil))))
    (pss_cons (ps_expr (pcall c_need T.gneed (hr.mono (by decide)) (passes_call (takes_of rfl rfl rfl rfl) (fun _ _ _ _ z => z)) (by exact (pa_cons (pe_cmp (pc_dnotin (hu_of hr) (pv 2) (pe_fld (pv 0) rfl)) rfl) (pa_cons (pe_un un_neg pe_int) pa_nil)))))
    (pss_cons (ps_expr (pcall c_need T.gneed (hr.mono (by decide)) (passes_call (takes_of rfl rfl rfl rfl) (fun _ _ _ _ z => z)) (by exact (pa_cons (pe_and (pe_cmpR op_ge (pv 4) (pe_fld (pv 5) rfl) (nomark _)) (pe_one (pe_cmpR op_eq (pmeth c_Law_way (pe_fld (pv 0) rfl) T.lLaw T.eLaw_way (hr.mono (by decide)) pass0 (by exact (pa_cons (pv 5) (pa_cons (pv 4) (pa_cons (pv 4) (pa_cons (pv 4) pa_nil)))))) pe_int (nomark _)))) (pa_cons (pe_un un_neg pe_int) pa_nil)))))
    (pss_cons (ps_dput (hu_of hr) (pe_fld (pv 0) rfl) (pv 2) (pmake c_BatchI T.mBatch T.gBatch (hr.mono (by decide)) pass0 (by exact (pa_cons (pv 3) (pa_cons (pv 4) pa_nil)))) rfl)
    (pss_one (ps_ret (pe_lst (pa_cons pe_int pa_nil)))))))))), ?_⟩)
  · obtain ⟨fr, D, S, np, b, g, d, rfl, _⟩ := h
    rfl
  · obtain ⟨fr, D, S, np, b, g, d, rfl, ⟨dx, L, ldx, la, gd, bd, ps, gk, bk, h⟩, hnp, hfr, out⟩ := h
    have sp : SctDay.step S (.make b g d) = if (SctDay.isOf SctDay.BATCHES b && (SctDay.isOf SctDay.GOODS g && SctDay.isDay d)) = false then (S, SctDay.RANGE) else match S.goods.at_ g.toNat with
      | none => (S, SctDay.NONE)
      | some y => if (S.batches.at_ b.toNat).isSome = true then (S, SctDay.THERE) else if (y.first : Int) ≤ d ∧ SctDay.way S.law y d.toNat d.toNat d.toNat = 1 then ({ S with batches := S.batches.put b.toNat (g.toNat, d.toNat) }, SctDay.DONE) else (S, SctDay.NOT) := rfl
    rw [sp] at out
    have bq : ((decide (0 ≤ b) && decide (b ≤ 31)) && ((decide (0 ≤ g) && decide (g ≤ 15)) && [d].all SctDay.isDay)) = (SctDay.isOf SctDay.BATCHES b && (SctDay.isOf SctDay.GOODS g && SctDay.isDay d)) := by
      rw [all1, show (decide (0 ≤ b) && decide (b ≤ 31)) = SctDay.isOf SctDay.BATCHES b from of_le 31 b, show (decide (0 ≤ g) && decide (g ≤ 15)) = SctDay.isOf SctDay.GOODS g from of_le 15 g]
    refine q_asgG (P := fun v H1 => v = .ref np) (ep_of_ev (ev_var rfl)) fun v H1 e1 ev => ?_
    subst ev
    refine g_un3 (ex_l e1 hnp) ?_
    refine q_must (ev_is (ev_andV (ev_lt2 ev_c (ev_var rfl) ev_c) fun _ => ev_andV (ev_lt2 ev_c (ev_var rfl) ev_c) fun _ => ev_daysL (zs := [d]) (ea_cons (ev_var rfl) ea_nil) (by show 1 ≤ 40000; decide)) (congrArg V.bl bq)) (ev_neg ev_c) (fun hb => ?_) (fun hb H2 e2 => ?_)
    · rw [if_pos hb] at out
      exact (out.no (by decide)).ex e1
    · rw [if_neg (by rw [hb]; decide)] at out
      rw [Bool.and_eq_true, Bool.and_eq_true] at hb
      obtain ⟨b, rfl, hb1⟩ := of_nat hb.1
      obtain ⟨g, rfl, hg⟩ := of_nat hb.2.1
      obtain ⟨d, rfl, hd⟩ := day_nat hb.2.2
      simp only [Int.toNat_natCast] at out
      have E2 := e1.trans e2
      have h2 := h.ex E2
      refine meth_raw (ev_var rfl) h2.ob (d_no (by decide +kernel) (by decide +kernel) (by decide +kernel)) (ea_cons (ev_var rfl) ea_nil) fun H3 e3 => ⟨fr, D, S, dx, L, ldx, la, gd, bd, ps, gk, bk, g, rfl, h2.ex e3, fun v hv H4 e4 => ?_, fun hv => ?_⟩
      · have E4 := (E2.trans e3).trans e4
        have h4 := h.ex E4
        obtain ⟨gp, y, rfl, hy, gdx, ca, ts, hgo, _⟩ := h4.gr.yes g v hv
        have hGo : Go A H4 gp y := ⟨gdx, ca, ts, hgo⟩
        rw [hy] at out
        have out' : ChOut A fr D E Q H (if (S.batches.at_ b).isSome = true then (S, SctDay.THERE) else if (y.first : Int) ≤ (d : Int) ∧ SctDay.way S.law y d d d = 1 then ({ S with batches := S.batches.put b (g, d) }, SctDay.DONE) else (S, SctDay.NOT)) := out
        show tSeq _ _ _ _ _
        have bsome : (valV bk (Sum.inl (b : Int))).isSome = (S.batches.at_ b).isSome := by
          have z := h.br.no b
          cases hq : valV bk (Sum.inl (b : Int)) with
          | none => rw [z.mp hq]; rfl
          | some v =>
            cases hr : S.batches.at_ b with
            | none => rw [z.mpr hr] at hq; cases hq
            | some _ => rfl
        refine q_must (b := !(valV bk (Sum.inl (b : Int))).isSome) (ev_dnotin (ev_var rfl) (ev_fld (ev_var rfl) h4.ob T.lDesk T.nDesk_batches d_batches) (DGet.k (k := Sum.inl (b : Int)) h4.bh)) (ev_neg ev_c) (fun hb => ?_) (fun hb H5 e5 => ?_)
        · rw [Bool.not_eq_false', bsome] at hb
          rw [if_pos hb] at out'
          exact (out'.no (by decide)).ex E4
        · rw [Bool.not_eq_true', bsome] at hb
          rw [if_neg (by rw [hb]; decide)] at out'
          have E5 := E4.trans e5
          have h5 := h.ex E5
          have go5 := hGo.ex e5
          refine q_must (b := decide ((y.first : Int) ≤ (d : Int)) && decide (nV (SctDay.way S.law y d d d) = V.int 1)) (ev_andV (ev_op (ev_var rfl) (ev_fld (ev_var rfl) (hgo.ex e5).ob T.lGoods T.nGoods_new g_new) rv_I0) fun _ => ev_op (ev_meth (ev_fld (ev_var rfl) h5.ob T.lDesk T.nDesk_law d_law) h5.lw.ob (l_no (by decide +kernel)) (ea_cons (ev_var rfl) (ea_cons (ev_var rfl) (ea_cons (ev_var rfl) (ea_cons (ev_var rfl) ea_nil)))) (spv_way h5.law go5 h5.wf.l48 d d d)) ev_c (rv_eq rfl)) (ev_neg ev_c) (fun hb => ?_) (fun hb H6 e6 => ?_)
          · rw [Bool.and_eq_false_iff, decide_eq_false_iff_not, decide_eq_false_iff_not] at hb
            rw [if_neg (by rintro ⟨q1, q2⟩; rcases hb with z | z; exact z q1; exact z (by rw [q2]; rfl))] at out'
            exact (out'.no (by decide)).ex E5
          · rw [Bool.and_eq_true, decide_eq_true_iff, decide_eq_true_iff] at hb
            have w1 : SctDay.way S.law y d d d = 1 := by
              have z : ((SctDay.way S.law y d d d : Nat) : Int) = 1 := V.int.inj hb.2
              omega
            rw [if_pos ⟨hb.1, w1⟩] at out'
            have E6 := E5.trans e6
            refine q_dputX ((ep_batch (v1 := nV g) (v2 := nV d) (ea_cons (ev_var rfl) (ea_cons (ev_var rfl) ea_nil))) H6 (Ex.refl _) _ fun v H8 e8 ⟨x, bx, ev, nx, hx⟩ => ?_)
            subst ev
            have E8 := E6.trans e8
            have h8 := h.ex E8
            refine (ev_fld (K := K) (ev_var rfl) h8.ob T.lDesk T.nDesk_batches d_batches) H8 (Ex.refl _) _ fun H9 e9 => ⟨nV b, rfl, bd, _, rfl, DPut.k (k := Sum.inl (b : Int)) ((h8.ex e9).bh) ?_, ?_⟩
            · have := h.br.len h.wf.bs
              have := rows_len h.wf.bs h.wf.b32
              exact sz_lt (by omega)
            · have h9 := h8.ex e9
              have D9 := h9.setB (h9.br.put (n := b) (p := x) (a := (g, d)) ⟨bx, e9 _ _ hx⟩) (h.wf.bput hb1 (by rw [hy]; rfl) hd)
              refine s_retL (σ := [some (.ref D), some (.ref np), some (nV b), some (nV g), some (nV d), some (.ref gp)]) (xs := [.int 0]) (el_lst (ea_cons ev_c ea_nil) (by show 1 ≤ 100000; decide)) fun q H10 nq e10 hq => ?_
              exact out'.yes H10 q ⟨_, _, _, _, _, _, _, _, _, D9.ex e10⟩ (((Keep.ex (E8.trans e9)).upd h.fb).trans (Keep.ex e10)) hq
      · rw [(h.gr.no g).mp hv] at out
        have out' : ChOut A fr D E Q H (S, SctDay.NONE) := out
        exact (out'.no (by decide)).ex (E2.trans e3)
end
end Bd
namespace Bd
open PySem PySem.Spec PyProof.Rows L2 Evl
section
variable {K : PySem.W.Frag} {σ : L2.St} {H H' : Hp} {D : Ends} {tz : TS} {ta tb tc te : TE} {P : V → Hp → Prop}
theorem ev_lenSet {l : Addr} {ns : List Int} (ha : Ev ta σ H (.ref l)) (hl : SqL K H l (ns.map V.int)) (hz : ns.length ≤ 4000) (hb : Ev tb σ H (.int (ns.length : Nat))) : Ev (tOp rEq (tLenSet K ta) tb) σ H (.bl (decide ns.Nodup)) := fun H1 e Q q =>
  ha H1 e _ fun H2 e2 => ⟨l, ns, rfl, ex_l (e.trans e2) hl, hz, fun m hm => hb H2 (e.trans e2) _ fun H3 e3 => ⟨rfl, by
    have : decide (V.int (m : Int) = V.int (ns.length : Nat)) = decide ns.Nodup := decide_eq_decide.mpr ⟨fun z => hm.mp (by have := V.int.inj z; omega), fun z => by rw [hm.mpr z]⟩
    rw [this]
    exact q H3 (e2.trans e3)⟩⟩
theorem q_par3L {i j k : Nat} {x y : V} {us : List V} (h1 : Ev ta σ H x) (h2 : Ev tb σ H y) (h3 : EvL tc σ H us) (q : ∀ d H1, Ex H H1 → H d = none → H1 d = some (.lst us) → tz D (((σ.set i (some x)).set j (some y)).set k (some (.ref d))) H1) : tSeq (tPar3 i j k (tCons ta (tCons tb (tCons tc tNil)))) tz D σ H :=
  h1 H (Ex.refl _) _ fun H1 e1 => h2 H1 e1 _ fun H2 e2 => h3 H2 (e1.trans e2) _ fun d H3 nd e3 hd => ⟨x, y, .ref d, rfl, q d H3 ((e1.trans e2).trans e3) (fresh_back (e1.trans e2) nd) hd⟩
theorem q_appP {l : Addr} {xs : List V} (hl : H l = some (.lst xs)) (ha : Ev ta σ H (.ref l)) (h : EvP te σ H P) (hz : xs.length < 100000) (k : ∀ v H1, Ex H H1 → P v H1 → tz D σ (upd H1 l (.lst (xs ++ [v])))) :
    tSeq (tDrop (tBM K "list" rAppend ta (tCons te tNil))) tz D σ H := ha H (Ex.refl H) _ fun H1 e1 =>
  ⟨Or.inl ⟨rfl, xs, sq_of (e1 l _ hl)⟩, h H1 e1 _ fun v H2 e2 p => ⟨l, xs, v, rfl, rfl, (e1.trans e2) l _ hl, sz_lt hz, k v H2 (e1.trans e2) p⟩⟩
theorem el_rep3 {us : List V} (h : EvL ta σ H us) (hl : us.length ≤ 1000) : EvL (tOp rRep ta (tC (.int 3))) σ H (us ++ (us ++ us)) := fun H1 e Q q =>
  h H1 e _ fun p H2 np e2 hp => ⟨p, 3, us, rfl, rfl, hp, by decide, by decide, sz_of (by show us.length * 3 ≤ 100000; omega), fun r hr => q r _ (fresh_back e2 hr) (e2.trans (Ex.new hr)) (by
    rw [upd_same]
    show some (HO.lst [us, us, us].flatten) = _
    rw [List.flatten_cons, List.flatten_cons, List.flatten_cons, List.flatten_nil, List.append_nil])⟩
/-- tuple(list) -/
theorem tup_of {p : Addr} {ys : List V} {Q : VK} (ha : Ev ta σ H (.ref p)) (hp : SqL K H p ys) (q : ∀ t H1, Ex H H1 → H1 t = some (.tup ys) → Q (.ref t) H1) :
    tCB (fun xs H Q => ∃ p ys, xs = [.ref p] ∧ ((SqL K H p ys ∧ ∀ l, H l = none → Q (.ref l) (upd H l (.tup ys))) ∨ (SqT K H p ys ∧ Q (.ref p) H))) (tCons ta tNil) σ H Q :=
  ha H (Ex.refl _) _ fun H1 e1 => ⟨p, ys, rfl, .inl ⟨ex_l e1 hp, fun l hl => q l _ (e1.trans (Ex.new hl)) upd_same⟩⟩
end
def limO : Option Int → V
  | none => .non
  | some b => .int b
def sp_substances (A : Adr) (K : PySem.W.Frag) : Sp := fun vs H Q E => ∃ (rp : Addr) (l : List Int), vs = [.ref rp] ∧ SqL K H rp (l.map V.int) ∧ l.length ≤ 1000 ∧ (setB l = true → RetV .non H Q) ∧ (setB l = false → Fails A (-1) E H)
def sp_amend (A : Adr) (K : PySem.W.Frag) : Sp := fun vs H Q E => ∃ (fr : Addr → Prop) (D : Addr) (S : SctDay.State) (np rp : Addr) (p k n m q : Int) (lim : Option Int) (l zs : List Int), vs = [.ref D, .ref np, .ref rp, limO lim] ∧ Dk A fr H D S ∧ SqL K H np (zs.map V.int) ∧ SqL K H rp (l.map V.int) ∧ l.length ≤ 1000 ∧
  ((∃ b, lim = some b ∧ zs = [p, k, b, n, m, q]) ∨ (lim = none ∧ zs = [p, k, n] ∧ m = n ∧ q = n)) ∧ FrIn fr H ∧ ChOut A fr D E Q H (amSpec S p k n m q lim l)
theorem am_mk {A : Adr} {H : Hp} {x xdx r t6 t4 : Addr} {i p k n m q : Nat} {lim : Option Int} {of_ : List Nat} {l : List Int} (hlim : ∀ b, lim = some b → 0 ≤ b)
    (hx : H x = some (.ins A.cAmendment xdx [("number", nV i), ("known", nV p), ("kind", nV k), ("substances", .ref t4), ("limit", limO lim), ("days", .ref t6), ("corrections", .ref r), ("withdrawn", .int (-1))])) (hr : H r = some (.lst [])) (h6 : H t6 = some (.tup [nV n, nV m, nV q])) (h4 : H t4 = some (.tup (l.map V.int)))
    (hs : SctDay.setIn l = some of_) (hn : lim = none → m = n ∧ q = n) : AmAt A H x i ⟨p, lim.isNone, k, (lim.getD 0).toNat, n, m, q, of_, [], none⟩ xdx t4 t6 r (l.map Int.toNat) [] := by
  obtain ⟨z1, z2, z3, z4, z5⟩ := setIn_some hs
  refine ⟨?_, ?_, z4, z5, by rw [List.length_map]; exact ⟨z1, z2⟩, h6, hr, .nil, by show 0 ≤ 4; decide, fun hrep => ?_⟩
  · rw [hx]
    cases lim with
    | none => rfl
    | some b =>
      have e : limV ⟨p, (some b).isNone, k, ((some b).getD 0).toNat, n, m, q, of_, [], none⟩ = V.int b := by
        show nV b.toNat = V.int b
        have := hlim b rfl
        show V.int ((b.toNat : Nat) : Int) = V.int b
        congr 1
        omega
      unfold amF
      rw [e]
      rfl
  · rw [h4, List.map_map]
    congr 2
    refine List.map_congr_left fun z hz => ?_
    show V.int z = V.int ((z.toNat : Nat) : Int)
    have := z3 z hz
    congr 1
    omega
  · cases lim with
    | none =>
      obtain ⟨rfl, rfl⟩ := hn rfl
      exact ⟨rfl, rfl, rfl, rfl⟩
    | some b => cases hrep
section
variable {P : Program} {w : World} {K : PySem.W.Frag} {mg : Str → Option Value} {base : Heap} {A : Adr}
theorem sc_substances : FnScope ["row", "one"] ps_substances (defScope s_substances) := ⟨rfl, rfl, rfl, by decide +kernel, rfl, by decide +kernel, by decide +kernel⟩
theorem ok_substances (T : Txt K mg A) : Cal P w K mg base (L2.CX P w) 4 A.fsubstances ps_substances (sp_substances A K) := by
  have sc := sc_substances
  have c_need : Cal P w K mg base (L2.CX P w) 3 _ _ _ := ok_need T
  refine T.dsubstances.okX sc (fun vs H Q E h => ?_) (fun cdv Ar outer s H vs Q E hr h => ⟨_, (pss_one (ps_expr (pcall c_need T.gneed (hr.mono (by decide)) (passes_call (takes_of rfl rfl rfl rfl) (fun _ _ _ _ z => z)) (by exact (pa_cons (pe_and (pe_chain op_le op_le pe_int (pe_callB call_len_seq (by rfl) T.b_len PySem.boot_len (pa_cons (pv 0) pa_nil)) pe_int) (pe_and (pe_cmpR op_eq (pe_lenSet T.b_len T.b_set (pv 0)) (pe_callB call_len_seq (by rfl) T.b_len PySem.boot_len (pa_cons (pv 0) pa_nil)) (nomark _)) (pe_one (pe_callB (cr_all rfl) (by rfl) T.b_all (by decide +kernel) (pa_cons (pe_lc (own := [("one", 1)]) (hc := by rfl) sc.nd (pi_list (pv 0)) (blkOk_by (N := ["row", "one"]) (sc := defScope s_substances) (by decide +kernel)) (fun _ _ _ _ _ => by exact pg_name (i := 1) sc.nd rfl (Or.inl rfl)) (fun _ _ _ _ _ => by exact pts_nil) (fun _ _ _ _ _ => by exact (pe_chain op_le op_le pe_int (pv 1) pe_int))) pa_nil))))) (pa_cons (pe_un un_neg pe_int) pa_nil)))))), ?_⟩)
  · obtain ⟨rp, l, rfl, _⟩ := h
    rfl
  · obtain ⟨rp, l, rfl, hl, hz, k1, k2⟩ := h
    have len : ∀ H1, Ex H H1 → Ev (tCB (rLenS K) (tCons (tVar 0) tNil)) [some (.ref rp), none] H1 (.int (l.length : Nat)) := fun H1 e1 => ev_is (ev_len (ev_var rfl) (ex_l e1 hl)) (by rw [List.length_map])
    refine s_must (b := setB l) (ev_andV (ev_lt2 ev_c (len H (Ex.refl _)) ev_c) fun _ => ev_andV (ev_lenSet (ev_var rfl) hl (by omega) (len H (Ex.refl _))) fun _ => ev_cbP (el_lcv (n := (l.map V.int).length) (f := fun i => .bl (SctDay.isOf 24 (l.getD i 0))) (us := (l.map (SctDay.isOf 24)).map V.bl) (ep_lcL (K := K) (xs := l.map V.int) (fun i => [some (.ref rp), some (.int (l.getD i 0))]) _ stays_val (ev_var rfl) hl (by rw [List.length_map]; omega) ?_ ?_ ?_) ?_) fun v H1 e1 ⟨p, ev, np, hp⟩ => ?_) (ev_neg ev_c) k2 (fun hb H1 e1 => k1 hb H1 e1)
    · intro i x H' hx e Q' q
      obtain ⟨z, hz', rfl⟩ := map_get hx
      rw [getD_of hz'] at q
      exact q
    · intro i x _
      rfl
    · intro i x H' hx e
      exact ep_of_ev (ev_is (ev_lt2 ev_c (ev_var rfl) ev_c) (congrArg V.bl (of_le 23 _)))
    · rw [List.length_map, List.map_map]
      exact range_map (fun z => V.bl (SctDay.isOf 24 z)) 0 l
    · intro H2 e2 Q' q
      refine ⟨p, l.map (SctDay.isOf 24), by rw [ev], sq_of (e2 _ _ hp), ?_⟩
      have : (l.map (SctDay.isOf 24)).all id = l.all (SctDay.isOf 24) := by rw [List.all_map]; rfl
      rw [this]
      exact q H2 (Ex.refl _)
theorem sc_amend : FnScope ["desk", "numbers", "row", "limit", "known", "kind", "days", "amendments"] ps_amend (defScope s_amend) := ⟨rfl, rfl, rfl, by decide +kernel, rfl, by decide +kernel, by decide +kernel⟩
theorem ok_amend (T : Txt K mg A) : Cal P w K mg base (L2.CX P w) 5 A.famend ps_amend (sp_amend A K) := by
  have sc := sc_amend
  have c_need : Cal P w K mg base (L2.CX P w) 3 _ _ _ := ok_need T
  have c_are_days : Cal P w K mg base CX0 1 _ _ _ := ok_are_days T
  have c_substances : Cal P w K mg base (L2.CX P w) 4 _ _ _ := ok_substances T
  have c_AmendmentI : Cal P w K mg base CX0 1 _ _ _ := ok_AmendmentI T
  refine T.damend.okX sc (fun vs H Q E h => ?_) (fun cdv Ar outer s H vs Q E hr h => ⟨_, (pss_cons (ps_par3 (i := 4) (j := 5) (l := 6) (by rfl) sc.nd rfl rfl rfl (by decide) (by decide) (by decide) rfl rfl rfl (by exact (pa_cons (pe_ix ix_list (pv 1) pe_int (fun _ _ => rfl)) (pa_cons (pe_ix ix_list (pv 1) pe_int (fun _ _ => rfl)) (pa_cons (pe_ifExp (pt_cmpR op_notN (pv 3) pe_non (nomark _)) (pe_slice sl_list (pv 1) (po_some (pe_un un_neg pe_int)) po_none) (pe_op op_rep (pe_slice sl_list (pv 1) (po_some pe_int) po_none) pe_int)) pa_nil)))) (by rfl))
    (pss_cons (ps_expr (pcall c_need T.gneed (hr.mono (by decide)) (passes_call (takes_of rfl rfl rfl rfl) (fun _ _ _ _ z => z)) (by exact (pa_cons (pe_and (pcall c_are_days T.gare_days (hr.mono (by decide)) pass0 (by exact (pa_cons (pe_op op_cat (pe_lst (pa_cons (pv 4) pa_nil)) (pv 6)) pa_nil))) (pe_one (pe_chain op_le op_le pe_int (pv 5) pe_int))) (pa_cons (pe_un un_neg pe_int) pa_nil)))))
    (pss_cons (ps_expr (pcall c_need T.gneed (hr.mono (by decide)) (passes_call (takes_of rfl rfl rfl rfl) (fun _ _ _ _ z => z)) (by exact (pa_cons (pe_or (pe_cmpR op_isN (pv 3) pe_non (nomark _)) (pe_one (pe_chain op_le op_le pe_int (pv 3) (pconst T.gMOST_CONTENT)))) (pa_cons (pe_un un_neg pe_int) pa_nil)))))
    (pss_cons (ps_expr (pcall c_substances T.gsubstances (hr.mono (by decide)) (passes_call (takes_of rfl rfl rfl rfl) (fun _ _ _ _ z => z)) (by exact (pa_cons (pv 2) pa_nil))))
    (pss_cons (ps_expr (pcall c_need T.gneed (hr.mono (by decide)) (passes_call (takes_of rfl rfl rfl rfl) (fun _ _ _ _ z => z)) (by exact (pa_cons (pe_chain3 op_le op_le op_le (pv 4) (pe_ix ix_list (pv 6) pe_int (fun _ _ => rfl)) (pe_ix ix_list (pv 6) pe_int (fun _ _ => rfl)) (pe_ix ix_list (pv 6) pe_int (fun _ _ => rfl))) (pa_cons (pe_un un_neg pe_int) pa_nil)))))
    (pss_cons (ps_set (i := 7) sc.nd rfl (Or.inl rfl) (pe_fld (pe_fld (pv 0) rfl) rfl))
    (pss_cons (ps_expr (pcall c_need T.gneed (hr.mono (by decide)) (passes_call (takes_of rfl rfl rfl rfl) (fun _ _ _ _ z => z)) (by exact (pa_cons (pe_cmpR op_lt (pe_callB call_len_seq (by rfl) T.b_len PySem.boot_len (pa_cons (pv 7) pa_nil)) (pconst T.gMOST_AMENDMENTS) (nomark _)) (pa_cons (pe_un un_neg pe_int) pa_nil)))))
    (pss_cons (ps_expr (pe_bm PySem.F.plainAttrs_list PySem.F.slot_list_append PySem.F.type_list_append mt_append (pv 7) (pa_cons (pmake c_AmendmentI T.mAmendment T.gAmendment (hr.mono (by decide)) pass0 (by exact (pa_cons (pe_callB call_len_seq (by rfl) T.b_len PySem.boot_len (pa_cons (pv 7) pa_nil)) (pa_cons (pv 4) (pa_cons (pv 5) (pa_cons (pe_callTy call_tuple_of (by rfl) T.b_tuple (by decide +kernel) (pa_cons (pv 2) pa_nil)) (pa_cons (pv 3) (pa_cons (pe_callTy call_tuple_of (by rfl) T.b_tuple (by decide +kernel) (pa_cons (pv 6) pa_nil)) pa_nil)))))))) pa_nil)))
    (pss_one (ps_ret (pe_lst (pa_cons pe_int (pa_cons (pe_op op_sub (pe_callB call_len_seq (by rfl) T.b_len PySem.boot_len (pa_cons (pv 7) pa_nil)) pe_int) pa_nil))))))))))))), ?_⟩)
  · obtain ⟨fr, D, S, np, rp, p, k, n, m, q, lim, l, zs, rfl, _⟩ := h
    rfl
  · obtain ⟨fr, D, S, np, rp, p, k, n, m, q, lim, l, zs, rfl, ⟨dx, L, ldx, la, gd, bd, ps, gk, bk, h⟩, hnp, hrp, hlen, hzs, hfr, out⟩ := h
    have z0 : atI (zs.map V.int) 0 = some (.int p) := by
      rcases hzs with ⟨b, _, e⟩ | ⟨_, e, _⟩ <;> rw [e] <;> rfl
    have z1 : atI (zs.map V.int) 1 = some (.int k) := by
      rcases hzs with ⟨b, _, e⟩ | ⟨_, e, _⟩ <;> rw [e] <;> rfl
    refine q_par3L (us := ([n, m, q] : List Int).map V.int) (ev_op (ev_var rfl) ev_c (rv_ixL hnp z0)) (ev_op (ev_var rfl) ev_c (rv_ixL hnp z1)) (fun H1 e1 Q' q' => ?_) fun dp H1 e1 ndp hdp => ?_
    · refine (et_test (ev_op (ev_var (v := limO lim) rfl) ev_c rv_notN)) H1 (Ex.refl _) _ fun H2 e2 => ?_
      rcases hzs with ⟨b, rfl, rfl⟩ | ⟨rfl, rfl, rfl, rfl⟩
      · exact iteT ((el_sl (ev_var rfl) (eo_some (ev_neg ev_c)) eo_none (ex_l (e1.trans e2) hnp)) H2 (Ex.refl _) Q' fun r H3 nr e3 hr => q' r H3 (fresh_back e2 nr) (e2.trans e3) hr)
      · exact iteF ((el_rep3 (us := [.int q]) (el_sl (ev_var rfl) (eo_some ev_c) eo_none (ex_l (e1.trans e2) hnp)) (by show 1 ≤ 1000; decide)) H2 (Ex.refl _) Q' fun r H3 nr e3 hr => q' r H3 (fresh_back e2 nr) (e2.trans e3) hr)
    · unfold amSpec at out
      have dq : [p, n, m, q].all SctDay.isDay = (SctDay.isDay p && (SctDay.isDay n && (SctDay.isDay m && SctDay.isDay q))) := all4 p n m q
      refine q_must (b := [p, n, m, q].all SctDay.isDay && SctDay.isOf SctDay.CLASSES k) (ev_andV (ev_callL (us := ([p, n, m, q] : List Int).map V.int) (el_catR (el_lst (ea_cons (ev_var rfl) ea_nil) (by show 1 ≤ 100000; decide)) (ev_var rfl) hdp (by show 1 + 3 ≤ sizeLine; decide)) fun r H2 e2 hr => spv_are_days (sq_of hr) (by show 4 ≤ 40000; decide)) fun _ => ev_is (ev_lt2 ev_c (ev_var rfl) ev_c) (congrArg V.bl (of_le 7 k))) (ev_neg ev_c) (fun hb => ?_) (fun hb H2 e2 => ?_)
      · rw [if_pos (by
          rw [dq, Bool.and_eq_false_iff] at hb
          rcases hb with z | z
          · cases h1 : SctDay.isDay p with
            | false => rfl
            | true =>
              rw [h1, Bool.true_and] at z
              rw [z, Bool.and_false, Bool.and_false]
              rfl
          · rw [z]
            cases SctDay.isDay p <;> rfl)] at out
        exact (out.no (by decide)).ex e1
      · rw [dq, Bool.and_eq_true, Bool.and_eq_true, Bool.and_eq_true, Bool.and_eq_true] at hb
        obtain ⟨⟨hp1, hn1, hm1, hq1⟩, hk1⟩ := hb
        rw [hp1, hn1, hm1, hq1, hk1] at out
        obtain ⟨p, rfl, hp2⟩ := day_nat hp1
        obtain ⟨k, rfl, hk2⟩ := of_nat hk1
        obtain ⟨n, rfl, hn2⟩ := day_nat hn1
        obtain ⟨m, rfl, hm2⟩ := day_nat hm1
        obtain ⟨q, rfl, hq2⟩ := day_nat hq1
        simp only [Int.toNat_natCast, Bool.true_and, Bool.and_true] at out
        refine q_must (b := limB lim) ?_ (ev_neg ev_c) (fun hb => ?_) (fun hbL H3 e3 => ?_)
        · cases lim with
          | none => exact ev_is (ev_orV (b := true) (ev_op (ev_var rfl) ev_c rv_isN) (fun z => by cases z)) rfl
          | some b => exact ev_is (ev_orV (ev_op (ev_var rfl) ev_c rv_isN) fun _ => ev_lt2 ev_c (ev_var rfl) ev_c) rfl
        · rw [if_pos hb] at out
          exact (out.no (by decide)).ex (e1.trans e2)
        · rw [if_neg (by rw [hbL]; decide)] at out
          have E3 := (e1.trans e2).trans e3
          refine q_callX ((ea_cons (ev_var rfl) ea_nil : EvA (tCons (tVar 2) tNil) _ H3 [V.ref rp]) H3 (Ex.refl _) _ fun H4 e4 => ⟨rp, l, rfl, ex_l (E3.trans e4) hrp, hlen, fun hsb H5 e5 => ?_, fun hsb => ?_⟩)
          · rw [setIn_is, if_pos hsb] at out
            have hs : SctDay.setIn l = some (SctDay.rising (l.map Int.toNat)) := by rw [setIn_is, if_pos hsb]
            have out' : ChOut A fr D E Q H (if (p : Int) ≤ (n : Int) ∧ (n : Int) ≤ (m : Int) ∧ (m : Int) ≤ (q : Int) then S.enact ⟨p, lim.isNone, k, (lim.getD 0).toNat, n, m, q, SctDay.rising (l.map Int.toNat), [], none⟩ else (S, SctDay.NOT)) := out
            have E5 := (E3.trans e4).trans e5
            have dp5 := ((((e2.trans e3).trans e4).trans e5)) _ _ hdp
            have it : ∀ (j : Nat) (v : V), ([nV n, nV m, nV q] : List V)[j]? = some v → ∀ σ, σ[6]? = some (some (V.ref dp)) → Ev (tOp (rIxL K) (tVar 6) (tC (.int (j : Int)))) σ H5 v := fun j v hv σ hσ => ev_op (ev_var hσ) ev_c (rv_ixL (sq_of dp5) (atI_nat hv))
            refine q_must (b := decide ((p : Int) ≤ (n : Int)) && (decide ((n : Int) ≤ (m : Int)) && decide ((m : Int) ≤ (q : Int)))) (ev_chain3 (ev_var rfl) (it 0 (nV n) rfl _ rfl) (it 1 (nV m) rfl _ rfl) (it 2 (nV q) rfl _ rfl) rv_I0 rv_I0 rv_I0) (ev_neg ev_c) (fun hb => ?_) (fun hb H6 e6 => ?_)
            · rw [Bool.and_eq_false_iff, Bool.and_eq_false_iff, decide_eq_false_iff_not, decide_eq_false_iff_not, decide_eq_false_iff_not] at hb
              rw [if_neg (by rintro ⟨q1, q2, q3⟩; rcases hb with z | z | z; exact z q1; exact z q2; exact z q3)] at out'
              exact (out'.no (by decide)).ex E5
            · rw [Bool.and_eq_true, Bool.and_eq_true, decide_eq_true_iff, decide_eq_true_iff, decide_eq_true_iff] at hb
              rw [if_pos hb] at out'
              have E6 := E5.trans e6
              have h6 := h.ex E6
              have ll : ps.length = S.law.length := h.lw.am.1
              refine q_asg (v := .ref la) (ev_fld (ev_fld (ev_var rfl) h6.ob T.lDesk T.nDesk_law d_law) h6.lw.ob T.lLaw T.nLaw_amendments l_amendments) fun H7 e7 => ?_
              have h7 := h6.ex e7
              unfold SctDay.State.enact at out'
              refine q_must (b := decide ((((ps.map V.ref).length : Nat) : Int) < 48)) (ev_op (ev_len (ev_var rfl) (sq_of h7.lw.li)) ev_c rv_I0) (ev_neg ev_c) (fun hb => ?_) (fun hb2 H8 e8 => ?_)
              · have := of_decide_eq_false hb
                rw [List.length_map, ll] at this
                rw [if_pos (by show 48 ≤ S.law.length; omega)] at out'
                exact (out'.no (by decide)).ex (E6.trans e7)
              · have lt := of_decide_eq_true hb2
                rw [List.length_map, ll] at lt
                rw [if_neg (by show ¬ 48 ≤ S.law.length; omega)] at out'
                have E8 := (E6.trans e7).trans e8
                have h8 := h.ex E8
                have dp8 := ((e6.trans e7).trans e8) _ _ dp5
                refine q_appP h8.lw.li (ev_var rfl) (ep_am (v1 := nV S.law.length) (v2 := nV p) (v3 := nV k) (v5 := limO lim) (P := fun v4 v6 H9 => ∃ t4 t6, v4 = .ref t4 ∧ v6 = .ref t6 ∧ H9 t4 = some (.tup (l.map V.int)) ∧ H9 t6 = some (.tup [nV n, nV m, nV q])) fun H9 e9 Q' q' => ?_) (by rw [List.length_map, ll]; omega) fun v H10 e10 ⟨x, xdx, r, H9, v4, v6, ev, e9, ⟨t4, t6, ev4, ev6, h4, ht6⟩, e10', nx, nr, ne, hx, hr⟩ => ?_
                · refine (ev_is (ev_len (ev_var rfl) (sq_of (h8.ex e9).lw.li)) (by rw [List.length_map, ll] : V.int (((ps.map V.ref).length : Nat) : Int) = nV S.law.length)) H9 (Ex.refl _) _ fun H10 e10 => ⟨_, rfl, ⟨_, rfl, ?_⟩⟩
                  refine tup_of (ev_var rfl) (ex_l (E8.trans (e9.trans e10)) hrp) fun t4 H11 e11 h4 => ⟨_, rfl, ?_⟩
                  refine tup_of (ev_var rfl) (sq_of (((e9.trans e10).trans e11) _ _ dp8)) fun t6 H12 e12 h6 => ?_
                  exact q' _ _ H12 ((e10.trans e11).trans e12) ⟨t4, t6, rfl, rfl, e12 _ _ h4, h6⟩
                · subst ev
                  subst ev4
                  subst ev6
                  have h10 := h.ex (E8.trans e10)
                  have hlim : ∀ b, lim = some b → 0 ≤ b := fun b e => by
                    rw [e] at hbL
                    have z : SctDay.isIn 0 SctDay.WHOLE b = true := hbL
                    unfold SctDay.isIn at z
                    rw [Bool.and_eq_true, decide_eq_true_iff] at z
                    exact z.1
                  have hn : lim = none → m = n ∧ q = n := fun e => by
                    rcases hzs with ⟨b, e2, _⟩ | ⟨_, _, e3, e4⟩
                    · rw [e] at e2
                      cases e2
                    · omega
                  have am := am_mk hlim hx hr (e10' _ _ ht6) (e10' _ _ h4) hs hn
                  have D10 := h10.app am ⟨Ne.symm (ne_of_none ((h.ex (E8.trans e9)).lw.li) nr), hfr.not (fresh_back (E8.trans e9) nr)⟩ (hfr.not (fresh_back (E8.trans e9) nx)) (h.wf.law (by rw [List.length_append, List.length_singleton]; omega))
                  have e2 : ps.map V.ref ++ [V.ref x] = (ps ++ [x]).map V.ref := by rw [List.map_append]; rfl
                  rw [e2]
                  refine s_retL (xs := [.int 0, nV S.law.length]) (el_lst (ea_cons ev_c (ea_cons (ev_is (ev_op (ev_len (ev_var rfl) (sq_of D10.lw.li)) ev_c rv_I0) ?_) ea_nil)) (by show 2 ≤ 100000; decide)) fun r2 H11 nr2 e11 hr2 => ?_
                  · rw [List.length_map, List.length_append, List.length_singleton, ll]
                    show V.int (((S.law.length + 1 : Nat) : Int) - 1) = V.int (S.law.length : Int)
                    congr 1
                    omega
                  · exact out'.yes H11 r2 ⟨_, _, _, _, _, _, _, _, _, D10.ex e11⟩ (((Keep.ex (E8.trans e10)).upd h.fl).trans (Keep.ex e11)) hr2
          · rw [setIn_is, if_neg (by rw [hsb]; decide)] at out
            have out' : ChOut A fr D E Q H (S, SctDay.RANGE) := out
            exact (out'.no (by decide)).ex (E3.trans e4)
end
end Bd
namespace Bd
open PySem PySem.Spec PyProof.Rows L2 Evl
theorem rg3 : ∀ m : Fin 9, RgC 0 ((3 * m.val : Nat) : Int) 3 m.val := by
  intro m
  unfold RgC
  revert m
  decide
section
variable {K : PySem.W.Frag} {σ : L2.St} {H H' : Hp} {D : Ends} {tz tb : TS} {g : TG} {P : V → Hp → Prop}
theorem q_rng3 {ta : TA} {j : Int} {m : Nat} (h : EvA ta σ H [.int 0, .int j, .int 3]) (hr : RgC 0 j 3 m) (Pv : Nat → L2.St → Hp → Prop) (h0 : ∀ H1, Ex H H1 → Pv 0 σ H1)
    (hs : ∀ i σ' H', i < m → Pv i σ' H' → g (.int ((3 * i : Nat) : Int)) σ' H' fun σ2 H2 => tb { D with nx := Pv (i + 1), ct := Pv (i + 1), bk := tz D } σ2 H2) (hd : ∀ σ' H', Pv m σ' H' → tz D σ' H') : tSeq (tFor (iRng3 ta) g tb) tz D σ H :=
  h H (Ex.refl _) _ fun H1 e1 => ⟨0, j, 3, m, rfl, hr, for_it (D := { D with nx := tz D }) walk_rangeC Pv (h0 H1 e1) (fun _ _ _ _ _ => trivial) (fun i x σ' H2 H3 hi p y => by
    obtain ⟨eH, ex⟩ := y
    subst eH
    have e : (fun i : Nat => V.int (0 + (i : Int) * 3)) i = V.int ((3 * i : Nat) : Int) := by
      show V.int _ = V.int _
      congr 1
      omega
    rw [ex, e]
    exact hs i σ' H3 hi p) hd⟩
theorem q_par3A {i j k : Nat} {ta : TA} {x y z : V} (h : EvA ta σ H [x, y, z]) (q : ∀ H1, Ex H H1 → tz D (((σ.set i (some x)).set j (some y)).set k (some z)) H1) : tSeq (tPar3 i j k ta) tz D σ H := h H (Ex.refl _) _ fun H1 e1 => ⟨x, y, z, rfl, q H1 e1⟩
end
theorem ctK_keys : ∀ {ts : List Addr} {hs : List (Nat × Nat × Nat)}, ts.length = hs.length → (ctK ts hs).map (·.1) = hs.map fun h => (Sum.inl (h.1 : Int) : L2.Key)
  | [], [], _ => rfl
  | [], _ :: _, h => nomatch h
  | _ :: _, [], h => nomatch h
  | t :: ts, y :: hs, h => by
    show _ :: (ctK ts hs).map (·.1) = _
    rw [ctK_keys (Nat.succ.inj h)]
    rfl
theorem ctK_app : ∀ {ts : List Addr} {hs : List (Nat × Nat × Nat)} {t : Addr} {y : Nat × Nat × Nat}, ts.length = hs.length → ctK (ts ++ [t]) (hs ++ [y]) = ctK ts hs ++ [(Sum.inl (y.1 : Int), V.ref t)]
  | [], [], _, _, _ => rfl
  | [], _ :: _, _, _, h => nomatch h
  | _ :: _, [], _, _, h => nomatch h
  | t :: ts, y :: hs, _, _, h => by
    show _ :: ctK (ts ++ _) (hs ++ _) = _
    rw [ctK_app (Nat.succ.inj h)]
    rfl
def sp_put_goods (A : Adr) (K : PySem.W.Frag) : Sp := fun vs H Q E => ∃ (fr : Addr → Prop) (D : Addr) (S : SctDay.State) (np rp : Addr) (g k c : Int) (l : List Int), vs = [.ref D, .ref np, .ref rp] ∧ Dk A fr H D S ∧ SqL K H np (([g, k, c] : List Int).map V.int) ∧ SqL K H rp (l.map V.int) ∧ l.length ≤ 1000 ∧ FrIn fr H ∧ ChOut A fr D E Q H (SctDay.step S (.goods g k c l))
section
variable {P : Program} {w : World} {K : PySem.W.Frag} {mg : Str → Option Value} {base : Heap} {A : Adr}
theorem sc_put_goods : FnScope ["desk", "numbers", "row", "number", "kind", "new", "contents", "at", "one", "low", "high"] ps_put_goods (defScope s_put_goods) := ⟨rfl, rfl, rfl, by decide +kernel, rfl, by decide +kernel, by decide +kernel⟩
theorem ok_put_goods (T : Txt K mg A) : Cal P w K mg base (L2.CX P w) 5 A.fput_goods ps_put_goods (sp_put_goods A K) := by
  have sc := sc_put_goods
  have c_need : Cal P w K mg base (L2.CX P w) 3 _ _ _ := ok_need T
  have c_are_days : Cal P w K mg base CX0 1 _ _ _ := ok_are_days T
  have c_GoodsI : Cal P w K mg base CX0 1 _ _ _ := ok_GoodsI T
  refine T.dput_goods.okX sc (fun vs H Q E h => ?_) (fun cdv Ar outer s H vs Q E hr h => ⟨_, (pss_cons (ps_asg (pv 1) (pg_unl rfl (pgs_cons (pg_name (i := 3) sc.nd rfl (Or.inl rfl)) (pgs_cons (pg_name (i := 4) sc.nd rfl (Or.inl rfl)) (pgs_cons (pg_name (i := 5) sc.nd rfl (Or.inl rfl)) pgs_nil)))))
    (pss_cons (ps_expr (pcall c_need T.gneed (hr.mono (by decide)) (passes_call (takes_of rfl rfl rfl rfl) (fun _ _ _ _ z => z)) (by exact (pa_cons (pe_and (pe_chain op_le op_le pe_int (pv 3) pe_int) (pe_and (pe_chain op_le op_le pe_int (pv 4) pe_int) (pe_and (pcall c_are_days T.gare_days (hr.mono (by decide)) pass0 (by exact (pa_cons (pe_lst (pa_cons (pv 5) pa_nil)) pa_nil))) (pe_and (pe_cmpR op_eq (pe_op op_mod (pe_callB call_len_seq (by rfl) T.b_len PySem.boot_len (pa_cons (pv 2) pa_nil)) pe_int) pe_int (nomark _)) (pe_one (pe_cmpR op_le (pe_callB call_len_seq (by rfl) T.b_len PySem.boot_len (pa_cons (pv 2) pa_nil)) pe_int (nomark _))))))) (pa_cons (pe_un un_neg pe_int) pa_nil)))))
    (pss_cons (ps_set (i := 6) sc.nd rfl (Or.inl rfl) pe_dnewK)
    (pss_cons (ps_for (passes_of rfl) rfl (pi_range3 rfl T.b_range (pa_cons pe_int (pa_cons (pe_callB call_len_seq (by rfl) T.b_len PySem.boot_len (pa_cons (pv 2) pa_nil)) (pa_cons pe_int pa_nil)))) (pg_name (i := 7) sc.nd rfl (Or.inl rfl)) (pss_cons (ps_par3 (i := 8) (j := 9) (l := 10) (by rfl) sc.nd rfl rfl rfl (by decide) (by decide) (by decide) rfl rfl rfl (by exact (pa_cons (pe_ix ix_list (pv 2) (pv 7) (fun _ _ => rfl)) (pa_cons (pe_ix ix_list (pv 2) (pe_op op_add (pv 7) pe_int) (fun _ _ => rfl)) (pa_cons (pe_ix ix_list (pv 2) (pe_op op_add (pv 7) pe_int) (fun _ _ => rfl)) pa_nil)))) (by rfl))
    (pss_cons (ps_expr (pcall c_need T.gneed (hr.mono (by decide)) (passes_call (takes_of rfl rfl rfl rfl) (fun _ _ _ _ z => z)) (by exact (pa_cons (pe_and (pe_chain op_le op_le pe_int (pv 8) pe_int) (pe_and (pe_cmp (pc_dnotin (hu_of hr) (pv 8) (pv 6)) rfl) (pe_one (pe_chain3 op_le op_le op_le pe_int (pv 9) (pv 10) (pconst T.gMOST_CONTENT))))) (pa_cons (pe_un un_neg pe_int) pa_nil)))))
    (pss_one (ps_dput (hu_of hr) (pv 6) (pv 8) (pe_tup (pa_cons (pv 9) (pa_cons (pv 10) pa_nil))) rfl)))))
    (pss_cons (ps_expr (pcall c_need T.gneed (hr.mono (by decide)) (passes_call (takes_of rfl rfl rfl rfl) (fun _ _ _ _ z => z)) (by exact (pa_cons (pe_cmp (pc_dnotin (hu_of hr) (pv 3) (pe_fld (pv 0) rfl)) rfl) (pa_cons (pe_un un_neg pe_int) pa_nil)))))
    (pss_cons (ps_dput (hu_of hr) (pe_fld (pv 0) rfl) (pv 3) (pmake c_GoodsI T.mGoods T.gGoods (hr.mono (by decide)) pass0 (by exact (pa_cons (pv 4) (pa_cons (pv 5) (pa_cons (pv 6) pa_nil))))) rfl)
    (pss_one (ps_ret (pe_lst (pa_cons pe_int pa_nil)))))))))), ?_⟩)
  · obtain ⟨fr, D, S, np, rp, g, k, c, l, rfl, _⟩ := h
    rfl
  · obtain ⟨fr, D, S, np, rp, g, k, c, l, rfl, ⟨dx, L, ldx, la, gd, bd, ps, gk, bk, h⟩, hnp, hrp, hlen, hfr, out⟩ := h
    have sp : SctDay.step S (.goods g k c l) = if (SctDay.isOf SctDay.GOODS g && (SctDay.isOf SctDay.CLASSES k && SctDay.isDay c)) = false then (S, SctDay.RANGE) else match SctDay.holdsIn l with
      | none => (S, SctDay.RANGE)
      | some r => if (S.goods.at_ g.toNat).isSome = true then (S, SctDay.THERE) else ({ S with goods := S.goods.put g.toNat ⟨k.toNat, c.toNat, r⟩ }, SctDay.DONE) := rfl
    rw [sp] at out
    refine q_asgG (P := fun v H1 => v = .ref np) (ep_of_ev (ev_var rfl)) fun v H1 e1 ev => ?_
    subst ev
    refine g_un3 (ex_l e1 hnp) ?_
    have ln : ∀ σ H2, Ex H H2 → σ[2]? = some (some (.ref rp)) → Ev (tCB (rLenS K) (tCons (tVar 2) tNil)) σ H2 (.int (l.length : Nat)) := fun σ H2 e h2 => ev_is (ev_len (ev_var h2) (ex_l e hrp)) (by rw [List.length_map])
    have bq : ((decide (0 ≤ g) && decide (g ≤ 15)) && ((decide (0 ≤ k) && decide (k ≤ 7)) && ([c].all SctDay.isDay && (decide (V.int ((l.length : Int) % 3) = V.int 0) && decide ((l.length : Int) ≤ 24))))) = ((SctDay.isOf SctDay.GOODS g && (SctDay.isOf SctDay.CLASSES k && SctDay.isDay c)) && (decide (l.length % 3 = 0) && decide (l.length ≤ 24))) := by
      rw [all1, show (decide (0 ≤ g) && decide (g ≤ 15)) = SctDay.isOf SctDay.GOODS g from of_le 15 g, show (decide (0 ≤ k) && decide (k ≤ 7)) = SctDay.isOf SctDay.CLASSES k from of_le 7 k, Bool.and_assoc, Bool.and_assoc]
      congr 3
      congr 1
      · exact decide_eq_decide.mpr ⟨fun z => by have := V.int.inj z; omega, fun z => by congr 1; omega⟩
      · exact decide_eq_decide.mpr (by omega)
    refine q_must (ev_is (ev_andV (ev_lt2 ev_c (ev_var rfl) ev_c) fun _ => ev_andV (ev_lt2 ev_c (ev_var rfl) ev_c) fun _ => ev_andV (ev_daysL (zs := [c]) (ea_cons (ev_var rfl) ea_nil) (by show 1 ≤ 40000; decide)) fun _ => ev_andV (ev_op (ev_op (ln _ _ e1 rfl) ev_c (rv_I (by decide))) ev_c (rv_eq rfl)) fun _ => ev_op (ln _ _ e1 rfl) ev_c rv_I0) (congrArg V.bl bq)) (ev_neg ev_c) (fun hb => ?_) (fun hb H2 e2 => ?_)
    · have out' : ChOut A fr D E Q H (S, SctDay.RANGE) := by
        by_cases c1 : (SctDay.isOf SctDay.GOODS g && (SctDay.isOf SctDay.CLASSES k && SctDay.isDay c)) = false
        · rw [if_pos c1] at out
          exact out
        · rw [if_neg c1] at out
          have c2 : (SctDay.isOf SctDay.GOODS g && (SctDay.isOf SctDay.CLASSES k && SctDay.isDay c)) = true := by simpa using c1
          rw [c2, Bool.true_and, Bool.and_eq_false_iff, decide_eq_false_iff_not, decide_eq_false_iff_not] at hb
          have hn : SctDay.holdsIn l = none := by
            by_cases c3 : l.length % 3 = 0
            · obtain ⟨r, h1, h2, _⟩ := threes_some l c3
              rw [holds_is h1, if_neg (fun z => by have := z.1; rcases hb with q | q; exact q c3; exact q (by omega))]
            · exact holds_none (threes_none l c3)
          rw [hn] at out
          exact out
      exact (out'.no (by decide)).ex e1
    · obtain ⟨hb1, hb2⟩ := Bool.and_eq_true_iff.mp hb
      obtain ⟨h3, h24⟩ := Bool.and_eq_true_iff.mp hb2
      replace h3 := of_decide_eq_true h3
      replace h24 := of_decide_eq_true h24
      rw [if_neg (by rw [hb1]; decide)] at out
      rw [Bool.and_eq_true, Bool.and_eq_true] at hb1
      obtain ⟨g, rfl, hg⟩ := of_nat hb1.1
      obtain ⟨k, rfl, hk⟩ := of_nat hb1.2.1
      obtain ⟨c, rfl, hc⟩ := day_nat hb1.2.2
      simp only [Int.toNat_natCast] at out
      obtain ⟨r, t1, t2, t3⟩ := threes_some l h3
      have hr8 : r.length ≤ 8 := by omega
      rw [holds_is t1] at out
      have E2 := e1.trans e2
      have bad : ∀ H9, Ex H H9 → ¬ (r.all okT = true ∧ (r.map fun x => x.1.toNat).Nodup) → Fails A (-1) E H9 := fun H9 e9 hn => by
        rw [if_neg (fun z => hn z.2)] at out
        have out' : ChOut A fr D E Q H (S, SctDay.RANGE) := out
        exact (out'.no (by decide)).ex e9
      refine fun cp hcp => ?_
      have hcp0 : H cp = none := fresh_back E2 hcp
      refine q_rng3 (j := ((3 * r.length : Nat) : Int)) (m := r.length) (ea_cons ev_c (ea_cons (ev_is (ln _ _ (E2.trans (Ex.new hcp)) rfl) (by rw [t2])) (ea_cons ev_c ea_nil))) (rg3 ⟨r.length, by omega⟩)
        (fun i σ' H' => ∃ ts v7 v8 v9 v10, σ' = [some (.ref D), some (.ref np), some (.ref rp), some (nV g), some (nV k), some (nV c), some (.ref cp), v7, v8, v9, v10] ∧ Ex H H' ∧ H' cp = some (.dK (ctK ts ((r.take i).map nat3))) ∧ Paired (fun t (h : Nat × Nat × Nat) => H' t = some (.tup [nV h.2.1, nV h.2.2])) ts ((r.take i).map nat3) ∧ (r.take i).all okT = true ∧ ((r.take i).map fun x => x.1.toNat).Nodup)
        (fun H3 e3 => ⟨[], none, none, none, none, rfl, (E2.trans (Ex.new hcp)).trans e3, e3 _ _ upd_same, .nil, rfl, List.nodup_nil⟩) ?_ ?_
      · rintro i σ' H3 hi ⟨ts, v7, v8, v9, v10, rfl, e3, hc3, pr, ok, nd⟩
        obtain ⟨x, hx⟩ : ∃ x, r[i]? = some x := ⟨_, List.getElem?_eq_getElem hi⟩
        obtain ⟨g1, g2, g3⟩ := t3 i x hx
        have at_ : ∀ (j : Nat) (z : Int), l[3 * i + j]? = some z → atI (l.map V.int) (((3 * i : Nat) : Int) + (j : Int)) = some (.int z) := fun j z hz => by
          rw [show (((3 * i : Nat) : Int) + (j : Int)) = ((3 * i + j : Nat) : Int) by omega]
          exact atI_nat (by rw [List.getElem?_map, hz]; rfl)
        have rp3 := ex_l e3 hrp
        show tSeq _ _ _ _ _
        refine q_par3A (x := .int x.1) (y := .int x.2.1) (z := .int x.2.2) (ea_cons (ev_op (ev_var rfl) (ev_var rfl) (rv_ixL rp3 (by have z := at_ 0 x.1 g1; rw [show (((3 * i : Nat) : Int) + ((0 : Nat) : Int)) = ((3 * i : Nat) : Int) by omega] at z; exact z))) (ea_cons (ev_op (ev_var rfl) (ev_op (ev_var rfl) ev_c rv_I0) (rv_ixL rp3 (at_ 1 x.2.1 g2))) (ea_cons (ev_op (ev_var rfl) (ev_op (ev_var rfl) ev_c rv_I0) (rv_ixL rp3 (at_ 2 x.2.2 g3))) ea_nil))) fun H4 e4 => ?_
        have E4 := e3.trans e4
        have hc4 := e4 _ _ hc3
        have tl : ts.length = ((r.take i).map nat3).length := Paired.length pr
        have keys := ctK_keys tl
        refine q_must (b := (decide (0 ≤ x.1) && decide (x.1 ≤ 23)) && (!(valV (ctK ts ((r.take i).map nat3)) (Sum.inl x.1)).isSome && (decide (0 ≤ x.2.1) && (decide (x.2.1 ≤ x.2.2) && decide (x.2.2 ≤ 1000000))))) (ev_andV (ev_lt2 ev_c (ev_var rfl) ev_c) fun _ => ev_andV (ev_dnotin (ev_var rfl) (ev_var rfl) (DGet.k (k := Sum.inl x.1) hc4)) fun _ => ev_chain3 ev_c (ev_var rfl) (ev_var rfl) ev_c rv_I0 rv_I0 rv_I0) (ev_neg ev_c) (fun hb => ?_) (fun hb H5 e5 => ?_)
        · refine bad H4 E4 fun ⟨q1, q2⟩ => ?_
          have okx : okT x = true := List.all_eq_true.mp q1 x (List.mem_of_getElem? hx)
          have okx' := okx
          unfold okT at okx'
          rw [Bool.and_eq_true, Bool.and_eq_true, Bool.and_eq_true, decide_eq_true_iff] at okx'
          obtain ⟨a, ea, ha⟩ := of_nat okx'.1
          have nin : (valV (ctK ts ((r.take i).map nat3)) (Sum.inl x.1)).isSome = false := by
            cases hv : valV (ctK ts ((r.take i).map nat3)) (Sum.inl x.1) with
            | none => rfl
            | some v =>
              exfalso
              have m1 := valV_in hv
              rw [keys, List.map_map] at m1
              obtain ⟨y, hy, ey⟩ := List.mem_map.mp m1
              have ey2 : ((y.1.toNat : Nat) : Int) = x.1 := Sum.inl.inj ey
              have nd2 : ((r.take (i + 1)).map fun x => x.1.toNat).Nodup := by
                have z : List.Sublist (r.take (i + 1)) r := List.take_sublist _ _
                exact q2.sublist (z.map _)
              rw [take_snoc hx, List.map_append, List.nodup_append] at nd2
              exact nd2.2.2 _ (List.mem_map_of_mem hy) _ (List.mem_singleton_self _) (by show y.1.toNat = x.1.toNat; omega)
          have w1 := okx'.2.1
          have w2 := okx'.2.2.1
          have w3 := okx'.2.2.2
          unfold SctDay.isIn at w1 w2
          rw [Bool.and_eq_true, decide_eq_true_iff, decide_eq_true_iff] at w1 w2
          have W : SctDay.WHOLE = 1000000 := rfl
          have S24 : SctDay.SUBSTANCES = 24 := rfl
          rw [nin, decide_eq_true (by omega : (0 : Int) ≤ x.1), decide_eq_true (by omega : x.1 ≤ 23), decide_eq_true (by omega : (0 : Int) ≤ x.2.1), decide_eq_true w3, decide_eq_true (by omega : x.2.2 ≤ 1000000)] at hb
          cases hb
        · rw [Bool.and_eq_true, Bool.and_eq_true, Bool.and_eq_true, Bool.and_eq_true, Bool.and_eq_true, decide_eq_true_iff, decide_eq_true_iff, decide_eq_true_iff, decide_eq_true_iff, decide_eq_true_iff, Bool.not_eq_true'] at hb
          obtain ⟨⟨b1, b2⟩, b3, b4, b5, b6⟩ := hb
          have hc5 := e5 _ _ hc4
          obtain ⟨x1, x2, x3⟩ := x
          change (0 : Int) ≤ x1 at b1
          change x1 ≤ 23 at b2
          change (0 : Int) ≤ x2 at b4
          change x2 ≤ x3 at b5
          change x3 ≤ 1000000 at b6
          obtain ⟨x1, rfl⟩ : ∃ n : Nat, x1 = (n : Int) := ⟨x1.toNat, by show x1 = _; omega⟩
          obtain ⟨x2, rfl⟩ : ∃ n : Nat, x2 = (n : Int) := ⟨x2.toNat, by show x2 = _; omega⟩
          obtain ⟨x3, rfl⟩ : ∃ n : Nat, x3 = (n : Int) := ⟨x3.toNat, by show x3 = _; omega⟩
          refine s_dputP (a := cp) (ep_ofU (eu_tup (vs := [nV x2, nV x3]) (ea_cons (ev_var rfl) (ea_cons (ev_var rfl) ea_nil)) (by show 2 ≤ 100000; decide))) fun v H6 e6 ⟨t, ev, ht⟩ => ⟨ev_var rfl, nV x1, ev_var rfl, fun H7 e7 => ⟨_, DPut.k (k := Sum.inl (x1 : Int)) (e7 _ _ (e6 _ _ hc5)) ?_, ?_⟩⟩
          · have z := congrArg List.length keys
            rw [List.length_map, List.length_map, List.length_map, List.length_take] at z
            exact sz_lt (by omega)
          · subst ev
            have E7 := ((E4.trans e5).trans e6).trans e7
            have nx : valV (ctK ts ((r.take i).map nat3)) (Sum.inl (x1 : Int)) = none := by
              cases hq : valV (ctK ts ((r.take i).map nat3)) (Sum.inl (x1 : Int)) with
              | none => rfl
              | some v => rw [hq] at b3; cases b3
            have ec : (r.take (i + 1)).map nat3 = (r.take i).map nat3 ++ [(x1, x2, x3)] := by
              rw [take_snoc hx, List.map_append]
              rfl
            refine ⟨ts ++ [t], _, _, _, _, rfl, Ex.mut E7 hcp0, ?_, ?_, ?_, ?_⟩
            · rw [ec, ctK_app tl, putK_new _ nx]
              exact upd_same
            · rw [ec]
              refine paired_app (paired_imp (fun t' y' hq => ?_) pr) ?_
              · have z := (((e4.trans e5).trans e6).trans e7) _ _ hq
                rw [upd_ne (ne_of z (e7 _ _ (e6 _ _ hc5)) (by intro q; cases q))]
                exact z
              · have z := e7 _ _ ht
                rw [upd_ne (ne_of z (e7 _ _ (e6 _ _ hc5)) (by intro q; cases q))]
                exact z
            · rw [take_snoc hx, List.all_append, ok]
              have W : SctDay.WHOLE = 1000000 := rfl
              have S24 : SctDay.SUBSTANCES = 24 := rfl
              have ox : okT ((x1 : Int), (x2 : Int), (x3 : Int)) = true := by
                unfold okT SctDay.isOf SctDay.isIn
                rw [decide_eq_true (by show (0 : Int) ≤ (x1 : Int); omega), decide_eq_true (by show (x1 : Int) < ((24 : Nat) : Int); have : (x1 : Int) ≤ 23 := b2; omega), decide_eq_true (by show ((0 : Nat) : Int) ≤ (x2 : Int); omega), decide_eq_true (by show (x2 : Int) ≤ ((1000000 : Nat) : Int); have : (x2 : Int) ≤ x3 := b5; have : (x3 : Int) ≤ 1000000 := b6; omega), decide_eq_true (by show ((0 : Nat) : Int) ≤ (x3 : Int); omega), decide_eq_true (by show (x3 : Int) ≤ ((1000000 : Nat) : Int); have : (x3 : Int) ≤ 1000000 := b6; omega), decide_eq_true (by show (x2 : Int) ≤ (x3 : Int); exact b5)]
                rfl
              show (true && ([((x1 : Int), (x2 : Int), (x3 : Int))].all okT)) = true
              rw [List.all_cons, ox]
              rfl
            · rw [take_snoc hx, List.map_append, List.nodup_append]
              refine ⟨nd, by show [_].Nodup; simp, fun a ha b hb' e => ?_⟩
              rw [List.mem_singleton.mp hb'] at e
              have m1 : (Sum.inl (x1 : Int) : L2.Key) ∈ (ctK ts ((r.take i).map nat3)).map (·.1) := by
                rw [keys, List.map_map]
                obtain ⟨y, hy, ey⟩ := List.mem_map.mp ha
                refine List.mem_map.mpr ⟨y, hy, ?_⟩
                show (Sum.inl ((y.1.toNat : Nat) : Int) : L2.Key) = _
                rw [show y.1.toNat = x1 by rw [ey, e]; exact Int.toNat_natCast x1]
              exact (val_none.mp nx) m1
      · rintro σ' H3 ⟨ts, v7, v8, v9, v10, rfl, e3, hc3, pr, ok, nd⟩
        rw [List.take_length] at hc3 pr ok nd
        rw [if_pos ⟨hr8, ok, nd⟩] at out
        have out' : ChOut A fr D E Q H (if (S.goods.at_ g).isSome = true then (S, SctDay.THERE) else ({ S with goods := S.goods.put g ⟨k, c, r.map nat3⟩ }, SctDay.DONE)) := out
        have h3 := h.ex e3
        have gsome : (valV gk (Sum.inl (g : Int))).isSome = (S.goods.at_ g).isSome := by
          have z := h.gr.no g
          cases hq : valV gk (Sum.inl (g : Int)) with
          | none => rw [z.mp hq]; rfl
          | some v =>
            cases hr : S.goods.at_ g with
            | none => rw [z.mpr hr] at hq; cases hq
            | some _ => rfl
        refine q_must (b := !(valV gk (Sum.inl (g : Int))).isSome) (ev_dnotin (ev_var rfl) (ev_fld (ev_var rfl) h3.ob T.lDesk T.nDesk_goods d_goods) (DGet.k (k := Sum.inl (g : Int)) h3.gh)) (ev_neg ev_c) (fun hb => ?_) (fun hb H4 e4 => ?_)
        · rw [Bool.not_eq_false', gsome] at hb
          rw [if_pos hb] at out'
          exact (out'.no (by decide)).ex e3
        · rw [Bool.not_eq_true', gsome] at hb
          rw [if_neg (by rw [hb]; decide)] at out'
          have E4 := e3.trans e4
          refine q_dputX ((ep_goods (v1 := nV k) (v2 := nV c) (v3 := .ref cp) (ea_cons (ev_var rfl) (ea_cons (ev_var rfl) (ea_cons (ev_var rfl) ea_nil)))) H4 (Ex.refl _) _ fun v H5 e5 ⟨x, gx, ev, nx, hx⟩ => ?_)
          subst ev
          have E5 := E4.trans e5
          have h5 := h.ex E5
          refine (ev_fld (K := K) (ev_var rfl) h5.ob T.lDesk T.nDesk_goods d_goods) H5 (Ex.refl _) _ fun H6 e6 => ⟨nV g, rfl, gd, _, rfl, DPut.k (k := Sum.inl (g : Int)) ((h5.ex e6).gh) ?_, ?_⟩
          · have := h.gr.len h.wf.gs
            have := rows_len h.wf.gs h.wf.g16
            exact sz_lt (by omega)
          · have E6 := E5.trans e6
            have F6 := (e4.trans e5).trans e6
            have h6 := h5.ex e6
            have ga : GoAt A H6 x ⟨k, c, r.map nat3⟩ gx cp ts := ⟨e6 _ _ hx, F6 _ _ hc3, paired_imp (fun _ _ q => F6 _ _ q) pr, by
              rw [List.map_map]
              exact nd, fun y hy => by
              obtain ⟨z, hz, ez⟩ := List.mem_map.mp hy
              have oz := List.all_eq_true.mp ok z hz
              unfold okT at oz
              rw [Bool.and_eq_true, Bool.and_eq_true, Bool.and_eq_true, decide_eq_true_iff] at oz
              rw [← ez]
              show z.2.1.toNat ≤ z.2.2.toNat
              have := oz.2.2.2
              omega⟩
            have D6 := h6.setG (h6.gr.put (n := g) (p := x) (a := ⟨k, c, r.map nat3⟩) ⟨gx, cp, ts, ga, Ne.symm (ne_of_none h.gh hcp0), Ne.symm (ne_of_none h.bh hcp0)⟩) (h.wf.gput hg)
            refine s_retL (σ := [some (.ref D), some (.ref np), some (.ref rp), some (nV g), some (nV k), some (nV c), some (.ref cp), v7, v8, v9, v10]) (xs := [.int 0]) (el_lst (ea_cons ev_c ea_nil) (by show 1 ≤ 100000; decide)) fun q H10 nq e10 hq => ?_
            exact out'.yes H10 q ⟨_, _, _, _, _, _, _, _, _, D6.ex e10⟩ (((Keep.ex E6).upd h.fg).trans (Keep.ex e10)) hq
end
end Bd
namespace Bd
open PySem PySem.Spec PyProof.Rows L2 Evl
theorem ChOut.ex {A : Adr} {fr : Addr → Prop} {D : Addr} {E : XK} {Q : VK} {H H' : Hp} {r : SctDay.State × SctBase.Answer} (e : Ex H H') (h : ChOut A fr D E Q H r) : ChOut A fr D E Q H' r :=
  ⟨fun hc H2 p hd hk hp => h.1 hc H2 p hd ((Keep.ex e).trans hk) hp, fun hc => (h.2 hc).ex e⟩
def ChCall (w : Int) (zs l : List Int) (c : SctDay.Call) : Prop :=
  (w = 1 ∧ ∃ p k b n m q, zs = [p, k, b, n, m, q] ∧ c = .rule p k b n m q l) ∨ (w = 2 ∧ ∃ p k n, zs = [p, k, n] ∧ c = .repeal p k n l) ∨ (w = 3 ∧ ∃ a p b, zs = [a, p, b] ∧ c = .correct a p b) ∨ (w = 4 ∧ ∃ a p, zs = [a, p] ∧ c = .withdraw a p) ∨
  (w = 5 ∧ ∃ g k d, zs = [g, k, d] ∧ c = .goods g k d l) ∨ (w = 6 ∧ ∃ g, zs = [g] ∧ c = .drop g) ∨ (w = 7 ∧ ∃ b g d, zs = [b, g, d] ∧ c = .make b g d) ∨ (w = 8 ∧ ∃ b, zs = [b] ∧ c = .sold b)
def AnyCall (w : Int) (zs l : List Int) (c : SctDay.Call) : Prop :=
  ChCall w zs l c ∨ (w = 9 ∧ ∃ a x, zs = [a, x] ∧ c = .amendment a x) ∨ (w = 10 ∧ ∃ k c' d s x, zs = [k, c', d, s, x] ∧ c = .law k c' d s x) ∨ OgCall w zs c ∨ (w = 18 ∧ ∃ b s x, zs = [b, s, x] ∧ c = .stands b s x) ∨ (w = 19 ∧ ∃ s x, zs = [s, x] ∧ c = .fallen s x) ∨
  (w = 20 ∧ ∃ b n r s x, zs = [b, n, r, s, x] ∧ c = .left_ b n r s x) ∨ (w = 21 ∧ ∃ b n r x, zs = [b, n, r, x] ∧ c = .latest b n r x) ∨ (w = 22 ∧ zs = [] ∧ c = .told)
def CallAt (K : PySem.W.Frag) (A : Adr) (fr : Addr → Prop) (H : Hp) (D np rp : Addr) (S : SctDay.State) (zs l : List Int) : Prop := Dk A fr H D S ∧ SqL K H np (zs.map V.int) ∧ SqL K H rp (l.map V.int) ∧ l.length ≤ 1000 ∧ FrIn fr H
theorem CallAt.ex {K : PySem.W.Frag} {A : Adr} {fr : Addr → Prop} {H H' : Hp} {D np rp : Addr} {S : SctDay.State} {zs l : List Int} (e : Ex H H') (h : CallAt K A fr H D np rp S zs l) : CallAt K A fr H' D np rp S zs l := ⟨h.1.ex e, ex_l e h.2.1, ex_l e h.2.2.1, h.2.2.2.1, h.2.2.2.2.ex e⟩
def sp_of_changes (A : Adr) (K : PySem.W.Frag) : Sp := fun vs H Q E => ∃ (fr : Addr → Prop) (D np rp : Addr) (S : SctDay.State) (w : Int) (zs l : List Int) (c : SctDay.Call), vs = [.ref D, .int w, .ref np, .ref rp] ∧ CallAt K A fr H D np rp S zs l ∧ ChCall w zs l c ∧ ChOut A fr D E Q H (SctDay.step S c)
def sp_done (A : Adr) (K : PySem.W.Frag) : Sp := fun vs H Q E => ∃ (fr : Addr → Prop) (D np rp : Addr) (S : SctDay.State) (w : Int) (zs l : List Int) (c : SctDay.Call), vs = [.ref D, .int w, .ref np, .ref rp] ∧ CallAt K A fr H D np rp S zs l ∧ AnyCall w zs l c ∧ ChOut A fr D E Q H (SctDay.step S c)
theorem og_step {w : Int} {zs : List Int} {c : SctDay.Call} (h : OgCall w zs c) (S : SctDay.State) : SctDay.step S c = (S, S.asks c) := by
  rcases h with ⟨rfl, _, _, _, _, rfl⟩ | ⟨rfl, _, _, _, _, rfl⟩ | ⟨rfl, _, _, _, _, _, rfl⟩ | ⟨rfl, _, _, _, _, _, rfl⟩ | ⟨rfl, _, _, _, _, _, rfl⟩ | ⟨rfl, _, _, _, _, _, rfl⟩ | ⟨rfl, _, _, _, _, _, rfl⟩ <;> rfl
theorem og_w {w : Int} {zs : List Int} {c : SctDay.Call} (h : OgCall w zs c) : 11 ≤ w ∧ w ≤ 17 := by
  rcases h with ⟨rfl, _⟩ | ⟨rfl, _⟩ | ⟨rfl, _⟩ | ⟨rfl, _⟩ | ⟨rfl, _⟩ | ⟨rfl, _⟩ | ⟨rfl, _⟩ <;> decide
theorem ch_w {w : Int} {zs l : List Int} {c : SctDay.Call} (h : ChCall w zs l c) : 1 ≤ w ∧ w ≤ 8 := by
  rcases h with ⟨rfl, _⟩ | ⟨rfl, _⟩ | ⟨rfl, _⟩ | ⟨rfl, _⟩ | ⟨rfl, _⟩ | ⟨rfl, _⟩ | ⟨rfl, _⟩ | ⟨rfl, _⟩ <;> decide
section
variable {K : PySem.W.Frag} {σ : L2.St} {H H' : Hp} {D : Ends} {tz tu : TS} {ta : TE}
theorem q_leF {w c : Int} (h : Ev ta σ H (.int w)) (hw : ¬ w ≤ c) (k : ∀ H1, Ex H H1 → tz D σ H1) : tSeq (tIfS (tTest (tOp (rI0 fun i j => .bl (decide (i ≤ j))) ta (tC (.int c)))) tu tNext) tz D σ H :=
  q_when (b := false) (et_is (et_test (ev_op h ev_c rv_I0)) (decide_eq_false hw)) (fun z => by cases z) fun _ H1 e1 => k H1 e1
theorem q_leT {w c : Int} (h : Ev ta σ H (.int w)) (hw : w ≤ c) (k : ∀ H1, Ex H H1 → tu { D with nx := tz D } σ H1) : tSeq (tIfS (tTest (tOp (rI0 fun i j => .bl (decide (i ≤ j))) ta (tC (.int c)))) tu tNext) tz D σ H :=
  q_when (b := true) (et_is (et_test (ev_op h ev_c rv_I0)) (decide_eq_true hw)) (fun _ H1 e1 => k H1 e1) fun z => by cases z
end
section
variable {P : Program} {w : World} {K : PySem.W.Frag} {mg : Str → Option Value} {base : Heap} {A : Adr}
theorem sc_of_changes : FnScope ["desk", "word", "numbers", "row"] ps_of_changes (defScope s_of_changes) := ⟨rfl, rfl, rfl, by decide +kernel, rfl, by decide +kernel, by decide +kernel⟩
theorem ok_of_changes (T : Txt K mg A) : Cal P w K mg base (L2.CX P w) 6 A.fof_changes ps_of_changes (sp_of_changes A K) := by
  have sc := sc_of_changes
  have c_amend : Cal P w K mg base (L2.CX P w) 5 _ _ _ := ok_amend T
  have c_correct : Cal P w K mg base (L2.CX P w) 5 _ _ _ := ok_correct T
  have c_withdraw : Cal P w K mg base (L2.CX P w) 5 _ _ _ := ok_withdraw T
  have c_put_goods : Cal P w K mg base (L2.CX P w) 5 _ _ _ := ok_put_goods T
  have c_drop : Cal P w K mg base (L2.CX P w) 5 _ _ _ := ok_drop T
  have c_make : Cal P w K mg base (L2.CX P w) 5 _ _ _ := ok_make T
  have c_sell : Cal P w K mg base (L2.CX P w) 5 _ _ _ := ok_sell T
  refine T.dof_changes.okX sc (fun vs H Q E h => ?_) (fun cdv Ar outer s H vs Q E hr h => ⟨_, (pss_cons (ps_if (pt_cmpR op_eq (pv 1) pe_int (nomark _)) (pss_one (ps_ret (pcall c_amend T.gamend (hr.mono (by decide)) (passes_call (takes_of rfl rfl rfl rfl) (fun _ _ _ _ z => z)) (by exact (pa_cons (pv 0) (pa_cons (pv 2) (pa_cons (pv 3) (pa_cons (pe_ix ix_list (pv 2) pe_int (fun _ _ => rfl)) pa_nil)))))))) pss_nil)
    (pss_cons (ps_if (pt_cmpR op_eq (pv 1) pe_int (nomark _)) (pss_one (ps_ret (pcall c_amend T.gamend (hr.mono (by decide)) (passes_call (takes_of rfl rfl rfl rfl) (fun _ _ _ _ z => z)) (by exact (pa_cons (pv 0) (pa_cons (pv 2) (pa_cons (pv 3) (pa_cons pe_non pa_nil)))))))) pss_nil)
    (pss_cons (ps_if (pt_cmpR op_eq (pv 1) pe_int (nomark _)) (pss_one (ps_ret (pcall c_correct T.gcorrect (hr.mono (by decide)) (passes_call (takes_of rfl rfl rfl rfl) (fun _ _ _ _ z => z)) (by exact (pa_cons (pv 0) (pa_cons (pe_ix ix_list (pv 2) pe_int (fun _ _ => rfl)) (pa_cons (pe_ix ix_list (pv 2) pe_int (fun _ _ => rfl)) (pa_cons (pe_ix ix_list (pv 2) pe_int (fun _ _ => rfl)) pa_nil)))))))) pss_nil)
    (pss_cons (ps_if (pt_cmpR op_eq (pv 1) pe_int (nomark _)) (pss_one (ps_ret (pcall c_withdraw T.gwithdraw (hr.mono (by decide)) (passes_call (takes_of rfl rfl rfl rfl) (fun _ _ _ _ z => z)) (by exact (pa_cons (pv 0) (pa_cons (pe_ix ix_list (pv 2) pe_int (fun _ _ => rfl)) (pa_cons (pe_ix ix_list (pv 2) pe_int (fun _ _ => rfl)) pa_nil))))))) pss_nil)
    (pss_cons (ps_if (pt_cmpR op_eq (pv 1) pe_int (nomark _)) (pss_one (ps_ret (pcall c_put_goods T.gput_goods (hr.mono (by decide)) (passes_call (takes_of rfl rfl rfl rfl) (fun _ _ _ _ z => z)) (by exact (pa_cons (pv 0) (pa_cons (pv 2) (pa_cons (pv 3) pa_nil))))))) pss_nil)
    (pss_cons (ps_if (pt_cmpR op_eq (pv 1) pe_int (nomark _)) (pss_one (ps_ret (pcall c_drop T.gdrop (hr.mono (by decide)) (passes_call (takes_of rfl rfl rfl rfl) (fun _ _ _ _ z => z)) (by exact (pa_cons (pv 0) (pa_cons (pe_ix ix_list (pv 2) pe_int (fun _ _ => rfl)) pa_nil)))))) pss_nil)
    (pss_one (ps_ret (pe_ifExp (pt_cmpR op_eq (pv 1) pe_int (nomark _)) (pcall c_make T.gmake (hr.mono (by decide)) (passes_call (takes_of rfl rfl rfl rfl) (fun _ _ _ _ z => z)) (by exact (pa_cons (pv 0) (pa_cons (pv 2) pa_nil)))) (pcall c_sell T.gsell (hr.mono (by decide)) (passes_call (takes_of rfl rfl rfl rfl) (fun _ _ _ _ z => z)) (by exact (pa_cons (pv 0) (pa_cons (pe_ix ix_list (pv 2) pe_int (fun _ _ => rfl)) pa_nil))))))))))))), ?_⟩)
  · obtain ⟨fr, D, np, rp, S, wd, zs, l, c, rfl, _⟩ := h
    rfl
  · obtain ⟨fr, D, np, rp, S, wd, zs, l, c, rfl, h, oc, out⟩ := h
    have ix : ∀ (j : Nat) (v : Int) H1, Ex H H1 → (zs.map V.int)[j]? = some (V.int v) → Ev (tOp (rIxL K) (tVar 2) (tC (.int (j : Int)))) [some (.ref D), some (.int wd), some (.ref np), some (.ref rp)] H1 (.int v) := fun j v H1 e1 hv => ev_op (ev_var rfl) ev_c (rv_ixL (ex_l e1 h.2.1) (atI_nat hv))
    rcases oc with ⟨rfl, p, k, b, n, m, q, rfl, rfl⟩ | ⟨rfl, p, k, n, rfl, rfl⟩ | ⟨rfl, a, p, b, rfl, rfl⟩ | ⟨rfl, a, p, rfl, rfl⟩ | ⟨rfl, g, k, d, rfl, rfl⟩ | ⟨rfl, g, rfl, rfl⟩ | ⟨rfl, b, g, d, rfl, rfl⟩ | ⟨rfl, b, rfl, rfl⟩
    · refine q_eqT (ev_var rfl) rfl fun H1 e1 => ?_
      exact call_raw (vs := [.ref D, .ref np, .ref rp, .int b]) (ea_cons (ev_var rfl) (ea_cons (ev_var rfl) (ea_cons (ev_var rfl) (ea_cons (ix 2 b H1 e1 rfl) ea_nil)))) fun H2 e2 => by
        have E2 := e1.trans e2
        have h2 := h.ex E2
        exact ⟨fr, D, S, np, rp, p, k, n, m, q, some b, l, _, rfl, h2.1, h2.2.1, h2.2.2.1, h2.2.2.2.1, .inl ⟨b, rfl, rfl⟩, h2.2.2.2.2, out.ex E2⟩
    · refine q_eqF (ev_var rfl) (by decide) fun H1 e1 => q_eqT (ev_var rfl) rfl fun H2 e2 => ?_
      exact call_raw (vs := [.ref D, .ref np, .ref rp, .non]) (ea_cons (ev_var rfl) (ea_cons (ev_var rfl) (ea_cons (ev_var rfl) (ea_cons ev_c ea_nil)))) fun H3 e3 => by
        have E3 := (e1.trans e2).trans e3
        have h2 := h.ex E3
        exact ⟨fr, D, S, np, rp, p, k, n, n, n, none, l, _, rfl, h2.1, h2.2.1, h2.2.2.1, h2.2.2.2.1, .inr ⟨rfl, rfl, rfl, rfl⟩, h2.2.2.2.2, by rw [← repeal_is]; exact out.ex E3⟩
    · refine q_eqF (ev_var rfl) (by decide) fun H1 e1 => q_eqF (ev_var rfl) (by decide) fun H2 e2 => q_eqT (ev_var rfl) rfl fun H3 e3 => ?_
      have E3 := (e1.trans e2).trans e3
      exact call_raw (vs := [.ref D, .int a, .int p, .int b]) (ea_cons (ev_var rfl) (ea_cons (ix 0 a H3 E3 rfl) (ea_cons (ix 1 p H3 E3 rfl) (ea_cons (ix 2 b H3 E3 rfl) ea_nil)))) fun H4 e4 => by
        have h2 := h.ex (E3.trans e4)
        exact ⟨fr, D, S, a, p, b, rfl, h2.1, h2.2.2.2.2, out.ex (E3.trans e4)⟩
    · refine q_eqF (ev_var rfl) (by decide) fun H1 e1 => q_eqF (ev_var rfl) (by decide) fun H2 e2 => q_eqF (ev_var rfl) (by decide) fun H3 e3 => q_eqT (ev_var rfl) rfl fun H4 e4 => ?_
      have E4 := ((e1.trans e2).trans e3).trans e4
      exact call_raw (vs := [.ref D, .int a, .int p]) (ea_cons (ev_var rfl) (ea_cons (ix 0 a H4 E4 rfl) (ea_cons (ix 1 p H4 E4 rfl) ea_nil))) fun H5 e5 => by
        have h2 := h.ex (E4.trans e5)
        exact ⟨fr, D, S, a, p, rfl, h2.1, h2.2.2.2.2, out.ex (E4.trans e5)⟩
    · refine q_eqF (ev_var rfl) (by decide) fun H1 e1 => q_eqF (ev_var rfl) (by decide) fun H2 e2 => q_eqF (ev_var rfl) (by decide) fun H3 e3 => q_eqF (ev_var rfl) (by decide) fun H4 e4 => q_eqT (ev_var rfl) rfl fun H5 e5 => ?_
      have E5 := (((e1.trans e2).trans e3).trans e4).trans e5
      exact call_raw (vs := [.ref D, .ref np, .ref rp]) (ea_cons (ev_var rfl) (ea_cons (ev_var rfl) (ea_cons (ev_var rfl) ea_nil))) fun H6 e6 => by
        have h2 := h.ex (E5.trans e6)
        exact ⟨fr, D, S, np, rp, g, k, d, l, rfl, h2.1, h2.2.1, h2.2.2.1, h2.2.2.2.1, h2.2.2.2.2, out.ex (E5.trans e6)⟩
    · refine q_eqF (ev_var rfl) (by decide) fun H1 e1 => q_eqF (ev_var rfl) (by decide) fun H2 e2 => q_eqF (ev_var rfl) (by decide) fun H3 e3 => q_eqF (ev_var rfl) (by decide) fun H4 e4 => q_eqF (ev_var rfl) (by decide) fun H5 e5 => q_eqT (ev_var rfl) rfl fun H6 e6 => ?_
      have E6 := ((((e1.trans e2).trans e3).trans e4).trans e5).trans e6
      exact call_raw (vs := [.ref D, .int g]) (ea_cons (ev_var rfl) (ea_cons (ix 0 g H6 E6 rfl) ea_nil)) fun H7 e7 => by
        have h2 := h.ex (E6.trans e7)
        exact ⟨fr, D, S, g, rfl, h2.1, h2.2.2.2.2, out.ex (E6.trans e7)⟩
    · refine q_eqF (ev_var rfl) (by decide) fun H1 e1 => q_eqF (ev_var rfl) (by decide) fun H2 e2 => q_eqF (ev_var rfl) (by decide) fun H3 e3 => q_eqF (ev_var rfl) (by decide) fun H4 e4 => q_eqF (ev_var rfl) (by decide) fun H5 e5 => q_eqF (ev_var rfl) (by decide) fun H6 e6 => ?_
      have E6 := ((((e1.trans e2).trans e3).trans e4).trans e5).trans e6
      refine (et_test (b := true) (ev_op (ev_var rfl) ev_c (rv_eq rfl))) H6 (Ex.refl _) _ fun H7 e7 => iteT ?_
      exact call_raw (vs := [.ref D, .ref np]) (ea_cons (ev_var rfl) (ea_cons (ev_var rfl) ea_nil)) fun H8 e8 => by
        have h2 := h.ex ((E6.trans e7).trans e8)
        exact ⟨fr, D, S, np, b, g, d, rfl, h2.1, h2.2.1, h2.2.2.2.2, out.ex ((E6.trans e7).trans e8)⟩
    · refine q_eqF (ev_var rfl) (by decide) fun H1 e1 => q_eqF (ev_var rfl) (by decide) fun H2 e2 => q_eqF (ev_var rfl) (by decide) fun H3 e3 => q_eqF (ev_var rfl) (by decide) fun H4 e4 => q_eqF (ev_var rfl) (by decide) fun H5 e5 => q_eqF (ev_var rfl) (by decide) fun H6 e6 => ?_
      have E6 := ((((e1.trans e2).trans e3).trans e4).trans e5).trans e6
      refine (et_test (b := false) (ev_op (ev_var rfl) ev_c (rv_eq rfl))) H6 (Ex.refl _) _ fun H7 e7 => iteF ?_
      have E7 := E6.trans e7
      exact call_raw (vs := [.ref D, .int b]) (ea_cons (ev_var rfl) (ea_cons (ix 0 b H7 E7 rfl) ea_nil)) fun H8 e8 => by
        have h2 := h.ex (E7.trans e8)
        exact ⟨fr, D, S, b, rfl, h2.1, h2.2.2.2.2, out.ex (E7.trans e8)⟩
theorem sc_done : FnScope ["desk", "word", "numbers", "row"] ps_done (defScope s_done) := ⟨rfl, rfl, rfl, by decide +kernel, rfl, by decide +kernel, by decide +kernel⟩
theorem ok_done (T : Txt K mg A) : Cal P w K mg base (L2.CX P w) 7 A.fdone ps_done (sp_done A K) := by
  have sc := sc_done
  have c_of_changes : Cal P w K mg base (L2.CX P w) 6 _ _ _ := ok_of_changes T
  have c_amendment_told : Cal P w K mg base (L2.CX P w) 5 _ _ _ := ok_amendment_told T
  have c_law_told : Cal P w K mg base (L2.CX P w) 4 _ _ _ := ok_law_told T
  have c_of_goods : Cal P w K mg base (L2.CX P w) 6 _ _ _ := ok_of_goods T
  have c_stands : Cal P w K mg base (L2.CX P w) 5 _ _ _ := ok_stands T
  have c_fallen : Cal P w K mg base (L2.CX P w) 5 _ _ _ := ok_fallen T
  have c_left : Cal P w K mg base (L2.CX P w) 6 _ _ _ := ok_left T
  have c_latest : Cal P w K mg base (L2.CX P w) 6 _ _ _ := ok_latest T
  have c_told : Cal P w K mg base CX0 1 _ _ _ := ok_told T
  refine T.ddone.okX sc (fun vs H Q E h => ?_) (fun cdv Ar outer s H vs Q E hr h => ⟨_, (pss_cons (ps_if (pt_cmpR op_le (pv 1) pe_int (nomark _)) (pss_one (ps_ret (pcall c_of_changes T.gof_changes (hr.mono (by decide)) (passes_call (takes_of rfl rfl rfl rfl) (fun _ _ _ _ z => z)) (by exact (pa_cons (pv 0) (pa_cons (pv 1) (pa_cons (pv 2) (pa_cons (pv 3) pa_nil)))))))) pss_nil)
    (pss_cons (ps_if (pt_cmpR op_eq (pv 1) pe_int (nomark _)) (pss_one (ps_ret (pcall c_amendment_told T.gamendment_told (hr.mono (by decide)) (passes_call (takes_of rfl rfl rfl rfl) (fun _ _ _ _ z => z)) (by exact (pa_cons (pv 0) (pa_cons (pe_ix ix_list (pv 2) pe_int (fun _ _ => rfl)) (pa_cons (pe_ix ix_list (pv 2) pe_int (fun _ _ => rfl)) pa_nil))))))) pss_nil)
    (pss_cons (ps_if (pt_cmpR op_eq (pv 1) pe_int (nomark _)) (pss_one (ps_ret (pcall c_law_told T.glaw_told (hr.mono (by decide)) (passes_call (takes_of rfl rfl rfl rfl) (fun _ _ _ _ z => z)) (by exact (pa_cons (pv 0) (pa_cons (pv 2) pa_nil)))))) pss_nil)
    (pss_cons (ps_if (pt_cmpR op_le (pv 1) pe_int (nomark _)) (pss_one (ps_ret (pcall c_of_goods T.gof_goods (hr.mono (by decide)) (passes_call (takes_of rfl rfl rfl rfl) (fun _ _ _ _ z => z)) (by exact (pa_cons (pv 0) (pa_cons (pv 1) (pa_cons (pv 2) pa_nil))))))) pss_nil)
    (pss_cons (ps_if (pt_cmpR op_eq (pv 1) pe_int (nomark _)) (pss_one (ps_ret (pcall c_stands T.gstands (hr.mono (by decide)) (passes_call (takes_of rfl rfl rfl rfl) (fun _ _ _ _ z => z)) (by exact (pa_cons (pv 0) (pa_cons (pv 2) pa_nil)))))) pss_nil)
    (pss_cons (ps_if (pt_cmpR op_eq (pv 1) pe_int (nomark _)) (pss_one (ps_ret (pcall c_fallen T.gfallen (hr.mono (by decide)) (passes_call (takes_of rfl rfl rfl rfl) (fun _ _ _ _ z => z)) (by exact (pa_cons (pv 0) (pa_cons (pe_ix ix_list (pv 2) pe_int (fun _ _ => rfl)) (pa_cons (pe_ix ix_list (pv 2) pe_int (fun _ _ => rfl)) pa_nil))))))) pss_nil)
    (pss_cons (ps_if (pt_cmpR op_eq (pv 1) pe_int (nomark _)) (pss_one (ps_ret (pcall c_left T.gleft (hr.mono (by decide)) (passes_call (takes_of rfl rfl rfl rfl) (fun _ _ _ _ z => z)) (by exact (pa_cons (pv 0) (pa_cons (pv 2) pa_nil)))))) pss_nil)
    (pss_one (ps_ret (pe_ifExp (pt_cmpR op_eq (pv 1) pe_int (nomark _)) (pcall c_latest T.glatest (hr.mono (by decide)) (passes_call (takes_of rfl rfl rfl rfl) (fun _ _ _ _ z => z)) (by exact (pa_cons (pv 0) (pa_cons (pv 2) pa_nil)))) (pcall c_told T.gtold (hr.mono (by decide)) pass0 (by exact (pa_cons (pv 0) pa_nil))))))))))))), ?_⟩)
  · obtain ⟨fr, D, np, rp, S, wd, zs, l, c, rfl, _⟩ := h
    rfl
  · obtain ⟨fr, D, np, rp, S, wd, zs, l, c, rfl, h, oc, out⟩ := h
    have ix : ∀ (j : Nat) (v : Int) H1, Ex H H1 → (zs.map V.int)[j]? = some (V.int v) → Ev (tOp (rIxL K) (tVar 2) (tC (.int (j : Int)))) [some (.ref D), some (.int wd), some (.ref np), some (.ref rp)] H1 (.int v) := fun j v H1 e1 hv => ev_op (ev_var rfl) ev_c (rv_ixL (ex_l e1 h.2.1) (atI_nat hv))
    rcases oc with oc | ⟨rfl, a, x, rfl, rfl⟩ | ⟨rfl, k, c', d, s, x, rfl, rfl⟩ | oc | ⟨rfl, b, s, x, rfl, rfl⟩ | ⟨rfl, s, x, rfl, rfl⟩ | ⟨rfl, b, n, r, s, x, rfl, rfl⟩ | ⟨rfl, b, n, r, x, rfl, rfl⟩ | ⟨rfl, rfl, rfl⟩
    · refine q_leT (ev_var rfl) (ch_w oc).2 fun H1 e1 => ?_
      exact call_raw (vs := [.ref D, .int wd, .ref np, .ref rp]) (ea_cons (ev_var rfl) (ea_cons (ev_var rfl) (ea_cons (ev_var rfl) (ea_cons (ev_var rfl) ea_nil)))) fun H2 e2 => ⟨fr, D, np, rp, S, wd, zs, l, c, rfl, h.ex (e1.trans e2), oc, out.ex (e1.trans e2)⟩
    · refine q_leF (ev_var rfl) (by decide) fun H1 e1 => q_eqT (ev_var rfl) rfl fun H2 e2 => ?_
      have E2 := e1.trans e2
      exact call_raw (vs := [.ref D, .int a, .int x]) (ea_cons (ev_var rfl) (ea_cons (ix 0 a H2 E2 rfl) (ea_cons (ix 1 x H2 E2 rfl) ea_nil))) fun H3 e3 => by
        have h2 := h.ex (E2.trans e3)
        exact ⟨fr, D, S, a, x, rfl, h2.1, (out.ex (E2.trans e3)).ask h2.1⟩
    · refine q_leF (ev_var rfl) (by decide) fun H1 e1 => q_eqF (ev_var rfl) (by decide) fun H2 e2 => q_eqT (ev_var rfl) rfl fun H3 e3 => ?_
      have E3 := (e1.trans e2).trans e3
      exact call_raw (vs := [.ref D, .ref np]) (ea_cons (ev_var rfl) (ea_cons (ev_var rfl) ea_nil)) fun H4 e4 => by
        have h2 := h.ex (E3.trans e4)
        exact ⟨fr, D, np, S, k, c', d, s, x, rfl, h2.1, h2.2.1, (out.ex (E3.trans e4)).ask h2.1⟩
    · obtain ⟨w1, w2⟩ := og_w oc
      rw [og_step oc S] at out
      refine q_leF (ev_var rfl) (by omega) fun H1 e1 => q_eqF (ev_var rfl) (by omega) fun H2 e2 => q_eqF (ev_var rfl) (by omega) fun H3 e3 => q_leT (ev_var rfl) w2 fun H4 e4 => ?_
      have E4 := ((e1.trans e2).trans e3).trans e4
      exact call_raw (vs := [.ref D, .int wd, .ref np]) (ea_cons (ev_var rfl) (ea_cons (ev_var rfl) (ea_cons (ev_var rfl) ea_nil))) fun H5 e5 => by
        have h2 := h.ex (E4.trans e5)
        exact ⟨fr, D, S, wd, np, zs, c, rfl, h2.1, h2.2.1, oc, (out.ex (E4.trans e5)).ask h2.1⟩
    all_goals
      refine q_leF (ev_var rfl) (by decide) fun H1 e1 => q_eqF (ev_var rfl) (by decide) fun H2 e2 => q_eqF (ev_var rfl) (by decide) fun H3 e3 => q_leF (ev_var rfl) (by decide) fun H4 e4 => ?_
      have E4 := ((e1.trans e2).trans e3).trans e4
    · refine q_eqT (ev_var rfl) rfl fun H5 e5 => ?_
      have E5 := E4.trans e5
      exact call_raw (vs := [.ref D, .ref np]) (ea_cons (ev_var rfl) (ea_cons (ev_var rfl) ea_nil)) fun H6 e6 => by
        have h2 := h.ex (E5.trans e6)
        exact ⟨fr, D, S, np, b, s, x, rfl, h2.1, h2.2.1, (out.ex (E5.trans e6)).ask h2.1⟩
    · refine q_eqF (ev_var rfl) (by decide) fun H5 e5 => q_eqT (ev_var rfl) rfl fun H6 e6 => ?_
      have E6 := (E4.trans e5).trans e6
      exact call_raw (vs := [.ref D, .int s, .int x]) (ea_cons (ev_var rfl) (ea_cons (ix 0 s H6 E6 rfl) (ea_cons (ix 1 x H6 E6 rfl) ea_nil))) fun H7 e7 => by
        have h2 := h.ex (E6.trans e7)
        exact ⟨fr, D, S, s, x, rfl, h2.1, (out.ex (E6.trans e7)).ask h2.1⟩
    · refine q_eqF (ev_var rfl) (by decide) fun H5 e5 => q_eqF (ev_var rfl) (by decide) fun H6 e6 => q_eqT (ev_var rfl) rfl fun H7 e7 => ?_
      have E7 := ((E4.trans e5).trans e6).trans e7
      exact call_raw (vs := [.ref D, .ref np]) (ea_cons (ev_var rfl) (ea_cons (ev_var rfl) ea_nil)) fun H8 e8 => by
        have h2 := h.ex (E7.trans e8)
        exact ⟨fr, D, S, np, b, n, r, s, x, rfl, h2.1, h2.2.1, (out.ex (E7.trans e8)).ask h2.1⟩
    · refine q_eqF (ev_var rfl) (by decide) fun H5 e5 => q_eqF (ev_var rfl) (by decide) fun H6 e6 => q_eqF (ev_var rfl) (by decide) fun H7 e7 => ?_
      have E7 := ((E4.trans e5).trans e6).trans e7
      refine (et_test (b := true) (ev_op (ev_var rfl) ev_c (rv_eq rfl))) H7 (Ex.refl _) _ fun H8 e8 => iteT ?_
      exact call_raw (vs := [.ref D, .ref np]) (ea_cons (ev_var rfl) (ea_cons (ev_var rfl) ea_nil)) fun H9 e9 => by
        have h2 := h.ex ((E7.trans e8).trans e9)
        exact ⟨fr, D, S, np, b, n, r, x, rfl, h2.1, h2.2.1, (out.ex ((E7.trans e8).trans e9)).ask h2.1⟩
    · refine q_eqF (ev_var rfl) (by decide) fun H5 e5 => q_eqF (ev_var rfl) (by decide) fun H6 e6 => q_eqF (ev_var rfl) (by decide) fun H7 e7 => ?_
      have E7 := ((E4.trans e5).trans e6).trans e7
      refine (et_test (b := false) (ev_op (ev_var rfl) ev_c (rv_eq rfl))) H7 (Ex.refl _) _ fun H8 e8 => iteF ?_
      exact call_raw (vs := [.ref D]) (ea_cons (ev_var rfl) ea_nil) fun H9 e9 => by
        have h2 := h.ex ((E7.trans e8).trans e9)
        exact ⟨fr, D, S, rfl, h2.1, ((out.ex ((E7.trans e8).trans e9)).ask h2.1).1, fun hc => absurd hc (by show ¬ (0 : Int) < 0; decide)⟩
end
end Bd
namespace Bd
open PySem PySem.Spec PyProof.Rows L2 Evl
def sp_answer_of (A : Adr) (K : PySem.W.Frag) : Sp := fun vs H Q _ => ∃ (fr : Addr → Prop) (D np rp : Addr) (S : SctDay.State) (w : Int) (zs l : List Int) (c : SctDay.Call), vs = [.ref D, .int w, .ref np, .ref rp] ∧ CallAt K A fr H D np rp S zs l ∧ AnyCall w zs l c ∧
  ∀ H' p, Dk A fr H' D (SctDay.step S c).1 → Keep fr H H' → H' p = some (.lst (((SctDay.step S c).2.code :: (SctDay.step S c).2.nums).map V.int)) → Q (.ref p) H'
section
variable {P : Program} {w : World} {K : PySem.W.Frag} {mg : Str → Option Value} {base : Heap} {A : Adr}
theorem sc_answer_of : FnScope ["desk", "word", "numbers", "row", "e"] ps_answer_of (defScope s_answer_of) := ⟨rfl, rfl, rfl, by decide +kernel, rfl, by decide +kernel, by decide +kernel⟩
theorem ok_answer_of (T : Txt K mg A) : Cal P w K mg base CX0 8 A.fanswer_of ps_answer_of (sp_answer_of A K) := by
  have sc := sc_answer_of
  obtain ⟨fdd, G, bdd, kpd⟩ := (ok_done (P := P) (w := w) (base := base) T).ex
  refine T.danswer_of.ok sc (fun vs H Q E h => ?_) (fun cdv Ar outer s H vs Q E hr h => ?_)
  · obtain ⟨fr, D, np, rp, S, wd, zs, l, c, rfl, _⟩ := h
    rfl
  · refine ⟨_, pss_one (ps_try_as (i := 4) (tb := fun W => tRet (tCallS (sp_done A K) (WE W) (tCons (tVar 0) (tCons (tVar 1) (tCons (tVar 2) (tCons (tVar 3) tNil)))))) (ts := fun a cls d => tRet (tLst (tCons (tXf a cls d A.cRefused "number" (tVar 4)) tNil))) (Wout := fun _ _ _ _ => False) rfl rfl sc.nd rfl rfl ⟨rfl, by decide, Or.inl T.gRefused⟩ takes0
      (fun W pn xe tk _ => pss_one (ps_ret (by exact (pe_callS G hr rfl T.gdone kpd bdd (fun σ => passAt tk σ) (by exact (pa_cons (pv 0) (pa_cons (pv 1) (pa_cons (pv 2) (pa_cons (pv 3) pa_nil)))))))))
      (fun a oe cls d pn hz hf => pss_one (ps_ret (by exact (pe_lst (pa_cons (pe_xf T.rX T.nRefused_number hz hf (pv 4)) pa_nil)))))), ?_⟩
    obtain ⟨fr, D, np, rp, S, wd, zs, l, c, rfl, h, oc, k⟩ := h
    refine ⟨_, rfl, _, rfl, _, rfl, _, rfl, fr, D, np, rp, S, wd, zs, l, c, rfl, h, oc, fun hc H' p hD hk hp => k H' p hD hk hp, fun hc H1 d e1 hd => ?_⟩
    obtain ⟨y2, y1⟩ := step_ok S c
    have z1 := y1 hc
    have z2 : (SctDay.step S c).2.nums = [] := y2.resolve_left (by omega)
    refine ⟨true, T.rE, fun _ a0 _ => ?_, fun q => Bool.noConfusion q⟩
    refine ⟨_, rfl, rfl, rfl, d, _, _, rfl, hd, rfl, (by show 1 ≤ sizeLine; decide), fun p hp => ?_⟩
    have E2 : Ex H (upd H1 p (.lst [.int (SctDay.step S c).2.code])) := e1.trans (Ex.new hp)
    refine k _ p ?_ (Keep.ex E2) ?_
    · rw [z1]
      exact h.1.ex E2
    · rw [z2]
      exact upd_same
end
end Bd
namespace Bd
open PySem PySem.Spec PyProof.Rows L2 Evl
theorem shape_fact {p : Int} {n k : Nat} (h : PyWrsctd.shape p = some (n, k)) : (0 ≤ p ∧ p ≤ 22) ∧ NUMS[p.toNat]? = some (n : Int) ∧ (k = 0 ∨ k = 1) ∧ inV (.int p) [.int 1, .int 2, .int 5] = decide (k = 1) ∧
    ∀ zs : List Int, zs.length = n → (k = 0 → PyWrsctd.whole [p :: zs] = [p :: zs] ∧ ∃ cl, SctDayNeutral.read [p :: zs] = some cl ∧ AnyCall p zs [] cl) ∧ (k = 1 → ∀ l, PyWrsctd.whole [p :: zs, l] = [p :: zs, l] ∧ ∃ cl, SctDayNeutral.read [p :: zs, l] = some cl ∧ AnyCall p zs l cl) := by
  unfold PyWrsctd.shape at h
  by_cases c1 : p = 1
  · subst c1
    rw [if_pos rfl] at h
    cases h
    exact ⟨by decide, rfl, .inr rfl, rfl, fun zs hz => ⟨(fun z => nomatch z), fun _ l => by match zs, hz with | [a0, a1, a2, a3, a4, a5], _ => exact ⟨rfl, _, rfl, .inl (.inl (⟨rfl, _, _, _, _, _, _, rfl, rfl⟩))⟩⟩⟩
  rw [if_neg c1] at h
  by_cases c2 : p = 2
  · subst c2
    rw [if_pos rfl] at h
    cases h
    exact ⟨by decide, rfl, .inr rfl, rfl, fun zs hz => ⟨(fun z => nomatch z), fun _ l => by match zs, hz with | [a0, a1, a2], _ => exact ⟨rfl, _, rfl, .inl (.inr (.inl (⟨rfl, _, _, _, rfl, rfl⟩)))⟩⟩⟩
  rw [if_neg c2] at h
  by_cases c3 : p = 3
  · subst c3
    rw [if_pos rfl] at h
    cases h
    exact ⟨by decide, rfl, .inl rfl, rfl, fun zs hz => ⟨fun _ => by match zs, hz with | [a0, a1, a2], _ => exact ⟨rfl, _, rfl, .inl (.inr (.inr (.inl (⟨rfl, _, _, _, rfl, rfl⟩))))⟩, (fun z => nomatch z)⟩⟩
  rw [if_neg c3] at h
  by_cases c4 : p = 4
  · subst c4
    rw [if_pos rfl] at h
    cases h
    exact ⟨by decide, rfl, .inl rfl, rfl, fun zs hz => ⟨fun _ => by match zs, hz with | [a0, a1], _ => exact ⟨rfl, _, rfl, .inl (.inr (.inr (.inr (.inl (⟨rfl, _, _, rfl, rfl⟩)))))⟩, (fun z => nomatch z)⟩⟩
  rw [if_neg c4] at h
  by_cases c5 : p = 5
  · subst c5
    rw [if_pos rfl] at h
    cases h
    exact ⟨by decide, rfl, .inr rfl, rfl, fun zs hz => ⟨(fun z => nomatch z), fun _ l => by match zs, hz with | [a0, a1, a2], _ => exact ⟨rfl, _, rfl, .inl (.inr (.inr (.inr (.inr (.inl (⟨rfl, _, _, _, rfl, rfl⟩))))))⟩⟩⟩
  rw [if_neg c5] at h
  by_cases c6 : p = 6
  · subst c6
    rw [if_pos rfl] at h
    cases h
    exact ⟨by decide, rfl, .inl rfl, rfl, fun zs hz => ⟨fun _ => by match zs, hz with | [a0], _ => exact ⟨rfl, _, rfl, .inl (.inr (.inr (.inr (.inr (.inr (.inl (⟨rfl, _, rfl, rfl⟩)))))))⟩, (fun z => nomatch z)⟩⟩
  rw [if_neg c6] at h
  by_cases c7 : p = 7
  · subst c7
    rw [if_pos rfl] at h
    cases h
    exact ⟨by decide, rfl, .inl rfl, rfl, fun zs hz => ⟨fun _ => by match zs, hz with | [a0, a1, a2], _ => exact ⟨rfl, _, rfl, .inl (.inr (.inr (.inr (.inr (.inr (.inr (.inl (⟨rfl, _, _, _, rfl, rfl⟩))))))))⟩, (fun z => nomatch z)⟩⟩
  rw [if_neg c7] at h
  by_cases c8 : p = 8
  · subst c8
    rw [if_pos rfl] at h
    cases h
    exact ⟨by decide, rfl, .inl rfl, rfl, fun zs hz => ⟨fun _ => by match zs, hz with | [a0], _ => exact ⟨rfl, _, rfl, .inl (.inr (.inr (.inr (.inr (.inr (.inr (.inr (⟨rfl, _, rfl, rfl⟩))))))))⟩, (fun z => nomatch z)⟩⟩
  rw [if_neg c8] at h
  by_cases c9 : p = 9
  · subst c9
    rw [if_pos rfl] at h
    cases h
    exact ⟨by decide, rfl, .inl rfl, rfl, fun zs hz => ⟨fun _ => by match zs, hz with | [a0, a1], _ => exact ⟨rfl, _, rfl, .inr (.inl (⟨rfl, _, _, rfl, rfl⟩))⟩, (fun z => nomatch z)⟩⟩
  rw [if_neg c9] at h
  by_cases c10 : p = 10
  · subst c10
    rw [if_pos rfl] at h
    cases h
    exact ⟨by decide, rfl, .inl rfl, rfl, fun zs hz => ⟨fun _ => by match zs, hz with | [a0, a1, a2, a3, a4], _ => exact ⟨rfl, _, rfl, .inr (.inr (.inl (⟨rfl, _, _, _, _, _, rfl, rfl⟩)))⟩, (fun z => nomatch z)⟩⟩
  rw [if_neg c10] at h
  by_cases c11 : p = 11
  · subst c11
    rw [if_pos rfl] at h
    cases h
    exact ⟨by decide, rfl, .inl rfl, rfl, fun zs hz => ⟨fun _ => by match zs, hz with | [a0, a1, a2, a3], _ => exact ⟨rfl, _, rfl, .inr (.inr (.inr (.inl (.inr (.inr (.inl (⟨rfl, _, _, _, _, rfl, rfl⟩)))))))⟩, (fun z => nomatch z)⟩⟩
  rw [if_neg c11] at h
  by_cases c12 : p = 12
  · subst c12
    rw [if_pos rfl] at h
    cases h
    exact ⟨by decide, rfl, .inl rfl, rfl, fun zs hz => ⟨fun _ => by match zs, hz with | [a0, a1, a2, a3], _ => exact ⟨rfl, _, rfl, .inr (.inr (.inr (.inl (.inr (.inr (.inr (.inl (⟨rfl, _, _, _, _, rfl, rfl⟩))))))))⟩, (fun z => nomatch z)⟩⟩
  rw [if_neg c12] at h
  by_cases c13 : p = 13
  · subst c13
    rw [if_pos rfl] at h
    cases h
    exact ⟨by decide, rfl, .inl rfl, rfl, fun zs hz => ⟨fun _ => by match zs, hz with | [a0, a1, a2, a3], _ => exact ⟨rfl, _, rfl, .inr (.inr (.inr (.inl (.inr (.inr (.inr (.inr (.inl (⟨rfl, _, _, _, _, rfl, rfl⟩)))))))))⟩, (fun z => nomatch z)⟩⟩
  rw [if_neg c13] at h
  by_cases c14 : p = 14
  · subst c14
    rw [if_pos rfl] at h
    cases h
    exact ⟨by decide, rfl, .inl rfl, rfl, fun zs hz => ⟨fun _ => by match zs, hz with | [a0, a1, a2], _ => exact ⟨rfl, _, rfl, .inr (.inr (.inr (.inl (.inl (⟨rfl, _, _, _, rfl, rfl⟩)))))⟩, (fun z => nomatch z)⟩⟩
  rw [if_neg c14] at h
  by_cases c15 : p = 15
  · subst c15
    rw [if_pos rfl] at h
    cases h
    exact ⟨by decide, rfl, .inl rfl, rfl, fun zs hz => ⟨fun _ => by match zs, hz with | [a0, a1, a2, a3], _ => exact ⟨rfl, _, rfl, .inr (.inr (.inr (.inl (.inr (.inr (.inr (.inr (.inr (.inl (⟨rfl, _, _, _, _, rfl, rfl⟩))))))))))⟩, (fun z => nomatch z)⟩⟩
  rw [if_neg c15] at h
  by_cases c16 : p = 16
  · subst c16
    rw [if_pos rfl] at h
    cases h
    exact ⟨by decide, rfl, .inl rfl, rfl, fun zs hz => ⟨fun _ => by match zs, hz with | [a0, a1, a2], _ => exact ⟨rfl, _, rfl, .inr (.inr (.inr (.inl (.inr (.inl (⟨rfl, _, _, _, rfl, rfl⟩))))))⟩, (fun z => nomatch z)⟩⟩
  rw [if_neg c16] at h
  by_cases c17 : p = 17
  · subst c17
    rw [if_pos rfl] at h
    cases h
    exact ⟨by decide, rfl, .inl rfl, rfl, fun zs hz => ⟨fun _ => by match zs, hz with | [a0, a1, a2, a3], _ => exact ⟨rfl, _, rfl, .inr (.inr (.inr (.inl (.inr (.inr (.inr (.inr (.inr (.inr (⟨rfl, _, _, _, _, rfl, rfl⟩))))))))))⟩, (fun z => nomatch z)⟩⟩
  rw [if_neg c17] at h
  by_cases c18 : p = 18
  · subst c18
    rw [if_pos rfl] at h
    cases h
    exact ⟨by decide, rfl, .inl rfl, rfl, fun zs hz => ⟨fun _ => by match zs, hz with | [a0, a1, a2], _ => exact ⟨rfl, _, rfl, .inr (.inr (.inr (.inr (.inl (⟨rfl, _, _, _, rfl, rfl⟩)))))⟩, (fun z => nomatch z)⟩⟩
  rw [if_neg c18] at h
  by_cases c19 : p = 19
  · subst c19
    rw [if_pos rfl] at h
    cases h
    exact ⟨by decide, rfl, .inl rfl, rfl, fun zs hz => ⟨fun _ => by match zs, hz with | [a0, a1], _ => exact ⟨rfl, _, rfl, .inr (.inr (.inr (.inr (.inr (.inl (⟨rfl, _, _, rfl, rfl⟩))))))⟩, (fun z => nomatch z)⟩⟩
  rw [if_neg c19] at h
  by_cases c20 : p = 20
  · subst c20
    rw [if_pos rfl] at h
    cases h
    exact ⟨by decide, rfl, .inl rfl, rfl, fun zs hz => ⟨fun _ => by match zs, hz with | [a0, a1, a2, a3, a4], _ => exact ⟨rfl, _, rfl, .inr (.inr (.inr (.inr (.inr (.inr (.inl (⟨rfl, _, _, _, _, _, rfl, rfl⟩)))))))⟩, (fun z => nomatch z)⟩⟩
  rw [if_neg c20] at h
  by_cases c21 : p = 21
  · subst c21
    rw [if_pos rfl] at h
    cases h
    exact ⟨by decide, rfl, .inl rfl, rfl, fun zs hz => ⟨fun _ => by match zs, hz with | [a0, a1, a2, a3], _ => exact ⟨rfl, _, rfl, .inr (.inr (.inr (.inr (.inr (.inr (.inr (.inl (⟨rfl, _, _, _, _, rfl, rfl⟩))))))))⟩, (fun z => nomatch z)⟩⟩
  rw [if_neg c21] at h
  by_cases c22 : p = 22
  · subst c22
    rw [if_pos rfl] at h
    cases h
    exact ⟨by decide, rfl, .inl rfl, rfl, fun zs hz => ⟨fun _ => by match zs, hz with | [], _ => exact ⟨rfl, _, rfl, .inr (.inr (.inr (.inr (.inr (.inr (.inr (.inr (⟨rfl, rfl, rfl⟩))))))))⟩, (fun z => nomatch z)⟩⟩
  rw [if_neg c22] at h
  cases h
theorem calls_nil {sh : Int → Option (Nat × Nat)} {f : Nat} {cs : List (List (List Int))} (h : PyFlat.calls sh f [] = some cs) : cs = [] := by
  cases f <;> exact (Option.some.inj h).symm
theorem calls_cons {sh : Int → Option (Nat × Nat)} {f : Nat} {p : Int} {r : List Int} {cs : List (List (List Int))} (h : PyFlat.calls sh f (p :: r) = some cs) : ∃ f' c t cs', cs = c :: cs' ∧ PyFlat.call sh (p :: r) = some (c, t) ∧ PyFlat.calls sh f' t = some cs' := by
  cases f with
  | zero => cases h
  | succ f =>
    unfold PyFlat.calls at h
    cases hc : PyFlat.call sh (p :: r) with
    | none => rw [hc] at h; cases h
    | some ct =>
      rw [hc] at h
      dsimp only at h
      cases ht : PyFlat.calls sh f ct.2 with
      | none => rw [ht] at h; cases h
      | some cs' =>
        rw [ht] at h
        exact ⟨f, ct.1, ct.2, cs', (Option.some.inj h).symm, rfl, ht⟩
theorem call_fact {p : Int} {r : List Int} {c : List (List Int)} {t : List Int} (h : PyFlat.call PyWrsctd.shape (p :: r) = some (c, t)) : ∃ (n : Nat) (l : List Int) (cl : SctDay.Call), 0 ≤ p ∧ NUMS[p.toNat]? = some (n : Int) ∧ n ≤ r.length ∧ SctDayNeutral.read c = some cl ∧ AnyCall p (r.take n) l cl ∧ PyWrsctd.whole c = c ∧
    ((inV (.int p) [.int 1, .int 2, .int 5] = false ∧ l = [] ∧ t = r.drop n) ∨ (inV (.int p) [.int 1, .int 2, .int 5] = true ∧ ∃ (m : Nat) (r2 : List Int), r.drop n = (m : Int) :: r2 ∧ m ≤ r2.length ∧ l = r2.take m ∧ t = r2.drop m ∧ l ∈ c.drop 1)) := by
  unfold PyFlat.call at h
  dsimp only at h
  cases hs : PyWrsctd.shape p with
  | none => rw [hs] at h; cases h
  | some nk =>
    obtain ⟨n, k⟩ := nk
    rw [hs] at h
    dsimp only at h
    by_cases hn : r.length < n
    · rw [if_pos hn] at h
      cases h
    · rw [if_neg hn] at h
      obtain ⟨hp, hN, hk, hv, hr⟩ := shape_fact hs
      obtain ⟨h0, h1⟩ := hr (r.take n) (by rw [List.length_take]; omega)
      rcases hk with rfl | rfl
      · obtain ⟨wh, cl, e1, e2⟩ := h0 rfl
        have h' : some ((p :: r.take n) :: ([] : List (List Int)), r.drop n) = some (c, t) := h
        cases h'
        exact ⟨n, [], cl, hp.1, hN, by omega, e1, e2, wh, .inl ⟨hv, rfl, rfl⟩⟩
      · cases hd : r.drop n with
        | nil => rw [hd] at h; cases h
        | cons m r2 =>
          rw [hd] at h
          by_cases hm : 0 ≤ m ∧ m.toNat ≤ r2.length
          · have hrow : PyFlat.rows 1 (m :: r2) = some ([r2.take m.toNat], r2.drop m.toNat) := by
              show (match (if 0 ≤ m ∧ m.toNat ≤ r2.length then some (r2.take m.toNat, r2.drop m.toNat) else none) with
                | none => none
                | some (x, s) => match PyFlat.rows 0 s with
                  | none => none
                  | some (xs, t) => some (x :: xs, t)) = _
              rw [if_pos hm]
              rfl
            rw [hrow] at h
            dsimp only at h
            cases h
            obtain ⟨wh, cl, e1, e2⟩ := h1 rfl (r2.take m.toNat)
            exact ⟨n, r2.take m.toNat, cl, hp.1, hN, by omega, e1, e2, wh, .inr ⟨hv, m.toNat, r2, by rw [Int.toNat_of_nonneg hm.1]; exact hd, hm.2, rfl, rfl, List.mem_singleton_self _⟩⟩
          · have hrow : PyFlat.rows 1 (m :: r2) = none := by
              show (match (if 0 ≤ m ∧ m.toNat ≤ r2.length then some (r2.take m.toNat, r2.drop m.toNat) else none) with
                | none => none
                | some (x, s) => match PyFlat.rows 0 s with
                  | none => none
                  | some (xs, t) => some (x :: xs, t)) = _
              rw [if_neg hm]
            rw [hrow] at h
            cases h
theorem whole_map : ∀ (f : Nat) (xs : List Int) (cs : List (List (List Int))), PyFlat.calls PyWrsctd.shape f xs = some cs → cs.map PyWrsctd.whole = cs
  | f, [], cs, h => by
    rw [calls_nil h]
    rfl
  | 0, _ :: _, cs, h => by cases h
  | f + 1, p :: r, cs, h => by
    unfold PyFlat.calls at h
    cases hc : PyFlat.call PyWrsctd.shape (p :: r) with
    | none => rw [hc] at h; cases h
    | some ct =>
      rw [hc] at h
      dsimp only at h
      cases ht : PyFlat.calls PyWrsctd.shape f ct.2 with
      | none => rw [ht] at h; cases h
      | some cs' =>
        rw [ht] at h
        obtain ⟨n, l, cl, _, _, _, _, _, wh, _⟩ := call_fact (t := ct.2) (c := ct.1) hc
        rw [← Option.some.inj h, List.map_cons, wh, whole_map f ct.2 cs' ht]
/-- what is asked -/
theorem asked_fact {xs : List Int} (h : PyWrsctd.answers_asked xs = true) : ∃ cs, PyFlat.calls PyWrsctd.shape xs.length xs = some cs ∧ (∀ c ∈ cs, ∀ l ∈ c.drop 1, l.length ≤ 26) ∧ PyWrsctd.answers xs = PyFlat.told (PyFlat.played SctDayNeutral.step SctDayNeutral.start cs) ∧ (PyWrsctd.answers xs).length ≤ 10000000 := by
  unfold PyWrsctd.answers_asked at h
  cases hc : PyFlat.calls PyWrsctd.shape xs.length xs with
  | none => rw [hc] at h; cases h
  | some cs =>
    rw [hc] at h
    dsimp only at h
    rw [whole_map _ _ _ hc, Bool.and_eq_true, Bool.and_eq_true, Bool.and_eq_true] at h
    obtain ⟨⟨⟨_, _⟩, ha⟩, hs⟩ := h
    refine ⟨cs, rfl, fun c hcm l hl => ?_, ?_, of_decide_eq_true hs⟩
    · unfold SctDayNeutral.asked at ha
      rw [Bool.and_eq_true] at ha
      have z := List.all_eq_true.mp ha.1 c hcm
      unfold SctDayNeutral.asked1 at z
      rw [Bool.and_eq_true, Bool.and_eq_true] at z
      have z2 := List.all_eq_true.mp z.2.2 l hl
      unfold SctDayNeutral.long at z2
      rw [Bool.and_eq_true] at z2
      exact of_decide_eq_true z2.1
    · unfold PyWrsctd.answers PyWrsctd.calls
      rw [hc]
      dsimp only
      rw [whole_map _ _ _ hc]
theorem step_read {S : SctDay.State} {c : List (List Int)} {cl : SctDay.Call} (h : SctDayNeutral.read c = some cl) : SctDayNeutral.step S c = ((SctDay.step S cl).1, (SctDay.step S cl).2.code :: (SctDay.step S cl).2.nums) := by
  unfold SctDayNeutral.step
  rw [h]
theorem told_cons {S : SctDay.State} {c : List (List Int)} {cl : SctDay.Call} (h : SctDayNeutral.read c = some cl) (cs : List (List (List Int))) : PyFlat.told (PyFlat.played SctDayNeutral.step S (c :: cs)) =
    ((((SctDay.step S cl).2.code :: (SctDay.step S cl).2.nums).length : Nat) : Int) :: ((SctDay.step S cl).2.code :: (SctDay.step S cl).2.nums) ++ PyFlat.told (PyFlat.played SctDayNeutral.step (SctDay.step S cl).1 cs) := by
  show PyFlat.told ((SctDayNeutral.step S c).2 :: PyFlat.played SctDayNeutral.step (SctDayNeutral.step S c).1 cs) = _
  rw [step_read h]
  rfl
end Bd
namespace Bd
open PySem PySem.Spec PyProof.Rows L2 Evl
section
variable {A : Adr} {σ : L2.St} {H H' : Hp} {E : XK} {K : PySem.W.Frag} {D : Ends} {tz : TS} {ta te : TE}
theorem ep_desk : EvP (tMake A.cDesk (sp_DeskI A) [] E tNil) σ H (fun v H3 => ∃ D dx L ldx la gd bd, v = .ref D ∧ H la = none ∧ H gd = none ∧ H bd = none ∧ DkAt A (fun _ => False) H3 D SctDay.start dx L ldx la gd bd [] [] []) := fun H1 e Q q x dx hx hd ne =>
  ⟨x, dx, rfl, upd_same, fun H3 L ldx la gd bd keep n1 n2 n3 Dk => ⟨rfl, by
    have old : ∀ b, upd (upd H1 dx (.own x)) x (.ins A.cDesk dx []) b = none → H b = none := fun b hb => fresh_back e (fresh_back (Ex.new hd) (by
      have bx : b ≠ x := fun z => by rw [z, upd_same] at hb; cases hb
      rw [upd_ne bx] at hb
      exact hb))
    refine q _ H3 (fun b o hb => ?_) ⟨x, dx, L, ldx, la, gd, bd, rfl, old la n1, old gd n2, old bd n3, Dk⟩
    have bx := ne_of_none hb hx
    refine keep b o bx ?_
    rw [upd_ne bx, upd_ne (ne_of_none hb hd)]
    exact hb⟩⟩
theorem DkAt.fr {fr fr' : Addr → Prop} {D : Addr} {S : SctDay.State} {dx L ldx la gd bd : Addr} {gk bk : List (L2.Key × V)} (h : DkAt A fr H D S dx L ldx la gd bd [] gk bk) (h1 : ¬ fr' la) (h2 : ¬ fr' gd) (h3 : ¬ fr' bd) : DkAt A fr' H D S dx L ldx la gd bd [] gk bk :=
  ⟨h.ob, h.lw, h.gh, h.bh, h.gr, h.br, h.gb, (fun p hp => nomatch hp), h1, h2, h3, (fun p hp => nomatch hp), h.wf⟩
/-- the argument: read for good, or among what stays -/
def SqF (K : PySem.W.Frag) (fr : Addr → Prop) (fp : Addr) (H : Hp) (a : Addr) (xs : List V) : Prop := SqL K H a xs ∧ ((∀ H', SqL K H' a xs) ∨ (fr a ∧ a ≠ fp))
theorem SqF.keep {fr : Addr → Prop} {fp a : Addr} {xs : List V} (k : Keep fr H H') (h : SqF K fr fp H a xs) : SqF K fr fp H' a xs := by
  obtain ⟨h1, h2⟩ := h
  rcases h2 with h2 | h2
  · exact ⟨h2 H', .inl h2⟩
  · refine ⟨?_, .inr h2⟩
    rcases h1 with h1 | h1
    · rcases h1 with h1 | ⟨o, h1⟩
      · exact .inl (.inl (k _ _ h2.1 h1))
      · exact .inl (.inr ⟨o, k _ _ h2.1 h1⟩)
    · exact .inr h1
theorem q_appB {l : Addr} {xs : List V} {v : V} (hl : H l = some (.lst xs)) (ha : Ev ta σ H (.ref l)) (h : Ev te σ H v) (hz : xs.length < sizeLine) (k : ∀ H1, Ex H H1 → tz D σ (upd H1 l (.lst (xs ++ [v])))) :
    tSeq (tDrop (tBM K "list" rAppend ta (tCons te tNil))) tz D σ H := ha H (Ex.refl H) _ fun H1 e1 =>
  ⟨Or.inl ⟨rfl, xs, sq_of (e1 l _ hl)⟩, h H1 e1 _ fun H2 e2 => ⟨l, xs, v, rfl, rfl, (e1.trans e2) l _ hl, hz, k H2 (e1.trans e2)⟩⟩
theorem cut_mid {xs : List Int} {a n : Nat} (h : a + n ≤ xs.length) : cutV (xs.map V.int) (some (a : Int)) (some ((a + n : Nat) : Int)) = ((xs.drop a).take n).map V.int := by
  unfold cutV
  rw [HT.sIx_nat, HT.sIx_nat, List.length_map, Nat.min_eq_left h, Nat.min_eq_left (show a ≤ xs.length by omega), Nat.add_sub_cancel_left, List.map_take, List.map_drop]
theorem drop_at {xs r : List Int} {p : Int} {a : Nat} (h : xs.drop a = p :: r) : xs[a]? = some p ∧ xs.drop (a + 1) = r ∧ a + 1 + r.length = xs.length := by
  have e : xs[a]? = some p := by
    rw [← List.head?_drop, h]
    rfl
  refine ⟨e, ?_, ?_⟩
  · rw [← List.drop_drop, h]
    rfl
  · have z := congrArg List.length h
    rw [List.length_drop, List.length_cons] at z
    omega
theorem q_par3D {i j k : Nat} {x : V} {P : V → Hp → Prop} (h : EvP ta σ H P) (q : ∀ v H1 fp H2, Ex H H1 → P v H1 → Ex H1 H2 → H1 fp = none → H2 fp = some (.lst []) → tz D (((σ.set i (some v)).set j (some (.ref fp))).set k (some x)) H2) :
    tSeq (tPar3 i j k (tCons ta (tCons (tLst tNil) (tCons (tC x) tNil)))) tz D σ H :=
  h H (Ex.refl _) _ fun v H1 e1 p => (el_lst ea_nil (by show 0 ≤ 100000; decide) : EvL (tLst tNil) σ H1 []) H1 (Ex.refl _) _ fun fp H2 nf e2 hf => ⟨v, .ref fp, x, rfl, q v H1 fp H2 e1 p e2 nf hf⟩
/-- the row of a call -/
theorem q_row (T : Txt K mg A) {a dA fp np : Addr} {xs r l t : List Int} {at_ n : Nat} {p : Nat} {v6 v7 : Option V} (hx : SqL K H a (xs.map V.int)) (hd : xs.drop (at_ + 1) = r) (hl : at_ + 1 + r.length = xs.length) (hn : n ≤ r.length)
    (hc : (inV (.int (p : Int)) [.int 1, .int 2, .int 5] = false ∧ l = [] ∧ t = r.drop n) ∨ (inV (.int (p : Int)) [.int 1, .int 2, .int 5] = true ∧ ∃ (m : Nat) (r2 : List Int), r.drop n = (m : Int) :: r2 ∧ m ≤ r2.length ∧ l = r2.take m ∧ t = r2.drop m))
    (k : ∀ (at2 : Nat) (rp : Addr) H1, Ex H H1 → H1 rp = some (.lst (l.map V.int)) → at_ < at2 → at2 ≤ xs.length → xs.drop at2 = t → tz D [some (.ref a), some (.ref dA), some (.ref fp), some (.int (at2 : Int)), some (nV p), some (.ref np), some (.ref rp), v7] H1) :
    tSeq (tAsg (tLst tNil) (gName 6)) (tSeq (tIfS (tTest (tOp (rIn K false) (tVar 4) (tC (.ref A.listed)))) (tSeq (tAsg (tSl (rSlL K) (tVar 0) (tPart (tOp (rI0 fun i j => .int (i + j)) (tVar 3) (tC (.int 1)))) (tPart (tOp (rI0 fun i j => .int (i + j)) (tOp (rI0 fun i j => .int (i + j)) (tVar 3) (tC (.int 1))) (tOp (rIxL K) (tVar 0) (tVar 3))))) (gName 6))
      (tAug 3 (tOp (rI0 fun i j => .int (i + j)) (tC (.int 1)) (tOp (rIxL K) (tVar 0) (tVar 3))) (ipI fun i j => i + j))) tNext) tz) D [some (.ref a), some (.ref dA), some (.ref fp), some (.int ((at_ + 1 + n : Nat) : Int)), some (nV p), some (.ref np), v6, v7] H := by
  refine q_asgL (el_lst ea_nil (by show 0 ≤ 100000; decide)) fun rp H1 nr e1 hrp => ?_
  have dn : xs.drop (at_ + 1 + n) = r.drop n := by rw [← List.drop_drop, hd]
  rcases hc with ⟨hv, rfl, rfl⟩ | ⟨hv, m, r2, h2, hm, rfl, rfl⟩
  · refine q_when (b := false) (et_is (et_test (ev_op (ev_var rfl) ev_c (rv_inT (T.qLISTED _) rfl rfl))) hv) (fun z => by cases z) fun _ H2 e2 => ?_
    exact k (at_ + 1 + n) rp H2 (e1.trans e2) (e2 _ _ hrp) (by omega) (by omega) dn
  · refine q_when (b := true) (et_is (et_test (ev_op (ev_var rfl) ev_c (rv_inT (T.qLISTED _) rfl rfl))) hv) (fun _ H2 e2 => ?_) fun z => by cases z
    have E2 := e1.trans e2
    rw [h2] at dn
    obtain ⟨g1, g2, g3⟩ := drop_at dn
    have ixm : ∀ σ H3, Ex H H3 → σ[0]? = some (some (.ref a)) → σ[3]? = some (some (.int ((at_ + 1 + n : Nat) : Int))) → Ev (tOp (rIxL K) (tVar 0) (tVar 3)) σ H3 (.int (m : Int)) := fun σ H3 e3 s0 s3 => ev_op (ev_var s0) (ev_var s3) (rv_ixL (ex_l e3 hx) (atI_nat (by rw [List.getElem?_map, g1]; rfl)))
    refine q_asgL (xs := ((xs.drop (at_ + 1 + n + 1)).take m).map V.int) (fun H3 e3 Q' q' => ?_) fun rp2 H3 nr2 e3 hrp2 => ?_
    · rw [← cut_mid (by omega)] at q'
      refine (el_sl (ev_var rfl) (eo_some (ev_is (ev_op (ev_var rfl) ev_c rv_I0) ?_)) (eo_some (ev_is (ev_op (ev_op (ev_var rfl) ev_c rv_I0) (ixm _ H2 E2 rfl rfl) rv_I0) ?_)) (ex_l E2 hx)) H3 e3 Q' q'
      · congr 1
      · congr 1
    · rw [g2] at hrp2
      refine s_aug (D := { D with nx := tz D }) rfl (ev_op ev_c (ixm _ H3 (E2.trans e3) rfl rfl) rv_I0) fun H4 e4 => ?_
      have z := k (at_ + 1 + n + 1 + m) rp2 H4 ((E2.trans e3).trans e4) (e4 _ _ hrp2) (by omega) (by omega) (by rw [← List.drop_drop, g2])
      have ez : ((at_ + 1 + n : Nat) : Int) + (1 + (m : Int)) = ((at_ + 1 + n + 1 + m : Nat) : Int) := by omega
      show tz D [some (.ref a), some (.ref dA), some (.ref fp), some (.int (((at_ + 1 + n : Nat) : Int) + (1 + (m : Int)))), some (nV p), some (.ref np), some (.ref rp2), v7] H4
      rw [ez]
      exact z
end
def sp_answers (K : PySem.W.Frag) : Sp := fun vs H Q _ => ∃ (a : Addr) (xs : List Int), vs = [.ref a] ∧ SqL K H a (xs.map V.int) ∧ PyWrsctd.answers_asked xs = true ∧ ∀ H' p, H' p = some (.lst ((PyWrsctd.answers xs).map V.int)) → Q (.ref p) H'
def FoOk (found : List Int) : Prop := found = [] ∨ ∃ n rest, found = n :: rest ∧ 1 ≤ n ∧ rest ≠ []
section
variable {P : Program} {w : World} {K : PySem.W.Frag} {mg : Str → Option Value} {base : Heap} {A : Adr}
theorem sc_answers : FnScope ["calls", "desk", "found", "at", "word", "numbers", "row", "answer"] ps_answers (defScope s_answers) := ⟨rfl, rfl, rfl, by decide +kernel, rfl, by decide +kernel, by decide +kernel⟩
theorem fn_answers (T : Txt K mg A) {fd : FuncData} (F : Fun K "answers" "answers" s_answers A.fanswers fd) : FnOk P w K mg base CX0 9 A.fanswers fd ps_answers (sp_answers K) := by
  have sc := sc_answers
  have c_DeskI : Cal P w K mg base CX0 3 _ _ _ := ok_DeskI T
  have c_answer_of : Cal P w K mg base CX0 8 _ _ _ := ok_answer_of T
  refine F.ok sc (fun vs H Q E h => ?_) (fun cdv Ar outer s H vs Q E hr h => ⟨_, (pss_cons (ps_par3 (i := 1) (j := 2) (l := 3) (by rfl) sc.nd rfl rfl rfl (by decide) (by decide) (by decide) rfl rfl rfl (by exact (pa_cons (pmake0 c_DeskI T.mDesk T.gDesk (hr.mono (by decide)) pass0) (pa_cons (pe_lst pa_nil) (pa_cons pe_int pa_nil)))) (by rfl))
    (pss_cons (ps_while PassesOwn.never (pt_cmpR op_lt (pv 3) (pe_callB call_len_seq (by rfl) T.b_len PySem.boot_len (pa_cons (pv 0) pa_nil)) (nomark _)) (pss_cons (ps_set (i := 4) sc.nd rfl (Or.inl rfl) (pe_ix ix_list (pv 0) (pv 3) (fun _ _ => rfl)))
    (pss_cons (ps_set (i := 5) sc.nd rfl (Or.inl rfl) (pe_slice sl_list (pv 0) (po_some (pe_op op_add (pv 3) pe_int)) (po_some (pe_op op_add (pe_op op_add (pv 3) pe_int) (pe_ix ix_list (pconstR T.gNUMBERS) (pv 4) (fun _ _ => rfl))))))
    (pss_cons (ps_aug (i := 3) sc.nd rfl (Or.inl rfl) (pe_op op_add pe_int (pe_ix ix_list (pconstR T.gNUMBERS) (pv 4) (fun _ _ => rfl))) ip_add)
    (pss_cons (ps_set (i := 6) sc.nd rfl (Or.inl rfl) (pe_lst pa_nil))
    (pss_cons (ps_if (pt_cmpR op_in_seq (pv 4) (pconstR T.gLISTED) (by rfl)) (pss_cons (ps_set (i := 6) sc.nd rfl (Or.inl rfl) (pe_slice sl_list (pv 0) (po_some (pe_op op_add (pv 3) pe_int)) (po_some (pe_op op_add (pe_op op_add (pv 3) pe_int) (pe_ix ix_list (pv 0) (pv 3) (fun _ _ => rfl))))))
    (pss_one (ps_aug (i := 3) sc.nd rfl (Or.inl rfl) (pe_op op_add pe_int (pe_ix ix_list (pv 0) (pv 3) (fun _ _ => rfl))) ip_add))) pss_nil)
    (pss_cons (ps_set (i := 7) sc.nd rfl (Or.inl rfl) (pcall c_answer_of T.ganswer_of (hr.mono (by decide)) pass0 (by exact (pa_cons (pv 1) (pa_cons (pv 4) (pa_cons (pv 5) (pa_cons (pv 6) pa_nil)))))))
    (pss_cons (ps_expr (pe_bm PySem.F.plainAttrs_list PySem.F.slot_list_append PySem.F.type_list_append mt_append (pv 2) (pa_cons (pe_callB call_len_seq (by rfl) T.b_len PySem.boot_len (pa_cons (pv 7) pa_nil)) pa_nil)))
    (pss_one (ps_expr (pe_bm PySem.F.plainAttrs_list PySem.F.slot_list_extend PySem.F.type_list_extend mt_extend (pv 2) (pa_cons (pv 7) pa_nil))))))))))))
    (pss_one (ps_ret (pv 2))))), ?_⟩)
  · obtain ⟨a, xs, rfl, _⟩ := h
    rfl
  · obtain ⟨a, xs, rfl, hx, hask, k⟩ := h
    obtain ⟨cs0, hc0, h26, hans, hshort⟩ := asked_fact hask
    refine q_par3D (ep_desk (A := A) (E := E0)) fun v H1 fp H2 e1 ⟨dA, dx, L, ldx, la, gd, bd, ev, nla, ngd, nbd, hD⟩ e2 nfp hfp => ?_
    subst ev
    have fI : FrIn (fun b => b = fp ∨ (b = a ∧ (H a).isSome = true)) H2 := fun b hb => by
      rcases hb with rfl | ⟨rfl, hb⟩
      · exact ⟨_, hfp⟩
      · obtain ⟨o, ho⟩ := Option.isSome_iff_exists.mp hb
        exact ⟨o, e2 _ _ (e1 _ _ ho)⟩
    have nof : ∀ b o, H b = none → H1 b = some o → ¬ (b = fp ∨ (b = a ∧ (H a).isSome = true)) := fun b o h1 h2 hb => by
      rcases hb with rfl | ⟨rfl, hb⟩
      · rw [nfp] at h2
        cases h2
      · rw [h1] at hb
        cases hb
    have D2 : Dk A (fun b => b = fp ∨ (b = a ∧ (H a).isSome = true)) H2 dA SctDay.start := ⟨dx, L, ldx, la, gd, bd, [], [], [], (hD.fr (nof _ _ nla hD.lw.li) (nof _ _ ngd hD.gh) (nof _ _ nbd hD.bh)).ex e2⟩
    have x2 : SqF K (fun b => b = fp ∨ (b = a ∧ (H a).isSome = true)) fp H2 a (xs.map V.int) := by
      refine ⟨ex_l (e1.trans e2) hx, ?_⟩
      rcases hx with hx | hx
      · obtain ⟨o, ho⟩ : ∃ o, H a = some o := by
          rcases hx with hx | ⟨o, hx⟩
          · exact ⟨_, hx⟩
          · exact ⟨_, hx⟩
        exact .inr ⟨.inr ⟨rfl, by rw [ho]; rfl⟩, ne_of_none (e1 _ _ ho) nfp⟩
      · exact .inl fun H' => .inr hx
    generalize hfr : (fun b => b = fp ∨ (b = a ∧ (H a).isSome = true)) = fr at *
    have ffp : fr fp := by rw [← hfr]; exact .inl rfl
    refine q_while (fun m σ' H' => ∃ (at_ : Nat) (S : SctDay.State) (cs : List (List (List Int))) (f : Nat) (found : List Int) (v4 v5 v6 v7 : Option V), σ' = [some (.ref a), some (.ref dA), some (.ref fp), some (.int (at_ : Int)), v4, v5, v6, v7] ∧ at_ ≤ xs.length ∧ m = xs.length - at_ ∧
        PyFlat.calls PyWrsctd.shape f (xs.drop at_) = some cs ∧ (∀ c ∈ cs, ∀ l ∈ c.drop 1, l.length ≤ 26) ∧ found ++ PyFlat.told (PyFlat.played SctDayNeutral.step S cs) = PyWrsctd.answers xs ∧ FoOk found ∧ H' fp = some (.lst (found.map V.int)) ∧ Dk A fr H' dA S ∧ FrIn fr H' ∧ SqF K fr fp H' a (xs.map V.int)) xs.length
      ⟨0, SctDay.start, cs0, xs.length, [], none, none, none, none, rfl, Nat.zero_le _, rfl, hc0, h26, by rw [hans]; rfl, .inl rfl, hfp, D2, fI, x2⟩ ?_
    rintro m σ' H3 ⟨at_, S, cs, f, found, v4, v5, v6, v7, rfl, hat, rfl, hcs, hl26, hfo, hok, hf3, hD3, fI3, x3⟩
    refine ⟨decide ((at_ : Int) < (xs.length : Int)), et_test (ev_op (ev_var rfl) (ev_is (ev_len (ev_var rfl) x3.1) (by rw [List.length_map])) rv_I0), fun hb H4 e4 => ?_, fun hb H4 e4 => ?_⟩
    · have lt : at_ < xs.length := by have := of_decide_eq_true hb; omega
      obtain ⟨p, r, hpr⟩ : ∃ p r, xs.drop at_ = p :: r := by
        cases hq : xs.drop at_ with
        | nil =>
          have z := congrArg List.length hq
          rw [List.length_drop, List.length_nil] at z
          omega
        | cons p r => exact ⟨p, r, rfl⟩
      rw [hpr] at hcs
      obtain ⟨f', c, t, cs', rfl, hcall, hcs'⟩ := calls_cons hcs
      obtain ⟨n, l, cl, hp0, hN, hnr, hread, hany, _, hrow⟩ := call_fact hcall
      obtain ⟨p, rfl⟩ : ∃ p' : Nat, p = (p' : Int) := ⟨p.toNat, by omega⟩
      rw [Int.toNat_natCast] at hN
      obtain ⟨g1, g2, g3⟩ := drop_at hpr
      have x4 := x3.keep (Keep.ex e4)
      have l26 : l.length ≤ 26 := by
        rcases hrow with ⟨_, z, _⟩ | ⟨_, _, _, _, _, _, _, z⟩
        · rw [z]
          exact Nat.zero_le _
        · exact hl26 c List.mem_cons_self l z
      rw [told_cons hread] at hfo
      have lens := congrArg List.length hfo
      rw [List.length_append, List.length_append, List.length_cons] at lens
      refine ⟨fun σ2 H5 => ∃ m', m' < xs.length - at_ ∧ ∃ (at_ : Nat) (S : SctDay.State) (cs : List (List (List Int))) (f : Nat) (found : List Int) (v4 v5 v6 v7 : Option V), σ2 = [some (.ref a), some (.ref dA), some (.ref fp), some (.int (at_ : Int)), v4, v5, v6, v7] ∧ at_ ≤ xs.length ∧ m' = xs.length - at_ ∧
        PyFlat.calls PyWrsctd.shape f (xs.drop at_) = some cs ∧ (∀ c ∈ cs, ∀ l ∈ c.drop 1, l.length ≤ 26) ∧ found ++ PyFlat.told (PyFlat.played SctDayNeutral.step S cs) = PyWrsctd.answers xs ∧ FoOk found ∧ H5 fp = some (.lst (found.map V.int)) ∧ Dk A fr H5 dA S ∧ FrIn fr H5 ∧ SqF K fr fp H5 a (xs.map V.int), fun σ2 H5 h => h, ?_⟩
      refine q_asg (v := nV p) (ev_op (ev_var rfl) (ev_var rfl) (rv_ixL x4.1 (atI_nat (by rw [List.getElem?_map, g1]; rfl)))) fun H5 e5 => ?_
      have x5 := x4.keep (Keep.ex e5)
      have nm : ∀ σ H6, σ[4]? = some (some (nV p)) → Ev (tOp (rIxL K) (tC (.ref A.nums)) (tVar 4)) σ H6 (.int (n : Int)) := fun σ H6 h4 => ev_op ev_c (ev_var h4) (rv_ixL (T.qNUMBERS H6) (atI_nat (by rw [List.getElem?_map, hN]; rfl)))
      refine q_asgL (xs := (r.take n).map V.int) (fun H6 e6 Q' q' => ?_) fun np H6 nnp e6 hnp => ?_
      · rw [← g2, ← cut_mid (by omega)] at q'
        refine (el_sl (ev_var rfl) (eo_some (ev_is (ev_op (ev_var rfl) ev_c rv_I0) ?_)) (eo_some (ev_is (ev_op (ev_op (ev_var rfl) ev_c rv_I0) (nm _ H5 rfl) rv_I0) ?_)) x5.1) H6 e6 Q' q'
        · congr 1
        · congr 1
      · have x6 := x5.keep (Keep.ex e6)
        refine q_aug rfl (ev_op ev_c (nm _ H6 rfl) rv_I0) fun H7 e7 => ?_
        have x7 := x6.keep (Keep.ex e7)
        have ez : ((at_ : Nat) : Int) + (1 + (n : Int)) = ((at_ + 1 + n : Nat) : Int) := by omega
        show tSeq _ _ _ [some (.ref a), some (.ref dA), some (.ref fp), some (.int (((at_ : Nat) : Int) + (1 + (n : Int)))), some (nV p), some (.ref np), v6, v7] H7
        rw [ez]
        refine q_row T x7.1 g2 g3 hnr (l := l) (t := t) (hrow.imp (fun z => z) fun ⟨z1, m, r2, z2, z3, z4, z5, _⟩ => ⟨z1, m, r2, z2, z3, z4, z5⟩) fun at2 rp H8 e8 hrp a1 a2 a3 => ?_
        have E8 := (((e4.trans e5).trans e6).trans e7).trans e8
        refine call_raw (vs := [.ref dA, nV p, .ref np, .ref rp]) (ea_cons (ev_var rfl) (ea_cons (ev_var rfl) (ea_cons (ev_var rfl) (ea_cons (ev_var rfl) ea_nil)))) fun H9 e9 => ?_
        have E9 := E8.trans e9
        refine ⟨fr, dA, np, rp, S, (p : Int), r.take n, l, cl, rfl, ⟨hD3.ex E9, sq_of (((e7.trans e8).trans e9) _ _ hnp), sq_of (e9 _ _ hrp), by omega, fI3.ex E9⟩, hany, fun H10 q hD10 hk10 hq => ?_⟩
        have K10 : Keep fr H3 H10 := (Keep.ex E9).trans hk10
        have x10 := x3.keep K10
        have hf10 := K10 _ _ ffp hf3
        have fI10 : FrIn fr H10 := fun b hb => by
          obtain ⟨o, ho⟩ := fI3 b hb
          exact ⟨o, K10 _ _ hb ho⟩
        have hql : ((SctDay.step S cl).2.code :: (SctDay.step S cl).2.nums).length ≤ 10000000 := by omega
        have qf : q ≠ fp := fun z => by
          rw [z, hf10] at hq
          have z2 : found.map V.int = ((SctDay.step S cl).2.code :: (SctDay.step S cl).2.nums).map V.int := HO.lst.inj (Option.some.inj hq)
          rcases hok with rfl | ⟨n', rest, rfl, h1, h2⟩
          · cases z2
          · have z3 : V.int n' = V.int (SctDay.step S cl).2.code := (List.cons.inj z2).1
            have z4 : rest.map V.int = (SctDay.step S cl).2.nums.map V.int := (List.cons.inj z2).2
            have z5 := V.int.inj z3
            rcases (step_ok S cl).1 with z6 | z6
            · omega
            · rw [z6] at z4
              exact h2 (List.map_eq_nil_iff.mp z4)
        show tSeq _ _ _ _ _
        have S10 : sizeLine = 16777216 := rfl
        refine q_appB (v := .int (((SctDay.step S cl).2.code :: (SctDay.step S cl).2.nums).length : Nat)) hf10 (ev_var rfl) (ev_is (ev_len (ev_var rfl) (sq_of hq)) (by rw [List.length_map])) (by rw [List.length_map]; omega) fun H11 e11 => ?_
        refine s_ext (l := fp) upd_same (ev_var rfl) (P := fun v H12 => v = .ref q) (ep_of_ev (ev_var rfl)) fun v H12 e12 ev => ⟨q, _, ev, e12 _ _ (by rw [upd_ne qf]; exact e11 _ _ hq), ?_, ?_⟩
        · rw [List.length_append, List.length_map, List.length_singleton, List.length_map]
          omega
        · have e : HO.lst ((found.map V.int ++ [.int (((SctDay.step S cl).2.code :: (SctDay.step S cl).2.nums).length : Nat)]) ++ ((SctDay.step S cl).2.code :: (SctDay.step S cl).2.nums).map V.int) = HO.lst ((found.map V.int ++ [.int (((SctDay.step S cl).2.code :: (SctDay.step S cl).2.nums).length : Nat)]) ++ ((SctDay.step S cl).2.code :: (SctDay.step S cl).2.nums).map V.int) := rfl
          have Dk12 := (((hD10.ex e11).fupd (ys := found.map V.int ++ [.int (((SctDay.step S cl).2.code :: (SctDay.step S cl).2.nums).length : Nat)]) ffp (e11 _ _ hf10)).ex e12).fupd (ys := (found.map V.int ++ [.int (((SctDay.step S cl).2.code :: (SctDay.step S cl).2.nums).length : Nat)]) ++ ((SctDay.step S cl).2.code :: (SctDay.step S cl).2.nums).map V.int) ffp (e12 _ _ upd_same)
          have fin : ∀ b o, H10 b = some o → b ≠ fp → upd H12 fp (.lst ((found.map V.int ++ [.int (((SctDay.step S cl).2.code :: (SctDay.step S cl).2.nums).length : Nat)]) ++ ((SctDay.step S cl).2.code :: (SctDay.step S cl).2.nums).map V.int)) b = some o := fun b o hb hn => by
            rw [upd_ne hn]
            exact e12 _ _ (by rw [upd_ne hn]; exact e11 _ _ hb)
          refine ⟨xs.length - at2, by omega, at2, (SctDay.step S cl).1, cs', f', found ++ ((((SctDay.step S cl).2.code :: (SctDay.step S cl).2.nums).length : Nat) : Int) :: ((SctDay.step S cl).2.code :: (SctDay.step S cl).2.nums), _, _, _, _, rfl, a2, rfl, by rw [a3]; exact hcs', fun c hc => hl26 c (List.mem_cons_of_mem _ hc), ?_, ?_, ?_, Dk12, ?_, ?_⟩
          · rw [← hfo, List.append_assoc]
          · rcases hok with rfl | ⟨n', rest, rfl, h1, h2⟩
            · exact .inr ⟨_, _, rfl, by rw [List.length_cons]; omega, fun z => by cases z⟩
            · exact .inr ⟨n', _, rfl, h1, fun z => h2 (List.append_eq_nil_iff.mp z).1⟩
          · rw [List.map_append, List.append_assoc]
            exact upd_same
          · intro b hb
            by_cases c : b = fp
            · subst c
              exact ⟨_, upd_same⟩
            · obtain ⟨o, ho⟩ := fI10 b hb
              exact ⟨o, fin b o ho c⟩
          · obtain ⟨x1, x2⟩ := x10
            rcases x2 with x2 | x2
            · exact ⟨x2 _, .inl x2⟩
            · refine ⟨?_, .inr x2⟩
              have c := x2.2
              · rcases x1 with (x1 | ⟨o, x1⟩) | x1
                · exact .inl (.inl (fin _ _ x1 c))
                · exact .inl (.inr ⟨o, fin _ _ x1 c⟩)
                · exact .inr x1
    · have e : at_ = xs.length := by have := of_decide_eq_false hb; omega
      rw [e, List.drop_length] at hcs
      rw [calls_nil hcs] at hfo
      have hfo' : found = PyWrsctd.answers xs := by
        rw [← hfo]
        show found = found ++ []
        rw [List.append_nil]
      exact s_ret (v := .ref fp) (ev_var rfl) fun H5 e5 => k H5 fp (by rw [← hfo']; exact e5 _ _ (e4 _ _ hf3))
theorem all_answers (T : ∃ A : Adr, Txt K mg A) {fa : Addr} (hfa : mg "answers" = some (.ref fa)) : ∃ fd : FuncData, (∀ (s : Shared) (us : List Value), us.length = (["calls"] : List Str).length → BindsTo s fd ⟨us, []⟩ ((["calls"] : List Str).zip us)) ∧
    ∀ base : Heap, K.In base → base.Ns mainGlobals mg → FnOk P w K mg base CX0 9 fa fd ["calls"] (sp_answers K) := by
  obtain ⟨A, T⟩ := T
  have e := hfa.symm.trans T.ganswers
  cases e
  obtain ⟨fd, F, b⟩ := T.danswers.ex
  refine ⟨fd, fun s us hu => ?_, fun base _ _ => fn_answers T F⟩
  obtain ⟨oc, od, kV, doc, pm, an, cdv, ct, osl, rfl, _, _⟩ := F.ex
  exact match us, hu with | [_], _ => .of_eq rfl
end
end Bd
open PySem PySem.W PyProof.Rows
set_option maxRecDepth 100000 in
set_option maxHeartbeats 0 in
theorem PySem.Challenge.cw_bandays_s01_answers_holds : PySem.Challenge.rw_bandays_s01_answers.Holds := by
  w_on; k_headS; (case hw => exact ⟨[.list [.int 22]], by decide +kernel, by decide +kernel⟩)
  k_fillS
  refine L2.walk_specK (r := PySem.Challenge.rw_bandays_s01_answers) (k := 9) (CX := L2.CX0) (ps := ["calls"]) (sp := Bd.sp_answers) (by decide +kernel) rfl rfl ⟨rfl, by decide, by decide⟩ (fun w h Y => PySem.W.kIn_of Y) ?F ?S (fun _ _ _ _ z => z)
  case F =>
    intro w mg fa h Y KX G hmg
    have T : ∃ A : Bd.Adr, Bd.TxtIn KX mg A := by
      refine' ⟨_, Bd.txt_mk KX G ?aC_Amendment ?pg_Amendment ?hd_Amendment ?po_Amendment ?sa_Amendment ?mk_Amendment ?kc_Amendment ?n_Amendment_number ?n_Amendment_known ?n_Amendment_kind ?n_Amendment_substances ?n_Amendment_limit ?n_Amendment_days ?n_Amendment_corrections ?n_Amendment_withdrawn ?aC_Goods ?pg_Goods ?hd_Goods ?po_Goods ?sa_Goods ?mk_Goods ?kc_Goods ?n_Goods_kind ?n_Goods_new ?n_Goods_contents ?aC_Batch ?pg_Batch ?hd_Batch ?po_Batch ?sa_Batch ?mk_Batch ?kc_Batch ?n_Batch_goods ?n_Batch_made ?aC_Law ?pg_Law ?hd_Law ?po_Law ?sa_Law ?mk_Law ?kc_Law ?n_Law_amendments ?aC_Refused ?xL ?sa ?ga ?gg ?n_Refused_number ?aC_Desk ?pg_Desk ?hd_Desk ?po_Desk ?sa_Desk ?mk_Desk ?kc_Desk ?n_Desk_law ?n_Desk_goods ?n_Desk_batches ?a_AmendmentI ?i_AmendmentI ?l_AmendmentI ?c_AmendmentI ?k_AmendmentI ?a_Amendment_is_repeal ?i_Amendment_is_repeal ?l_Amendment_is_repeal ?c_Amendment_is_repeal ?k_Amendment_is_repeal ?a_Amendment_is_void ?i_Amendment_is_void ?l_Amendment_is_void ?c_Amendment_is_void ?k_Amendment_is_void ?a_Amendment_is_known ?i_Amendment_is_known ?l_Amendment_is_known ?c_Amendment_is_known ?k_Amendment_is_known ?a_Amendment_limit_on ?i_Amendment_limit_on ?l_Amendment_limit_on ?c_Amendment_limit_on ?k_Amendment_limit_on ?a_Amendment_binds ?i_Amendment_binds ?l_Amendment_binds ?c_Amendment_binds ?k_Amendment_binds ?a_Amendment_matter ?i_Amendment_matter ?l_Amendment_matter ?c_Amendment_matter ?k_Amendment_matter ?a_GoodsI ?i_GoodsI ?l_GoodsI ?c_GoodsI ?k_GoodsI ?a_Goods_together ?i_Goods_together ?l_Goods_together ?c_Goods_together ?k_Goods_together ?a_BatchI ?i_BatchI ?l_BatchI ?c_BatchI ?k_BatchI ?a_LawI ?i_LawI ?l_LawI ?c_LawI ?k_LawI ?a_Law_way ?i_Law_way ?l_Law_way ?c_Law_way ?k_Law_way ?a_Law_breach ?i_Law_breach ?l_Law_breach ?c_Law_breach ?k_Law_breach ?a_Law_selling_days ?i_Law_selling_days ?l_Law_selling_days ?c_Law_selling_days ?k_Law_selling_days ?a_Law_making_days ?i_Law_making_days ?l_Law_making_days ?c_Law_making_days ?k_Law_making_days ?a_Law_learning_days ?i_Law_learning_days ?l_Law_learning_days ?c_Law_learning_days ?k_Law_learning_days ?a_Law_selling ?i_Law_selling ?l_Law_selling ?c_Law_selling ?k_Law_selling ?a_Law_making ?i_Law_making ?l_Law_making ?c_Law_making ?k_Law_making ?a_Law_learning ?i_Law_learning ?l_Law_learning ?c_Law_learning ?k_Law_learning ?a_RefusedI ?i_RefusedI ?l_RefusedI ?c_RefusedI ?k_RefusedI ?a_DeskI ?i_DeskI ?l_DeskI ?c_DeskI ?k_DeskI ?a_Desk_amendment ?i_Desk_amendment ?l_Desk_amendment ?c_Desk_amendment ?k_Desk_amendment ?a_Desk_own_goods ?i_Desk_own_goods ?l_Desk_own_goods ?c_Desk_own_goods ?k_Desk_own_goods ?a_Desk_batch ?i_Desk_batch ?l_Desk_batch ?c_Desk_batch ?k_Desk_batch ?a_ruling ?l_ruling ?c_ruling ?k_ruling ?a_turns_from ?l_turns_from ?c_turns_from ?k_turns_from ?a_stretches ?l_stretches ?c_stretches ?k_stretches ?a_need ?l_need ?c_need ?k_need ?a_are_days ?l_are_days ?c_are_days ?k_are_days ?a_substances ?l_substances ?c_substances ?k_substances ?a_amend ?l_amend ?c_amend ?k_amend ?a_correct ?l_correct ?c_correct ?k_correct ?a_withdraw ?l_withdraw ?c_withdraw ?k_withdraw ?a_put_goods ?l_put_goods ?c_put_goods ?k_put_goods ?a_drop ?l_drop ?c_drop ?k_drop ?a_make ?l_make ?c_make ?k_make ?a_sell ?l_sell ?c_sell ?k_sell ?a_amendment_told ?l_amendment_told ?c_amendment_told ?k_amendment_told ?a_law_told ?l_law_told ?c_law_told ?k_law_told ?a_asked_goods ?l_asked_goods ?c_asked_goods ?k_asked_goods ?a_because ?l_because ?c_because ?k_because ?a_last_told ?l_last_told ?c_last_told ?k_last_told ?a_next_told ?l_next_told ?c_next_told ?k_next_told ?a_of_goods ?l_of_goods ?c_of_goods ?k_of_goods ?a_stands ?l_stands ?c_stands ?k_stands ?a_fallen ?l_fallen ?c_fallen ?k_fallen ?a_left ?l_left ?c_left ?k_left ?a_latest ?l_latest ?c_latest ?k_latest ?a_told ?l_told ?c_told ?k_told ?a_of_changes ?l_of_changes ?c_of_changes ?k_of_changes ?a_done ?l_done ?c_done ?k_done ?a_answer_of ?l_answer_of ?c_answer_of ?k_answer_of ?a_answers ?l_answers ?c_answers ?k_answers ?t1 ?kC ?eC ?tC ?hC ?iC ?sC ?z_LAST_DAY ?z_MOST_AMENDMENTS ?z_MOST_CONTENT ?z_MOST_CORRECTIONS ?z_NUMBERS ?o_NUMBERS ?q_NUMBERS ?z_LISTED ?o_LISTED ?q_LISTED ?z_len ?z_set ?z_all ?z_any ?z_sum ?z_sorted ?z_list ?z_tuple ?z_max ?z_range ?z_enumerate⟩
      (case aC_Amendment => k_is)
      (case pg_Amendment => k_is)
      (case hd_Amendment => k_is)
      (case po_Amendment => k_is)
      (case sa_Amendment => k_is)
      (case mk_Amendment => k_is)
      (case kc_Amendment => k_is)
      (case n_Amendment_number => k_is)
      (case n_Amendment_known => k_is)
      (case n_Amendment_kind => k_is)
      (case n_Amendment_substances => k_is)
      (case n_Amendment_limit => k_is)
      (case n_Amendment_days => k_is)
      (case n_Amendment_corrections => k_is)
      (case n_Amendment_withdrawn => k_is)
      (case aC_Goods => k_is)
      (case pg_Goods => k_is)
      (case hd_Goods => k_is)
      (case po_Goods => k_is)
      (case sa_Goods => k_is)
      (case mk_Goods => k_is)
      (case kc_Goods => k_is)
      (case n_Goods_kind => k_is)
      (case n_Goods_new => k_is)
      (case n_Goods_contents => k_is)
      (case aC_Batch => k_is)
      (case pg_Batch => k_is)
      (case hd_Batch => k_is)
      (case po_Batch => k_is)
      (case sa_Batch => k_is)
      (case mk_Batch => k_is)
      (case kc_Batch => k_is)
      (case n_Batch_goods => k_is)
      (case n_Batch_made => k_is)
      (case aC_Law => k_is)
      (case pg_Law => k_is)
      (case hd_Law => k_is)
      (case po_Law => k_is)
      (case sa_Law => k_is)
      (case mk_Law => k_is)
      (case kc_Law => k_is)
      (case n_Law_amendments => k_is)
      (case aC_Refused => k_is)
      (case xL => k_is)
      (case sa => k_is)
      (case ga => k_is)
      (case gg => k_is)
      (case n_Refused_number => k_is)
      (case aC_Desk => k_is)
      (case pg_Desk => k_is)
      (case hd_Desk => k_is)
      (case po_Desk => k_is)
      (case sa_Desk => k_is)
      (case mk_Desk => k_is)
      (case kc_Desk => k_is)
      (case n_Desk_law => k_is)
      (case n_Desk_goods => k_is)
      (case n_Desk_batches => k_is)
      (case a_AmendmentI => k_is)
      (case i_AmendmentI => k_is)
      (case l_AmendmentI => k_is)
      (case c_AmendmentI => k_is)
      (case k_AmendmentI => k_is)
      (case a_Amendment_is_repeal => k_is)
      (case i_Amendment_is_repeal => k_is)
      (case l_Amendment_is_repeal => k_is)
      (case c_Amendment_is_repeal => k_is)
      (case k_Amendment_is_repeal => k_is)
      (case a_Amendment_is_void => k_is)
      (case i_Amendment_is_void => k_is)
      (case l_Amendment_is_void => k_is)
      (case c_Amendment_is_void => k_is)
      (case k_Amendment_is_void => k_is)
      (case a_Amendment_is_known => k_is)
      (case i_Amendment_is_known => k_is)
      (case l_Amendment_is_known => k_is)
      (case c_Amendment_is_known => k_is)
      (case k_Amendment_is_known => k_is)
      (case a_Amendment_limit_on => k_is)
      (case i_Amendment_limit_on => k_is)
      (case l_Amendment_limit_on => k_is)
      (case c_Amendment_limit_on => k_is)
      (case k_Amendment_limit_on => k_is)
      (case a_Amendment_binds => k_is)
      (case i_Amendment_binds => k_is)
      (case l_Amendment_binds => k_is)
      (case c_Amendment_binds => k_is)
      (case k_Amendment_binds => k_is)
      (case a_Amendment_matter => k_is)
      (case i_Amendment_matter => k_is)
      (case l_Amendment_matter => k_is)
      (case c_Amendment_matter => k_is)
      (case k_Amendment_matter => k_is)
      (case a_GoodsI => k_is)
      (case i_GoodsI => k_is)
      (case l_GoodsI => k_is)
      (case c_GoodsI => k_is)
      (case k_GoodsI => k_is)
      (case a_Goods_together => k_is)
      (case i_Goods_together => k_is)
      (case l_Goods_together => k_is)
      (case c_Goods_together => k_is)
      (case k_Goods_together => k_is)
      (case a_BatchI => k_is)
      (case i_BatchI => k_is)
      (case l_BatchI => k_is)
      (case c_BatchI => k_is)
      (case k_BatchI => k_is)
      (case a_LawI => k_is)
      (case i_LawI => k_is)
      (case l_LawI => k_is)
      (case c_LawI => k_is)
      (case k_LawI => k_is)
      (case a_Law_way => k_is)
      (case i_Law_way => k_is)
      (case l_Law_way => k_is)
      (case c_Law_way => k_is)
      (case k_Law_way => k_is)
      (case a_Law_breach => k_is)
      (case i_Law_breach => k_is)
      (case l_Law_breach => k_is)
      (case c_Law_breach => k_is)
      (case k_Law_breach => k_is)
      (case a_Law_selling_days => k_is)
      (case i_Law_selling_days => k_is)
      (case l_Law_selling_days => k_is)
      (case c_Law_selling_days => k_is)
      (case k_Law_selling_days => k_is)
      (case a_Law_making_days => k_is)
      (case i_Law_making_days => k_is)
      (case l_Law_making_days => k_is)
      (case c_Law_making_days => k_is)
      (case k_Law_making_days => k_is)
      (case a_Law_learning_days => k_is)
      (case i_Law_learning_days => k_is)
      (case l_Law_learning_days => k_is)
      (case c_Law_learning_days => k_is)
      (case k_Law_learning_days => k_is)
      (case a_Law_selling => k_is)
      (case i_Law_selling => k_is)
      (case l_Law_selling => k_is)
      (case c_Law_selling => k_is)
      (case k_Law_selling => k_is)
      (case a_Law_making => k_is)
      (case i_Law_making => k_is)
      (case l_Law_making => k_is)
      (case c_Law_making => k_is)
      (case k_Law_making => k_is)
      (case a_Law_learning => k_is)
      (case i_Law_learning => k_is)
      (case l_Law_learning => k_is)
      (case c_Law_learning => k_is)
      (case k_Law_learning => k_is)
      (case a_RefusedI => k_is)
      (case i_RefusedI => k_is)
      (case l_RefusedI => k_is)
      (case c_RefusedI => k_is)
      (case k_RefusedI => k_is)
      (case a_DeskI => k_is)
      (case i_DeskI => k_is)
      (case l_DeskI => k_is)
      (case c_DeskI => k_is)
      (case k_DeskI => k_is)
      (case a_Desk_amendment => k_is)
      (case i_Desk_amendment => k_is)
      (case l_Desk_amendment => k_is)
      (case c_Desk_amendment => k_is)
      (case k_Desk_amendment => k_is)
      (case a_Desk_own_goods => k_is)
      (case i_Desk_own_goods => k_is)
      (case l_Desk_own_goods => k_is)
      (case c_Desk_own_goods => k_is)
      (case k_Desk_own_goods => k_is)
      (case a_Desk_batch => k_is)
      (case i_Desk_batch => k_is)
      (case l_Desk_batch => k_is)
      (case c_Desk_batch => k_is)
      (case k_Desk_batch => k_is)
      (case a_ruling => k_is)
      (case l_ruling => k_is)
      (case c_ruling => k_is)
      (case k_ruling => k_is)
      (case a_turns_from => k_is)
      (case l_turns_from => k_is)
      (case c_turns_from => k_is)
      (case k_turns_from => k_is)
      (case a_stretches => k_is)
      (case l_stretches => k_is)
      (case c_stretches => k_is)
      (case k_stretches => k_is)
      (case a_need => k_is)
      (case l_need => k_is)
      (case c_need => k_is)
      (case k_need => k_is)
      (case a_are_days => k_is)
      (case l_are_days => k_is)
      (case c_are_days => k_is)
      (case k_are_days => k_is)
      (case a_substances => k_is)
      (case l_substances => k_is)
      (case c_substances => k_is)
      (case k_substances => k_is)
      (case a_amend => k_is)
      (case l_amend => k_is)
      (case c_amend => k_is)
      (case k_amend => k_is)
      (case a_correct => k_is)
      (case l_correct => k_is)
      (case c_correct => k_is)
      (case k_correct => k_is)
      (case a_withdraw => k_is)
      (case l_withdraw => k_is)
      (case c_withdraw => k_is)
      (case k_withdraw => k_is)
      (case a_put_goods => k_is)
      (case l_put_goods => k_is)
      (case c_put_goods => k_is)
      (case k_put_goods => k_is)
      (case a_drop => k_is)
      (case l_drop => k_is)
      (case c_drop => k_is)
      (case k_drop => k_is)
      (case a_make => k_is)
      (case l_make => k_is)
      (case c_make => k_is)
      (case k_make => k_is)
      (case a_sell => k_is)
      (case l_sell => k_is)
      (case c_sell => k_is)
      (case k_sell => k_is)
      (case a_amendment_told => k_is)
      (case l_amendment_told => k_is)
      (case c_amendment_told => k_is)
      (case k_amendment_told => k_is)
      (case a_law_told => k_is)
      (case l_law_told => k_is)
      (case c_law_told => k_is)
      (case k_law_told => k_is)
      (case a_asked_goods => k_is)
      (case l_asked_goods => k_is)
      (case c_asked_goods => k_is)
      (case k_asked_goods => k_is)
      (case a_because => k_is)
      (case l_because => k_is)
      (case c_because => k_is)
      (case k_because => k_is)
      (case a_last_told => k_is)
      (case l_last_told => k_is)
      (case c_last_told => k_is)
      (case k_last_told => k_is)
      (case a_next_told => k_is)
      (case l_next_told => k_is)
      (case c_next_told => k_is)
      (case k_next_told => k_is)
      (case a_of_goods => k_is)
      (case l_of_goods => k_is)
      (case c_of_goods => k_is)
      (case k_of_goods => k_is)
      (case a_stands => k_is)
      (case l_stands => k_is)
      (case c_stands => k_is)
      (case k_stands => k_is)
      (case a_fallen => k_is)
      (case l_fallen => k_is)
      (case c_fallen => k_is)
      (case k_fallen => k_is)
      (case a_left => k_is)
      (case l_left => k_is)
      (case c_left => k_is)
      (case k_left => k_is)
      (case a_latest => k_is)
      (case l_latest => k_is)
      (case c_latest => k_is)
      (case k_latest => k_is)
      (case a_told => k_is)
      (case l_told => k_is)
      (case c_told => k_is)
      (case k_told => k_is)
      (case a_of_changes => k_is)
      (case l_of_changes => k_is)
      (case c_of_changes => k_is)
      (case k_of_changes => k_is)
      (case a_done => k_is)
      (case l_done => k_is)
      (case c_done => k_is)
      (case k_done => k_is)
      (case a_answer_of => k_is)
      (case l_answer_of => k_is)
      (case c_answer_of => k_is)
      (case k_answer_of => k_is)
      (case a_answers => k_is)
      (case l_answers => k_is)
      (case c_answers => k_is)
      (case k_answers => k_is)
      (case t1 => k_is)
      (case kC => k_is)
      (case eC => k_is)
      (case tC => k_is)
      (case hC => k_is)
      (case iC => k_is)
      (case sC => first | rfl | k_is)
      (case z_LAST_DAY => k_is)
      (case z_MOST_AMENDMENTS => k_is)
      (case z_MOST_CONTENT => k_is)
      (case z_MOST_CORRECTIONS => k_is)
      (case z_NUMBERS => k_is)
      (case o_NUMBERS => k_is)
      (case q_NUMBERS => exact ⟨rfl, rfl, _, _, rfl, by decide, .cons ⟨_, rfl⟩ (.cons ⟨_, rfl⟩ (.cons ⟨_, rfl⟩ (.cons ⟨_, rfl⟩ (.cons ⟨_, rfl⟩ (.cons ⟨_, rfl⟩ (.cons ⟨_, rfl⟩ (.cons ⟨_, rfl⟩ (.cons ⟨_, rfl⟩ (.cons ⟨_, rfl⟩ (.cons ⟨_, rfl⟩ (.cons ⟨_, rfl⟩ (.cons ⟨_, rfl⟩ (.cons ⟨_, rfl⟩ (.cons ⟨_, rfl⟩ (.cons ⟨_, rfl⟩ (.cons ⟨_, rfl⟩ (.cons ⟨_, rfl⟩ (.cons ⟨_, rfl⟩ (.cons ⟨_, rfl⟩ (.cons ⟨_, rfl⟩ (.cons ⟨_, rfl⟩ (.cons ⟨_, rfl⟩ (.nil)))))))))))))))))))))))⟩)
      (case z_LISTED => k_is)
      (case o_LISTED => k_is)
      (case q_LISTED => exact ⟨rfl, _, _, rfl, by decide, .cons ⟨_, rfl⟩ (.cons ⟨_, rfl⟩ (.cons ⟨_, rfl⟩ (.nil)))⟩)
      (case z_len => k_is)
      (case z_set => k_is)
      (case z_all => k_is)
      (case z_any => k_is)
      (case z_sum => k_is)
      (case z_sorted => k_is)
      (case z_list => k_is)
      (case z_tuple => k_is)
      (case z_max => k_is)
      (case z_range => k_is)
      (case z_enumerate => k_is)
    exact Bd.all_answers T hmg
  case S =>
    intro K H xs a hO hwi hask hx
    cases hx with
    | cons h1 h2 =>
      cases h2
      cases h1 with
      | lst hs ha =>
        have e := L2.ints_dw a.1 _ ha
        subst e
        exact ⟨_, a.1, rfl, hs, hask, fun H' p hp => .lst (L2.SqL.of hp) (L2.dw_ints _)⟩
