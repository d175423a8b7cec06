import PyProof.Rows.All
import Wide.All
import OpenK.AllK
import Wide.FinOn
import Open.SpecLaws
import KE.OsGo
import HandS.ForSpec
import HandS.Comp
import HandS.Evl
import PySem.Challenge.RW_homereports_s01_answers
set_option Elab.async false
set_option linter.all false
set_option maxRecDepth 100000
set_option maxHeartbeats 4000000
/-! homereports.desk.answers is PyKm544.answers: the mirror over plain lists (first), then each def's walk, then the head. -/
/-! Hr1: the mirror of the program over plain lists, and that it is the specification. No program in sight. -/
namespace Hr

/-! ### reports -/
def row (rows : List (List Nat)) (i : Nat) : List Nat := rows.getD i []
def cfAt (one other : List Nat) (a : Nat) : Bool := decide (0 < one.getD a 0) && (decide (0 < other.getD a 0) && !decide (one.getD a 0 = other.getD a 0))
def conflicts (one other : List Nat) : List Nat := (List.range one.length).filter (cfAt one other)
def unlike (one other : List Nat) : Bool := decide (0 < (conflicts one other).length)
def merge1 (found report : List Nat) : List Nat := (List.range found.length).map fun a => if found.getD a 0 = 0 then report.getD a 0 else found.getD a 0
def combined (rows : List (List Nat)) : List Nat := rows.foldl merge1 (row rows 0)
def changed (rows : List (List Nat)) (number att code : Nat) : List (List Nat) := rows.set number ((row rows number).set att code)
def pairsFrom (rows : List (List Nat)) (one k : Nat) : List (Nat × Nat) := ((List.range k).filter fun i => !unlike (row rows one) (row rows (one + 1 + i))).map fun i => (one, one + 1 + i)
def undecidedTo (rows : List (List Nat)) (n : Nat) : List (Nat × Nat) := (List.range n).flatMap fun one => pairsFrom rows one (rows.length - (one + 1))
def undecided (rows : List (List Nat)) : List (Nat × Nat) := undecidedTo rows rows.length
def members (number many : Nat) : List Nat := (List.range many).filter fun p => number.testBit p

/-! ### groupings -/
def households (g : List Nat) : Nat := g.foldl (fun m x => max m (x + 1)) 0
def canTake (rows : List (List Nat)) (g report : List Nat) (h : Nat) : Bool := (List.range g.length).all fun p => !(decide (g.getD p 0 = h) && unlike (row rows p) report)
def longer1 (rows : List (List Nat)) (most : Nat) (report g : List Nat) : List (List Nat) := ((List.range (min most (households g + 1))).filter (canTake rows g report)).map fun h => g ++ [h]
def longer (rows : List (List Nat)) (most : Nat) (gs : List (List Nat)) (report : List Nat) : List (List Nat) := gs.flatMap (longer1 rows most report)
def groupings (rows : List (List Nat)) (most : Nat) : List (List Nat) := rows.foldl (longer rows most) [[]]
def minH (rows : List (List Nat)) : Nat := ((List.range (rows.length + 1)).find? fun k => groupings rows k != []).getD 0
def firstG (rows : List (List Nat)) : List Nat := (groupings rows (minH rows)).headD []
def places (rows : List (List Nat)) (household : Nat) : List Nat := (List.range rows.length).filter fun p => decide ((firstG rows).getD p 0 = household)
def ofHousehold (rows : List (List Nat)) (household : Nat) : List (List Nat) := (places rows household).map (row rows)

/-! ### sets -/
def isDistinct (rows : List (List Nat)) (chosen : List Nat) : Bool := chosen.all fun one => chosen.all fun other => !(decide (one < other) && !unlike (row rows one) (row rows other))
def largestStep (rows : List (List Nat)) (best : Nat × Nat) (number : Nat) : Nat × Nat :=
  if decide (best.1 < (members number rows.length).length) && isDistinct rows (members number rows.length) then ((members number rows.length).length, number) else best
def largest (rows : List (List Nat)) : Nat × Nat := (List.range (2 ^ rows.length)).foldl (largestStep rows) (0, 0)
def sufAt (one other chosen : List Nat) : Bool := !(decide (0 < (conflicts one other).length) && decide (((conflicts one other).filter fun a => decide (a ∈ chosen)).length = 0))
def isSufficient (rows : List (List Nat)) (chosen : List Nat) : Bool := (List.range rows.length).all fun one => (List.range (rows.length - (one + 1))).all fun i => sufAt (row rows one) (row rows (one + 1 + i)) chosen
def smallestStep (rows : List (List Nat)) (many : Nat) (best : Nat × Nat) (number : Nat) : Nat × Nat :=
  if decide ((members number many).length < best.1) && isSufficient rows (members number many) then ((members number many).length, number) else best
def smallest (rows : List (List Nat)) (many : Nat) : Nat × Nat := (List.range (2 ^ many)).foldl (smallestStep rows many) (many, 2 ^ many - 1)
def others (many att : Nat) : List Nat := (List.range many).filter fun o => !decide (o = att)
def essential (rows : List (List Nat)) (many : Nat) : List Nat := (List.range many).filter fun a => !isSufficient rows (others many a)
def known (rows : List (List Nat)) : Nat := rows.foldl (fun t r => t + (r.filter fun c => decide (0 < c)).length) 0
def worst (rows : List (List Nat)) (report att : Nat) : Nat := (List.range 4).foldl (fun m v => max m (undecided (changed rows report att (v + 1))).length) 0
def duplicates (rows : List (List Nat)) (report : Nat) : List Nat := (List.range rows.length).filter fun other => !decide (other = report) && !unlike (row rows report) (row rows other)

/-! ## The mirror is the specification -/
open Km544 (Registry)
def Wf (r : Registry) : Prop := ∀ x ∈ r.reports, x.length = r.attributeCount
theorem row_len {r : Registry} (w : Wf r) {i : Nat} (h : i < r.reports.length) : (row r.reports i).length = r.attributeCount := by
  apply w
  unfold row
  rw [List.getD_eq_getElem?_getD, List.getElem?_eq_getElem h]
  exact List.getElem_mem h
theorem cf_is (r : Registry) (i j a : Nat) : Km544.conflictsAt r i j a = cfAt (row r.reports i) (row r.reports j) a := by
  unfold Km544.conflictsAt Km544.code cfAt row
  rw [Bool.eq_iff_iff]
  simp only [Bool.and_eq_true, bne_iff_ne, decide_eq_true_eq, Bool.not_eq_true', decide_eq_false_iff_not, Nat.pos_iff_ne_zero]
theorem cf_self (x : List Nat) (a : Nat) : cfAt x x a = false := by
  unfold cfAt
  simp
theorem unlike_iff (one other : List Nat) : unlike one other = (List.range one.length).any (cfAt one other) := by
  unfold unlike conflicts
  rw [Bool.eq_iff_iff]
  simp only [decide_eq_true_eq, List.any_eq_true, List.length_pos_iff_exists_mem, List.mem_filter]
theorem different_is {r : Registry} (w : Wf r) {i j : Nat} (hi : i < r.reports.length) : Km544.areDifferent r i j = unlike (row r.reports i) (row r.reports j) := by
  unfold Km544.areDifferent
  rw [unlike_iff, row_len w hi]
  have e : (fun a => Km544.conflictsAt r i j a) = cfAt (row r.reports i) (row r.reports j) := funext (cf_is r i j)
  rw [e]
  by_cases h : i = j
  · subst h
    have e2 : ((List.range r.attributeCount).any (cfAt (row r.reports i) (row r.reports i))) = false := by
      rw [List.any_eq_false]
      intro a _
      rw [cf_self]
      exact Bool.false_ne_true
    rw [e2, Bool.and_false]
  · have e3 : (i != j) = true := bne_iff_ne.mpr h
    rw [e3, Bool.true_and]
theorem cf_symm (x y : List Nat) (a : Nat) : cfAt x y a = cfAt y x a := by
  unfold cfAt
  rw [Bool.eq_iff_iff]
  simp only [Bool.and_eq_true, decide_eq_true_eq, Bool.not_eq_true', decide_eq_false_iff_not]
  constructor
  · rintro ⟨h1, h2, h3⟩
    exact ⟨h2, h1, fun e => h3 e.symm⟩
  · rintro ⟨h1, h2, h3⟩
    exact ⟨h2, h1, fun e => h3 e.symm⟩
theorem unlike_symm {x y : List Nat} (h : x.length = y.length) : unlike x y = unlike y x := by
  rw [unlike_iff, unlike_iff, h]
  congr 1
  exact funext (cf_symm x y)
theorem conflicts_is {r : Registry} (w : Wf r) {i j : Nat} (hi : i < r.reports.length) : (List.range r.attributeCount).filter (fun a => Km544.conflictsAt r i j a) = conflicts (row r.reports i) (row r.reports j) := by
  unfold conflicts
  rw [row_len w hi]
  congr 1
  exact funext (cf_is r i j)
theorem changed_is (r : Registry) (i a c : Nat) : (Km544.withCode r i a c).reports = changed r.reports i a c := rfl
theorem mem_set {α : Type} {l : List α} {i : Nat} {x y : α} (h : y ∈ l.set i x) : y ∈ l ∨ y = x := List.mem_or_eq_of_mem_set h
theorem wf_with {r : Registry} (w : Wf r) {i a c : Nat} (hi : i < r.reports.length) : Wf (Km544.withCode r i a c) := by
  intro x hx
  show x.length = r.attributeCount
  rcases mem_set (show x ∈ r.reports.set i _ from hx) with h | h
  · exact w x h
  · rw [h, List.length_set]
    exact row_len w hi

/-! ### pairs -/
theorem filter_lt_range (n i : Nat) : (List.range n).filter (fun j => decide (i < j)) = (List.range (n - (i + 1))).map fun k => i + 1 + k := by
  induction n with
  | zero => simp
  | succ n ih =>
    rw [List.range_succ, List.filter_append, ih]
    by_cases h : i < n
    · have e : n + 1 - (i + 1) = (n - (i + 1)) + 1 := by omega
      rw [e, List.range_succ, List.map_append]
      congr 1
      simp only [List.filter_cons, decide_eq_true h, if_true, List.filter_nil, List.map_cons, List.map_nil]
      congr 1
      omega
    · have e : n + 1 - (i + 1) = n - (i + 1) := by omega
      rw [e]
      simp only [List.filter_cons, decide_eq_false h, List.filter_nil]
      simp
theorem filter_flatMap {α β : Type} (p : β → Bool) (f : α → List β) : ∀ l : List α, (l.flatMap f).filter p = l.flatMap fun x => (f x).filter p
  | [] => rfl
  | x :: l => by rw [List.flatMap_cons, List.filter_append, filter_flatMap p f l, List.flatMap_cons]
theorem flatMap_congr {α β : Type} {f g : α → List β} : ∀ {l : List α}, (∀ x ∈ l, f x = g x) → l.flatMap f = l.flatMap g
  | [], _ => rfl
  | x :: l, h => by rw [List.flatMap_cons, List.flatMap_cons, h x List.mem_cons_self, flatMap_congr fun y hy => h y (List.mem_cons_of_mem _ hy)]
theorem all_congr {α : Type} {p q : α → Bool} : ∀ {l : List α}, (∀ x ∈ l, p x = q x) → l.all p = l.all q
  | [], _ => rfl
  | x :: l, h => by rw [List.all_cons, List.all_cons, h x List.mem_cons_self, all_congr fun y hy => h y (List.mem_cons_of_mem _ hy)]
theorem filter_congr {α : Type} {p q : α → Bool} : ∀ {l : List α}, (∀ x ∈ l, p x = q x) → l.filter p = l.filter q := fun {l} h => List.filter_congr h
theorem undecided_is {r : Registry} (w : Wf r) : Km544.undecidedPairs r = undecided r.reports := by
  unfold Km544.undecidedPairs Km544.allPairs undecided undecidedTo Km544.reportCount
  rw [filter_flatMap]
  apply flatMap_congr
  intro i hi
  have hi' : i < r.reports.length := List.mem_range.mp hi
  rw [filter_lt_range, List.map_map, List.filter_map]
  unfold pairsFrom
  show _ = List.map (fun k => (i, i + 1 + k)) _
  congr 1
  apply filter_congr
  intro k _
  show (!Km544.areDifferent r i (i + 1 + k)) = _
  rw [different_is w hi']
/-! ### groupings -/
theorem longer_append (rows : List (List Nat)) (most : Nat) (report : List Nat) (a b : List (List Nat)) : longer rows most (a ++ b) report = longer rows most a report ++ longer rows most b report := List.flatMap_append
theorem fold_longer_append (rows : List (List Nat)) (most : Nat) : ∀ (l : List (List Nat)) (a b : List (List Nat)), l.foldl (longer rows most) (a ++ b) = l.foldl (longer rows most) a ++ l.foldl (longer rows most) b
  | [], _, _ => rfl
  | x :: l, a, b => by rw [List.foldl_cons, List.foldl_cons, List.foldl_cons, longer_append, fold_longer_append rows most l]
theorem fold_longer_nil (rows : List (List Nat)) (most : Nat) : ∀ l : List (List Nat), l.foldl (longer rows most) [] = []
  | [] => rfl
  | x :: l => by
    rw [List.foldl_cons]
    exact fold_longer_nil rows most l
theorem fold_longer_flat (rows : List (List Nat)) (most : Nat) (l : List (List Nat)) : ∀ gs : List (List Nat), l.foldl (longer rows most) gs = gs.flatMap fun g => l.foldl (longer rows most) [g]
  | [] => fold_longer_nil rows most l
  | g :: gs => by
    have e : g :: gs = [g] ++ gs := rfl
    rw [e, fold_longer_append, fold_longer_flat rows most l gs, List.flatMap_append]
    rw [show List.flatMap (fun g => l.foldl (longer rows most) [g]) [g] = l.foldl (longer rows most) [g] from by simp]
theorem households_snoc (g : List Nat) (h : Nat) : households (g ++ [h]) = max (households g) (h + 1) := by
  unfold households
  rw [List.foldl_append]
  rfl
theorem drop_cons {rows : List (List Nat)} {i : Nat} (h : i < rows.length) : rows.drop i = row rows i :: rows.drop (i + 1) := by
  unfold row
  rw [List.getD_eq_getElem?_getD, List.getElem?_eq_getElem h]
  exact List.drop_eq_getElem_cons h
theorem groupingsFrom_is {r : Registry} (w : Wf r) (k : Nat) : ∀ (fuel i : Nat) (rev : List Nat), i + fuel = r.reports.length → rev.length = i →
    Km544.groupingsFrom r k fuel i rev (households rev.reverse) = (r.reports.drop i).foldl (longer r.reports k) [rev.reverse]
  | 0, i, rev, h, _ => by
    rw [List.drop_eq_nil_of_le (by omega)]
    rfl
  | fuel + 1, i, rev, h, hl => by
    have hi : i < r.reports.length := by omega
    rw [drop_cons hi, List.foldl_cons]
    unfold Km544.groupingsFrom
    show _ = (r.reports.drop (i + 1)).foldl (longer r.reports k) (longer r.reports k [rev.reverse] (row r.reports i))
    rw [fold_longer_flat]
    unfold longer
    rw [show List.flatMap (longer1 r.reports k (row r.reports i)) [rev.reverse] = longer1 r.reports k (row r.reports i) rev.reverse from by simp]
    unfold longer1
    generalize hL : List.range (min k (households rev.reverse + 1)) = L
    clear hL
    have hp : ∀ hh : Nat, ((List.range i).all fun j => !(Km544.areDifferent r j i) || rev.getD (i - 1 - j) 0 != hh) = canTake r.reports rev.reverse (row r.reports i) hh := by
      intro hh
      unfold canTake
      rw [List.length_reverse, hl]
      apply all_congr
      intro j hj
      have hj' : j < i := List.mem_range.mp hj
      rw [different_is w (by omega)]
      have e : rev.reverse.getD j 0 = rev.getD (i - 1 - j) 0 := by
        rw [List.getD_eq_getElem?_getD, List.getD_eq_getElem?_getD, List.getElem?_reverse (by omega), hl]
      rw [e]
      cases unlike (row r.reports j) (row r.reports i) with
      | true =>
        rw [Bool.and_true]
        show (rev.getD (i - 1 - j) 0 != hh) = _
        rw [bne, Bool.beq_eq_decide_eq]
      | false => rw [Bool.and_false]; rfl
    induction L with
    | nil => rfl
    | cons hh L ih =>
      rw [List.flatMap_cons, ih, List.filter_cons, hp hh]
      by_cases c : canTake r.reports rev.reverse (row r.reports i) hh = true
      · rw [if_pos c, if_pos c, List.map_cons, List.flatMap_cons]
        congr 1
        have e2 : households (hh :: rev).reverse = max (households rev.reverse) (hh + 1) := by
          rw [List.reverse_cons]
          exact households_snoc _ _
        rw [← e2, groupingsFrom_is w k fuel (i + 1) (hh :: rev) (by omega) (by rw [List.length_cons, hl]), List.reverse_cons]
        rfl
      · rw [if_neg c, if_neg c]
        rfl
theorem groupings_is {r : Registry} (w : Wf r) (k : Nat) : Km544.groupings r k = groupings r.reports k := by
  have e := groupingsFrom_is w k r.reports.length 0 [] (by omega) rfl
  exact e
theorem minH_is {r : Registry} (w : Wf r) : Km544.minHouseholds r = minH r.reports := by
  unfold Km544.minHouseholds minH Km544.reportCount
  rw [show (fun k => Km544.groupings r k != []) = fun k => groupings r.reports k != [] from funext fun k => by rw [groupings_is w]]
theorem firstG_is {r : Registry} (w : Wf r) : Km544.firstGrouping r = firstG r.reports := by
  unfold Km544.firstGrouping firstG
  rw [minH_is w, groupings_is w]
end Hr
namespace Hr
open Km544 (Registry)
/-! ### groupings, step by step -/
def groupTo (rows : List (List Nat)) (most i : Nat) : List (List Nat) := (rows.take i).foldl (longer rows most) [[]]
theorem take_succ_row {rows : List (List Nat)} {i : Nat} (h : i < rows.length) : rows.take (i + 1) = rows.take i ++ [row rows i] := by
  unfold row
  rw [List.getD_eq_getElem?_getD, List.getElem?_eq_getElem h, List.take_add_one, List.getElem?_eq_getElem h]
  rfl
theorem groupTo_succ {rows : List (List Nat)} {most i : Nat} (h : i < rows.length) : groupTo rows most (i + 1) = longer rows most (groupTo rows most i) (row rows i) := by
  unfold groupTo
  rw [take_succ_row h, List.foldl_append]
  rfl
theorem groupTo_all (rows : List (List Nat)) (most : Nat) : groupTo rows most rows.length = groupings rows most := by
  unfold groupTo groupings
  rw [List.take_length]
theorem mem_longer1 {rows : List (List Nat)} {most : Nat} {g r g' : List Nat} (h : g' ∈ longer1 rows most r g) : ∃ x, x < min most (households g + 1) ∧ canTake rows g r x = true ∧ g' = g ++ [x] := by
  unfold longer1 at h
  obtain ⟨x, hx, e⟩ := List.mem_map.mp h
  obtain ⟨h1, h2⟩ := List.mem_filter.mp hx
  exact ⟨x, List.mem_range.mp h1, h2, e.symm⟩
theorem mem_longer {rows gs : List (List Nat)} {most : Nat} {r g' : List Nat} (h : g' ∈ longer rows most gs r) : ∃ g, g ∈ gs ∧ ∃ x, x < min most (households g + 1) ∧ canTake rows g r x = true ∧ g' = g ++ [x] := by
  obtain ⟨g, hg, h⟩ := List.mem_flatMap.mp h
  exact ⟨g, hg, mem_longer1 h⟩
theorem lt_households : ∀ (g : List Nat) (x : Nat), x ∈ g → x < households g := by
  have gen : ∀ (g : List Nat) (m : Nat), m ≤ g.foldl (fun m x => max m (x + 1)) m ∧ ∀ x ∈ g, x < g.foldl (fun m x => max m (x + 1)) m := by
    intro g
    induction g with
    | nil => intro m; exact ⟨Nat.le_refl _, fun x hx => by cases hx⟩
    | cons y g ih =>
      intro m
      obtain ⟨h1, h2⟩ := ih (max m (y + 1))
      refine ⟨Nat.le_trans (Nat.le_max_left _ _) h1, fun x hx => ?_⟩
      rw [List.foldl_cons]
      rcases List.mem_cons.mp hx with rfl | hx
      · exact Nat.lt_of_lt_of_le (Nat.lt_of_lt_of_le (Nat.lt_succ_self _) (Nat.le_max_right _ _)) h1
      · exact h2 x hx
  exact fun g x hx => (gen g 0).2 x hx
structure GOk (most i : Nat) (g : List Nat) : Prop where
  len : g.length = i
  most : households g ≤ most
  few : households g ≤ i
  all : ∀ h, h < households g → h ∈ g
theorem gok {rows : List (List Nat)} {most : Nat} : ∀ i, i ≤ rows.length → ∀ g ∈ groupTo rows most i, GOk most i g
  | 0, _ => fun g hg => by
    have e : g = [] := by
      have : g ∈ [[]] := hg
      exact List.mem_singleton.mp this
    subst e
    exact ⟨rfl, Nat.zero_le _, Nat.le_refl _, fun h hh => by cases hh⟩
  | i + 1, hi => fun g hg => by
    rw [groupTo_succ (by omega)] at hg
    obtain ⟨g0, h0, x, hx, _, e⟩ := mem_longer hg
    have o := gok i (by omega) g0 h0
    subst e
    have o1 := o.most
    have o2 := o.few
    have o3 := o.len
    refine ⟨by rw [List.length_append, o3]; rfl, by rw [households_snoc]; omega, by rw [households_snoc]; omega, fun h hh => ?_⟩
    rw [households_snoc] at hh
    by_cases c : h < households g0
    · exact List.mem_append_left _ (o.all h c)
    · have e : h = x := by omega
      subst e
      exact List.mem_append_right _ (List.mem_singleton.mpr rfl)
theorem canTake_new (rows : List (List Nat)) (g r : List Nat) : canTake rows g r (households g) = true := by
  unfold canTake
  rw [List.all_eq_true]
  intro p hp
  have hp' : p < g.length := List.mem_range.mp hp
  have e : decide (g.getD p 0 = households g) = false := by
    apply decide_eq_false
    intro e
    have := lt_households g (g.getD p 0) (by
      rw [List.getD_eq_getElem?_getD, List.getElem?_eq_getElem hp']
      exact List.getElem_mem hp')
    omega
  rw [e]
  rfl
theorem groupTo_ne {rows : List (List Nat)} {most : Nat} : ∀ i, i ≤ rows.length → i ≤ most → groupTo rows most i ≠ []
  | 0, _, _ => by
    intro e
    cases (show ([[]] : List (List Nat)) = [] from e)
  | i + 1, hi, hm => by
    rw [groupTo_succ (by omega)]
    have ih := groupTo_ne (rows := rows) (most := most) i (by omega) (by omega)
    have ho := gok (rows := rows) (most := most) i (by omega)
    revert ih ho
    generalize groupTo rows most i = gs
    intro ih ho
    cases gs with
    | nil => exact absurd rfl ih
    | cons g gs =>
      have o := (ho g List.mem_cons_self).few
      intro e
      have hm : g ++ [households g] ∈ longer rows most (g :: gs) (row rows i) := by
        apply List.mem_flatMap.mpr
        refine ⟨g, List.mem_cons_self, ?_⟩
        unfold longer1
        apply List.mem_map.mpr
        exact ⟨households g, List.mem_filter.mpr ⟨List.mem_range.mpr (by omega), canTake_new _ _ _⟩, rfl⟩
      rw [e] at hm
      cases hm
theorem longer1_len (rows : List (List Nat)) (most : Nat) (r g : List Nat) : (longer1 rows most r g).length ≤ households g + 1 := by
  unfold longer1
  rw [List.length_map]
  have h := List.length_filter_le (canTake rows g r) (List.range (min most (households g + 1)))
  rw [List.length_range] at h
  omega
theorem longer_len (rows : List (List Nat)) (most : Nat) (r : List Nat) (b : Nat) : ∀ gs : List (List Nat), (∀ g ∈ gs, households g ≤ b) → (longer rows most gs r).length ≤ gs.length * (b + 1)
  | [], _ => by
    show 0 ≤ _
    omega
  | g :: gs, h => by
    have h1 := longer_len rows most r b gs fun x hx => h x (List.mem_cons_of_mem _ hx)
    have h2 := longer1_len rows most r g
    have h3 := h g List.mem_cons_self
    have e : longer rows most (g :: gs) r = longer1 rows most r g ++ longer rows most gs r := List.flatMap_cons
    rw [e, List.length_append, List.length_cons, Nat.add_mul, Nat.one_mul]
    omega
def cap : Nat → Nat
  | 0 => 1
  | i + 1 => cap i * (i + 1)
theorem groupTo_cap {rows : List (List Nat)} {most : Nat} : ∀ i, i ≤ rows.length → (groupTo rows most i).length ≤ cap i
  | 0, _ => Nat.le_refl _
  | i + 1, hi => by
    rw [groupTo_succ (by omega)]
    have h := longer_len rows most (row rows i) i (groupTo rows most i) fun g hg => (gok i (by omega) g hg).few
    exact Nat.le_trans h (Nat.mul_le_mul_right _ (groupTo_cap i (by omega)))
theorem cap_le : ∀ i, i < 8 → cap i ≤ 5040 := by decide
theorem groupTo_len {rows : List (List Nat)} {most i : Nat} (h : i ≤ rows.length) (h7 : rows.length ≤ 7) : (groupTo rows most i).length ≤ 5040 :=
  Nat.le_trans (groupTo_cap i h) (cap_le i (by omega))
theorem groupings_len {rows : List (List Nat)} {most : Nat} (h7 : rows.length ≤ 7) : (groupings rows most).length ≤ 5040 := by
  rw [← groupTo_all]
  exact groupTo_len (Nat.le_refl _) h7
/-! fewer households: the same list, filtered -/
theorem range_min_filter (a b c : Nat) : (List.range (min a (b + 1))).filter (fun h => decide (h < c)) = List.range (min (min a c) (b + 1)) := by
  have gen : ∀ n, (List.range n).filter (fun h => decide (h < c)) = List.range (min n c) := by
    intro n
    induction n with
    | zero => simp
    | succ n ih =>
      rw [List.range_succ, List.filter_append, ih]
      by_cases h : n < c
      · have e : min (n + 1) c = min n c + 1 := by omega
        rw [e, List.range_succ]
        have e2 : min n c = n := by omega
        rw [e2]
        simp [h]
      · have e : min (n + 1) c = min n c := by omega
        rw [e]
        simp [h]
  rw [gen]
  congr 1
  omega
theorem longer1_filter (rows : List (List Nat)) {k k' : Nat} (hk : k ≤ k') (r g : List Nat) : (longer1 rows k' r g).filter (fun g => decide (households g ≤ k)) = if households g ≤ k then longer1 rows k r g else [] := by
  unfold longer1
  rw [List.filter_map]
  by_cases c : households g ≤ k
  · rw [if_pos c]
    congr 1
    rw [List.filter_filter]
    have e : ∀ x ∈ List.range (min k' (households g + 1)), (((fun g => decide (households g ≤ k)) ∘ fun h => g ++ [h]) x && canTake rows g r x) = (canTake rows g r x && decide (x < k)) := by
      intro x _
      show (decide (households (g ++ [x]) ≤ k) && canTake rows g r x) = _
      rw [households_snoc, Bool.and_comm]
      congr 1
      apply decide_eq_decide.mpr
      omega
    rw [filter_congr e, ← List.filter_filter, range_min_filter]
    have e3 : min k' k = k := by omega
    rw [e3]
  · rw [if_neg c]
    apply List.map_eq_nil_iff.mpr
    apply List.filter_eq_nil_iff.mpr
    intro x _
    show ¬ decide (households (g ++ [x]) ≤ k) = true
    rw [households_snoc, decide_eq_true_eq]
    omega
theorem longer_filter (rows : List (List Nat)) {k k' : Nat} (hk : k ≤ k') (r : List Nat) : ∀ gs : List (List Nat), (longer rows k' gs r).filter (fun g => decide (households g ≤ k)) = longer rows k (gs.filter fun g => decide (households g ≤ k)) r
  | [] => rfl
  | g :: gs => by
    have e : longer rows k' (g :: gs) r = longer1 rows k' r g ++ longer rows k' gs r := List.flatMap_cons
    rw [e, List.filter_append, longer1_filter rows hk, longer_filter rows hk r gs, List.filter_cons]
    by_cases c : households g ≤ k
    · rw [if_pos c, if_pos (decide_eq_true c)]
      rfl
    · rw [if_neg c, if_neg (by rw [decide_eq_false c]; decide)]
      rfl
theorem groupTo_filter {rows : List (List Nat)} {k k' : Nat} (hk : k ≤ k') : ∀ i, i ≤ rows.length → groupTo rows k i = (groupTo rows k' i).filter fun g => decide (households g ≤ k)
  | 0, _ => by
    show [[]] = List.filter _ [[]]
    rfl
  | i + 1, hi => by
    rw [groupTo_succ (by omega), groupTo_succ (by omega), longer_filter rows hk, ← groupTo_filter hk i (by omega)]
theorem groupings_filter {rows : List (List Nat)} {k k' : Nat} (hk : k ≤ k') : groupings rows k = (groupings rows k').filter fun g => decide (households g ≤ k) := by
  have e := groupTo_filter (rows := rows) hk rows.length (Nat.le_refl _)
  rw [groupTo_all, groupTo_all] at e
  exact e
theorem find_range (p : Nat → Bool) : ∀ n k, k < n → p k = true → (∀ j, j < k → p j = false) → (List.range n).find? p = some k := by
  intro n
  induction n with
  | zero => intro k hk; omega
  | succ n ih =>
    intro k hk hp hj
    rw [List.range_succ, List.find?_append]
    by_cases c : k < n
    · rw [ih k c hp hj]
      rfl
    · have e : k = n := by omega
      subst e
      have e2 : (List.range k).find? p = none := by
        rw [List.find?_eq_none]
        intro x hx
        rw [hj x (List.mem_range.mp hx)]
        decide
      rw [e2]
      show (List.find? p [k]) = some k
      rw [List.find?_cons, hp]
/-- what the program finds is the first grouping -/
theorem first_is {rows pre post : List (List Nat)} {g : List Nat} {least : Nat} (e : groupings rows rows.length = pre ++ g :: post) (hg : households g = least) (hpre : ∀ x ∈ pre, households x ≠ least)
    (hall : ∀ x ∈ groupings rows rows.length, least ≤ households x) : minH rows = least ∧ firstG rows = g := by
  have hgm : g ∈ groupings rows rows.length := by
    rw [e]
    exact List.mem_append_right _ List.mem_cons_self
  have hle : least ≤ rows.length := by
    have := (gok (rows := rows) (most := rows.length) rows.length (Nat.le_refl _) g (by rw [groupTo_all]; exact hgm)).most
    omega
  have e1 : groupings rows least = g :: (post.filter fun x => decide (households x ≤ least)) := by
    rw [groupings_filter hle, e, List.filter_append, List.filter_cons, if_pos (by rw [hg]; exact decide_eq_true (Nat.le_refl _))]
    have e2 : pre.filter (fun x => decide (households x ≤ least)) = [] := by
      apply List.filter_eq_nil_iff.mpr
      intro x hx
      have h1 := hpre x hx
      have h2 := hall x (by rw [e]; exact List.mem_append_left _ hx)
      rw [decide_eq_true_eq]
      omega
    rw [e2]
    rfl
  have e3 : ∀ j, j < least → groupings rows j = [] := by
    intro j hj
    rw [groupings_filter (Nat.le_trans (Nat.le_of_lt hj) hle)]
    apply List.filter_eq_nil_iff.mpr
    intro x hx
    have h2 := hall x hx
    rw [decide_eq_true_eq]
    omega
  have hm : minH rows = least := by
    unfold minH
    rw [find_range (fun k => groupings rows k != []) (rows.length + 1) least (by omega) (by rw [e1]; rfl) (fun j hj => by rw [e3 j hj]; rfl)]
    rfl
  refine ⟨hm, ?_⟩
  unfold firstG
  rw [hm, e1]
  rfl
/-- there is such a grouping -/
theorem first_split (gs : List (List Nat)) (least : Nat) (h : ∃ g ∈ gs, households g = least) : ∃ pre g post, gs = pre ++ g :: post ∧ households g = least ∧ ∀ x ∈ pre, households x ≠ least := by
  induction gs with
  | nil =>
    obtain ⟨g, hg, _⟩ := h
    cases hg
  | cons y gs ih =>
    by_cases c : households y = least
    · exact ⟨[], y, gs, rfl, c, fun x hx => by cases hx⟩
    · have h' : ∃ g ∈ gs, households g = least := by
        obtain ⟨g, hg, e⟩ := h
        rcases List.mem_cons.mp hg with rfl | hg
        · exact absurd e c
        · exact ⟨g, hg, e⟩
      obtain ⟨pre, g, post, e1, e2, e3⟩ := ih h'
      refine ⟨y :: pre, g, post, by rw [e1]; rfl, e2, fun x hx => ?_⟩
      rcases List.mem_cons.mp hx with rfl | hx
      · exact c
      · exact e3 x hx
theorem groupings_ne (rows : List (List Nat)) : groupings rows rows.length ≠ [] := by
  rw [← groupTo_all]
  exact groupTo_ne _ (Nat.le_refl _) (Nat.le_refl _)
theorem least_ex : ∀ (l : List Nat), l ≠ [] → ∃ m ∈ l, ∀ x ∈ l, m ≤ x
  | [], h => absurd rfl h
  | [a], _ => ⟨a, List.mem_singleton.mpr rfl, fun x hx => by rw [List.mem_singleton.mp hx]; exact Nat.le_refl _⟩
  | a :: b :: l, _ => by
    obtain ⟨m, hm, h⟩ := least_ex (b :: l) (by simp)
    by_cases c : a ≤ m
    · refine ⟨a, List.mem_cons_self, fun x hx => ?_⟩
      rcases List.mem_cons.mp hx with rfl | hx
      · exact Nat.le_refl _
      · exact Nat.le_trans c (h x hx)
    · refine ⟨m, List.mem_cons_of_mem _ hm, fun x hx => ?_⟩
      rcases List.mem_cons.mp hx with rfl | hx
      · omega
      · exact h x hx
theorem firstG_facts (rows : List (List Nat)) : firstG rows ∈ groupings rows rows.length ∧ households (firstG rows) = minH rows ∧ ∀ x ∈ groupings rows rows.length, minH rows ≤ households x := by
  obtain ⟨m, hm, hle⟩ := least_ex ((groupings rows rows.length).map households) (by
    intro e
    exact groupings_ne rows (List.map_eq_nil_iff.mp e))
  obtain ⟨g0, hg0, eg0⟩ := List.mem_map.mp hm
  obtain ⟨pre, g, post, e1, e2, e3⟩ := first_split _ m ⟨g0, hg0, eg0⟩
  have hall : ∀ x ∈ groupings rows rows.length, m ≤ households x := fun x hx => hle _ (List.mem_map.mpr ⟨x, hx, rfl⟩)
  obtain ⟨h1, h2⟩ := first_is e1 e2 e3 hall
  rw [h1, h2]
  exact ⟨by rw [e1]; exact List.mem_append_right _ List.mem_cons_self, e2, hall⟩
theorem firstG_len (rows : List (List Nat)) : (firstG rows).length = rows.length := by
  have h := (firstG_facts rows).1
  rw [← groupTo_all] at h
  exact (gok _ (Nat.le_refl _) _ h).len
theorem places_ne {rows : List (List Nat)} {h : Nat} (hh : h < minH rows) : places rows h ≠ [] := by
  obtain ⟨f1, f2, _⟩ := firstG_facts rows
  rw [← groupTo_all] at f1
  have hm := (gok _ (Nat.le_refl _) _ f1).all h (by omega)
  obtain ⟨p, hp, e⟩ := List.mem_iff_getElem.mp hm
  intro z
  have : p ∈ places rows h := by
    unfold places
    apply List.mem_filter.mpr
    refine ⟨List.mem_range.mpr (by rw [← firstG_len rows]; exact hp), ?_⟩
    rw [List.getD_eq_getElem?_getD, List.getElem?_eq_getElem hp]
    exact decide_eq_true e
  rw [z] at this
  cases this
theorem members_is {r : Registry} (w : Wf r) (h : Nat) : Km544.membersOf (Km544.firstGrouping r) h = places r.reports h := by
  unfold Km544.membersOf places
  rw [firstG_is w, firstG_len]
  apply filter_congr
  intro p _
  rw [Bool.beq_eq_decide_eq]

/-! ### combined attributes -/
def firstKnown (rows : List (List Nat)) (a k : Nat) : Nat := rows.foldl (fun known r => if known = 0 then r.getD a 0 else known) k
theorem merge1_len (f r : List Nat) : (merge1 f r).length = f.length := by
  unfold merge1
  rw [List.length_map, List.length_range]
theorem merge1_at {f r : List Nat} {a : Nat} (h : a < f.length) : (merge1 f r).getD a 0 = if f.getD a 0 = 0 then r.getD a 0 else f.getD a 0 := by
  unfold merge1
  rw [List.getD_eq_getElem?_getD, List.getElem?_map, List.getElem?_range h]
  rfl
theorem list_ext_getD {f g : List Nat} {n : Nat} (hf : f.length = n) (hg : g.length = n) (h : ∀ a, a < n → f.getD a 0 = g.getD a 0) : f = g := by
  apply List.ext_getElem (by omega)
  intro a h1 h2
  have e := h a (by omega)
  rw [List.getD_eq_getElem?_getD, List.getD_eq_getElem?_getD, List.getElem?_eq_getElem h1, List.getElem?_eq_getElem h2] at e
  exact e
theorem fold_merge : ∀ (rows : List (List Nat)) (f : List Nat), rows.foldl merge1 f = (List.range f.length).map fun a => firstKnown rows a (f.getD a 0)
  | [], f => by
    apply list_ext_getD (n := f.length) rfl (by rw [List.length_map, List.length_range])
    intro a ha
    rw [List.getD_eq_getElem?_getD, List.getD_eq_getElem?_getD, List.getElem?_map, List.getElem?_range ha]
    show _ = (f.getD a 0)
    rw [List.getD_eq_getElem?_getD]
  | r :: rows, f => by
    rw [List.foldl_cons, fold_merge rows, merge1_len]
    apply List.map_congr_left
    intro a ha
    rw [merge1_at (List.mem_range.mp ha)]
    rfl
theorem combined_rows {rows : List (List Nat)} {m : Nat} (hne : rows ≠ []) (hm : ∀ x ∈ rows, x.length = m) : combined rows = (List.range m).map fun a => firstKnown rows a 0 := by
  cases rows with
  | nil => exact absurd rfl hne
  | cons r rows =>
    have e : row (r :: rows) 0 = r := rfl
    unfold combined
    rw [e, fold_merge, hm r List.mem_cons_self]
    apply List.map_congr_left
    intro a _
    unfold firstKnown
    rw [List.foldl_cons, List.foldl_cons]
    congr 1
    by_cases c : r.getD a 0 = 0
    · rw [if_pos c, if_pos rfl]
    · rw [if_neg c, if_pos rfl]
theorem fold_code (r : Registry) (a : Nat) : ∀ (ms : List Nat) (k : Nat), ms.foldl (fun (known i : Nat) => if known = 0 then Km544.code r i a else known) k = firstKnown (ms.map (row r.reports)) a k
  | [], _ => rfl
  | i :: ms, k => by
    rw [List.foldl_cons, fold_code r a ms]
    rfl
theorem combined_is {r : Registry} (w : Wf r) {ms : List Nat} (hne : ms ≠ []) (hms : ∀ i ∈ ms, i < r.reports.length) : Km544.combined r ms = combined (ms.map (row r.reports)) := by
  unfold Km544.combined
  rw [combined_rows (m := r.attributeCount) (fun e => hne (List.map_eq_nil_iff.mp e)) (fun x hx => by
    obtain ⟨i, hi, e⟩ := List.mem_map.mp hx
    rw [← e]
    exact row_len w (hms i hi))]
  apply List.map_congr_left
  intro a _
  exact fold_code r a ms 0
end Hr
namespace Hr
open Km544 (Registry)
/-! ### sets -/
theorem setSize_is (n s : Nat) : Km544.setSize n s = (members s n).length := rfl
theorem mem_members {s n p : Nat} : p ∈ members s n ↔ p < n ∧ s.testBit p = true := by
  unfold members
  rw [List.mem_filter, List.mem_range]
theorem distinct_is {r : Registry} (w : Wf r) (s : Nat) : Km544.isDistinctSet r s = isDistinct r.reports (members s r.reports.length) := by
  unfold Km544.isDistinctSet isDistinct Km544.reportCount
  rw [Bool.eq_iff_iff]
  simp only [List.all_eq_true, List.mem_range, mem_members]
  constructor
  · rintro h one ⟨h1, b1⟩ other ⟨h2, b2⟩
    by_cases c : one < other
    · have q := h other h2 one c
      rw [b1, b2, different_is w h1] at q
      rw [decide_eq_true c]
      cases e : unlike (row r.reports one) (row r.reports other) with
      | true => rfl
      | false =>
        rw [e] at q
        exact absurd q (by decide)
    · rw [decide_eq_false c]
      rfl
  · intro h j hj i hi
    cases b1 : s.testBit i with
    | false => rfl
    | true =>
      cases b2 : s.testBit j with
      | false => rfl
      | true =>
        have q := h i ⟨by omega, b1⟩ j ⟨hj, b2⟩
        rw [decide_eq_true hi] at q
        rw [different_is w (by omega)]
        cases e : unlike (row r.reports i) (row r.reports j) with
        | true => rfl
        | false =>
          rw [e] at q
          exact absurd q (by decide)
theorem largest_fold {r : Registry} (w : Wf r) : ∀ (l : List Nat) (b : Nat),
    l.foldl (largestStep r.reports) ((members b r.reports.length).length, b) = (fun x => ((members x r.reports.length).length, x)) (l.foldl (fun (best set : Nat) =>
      if Km544.isDistinctSet r set && decide (Km544.setSize (Km544.reportCount r) best < Km544.setSize (Km544.reportCount r) set) then set else best) b)
  | [], _ => rfl
  | s :: l, b => by
    rw [List.foldl_cons, List.foldl_cons]
    have e : largestStep r.reports ((members b r.reports.length).length, b) s = (fun x => ((members x r.reports.length).length, x))
        (if Km544.isDistinctSet r s && decide (Km544.setSize (Km544.reportCount r) b < Km544.setSize (Km544.reportCount r) s) then s else b) := by
      unfold largestStep
      rw [distinct_is w, Bool.and_comm]
      show (if (isDistinct r.reports (members s r.reports.length) && decide ((members b r.reports.length).length < (members s r.reports.length).length)) = true then _ else _) = _
      by_cases c : (isDistinct r.reports (members s r.reports.length) && decide ((members b r.reports.length).length < (members s r.reports.length).length)) = true
      · rw [if_pos c]
        show _ = (fun x => ((members x r.reports.length).length, x)) (if (isDistinct r.reports (members s r.reports.length) && decide ((members b r.reports.length).length < (members s r.reports.length).length)) = true then s else b)
        rw [if_pos c]
      · rw [if_neg c]
        show _ = (fun x => ((members x r.reports.length).length, x)) (if (isDistinct r.reports (members s r.reports.length) && decide ((members b r.reports.length).length < (members s r.reports.length).length)) = true then s else b)
        rw [if_neg c]
    rw [e]
    exact largest_fold w l _
theorem members_zero (n : Nat) : members 0 n = [] := by
  unfold members
  apply List.filter_eq_nil_iff.mpr
  intro p _
  rw [Nat.zero_testBit]
  decide
theorem largest_is {r : Registry} (w : Wf r) : largest r.reports = (Km544.setSize (Km544.reportCount r) (Km544.largestDistinctSet r), Km544.largestDistinctSet r) := by
  have h := largest_fold w (List.range (2 ^ r.reports.length)) 0
  rw [members_zero] at h
  exact h
theorem sufAt_iff (one other chosen : List Nat) : sufAt one other chosen = (!(unlike one other) || (List.range one.length).any fun a => decide (a ∈ chosen) && cfAt one other a) := by
  unfold sufAt unlike
  cases h : decide (0 < (conflicts one other).length) with
  | false => rfl
  | true =>
    show (!decide (((conflicts one other).filter fun a => decide (a ∈ chosen)).length = 0)) = (List.range one.length).any fun a => decide (a ∈ chosen) && cfAt one other a
    rw [Bool.eq_iff_iff, Bool.not_eq_true', decide_eq_false_iff_not]
    have e : ¬ ((conflicts one other).filter fun a => decide (a ∈ chosen)).length = 0 ↔ 0 < ((conflicts one other).filter fun a => decide (a ∈ chosen)).length := by omega
    rw [e, List.length_pos_iff_exists_mem]
    unfold conflicts
    simp only [List.mem_filter, List.any_eq_true, Bool.and_eq_true]
    constructor
    · rintro ⟨x, ⟨h1, h2⟩, h3⟩
      exact ⟨x, h1, h3, h2⟩
    · rintro ⟨x, h1, h3, h2⟩
      exact ⟨x, ⟨h1, h2⟩, h3⟩
theorem sufficient_is {r : Registry} (w : Wf r) {s : Nat} {chosen : List Nat} (hc : ∀ a, a < r.attributeCount → decide (a ∈ chosen) = s.testBit a) : Km544.isSufficient r s = isSufficient r.reports chosen := by
  have key : ∀ i j, i < r.reports.length → (!(Km544.areDifferent r i j) || (List.range r.attributeCount).any fun a => s.testBit a && Km544.conflictsAt r i j a) = sufAt (row r.reports i) (row r.reports j) chosen := by
    intro i j hi
    rw [sufAt_iff, different_is w hi, row_len w hi]
    congr 1
    apply any_congr
    intro a ha
    rw [cf_is, hc a (List.mem_range.mp ha)]
  unfold Km544.isSufficient isSufficient Km544.reportCount
  rw [Bool.eq_iff_iff]
  simp only [List.all_eq_true, List.mem_range]
  constructor
  · intro h one h1 i hi
    have q := h (one + 1 + i) (by omega) one (by omega)
    rw [key one _ h1] at q
    exact q
  · intro h j hj i hi
    have q := h i (by omega) (j - (i + 1)) (by omega)
    have e : i + 1 + (j - (i + 1)) = j := by omega
    rw [e] at q
    rw [key i j (by omega)]
    exact q
where
  any_congr {α : Type} {p q : α → Bool} : ∀ {l : List α}, (∀ x ∈ l, p x = q x) → l.any p = l.any q
    | [], _ => rfl
    | x :: l, h => by rw [List.any_cons, List.any_cons, h x List.mem_cons_self, any_congr fun y hy => h y (List.mem_cons_of_mem _ hy)]
theorem in_members {s n a : Nat} (h : a < n) : decide (a ∈ members s n) = s.testBit a := by
  rw [Bool.eq_iff_iff, decide_eq_true_eq, mem_members]
  exact ⟨fun x => x.2, fun x => ⟨h, x⟩⟩
theorem sufficient_members {r : Registry} (w : Wf r) (s : Nat) : Km544.isSufficient r s = isSufficient r.reports (members s r.attributeCount) :=
  sufficient_is w fun _ ha => in_members ha
theorem smallest_fold {r : Registry} (w : Wf r) : ∀ (l : List Nat) (b : Nat),
    l.foldl (smallestStep r.reports r.attributeCount) ((members b r.attributeCount).length, b) = (fun x => ((members x r.attributeCount).length, x)) (l.foldl (fun (best set : Nat) =>
      if Km544.isSufficient r set && decide (Km544.setSize r.attributeCount set < Km544.setSize r.attributeCount best) then set else best) b)
  | [], _ => rfl
  | s :: l, b => by
    rw [List.foldl_cons, List.foldl_cons]
    have e : smallestStep r.reports r.attributeCount ((members b r.attributeCount).length, b) s = (fun x => ((members x r.attributeCount).length, x))
        (if Km544.isSufficient r s && decide (Km544.setSize r.attributeCount s < Km544.setSize r.attributeCount b) then s else b) := by
      unfold smallestStep
      rw [sufficient_members w, Bool.and_comm]
      show (if (isSufficient r.reports (members s r.attributeCount) && decide ((members s r.attributeCount).length < (members b r.attributeCount).length)) = true then _ else _) = _
      by_cases c : (isSufficient r.reports (members s r.attributeCount) && decide ((members s r.attributeCount).length < (members b r.attributeCount).length)) = true
      · rw [if_pos c]
        show _ = (fun x => ((members x r.attributeCount).length, x)) (if (isSufficient r.reports (members s r.attributeCount) && decide ((members s r.attributeCount).length < (members b r.attributeCount).length)) = true then s else b)
        rw [if_pos c]
      · rw [if_neg c]
        show _ = (fun x => ((members x r.attributeCount).length, x)) (if (isSufficient r.reports (members s r.attributeCount) && decide ((members s r.attributeCount).length < (members b r.attributeCount).length)) = true then s else b)
        rw [if_neg c]
    rw [e]
    exact smallest_fold w l _
theorem members_all : ∀ n, n < 6 → (members (2 ^ n - 1) n).length = n := by decide
theorem smallest_is {r : Registry} (w : Wf r) (h : r.attributeCount ≤ 5) : smallest r.reports r.attributeCount = (Km544.setSize r.attributeCount (Km544.smallestSufficientSet r), Km544.smallestSufficientSet r) := by
  have q := smallest_fold w (List.range (2 ^ r.attributeCount)) (2 ^ r.attributeCount - 1)
  rw [members_all _ (by omega)] at q
  exact q
theorem bits_without : ∀ m, m < 6 → ∀ a, a < m → ∀ b, b < m → (2 ^ m - 1 - 2 ^ a).testBit b = !decide (b = a) := by decide
theorem essential_is {r : Registry} (w : Wf r) (h : r.attributeCount ≤ 5) : (List.range r.attributeCount).filter (fun a => !(Km544.isSufficient r (2 ^ r.attributeCount - 1 - 2 ^ a))) = essential r.reports r.attributeCount := by
  unfold essential
  apply filter_congr
  intro a ha
  have ha' := List.mem_range.mp ha
  congr 1
  apply sufficient_is w
  intro b hb
  rw [bits_without _ (by omega) a ha' b hb, Bool.eq_iff_iff, decide_eq_true_eq]
  unfold others
  rw [List.mem_filter, List.mem_range]
  exact ⟨fun x => x.2, fun x => ⟨hb, x⟩⟩
theorem known_is (r : Registry) : r.reports.foldl (fun (total : Nat) (report : List Nat) => total + (report.filter fun known => known != 0).length) 0 = known r.reports := by
  unfold known
  congr 1
  funext t x
  congr 2
  apply filter_congr
  intro c _
  rw [Bool.eq_iff_iff, bne_iff_ne, decide_eq_true_eq]
  omega
theorem duplicates_is {r : Registry} (w : Wf r) {i : Nat} (hi : i < r.reports.length) : (List.range (Km544.reportCount r)).filter (fun j => j != i && !(Km544.areDifferent r i j)) = duplicates r.reports i := by
  unfold duplicates Km544.reportCount
  apply filter_congr
  intro j _
  rw [different_is w hi, bne, Bool.beq_eq_decide_eq]
theorem worst_is {r : Registry} (w : Wf r) {i a : Nat} (hi : i < r.reports.length) : Km544.worstUndecidedIfAsked r i a = worst r.reports i a := by
  unfold Km544.worstUndecidedIfAsked worst Km544.valueCount
  rw [List.foldl_map]
  congr 1
  funext m v
  rw [undecided_is (wf_with w hi)]
  rfl
end Hr
/-! Ha: the text by places, what is known of the top, short rules, lists on the heap. -/
namespace Hr
open PySem PySem.Spec PyProof.Rows L2 Evl
/-! ### the text by places -/
def top (i : Nat) : Stmt := PySem.Challenge.pw_homereports_s01_answers.main.body.getD i (.Pass ⟨0, 0, 0, 0⟩)
abbrev s_conflicts : Stmt := top 1
abbrev n_conflicts : List Str := ["one", "other", "at"]
abbrev p_conflicts : List Str := ["one", "other"]
theorem sc_conflicts : FnScope n_conflicts p_conflicts (defScope s_conflicts) := ⟨rfl, rfl, rfl, by decide +kernel, rfl, by decide +kernel, by decide +kernel⟩
abbrev s_are_unlike : Stmt := top 2
abbrev n_are_unlike : List Str := ["one", "other"]
abbrev p_are_unlike : List Str := ["one", "other"]
theorem sc_are_unlike : FnScope n_are_unlike p_are_unlike (defScope s_are_unlike) := ⟨rfl, rfl, rfl, by decide +kernel, rfl, by decide +kernel, by decide +kernel⟩
abbrev s_combined : Stmt := top 3
abbrev n_combined : List Str := ["reports", "found", "report", "at"]
abbrev p_combined : List Str := ["reports"]
theorem sc_combined : FnScope n_combined p_combined (defScope s_combined) := ⟨rfl, rfl, rfl, by decide +kernel, rfl, by decide +kernel, by decide +kernel⟩
abbrev s_changed : Stmt := top 4
abbrev n_changed : List Str := ["reports", "number", "attribute", "code", "found", "report"]
abbrev p_changed : List Str := ["reports", "number", "attribute", "code"]
theorem sc_changed : FnScope n_changed p_changed (defScope s_changed) := ⟨rfl, rfl, rfl, by decide +kernel, rfl, by decide +kernel, by decide +kernel⟩
abbrev s_undecided : Stmt := top 5
abbrev n_undecided : List Str := ["reports", "found", "one", "other"]
abbrev p_undecided : List Str := ["reports"]
theorem sc_undecided : FnScope n_undecided p_undecided (defScope s_undecided) := ⟨rfl, rfl, rfl, by decide +kernel, rfl, by decide +kernel, by decide +kernel⟩
abbrev s_weights : Stmt := top 6
abbrev n_weights : List Str := ["many", "found", "turn"]
abbrev p_weights : List Str := ["many"]
theorem sc_weights : FnScope n_weights p_weights (defScope s_weights) := ⟨rfl, rfl, rfl, by decide +kernel, rfl, by decide +kernel, by decide +kernel⟩
abbrev s_members : Stmt := top 7
abbrev n_members : List Str := ["number", "many", "found", "place"]
abbrev p_members : List Str := ["number", "many"]
theorem sc_members : FnScope n_members p_members (defScope s_members) := ⟨rfl, rfl, rfl, by decide +kernel, rfl, by decide +kernel, by decide +kernel⟩
abbrev s_households : Stmt := top 9
abbrev n_households : List Str := ["grouping"]
abbrev p_households : List Str := ["grouping"]
theorem sc_households : FnScope n_households p_households (defScope s_households) := ⟨rfl, rfl, rfl, by decide +kernel, rfl, by decide +kernel, by decide +kernel⟩
abbrev s_can_take : Stmt := top 10
abbrev n_can_take : List Str := ["reports", "grouping", "report", "household", "place"]
abbrev p_can_take : List Str := ["reports", "grouping", "report", "household"]
theorem sc_can_take : FnScope n_can_take p_can_take (defScope s_can_take) := ⟨rfl, rfl, rfl, by decide +kernel, rfl, by decide +kernel, by decide +kernel⟩
abbrev s_groupings : Stmt := top 11
abbrev n_groupings : List Str := ["reports", "most", "rows", "report", "longer", "row", "household"]
abbrev p_groupings : List Str := ["reports", "most"]
theorem sc_groupings : FnScope n_groupings p_groupings (defScope s_groupings) := ⟨rfl, rfl, rfl, by decide +kernel, rfl, by decide +kernel, by decide +kernel⟩
abbrev s_first_grouping : Stmt := top 12
abbrev n_first_grouping : List Str := ["reports", "rows", "least", "row"]
abbrev p_first_grouping : List Str := ["reports"]
theorem sc_first_grouping : FnScope n_first_grouping p_first_grouping (defScope s_first_grouping) := ⟨rfl, rfl, rfl, by decide +kernel, rfl, by decide +kernel, by decide +kernel⟩
abbrev s_min_households : Stmt := top 13
abbrev n_min_households : List Str := ["reports"]
abbrev p_min_households : List Str := ["reports"]
theorem sc_min_households : FnScope n_min_households p_min_households (defScope s_min_households) := ⟨rfl, rfl, rfl, by decide +kernel, rfl, by decide +kernel, by decide +kernel⟩
abbrev s_of_household : Stmt := top 14
abbrev n_of_household : List Str := ["reports", "household", "grouping", "place"]
abbrev p_of_household : List Str := ["reports", "household"]
theorem sc_of_household : FnScope n_of_household p_of_household (defScope s_of_household) := ⟨rfl, rfl, rfl, by decide +kernel, rfl, by decide +kernel, by decide +kernel⟩
abbrev s_is_distinct : Stmt := top 16
abbrev n_is_distinct : List Str := ["reports", "chosen", "one", "other"]
abbrev p_is_distinct : List Str := ["reports", "chosen"]
theorem sc_is_distinct : FnScope n_is_distinct p_is_distinct (defScope s_is_distinct) := ⟨rfl, rfl, rfl, by decide +kernel, rfl, by decide +kernel, by decide +kernel⟩
abbrev s_largest_distinct : Stmt := top 17
abbrev n_largest_distinct : List Str := ["reports", "best", "number", "chosen"]
abbrev p_largest_distinct : List Str := ["reports"]
theorem sc_largest_distinct : FnScope n_largest_distinct p_largest_distinct (defScope s_largest_distinct) := ⟨rfl, rfl, rfl, by decide +kernel, rfl, by decide +kernel, by decide +kernel⟩
abbrev s_is_sufficient : Stmt := top 18
abbrev n_is_sufficient : List Str := ["reports", "chosen", "one", "other", "places", "at"]
abbrev p_is_sufficient : List Str := ["reports", "chosen"]
theorem sc_is_sufficient : FnScope n_is_sufficient p_is_sufficient (defScope s_is_sufficient) := ⟨rfl, rfl, rfl, by decide +kernel, rfl, by decide +kernel, by decide +kernel⟩
abbrev s_smallest_sufficient : Stmt := top 19
abbrev n_smallest_sufficient : List Str := ["reports", "many", "best", "number", "chosen"]
abbrev p_smallest_sufficient : List Str := ["reports", "many"]
theorem sc_smallest_sufficient : FnScope n_smallest_sufficient p_smallest_sufficient (defScope s_smallest_sufficient) := ⟨rfl, rfl, rfl, by decide +kernel, rfl, by decide +kernel, by decide +kernel⟩
abbrev s_essential : Stmt := top 20
abbrev n_essential : List Str := ["reports", "many", "found", "attribute", "other"]
abbrev p_essential : List Str := ["reports", "many"]
theorem sc_essential : FnScope n_essential p_essential (defScope s_essential) := ⟨rfl, rfl, rfl, by decide +kernel, rfl, by decide +kernel, by decide +kernel⟩
abbrev s_get_attribute : Stmt := top 23
abbrev n_get_attribute : List Str := ["instance", "report", "attribute", "code"]
abbrev p_get_attribute : List Str := ["instance", "report", "attribute"]
theorem sc_get_attribute : FnScope n_get_attribute p_get_attribute (defScope s_get_attribute) := ⟨rfl, rfl, rfl, by decide +kernel, rfl, by decide +kernel, by decide +kernel⟩
abbrev s_get_report : Stmt := top 24
abbrev n_get_report : List Str := ["instance", "report"]
abbrev p_get_report : List Str := ["instance", "report"]
theorem sc_get_report : FnScope n_get_report p_get_report (defScope s_get_report) := ⟨rfl, rfl, rfl, by decide +kernel, rfl, by decide +kernel, by decide +kernel⟩
abbrev s_are_different : Stmt := top 25
abbrev n_are_different : List Str := ["instance", "report", "other"]
abbrev p_are_different : List Str := ["instance", "report", "other"]
theorem sc_are_different : FnScope n_are_different p_are_different (defScope s_are_different) := ⟨rfl, rfl, rfl, by decide +kernel, rfl, by decide +kernel, by decide +kernel⟩
abbrev s_conflicting_attributes : Stmt := top 26
abbrev n_conflicting_attributes : List Str := ["instance", "report", "other", "found"]
abbrev p_conflicting_attributes : List Str := ["instance", "report", "other"]
theorem sc_conflicting_attributes : FnScope n_conflicting_attributes p_conflicting_attributes (defScope s_conflicting_attributes) := ⟨rfl, rfl, rfl, by decide +kernel, rfl, by decide +kernel, by decide +kernel⟩
abbrev s_household_numbers : Stmt := top 27
abbrev n_household_numbers : List Str := ["instance"]
abbrev p_household_numbers : List Str := ["instance"]
theorem sc_household_numbers : FnScope n_household_numbers p_household_numbers (defScope s_household_numbers) := ⟨rfl, rfl, rfl, by decide +kernel, rfl, by decide +kernel, by decide +kernel⟩
abbrev s_tell_first_grouping : Stmt := top 28
abbrev n_tell_first_grouping : List Str := ["instance"]
abbrev p_tell_first_grouping : List Str := ["instance"]
theorem sc_tell_first_grouping : FnScope n_tell_first_grouping p_tell_first_grouping (defScope s_tell_first_grouping) := ⟨rfl, rfl, rfl, by decide +kernel, rfl, by decide +kernel, by decide +kernel⟩
abbrev s_grouping_count : Stmt := top 29
abbrev n_grouping_count : List Str := ["instance", "most"]
abbrev p_grouping_count : List Str := ["instance", "most"]
theorem sc_grouping_count : FnScope n_grouping_count p_grouping_count (defScope s_grouping_count) := ⟨rfl, rfl, rfl, by decide +kernel, rfl, by decide +kernel, by decide +kernel⟩
abbrev s_get_grouping : Stmt := top 30
abbrev n_get_grouping : List Str := ["instance", "most", "place", "rows"]
abbrev p_get_grouping : List Str := ["instance", "most", "place"]
theorem sc_get_grouping : FnScope n_get_grouping p_get_grouping (defScope s_get_grouping) := ⟨rfl, rfl, rfl, by decide +kernel, rfl, by decide +kernel, by decide +kernel⟩
abbrev s_get_household : Stmt := top 31
abbrev n_get_household : List Str := ["instance", "household", "rows"]
abbrev p_get_household : List Str := ["instance", "household"]
theorem sc_get_household : FnScope n_get_household p_get_household (defScope s_get_household) := ⟨rfl, rfl, rfl, by decide +kernel, rfl, by decide +kernel, by decide +kernel⟩
abbrev s_largest_distinct_set : Stmt := top 32
abbrev n_largest_distinct_set : List Str := ["instance"]
abbrev p_largest_distinct_set : List Str := ["instance"]
theorem sc_largest_distinct_set : FnScope n_largest_distinct_set p_largest_distinct_set (defScope s_largest_distinct_set) := ⟨rfl, rfl, rfl, by decide +kernel, rfl, by decide +kernel, by decide +kernel⟩
abbrev s_tell_sufficient : Stmt := top 33
abbrev n_tell_sufficient : List Str := ["instance", "number"]
abbrev p_tell_sufficient : List Str := ["instance", "number"]
theorem sc_tell_sufficient : FnScope n_tell_sufficient p_tell_sufficient (defScope s_tell_sufficient) := ⟨rfl, rfl, rfl, by decide +kernel, rfl, by decide +kernel, by decide +kernel⟩
abbrev s_smallest_sufficient_set : Stmt := top 34
abbrev n_smallest_sufficient_set : List Str := ["instance"]
abbrev p_smallest_sufficient_set : List Str := ["instance"]
theorem sc_smallest_sufficient_set : FnScope n_smallest_sufficient_set p_smallest_sufficient_set (defScope s_smallest_sufficient_set) := ⟨rfl, rfl, rfl, by decide +kernel, rfl, by decide +kernel, by decide +kernel⟩
abbrev s_essential_attributes : Stmt := top 35
abbrev n_essential_attributes : List Str := ["instance", "found"]
abbrev p_essential_attributes : List Str := ["instance"]
theorem sc_essential_attributes : FnScope n_essential_attributes p_essential_attributes (defScope s_essential_attributes) := ⟨rfl, rfl, rfl, by decide +kernel, rfl, by decide +kernel, by decide +kernel⟩
abbrev s_undecided_pairs : Stmt := top 36
abbrev n_undecided_pairs : List Str := ["instance", "rows", "found", "one", "other"]
abbrev p_undecided_pairs : List Str := ["instance"]
theorem sc_undecided_pairs : FnScope n_undecided_pairs p_undecided_pairs (defScope s_undecided_pairs) := ⟨rfl, rfl, rfl, by decide +kernel, rfl, by decide +kernel, by decide +kernel⟩
abbrev s_possible_duplicates : Stmt := top 37
abbrev n_possible_duplicates : List Str := ["instance", "report", "found", "other"]
abbrev p_possible_duplicates : List Str := ["instance", "report"]
theorem sc_possible_duplicates : FnScope n_possible_duplicates p_possible_duplicates (defScope s_possible_duplicates) := ⟨rfl, rfl, rfl, by decide +kernel, rfl, by decide +kernel, by decide +kernel⟩
abbrev s_min_households_if : Stmt := top 38
abbrev n_min_households_if : List Str := ["instance", "report", "attribute", "told", "wider"]
abbrev p_min_households_if : List Str := ["instance", "report", "attribute", "told"]
theorem sc_min_households_if : FnScope n_min_households_if p_min_households_if (defScope s_min_households_if) := ⟨rfl, rfl, rfl, by decide +kernel, rfl, by decide +kernel, by decide +kernel⟩
abbrev s_worst_undecided_if_asked : Stmt := top 39
abbrev n_worst_undecided_if_asked : List Str := ["instance", "report", "attribute", "most", "code"]
abbrev p_worst_undecided_if_asked : List Str := ["instance", "report", "attribute"]
theorem sc_worst_undecided_if_asked : FnScope n_worst_undecided_if_asked p_worst_undecided_if_asked (defScope s_worst_undecided_if_asked) := ⟨rfl, rfl, rfl, by decide +kernel, rfl, by decide +kernel, by decide +kernel⟩
abbrev s_summary : Stmt := top 40
abbrev n_summary : List Str := ["instance", "known", "report", "code"]
abbrev p_summary : List Str := ["instance"]
theorem sc_summary : FnScope n_summary p_summary (defScope s_summary) := ⟨rfl, rfl, rfl, by decide +kernel, rfl, by decide +kernel, by decide +kernel⟩
abbrev s_Instance___init__ : Stmt := inClass (top 43) 0
abbrev n_Instance___init__ : List Str := ["self", "many"]
abbrev p_Instance___init__ : List Str := ["self", "many"]
theorem sc_Instance___init__ : FnScope n_Instance___init__ p_Instance___init__ (defScope s_Instance___init__) := ⟨rfl, rfl, rfl, by decide +kernel, rfl, by decide +kernel, by decide +kernel⟩
abbrev s_Instance_has : Stmt := inClass (top 43) 1
abbrev n_Instance_has : List Str := ["self", "report"]
abbrev p_Instance_has : List Str := ["self", "report"]
theorem sc_Instance_has : FnScope n_Instance_has p_Instance_has (defScope s_Instance_has) := ⟨rfl, rfl, rfl, by decide +kernel, rfl, by decide +kernel, by decide +kernel⟩
abbrev s_Instance_has_part : Stmt := inClass (top 43) 2
abbrev n_Instance_has_part : List Str := ["self", "report", "attribute"]
abbrev p_Instance_has_part : List Str := ["self", "report", "attribute"]
theorem sc_Instance_has_part : FnScope n_Instance_has_part p_Instance_has_part (defScope s_Instance_has_part) := ⟨rfl, rfl, rfl, by decide +kernel, rfl, by decide +kernel, by decide +kernel⟩
abbrev s_Instance_add_report : Stmt := inClass (top 43) 3
abbrev n_Instance_add_report : List Str := ["self"]
abbrev p_Instance_add_report : List Str := ["self"]
theorem sc_Instance_add_report : FnScope n_Instance_add_report p_Instance_add_report (defScope s_Instance_add_report) := ⟨rfl, rfl, rfl, by decide +kernel, rfl, by decide +kernel, by decide +kernel⟩
abbrev s_Instance_remove_report : Stmt := inClass (top 43) 4
abbrev n_Instance_remove_report : List Str := ["self", "report"]
abbrev p_Instance_remove_report : List Str := ["self", "report"]
theorem sc_Instance_remove_report : FnScope n_Instance_remove_report p_Instance_remove_report (defScope s_Instance_remove_report) := ⟨rfl, rfl, rfl, by decide +kernel, rfl, by decide +kernel, by decide +kernel⟩
abbrev s_Instance_set_attribute : Stmt := inClass (top 43) 5
abbrev n_Instance_set_attribute : List Str := ["self", "report", "attribute", "told", "old"]
abbrev p_Instance_set_attribute : List Str := ["self", "report", "attribute", "told"]
theorem sc_Instance_set_attribute : FnScope n_Instance_set_attribute p_Instance_set_attribute (defScope s_Instance_set_attribute) := ⟨rfl, rfl, rfl, by decide +kernel, rfl, by decide +kernel, by decide +kernel⟩
abbrev s_Instance_clear_attribute : Stmt := inClass (top 43) 6
abbrev n_Instance_clear_attribute : List Str := ["self", "report", "attribute", "old"]
abbrev p_Instance_clear_attribute : List Str := ["self", "report", "attribute"]
theorem sc_Instance_clear_attribute : FnScope n_Instance_clear_attribute p_Instance_clear_attribute (defScope s_Instance_clear_attribute) := ⟨rfl, rfl, rfl, by decide +kernel, rfl, by decide +kernel, by decide +kernel⟩
abbrev s_Instance_merge_reports : Stmt := inClass (top 43) 7
abbrev n_Instance_merge_reports : List Str := ["self", "report", "other", "first", "second"]
abbrev p_Instance_merge_reports : List Str := ["self", "report", "other"]
theorem sc_Instance_merge_reports : FnScope n_Instance_merge_reports p_Instance_merge_reports (defScope s_Instance_merge_reports) := ⟨rfl, rfl, rfl, by decide +kernel, rfl, by decide +kernel, by decide +kernel⟩
abbrev s_Desk___init__ : Stmt := inClass (top 46) 0
abbrev n_Desk___init__ : List Str := ["self"]
abbrev p_Desk___init__ : List Str := ["self"]
theorem sc_Desk___init__ : FnScope n_Desk___init__ p_Desk___init__ (defScope s_Desk___init__) := ⟨rfl, rfl, rfl, by decide +kernel, rfl, by decide +kernel, by decide +kernel⟩
abbrev s_Desk_create : Stmt := inClass (top 46) 1
abbrev n_Desk_create : List Str := ["self", "many"]
abbrev p_Desk_create : List Str := ["self", "many"]
theorem sc_Desk_create : FnScope n_Desk_create p_Desk_create (defScope s_Desk_create) := ⟨rfl, rfl, rfl, by decide +kernel, rfl, by decide +kernel, by decide +kernel⟩
abbrev s_change : Stmt := top 47
abbrev n_change : List Str := ["instance", "word", "told"]
abbrev p_change : List Str := ["instance", "word", "told"]
theorem sc_change : FnScope n_change p_change (defScope s_change) := ⟨rfl, rfl, rfl, by decide +kernel, rfl, by decide +kernel, by decide +kernel⟩
abbrev s_ask_reports : Stmt := top 48
abbrev n_ask_reports : List Str := ["instance", "word", "told"]
abbrev p_ask_reports : List Str := ["instance", "word", "told"]
theorem sc_ask_reports : FnScope n_ask_reports p_ask_reports (defScope s_ask_reports) := ⟨rfl, rfl, rfl, by decide +kernel, rfl, by decide +kernel, by decide +kernel⟩
abbrev s_ask_groupings : Stmt := top 49
abbrev n_ask_groupings : List Str := ["instance", "word", "told"]
abbrev p_ask_groupings : List Str := ["instance", "word", "told"]
theorem sc_ask_groupings : FnScope n_ask_groupings p_ask_groupings (defScope s_ask_groupings) := ⟨rfl, rfl, rfl, by decide +kernel, rfl, by decide +kernel, by decide +kernel⟩
abbrev s_ask_more : Stmt := top 50
abbrev n_ask_more : List Str := ["instance", "word", "told"]
abbrev p_ask_more : List Str := ["instance", "word", "told"]
theorem sc_ask_more : FnScope n_ask_more p_ask_more (defScope s_ask_more) := ⟨rfl, rfl, rfl, by decide +kernel, rfl, by decide +kernel, by decide +kernel⟩
abbrev s_answer : Stmt := top 51
abbrev n_answer : List Str := ["desk", "word", "told"]
abbrev p_answer : List Str := ["desk", "word", "told"]
theorem sc_answer : FnScope n_answer p_answer (defScope s_answer) := ⟨rfl, rfl, rfl, by decide +kernel, rfl, by decide +kernel, by decide +kernel⟩
abbrev s_answers : Stmt := top 52
abbrev n_answers : List Str := ["calls", "desk", "found", "at", "many", "told"]
abbrev p_answers : List Str := ["calls"]
theorem sc_answers : FnScope n_answers p_answers (defScope s_answers) := ⟨rfl, rfl, rfl, by decide +kernel, rfl, by decide +kernel, by decide +kernel⟩

/-! ### readings with a name -/
abbrev rGt : R2 := rI0 fun i j => .bl (decide (j < i))
abbrev rLt : R2 := rI0 fun i j => .bl (decide (i < j))

/-! ### lists of numbers on the heap -/
abbrev nV (n : Nat) : V := .int (n : Int)
def nsV (l : List Nat) : List V := l.map fun (n : Nat) => V.int (n : Int)
def refs (as : List Addr) : List V := as.map V.ref
theorem nsV_len (l : List Nat) : (nsV l).length = l.length := List.length_map _
theorem nsV_at {l : List Nat} {i : Nat} (h : i < l.length) : atI (nsV l) (i : Int) = some (.int ((l.getD i 0 : Nat) : Int)) := by
  apply atI_nat
  unfold nsV
  rw [List.getElem?_map, List.getElem?_eq_getElem h, List.getD_eq_getElem?_getD, List.getElem?_eq_getElem h]
  rfl
theorem nsV_get {l : List Nat} {i : Nat} {x : V} (h : (nsV l)[i]? = some x) : i < l.length ∧ x = nV (l.getD i 0) := by
  unfold nsV at h
  rw [List.getElem?_map] at h
  cases e : l[i]? with
  | none =>
    rw [e] at h
    cases h
  | some n =>
    rw [e] at h
    have hi := (List.getElem?_eq_some_iff.mp e).1
    refine ⟨hi, ?_⟩
    rw [List.getD_eq_getElem?_getD, e]
    exact (Option.some.inj h).symm
theorem nsV_snoc (l : List Nat) (n : Nat) : nsV (l ++ [n]) = nsV l ++ [nV n] := by
  unfold nsV
  rw [List.map_append]
  rfl
theorem nsV_set (l : List Nat) (i n : Nat) : nsV (l.set i n) = (nsV l).set i (nV n) := by
  unfold nsV
  rw [List.map_set]
theorem nsV_given (n : Nat) (f : Nat → Bool) : given n f nV = nsV ((List.range n).filter f) := rfl
theorem refs_len (l : List Addr) : (refs l).length = l.length := List.length_map _
theorem refs_at {as : List Addr} {i : Nat} {p : Addr} (h : as[i]? = some p) : (refs as)[i]? = some (.ref p) := by
  unfold refs
  rw [List.getElem?_map, h]
  rfl
theorem refs_snoc (as : List Addr) (p : Addr) : refs (as ++ [p]) = refs as ++ [.ref p] := by
  unfold refs
  rw [List.map_append]
  rfl
theorem refs_set (as : List Addr) (i : Nat) (p : Addr) : refs (as.set i p) = (refs as).set i (.ref p) := by
  unfold refs
  rw [List.map_set]
theorem flat_nsV (l : List Nat) : (nsV l).all flatV = true := by
  unfold nsV
  rw [List.all_map, List.all_eq_true]
  intro _ _
  rfl
theorem in_nsV (n : Nat) (l : List Nat) : inV (nV n) (nsV l) = decide (n ∈ l) := by
  unfold inV nsV
  rw [List.any_map, Bool.eq_iff_iff, decide_eq_true_eq, List.any_eq_true]
  have key : ∀ m : Nat, (((fun y => eqV y (nV n)) ∘ fun (n : Nat) => V.int (n : Int)) m = true) ↔ m = n := by
    intro m
    show eqV (.int (m : Int)) (.int (n : Int)) = true ↔ m = n
    have e : eqV (.int (m : Int)) (.int (n : Int)) = ((m : Int) == (n : Int)) := rfl
    rw [e, beq_iff_eq]
    omega
  constructor
  · rintro ⟨m, hm, e⟩
    rw [(key m).mp e] at hm
    exact hm
  · intro h
    exact ⟨n, h, (key n).mpr rfl⟩

/-- rows of numbers at the places as -/
def LLa (H : Hp) (a : Addr) (as : List Addr) (rows : List (List Nat)) : Prop := H a = some (.lst (refs as)) ∧ as.length = rows.length ∧ ∀ i, i < rows.length → ∃ p, as[i]? = some p ∧ H p = some (.lst (nsV (row rows i)))
def LL (H : Hp) (a : Addr) (rows : List (List Nat)) : Prop := ∃ as, LLa H a as rows
theorem LLa.mono {H H' : Hp} {a : Addr} {as : List Addr} {rows : List (List Nat)} (h : LLa H a as rows) (e : Ex H H') : LLa H' a as rows :=
  ⟨e _ _ h.1, h.2.1, fun i hi => by
    obtain ⟨p, h1, h2⟩ := h.2.2 i hi
    exact ⟨p, h1, e _ _ h2⟩⟩
theorem LL.mono {H H' : Hp} {a : Addr} {rows : List (List Nat)} (h : LL H a rows) (e : Ex H H') : LL H' a rows := by
  obtain ⟨as, h⟩ := h
  exact ⟨as, h.mono e⟩
theorem LL.sq {K : PySem.W.Frag} {H : Hp} {a : Addr} {as : List Addr} {rows : List (List Nat)} (h : LLa H a as rows) : SqL K H a (refs as) := sq_of h.1
theorem LLa.at_ {H : Hp} {a : Addr} {as : List Addr} {rows : List (List Nat)} (h : LLa H a as rows) {i : Nat} (hi : i < rows.length) : ∃ p, (refs as)[i]? = some (.ref p) ∧ H p = some (.lst (nsV (row rows i))) := by
  obtain ⟨p, h1, h2⟩ := h.2.2 i hi
  exact ⟨p, refs_at h1, h2⟩
theorem LLa.of_at {H : Hp} {a : Addr} {as : List Addr} {rows : List (List Nat)} (h : LLa H a as rows) {i : Nat} {x : V} (hx : (refs as)[i]? = some x) : i < rows.length ∧ ∃ p, x = .ref p ∧ as[i]? = some p ∧ H p = some (.lst (nsV (row rows i))) := by
  have hi : i < rows.length := by
    have := (List.getElem?_eq_some_iff.mp hx).1
    rw [refs_len, h.2.1] at this
    exact this
  obtain ⟨p, h1, h2⟩ := h.2.2 i hi
  rw [refs_at h1] at hx
  exact ⟨hi, p, (Option.some.inj hx).symm, h1, h2⟩
theorem LLa.snoc {H : Hp} {a p : Addr} {as : List Addr} {rows : List (List Nat)} {r : List Nat} (h : LLa H a as rows) (hp : H p = some (.lst (nsV r))) (hpa : p ≠ a) (hna : a ∉ as) : LLa (upd H a (.lst (refs as ++ [.ref p]))) a (as ++ [p]) (rows ++ [r]) := by
  refine ⟨by rw [upd_same, refs_snoc], by rw [List.length_append, List.length_append, h.2.1]; rfl, fun i hi => ?_⟩
  by_cases c : i < rows.length
  · obtain ⟨q, h1, h2⟩ := h.2.2 i c
    refine ⟨q, by rw [List.getElem?_append_left (by rw [h.2.1]; exact c)]; exact h1, ?_⟩
    have hq : q ≠ a := fun e => hna (by rw [← e]; exact List.mem_of_getElem? h1)
    rw [upd_ne hq, h2]
    congr 3
    unfold row
    rw [List.getD_eq_getElem?_getD, List.getD_eq_getElem?_getD, List.getElem?_append_left c]
  · have e : i = rows.length := by
      rw [List.length_append, List.length_singleton] at hi
      omega
    subst e
    refine ⟨p, by rw [← h.2.1, List.getElem?_append_right (Nat.le_refl _), Nat.sub_self]; rfl, ?_⟩
    rw [upd_ne hpa, hp]
    congr 3
    unfold row
    rw [List.getD_eq_getElem?_getD, List.getElem?_append_right (Nat.le_refl _), Nat.sub_self]
    rfl
/-- pairs -/
def PLa (H : Hp) (a : Addr) (as : List Addr) (ps : List (Nat × Nat)) : Prop := H a = some (.lst (refs as)) ∧ as.length = ps.length ∧ ∀ (i : Nat) (x : Nat × Nat), ps[i]? = some x → ∃ p, as[i]? = some p ∧ H p = some (.tup [nV x.1, nV x.2])
def PL (H : Hp) (a : Addr) (ps : List (Nat × Nat)) : Prop := ∃ as, PLa H a as ps

/-- what is asked of the rows -/
structure RO (m : Nat) (rows : List (List Nat)) : Prop where
  few : rows.length ≤ 7
  m5 : m ≤ 5
  all : ∀ r ∈ rows, r.length = m
theorem RO.row {m : Nat} {rows : List (List Nat)} (h : RO m rows) {i : Nat} (hi : i < rows.length) : (Hr.row rows i).length = m := by
  apply h.all
  unfold Hr.row
  rw [List.getD_eq_getElem?_getD, List.getElem?_eq_getElem hi]
  exact List.getElem_mem hi

/-! ### what the top has written -/
def sizesN : List Nat := [1, 0, 1, 3, 2, 2, 1, 2, 2, 2, 0, 0, 1, 2, 1, 0, 1, 0, 0, 0, 1, 3, 2, 0, 0]
structure Txt (K : PySem.W.Frag) (mg : Str → Option Value) (CI CD aS : Addr) : Prop where
  len : mg "len" = none
  range : mg "range" = none
  list : mg "list" = none
  max : mg "max" = none
  min : mg "min" = none
  int : mg "int" = none
  gMostHouseholds : ∃ u, mg "MOST_HOUSEHOLDS" = some u ∧ RelV (.int 7) u
  gMostReports : ∃ u, mg "MOST_REPORTS" = some u ∧ RelV (.int 7) u
  gSizes : ∃ u, mg "SIZES" = some u ∧ RelV (.ref aS) u
  sizes : ∀ H : Hp, SqT K H aS (nsV sizesN)
  clInstance : Cls K CI
  nMany : NoAttr K CI "many"
  nReports : NoAttr K CI "reports"
  clDesk : Cls K CD
  nInst : NoAttr K CD "instance"
section
variable (P : Program) (w : World) (K : PySem.W.Frag) (mg : Str → Option Value) (base : Heap)
/-- a def of the top that keeps its promise, by its name -/
def Cal (k : Nat) (x : Str) (ps : List Str) (sp : Sp) : Prop := ∃ (f : Addr) (fd : FuncData), FnOk P w K mg base CX0 k f fd ps sp ∧ mg x = some (.ref f) ∧ PySem.W.keepIn K (.ref f) = true ∧ Binds K fd ps []
def Met (k : Nat) (C : Addr) (m : Str) (ps : List Str) (sp : Sp) : Prop := ∃ (f : Addr) (fd : FuncData), FnOk P w K mg base CX0 k f fd ps sp ∧ Meth K C m f ∧ Binds K fd ps []
def Mkd (k : Nat) (C : Addr) (x : Str) (ps : List Str) (sp : Sp) : Prop := ∃ (f : Addr) (fd : FuncData), FnOk P w K mg base CX0 k f fd ps sp ∧ L2.Mk K C f ∧ Binds K fd ps [] ∧ mg x = some (.ref C)
end
section
variable {X : Cx} {k : Nat} {C : Addr} {x m : Str} {ps : List Str} {sp : Sp} {p pos apos : Pos} {e o : Expr} {es : List Expr} {t : TA} {ta : TE}
theorem pe_gl {v : V} (hg : Gl X x) (h : ∃ u, X.mg x = some u ∧ RelV v u) (hd : (x == ("__debug__" : Str)) = false := by decide) : PE X (.Name x pos) (tC v) := by
  obtain ⟨u, h1, h2⟩ := h
  exact pe_glob hg h1 h2 hd
theorem pe_cal (c : Cal X.prog X.w X.K X.mg X.base k x ps sp) (hr : Room k X.A) (hg : Gl X x) (ha : PA X (e :: es) t) (hdb : (x == ("__debug__" : Str)) = false := by decide)
    (he : starEach (e :: es) X.env = (false, eval e X.env) :: starEach es X.env := by rfl) (hpl : (backTo pos (starEach es X.env)).any (·.1) = false := by rfl) : PE X (.Call (.Name x p) (e :: es) [] pos) (tCall sp [] E0 t) := by
  obtain ⟨f, fd, h1, h2, h3, h4⟩ := c
  exact pe_call h1 hr hg h2 h3 h4 .nil pass0 ha hdb he hpl
theorem pe_met {pl : Sem Bool} (c : Met X.prog X.w X.K X.mg X.base k C m ps sp) (cl : Cls X.K C) (hr : Room k X.A) (he : PE X o ta) (ha : PA X (e :: es) t)
    (hst : starEach (e :: es) X.env = (false, eval e X.env) :: starEach es X.env := by rfl) (hpl : (backTo pos (starEach es X.env)).any (·.1) = false := by rfl)
    (ht : eval (.Call (.Attribute o m apos) (e :: es) [] pos) X.env = (do
      let ov ← eval o X.env
      standAt apos.atName
      let (f, first) ← holding [ov] (getMethod ov m pl)
      callWith pos f first (backTo pos (starEach (e :: es) X.env)) (backToKw pos (keywordEach [] X.env))) := by rfl) : PE X (.Call (.Attribute o m apos) (e :: es) [] pos) (tMeth C m sp [] E0 ta t) := by
  obtain ⟨f, fd, h1, h2, h3⟩ := c
  exact pe_meth he cl h2 h1 hr h3 .nil pass0 ha hst hpl ht
theorem pe_met0 {pl : Sem Bool} (c : Met X.prog X.w X.K X.mg X.base k C m ps sp) (cl : Cls X.K C) (hr : Room k X.A) (he : PE X o ta)
    (ht : eval (.Call (.Attribute o m apos) [] [] pos) X.env = (do
      let ov ← eval o X.env
      standAt apos.atName
      let (f, first) ← holding [ov] (getMethod ov m pl)
      callWith pos f first (backTo pos (starEach [] X.env)) (backToKw pos (keywordEach [] X.env))) := by rfl) : PE X (.Call (.Attribute o m apos) [] [] pos) (tMeth C m sp [] E0 ta tNil) := by
  obtain ⟨f, fd, h1, h2, h3⟩ := c
  exact pe_meth0 he cl h2 h1 hr h3 .nil pass0 ht
theorem pe_mk (c : Mkd X.prog X.w X.K X.mg X.base k C x ps sp) (hr : Room (k + 1) X.A) (hg : Gl X x) (ha : PA X (e :: es) t) (hdb : (x == ("__debug__" : Str)) = false := by decide)
    (he : starEach (e :: es) X.env = (false, eval e X.env) :: starEach es X.env := by rfl) (hpl : (backTo pos (starEach es X.env)).any (·.1) = false := by rfl) : PE X (.Call (.Name x p) (e :: es) [] pos) (tMake C sp [] E0 t) := by
  obtain ⟨f, fd, h1, h2, h3, h4⟩ := c
  exact pe_make h2 h1 hr hg h4 h3 .nil pass0 ha hdb he hpl
theorem pe_mk0 (c : Mkd X.prog X.w X.K X.mg X.base k C x ps sp) (hr : Room (k + 1) X.A) (hg : Gl X x) (hdb : (x == ("__debug__" : Str)) = false := by decide) : PE X (.Call (.Name x p) [] [] pos) (tMake C sp [] E0 tNil) := by
  obtain ⟨f, fd, h1, h2, h3, h4⟩ := c
  exact pe_make0 h2 h1 hr hg h4 h3 .nil pass0 hdb
end
end Hr
/-! Hb: readings in natural numbers; reports.py. -/
namespace Hr
open PySem PySem.Spec PyProof.Rows L2 Evl
section
variable {K : PySem.W.Frag} {σ : L2.St} {H H' : Hp} {ta tb te : TE} {a b : Nat}
theorem el_is {xs ys : List V} (h : EvL te σ H xs) (e : xs = ys) : EvL te σ H ys := by
  rw [← e]
  exact h
theorem dLt (a b : Nat) : decide ((a : Int) < (b : Int)) = decide (a < b) := decide_eq_decide.mpr (by omega)
theorem dLe (a b : Nat) : decide ((a : Int) ≤ (b : Int)) = decide (a ≤ b) := decide_eq_decide.mpr (by omega)
theorem dEq (a b : Nat) : decide (nV a = nV b) = decide (a = b) := decide_eq_decide.mpr ⟨fun e => by
  injection e with e
  omega, fun e => by rw [e]⟩
theorem ev_gt (ha : Ev ta σ H (nV a)) (hb : Ev tb σ H (nV b)) : Ev (tOp rGt ta tb) σ H (.bl (decide (b < a))) := ev_is (ev_op ha hb rv_I0) (by rw [dLt])
theorem ev_lt (ha : Ev ta σ H (nV a)) (hb : Ev tb σ H (nV b)) : Ev (tOp rLt ta tb) σ H (.bl (decide (a < b))) := ev_is (ev_op ha hb rv_I0) (by rw [dLt])
theorem ev_ge (ha : Ev ta σ H (nV a)) (hb : Ev tb σ H (nV b)) : Ev (tOp (rI0 fun i j => .bl (decide (j ≤ i))) ta tb) σ H (.bl (decide (b ≤ a))) := ev_is (ev_op ha hb rv_I0) (by rw [dLe])
theorem ev_eq (ha : Ev ta σ H (nV a)) (hb : Ev tb σ H (nV b)) : Ev (tOp rEq ta tb) σ H (.bl (decide (a = b))) := ev_is (ev_op ha hb (rv_eq rfl)) (by rw [dEq])
theorem ev_ne (ha : Ev ta σ H (nV a)) (hb : Ev tb σ H (nV b)) : Ev (tOp rNe ta tb) σ H (.bl (!decide (a = b))) := ev_is (ev_op ha hb (rv_ne rfl)) (by rw [dEq])
theorem et_gt (ha : Ev ta σ H (nV a)) (hb : Ev tb σ H (nV b)) : EvT (tTest (tOp rGt ta tb)) σ H (decide (b < a)) := et_test (ev_gt ha hb)
theorem et_lt (ha : Ev ta σ H (nV a)) (hb : Ev tb σ H (nV b)) : EvT (tTest (tOp rLt ta tb)) σ H (decide (a < b)) := et_test (ev_lt ha hb)
theorem et_ge (ha : Ev ta σ H (nV a)) (hb : Ev tb σ H (nV b)) : EvT (tTest (tOp (rI0 fun i j => .bl (decide (j ≤ i))) ta tb)) σ H (decide (b ≤ a)) := et_test (ev_ge ha hb)
theorem et_eq (ha : Ev ta σ H (nV a)) (hb : Ev tb σ H (nV b)) : EvT (tTest (tOp rEq ta tb)) σ H (decide (a = b)) := et_test (ev_eq ha hb)
theorem et_ne (ha : Ev ta σ H (nV a)) (hb : Ev tb σ H (nV b)) : EvT (tTest (tOp rNe ta tb)) σ H (!decide (a = b)) := et_test (ev_ne ha hb)
theorem ev_add (ha : Ev ta σ H (nV a)) (hb : Ev tb σ H (nV b)) : Ev (tOp (rI0 fun i j => .int (i + j)) ta tb) σ H (nV (a + b)) := ev_is (ev_op ha hb rv_I0) (by show V.int _ = V.int _; rw [Int.natCast_add])
theorem ev_sub (h : b ≤ a) (ha : Ev ta σ H (nV a)) (hb : Ev tb σ H (nV b)) : Ev (tOp (rI0 fun i j => .int (i - j)) ta tb) σ H (nV (a - b)) := ev_is (ev_op ha hb rv_I0) (by show V.int _ = V.int _; rw [Int.natCast_sub h])
theorem ev_lenN' {p : Addr} {l : List Nat} (ha : Ev ta σ H (.ref p)) (h : H p = some (.lst (nsV l))) : Ev (tCB (rLenS K) (tCons ta tNil)) σ H (nV l.length) := ev_is (ev_len ha (sq_of h)) (by rw [nsV_len])
theorem ev_lenR {p : Addr} {l : List Addr} (ha : Ev ta σ H (.ref p)) (h : H p = some (.lst (refs l))) : Ev (tCB (rLenS K) (tCons ta tNil)) σ H (nV l.length) := ev_is (ev_len ha (sq_of h)) (by rw [refs_len])
theorem ev_lenLL {p : Addr} {as : List Addr} {rows : List (List Nat)} (ha : Ev ta σ H (.ref p)) (h : LLa H p as rows) : Ev (tCB (rLenS K) (tCons ta tNil)) σ H (nV rows.length) := ev_is (ev_lenR ha h.1) (by rw [h.2.1])
/-- len of a new list of numbers -/
theorem ev_lenNN {l : List Nat} (ha : EvL ta σ H (nsV l)) : Ev (tCB (rLenS K) (tCons ta tNil)) σ H (nV l.length) := ev_is (ev_lenN ha) (by rw [nsV_len])
/-- xs[i] of numbers, of rows -/
theorem ev_at {p : Addr} {l : List Nat} {i : Nat} (ha : Ev ta σ H (.ref p)) (hb : Ev tb σ H (nV i)) (h : H p = some (.lst (nsV l))) (hi : i < l.length) : Ev (tOp (rIxL K) ta tb) σ H (nV (l.getD i 0)) :=
  ev_op ha hb (rv_ixL (sq_of h) (nsV_at hi))
theorem ev_row {p q : Addr} {as : List Addr} {i : Nat} (ha : Ev ta σ H (.ref p)) (hb : Ev tb σ H (nV i)) (h : H p = some (.lst (refs as))) (hq : as[i]? = some q) : Ev (tOp (rIxL K) ta tb) σ H (.ref q) :=
  ev_op ha hb (rv_ixL (sq_of h) (atI_nat (refs_at hq)))
end
section
variable {P : Program} {w : World} {K : PySem.W.Frag} {mg : Str → Option Value} {base : Heap} {CI CD aS f : Addr} {fd : FuncData}
/-! ### conflicts -/
def sp_conflicts : Sp := fun vs H Q _ => ∃ (a b : Addr) (one other : List Nat), vs = [.ref a, .ref b] ∧ H a = some (.lst (nsV one)) ∧ H b = some (.lst (nsV other)) ∧ one.length ≤ other.length ∧ one.length ≤ 5 ∧
  RetL (nsV (conflicts one other)) H Q
theorem ok_conflicts (F : Fun K "conflicts" "conflicts" s_conflicts f fd) (T : Txt K mg CI CD aS) : FnOk P w K mg base CX0 1 f fd p_conflicts sp_conflicts := by
  refine F.ok sc_conflicts (fun vs H Q E h => ?_) (fun cdv A outer s H vs Q E hr h => ?_)
  · obtain ⟨a, b, one, other, rfl, _⟩ := h
    rfl
  · obtain ⟨a, b, one, other, rfl, ha, hb, hl, h5, k⟩ := h
    refine ⟨_, (pss_one (ps_ret (pe_lc (own := [("at", 2)]) (g := gName 2) (tt := (tAnd (tTest (tOp rGt (tOp (rIxL K) (tVar 0) (tVar 2)) (tC (.int 0)))) (tAnd (tTest (tOp rGt (tOp (rIxL K) (tVar 1) (tVar 2)) (tC (.int 0)))) (tTest (tOp rNe (tOp (rIxL K) (tVar 0) (tVar 2)) (tOp (rIxL K) (tVar 1) (tVar 2))))))) (te := (tVar 2)) rfl sc_conflicts.nd (pi_range1 (by rfl) T.range (pa_cons (pe_callB call_len_seq (by rfl) T.len PySem.boot_len (pa_cons (pv 0) pa_nil)) pa_nil)) (blkOk_by (N := n_conflicts) (sc := defScope s_conflicts) (by decide +kernel)) (fun _ _ _ _ _ => pg_name (i := 2) sc_conflicts.nd rfl (Or.inl rfl)) (fun _ _ _ _ _ => pts_one (PW.pt (pw_and (pt_cmpR op_gt (pe_ix ix_list (pv 0) (pv 2) (fun _ _ => rfl)) pe_int (nomark _)) (pw_and (pt_cmpR op_gt (pe_ix ix_list (pv 1) (pv 2) (fun _ _ => rfl)) pe_int (nomark _)) (pw_and1 (pt_cmpR op_ne (pe_ix ix_list (pv 0) (pv 2) (fun _ _ => rfl)) (pe_ix ix_list (pv 1) (pv 2) (fun _ _ => rfl)) (nomark _))))))) (fun _ _ _ _ _ => (pv 2))))), ?_⟩
    refine s_retL (el_is (el_lcR1 (n := ((one.length : Nat) : Int)) (cfAt one other) nV (ea_cons (ev_lenN' (ev_var rfl) ha) ea_nil) (by omega) (fun x => rfl) (fun i H1 e hi => ?_) (fun i H1 e hi hf => ev_var rfl)) ?_) k
    · have hi' : i < one.length := by omega
      exact et_and (et_gt (ev_at (ev_var rfl) (ev_var rfl) (e _ _ ha) hi') ev_c) fun _ =>
        et_and (et_gt (ev_at (ev_var rfl) (ev_var rfl) (e _ _ hb) (by omega)) ev_c) fun _ =>
        et_ne (ev_at (ev_var rfl) (ev_var rfl) (e _ _ ha) hi') (ev_at (ev_var rfl) (ev_var rfl) (e _ _ hb) (by omega))
    · rw [Int.toNat_natCast]
      exact nsV_given _ _
/-! ### are_unlike -/
def sp_are_unlike : Sp := fun vs H Q _ => ∃ (a b : Addr) (one other : List Nat), vs = [.ref a, .ref b] ∧ H a = some (.lst (nsV one)) ∧ H b = some (.lst (nsV other)) ∧ one.length ≤ other.length ∧ one.length ≤ 5 ∧
  RetV (.bl (unlike one other)) H Q
theorem ok_are_unlike (F : Fun K "are_unlike" "are_unlike" s_are_unlike f fd) (T : Txt K mg CI CD aS) (C_conflicts : Cal P w K mg base 1 "conflicts" p_conflicts sp_conflicts) : FnOk P w K mg base CX0 2 f fd p_are_unlike sp_are_unlike := by
  refine F.ok sc_are_unlike (fun vs H Q E h => ?_) (fun cdv A outer s H vs Q E hr h => ?_)
  · obtain ⟨a, b, one, other, rfl, _⟩ := h
    rfl
  · obtain ⟨a, b, one, other, rfl, ha, hb, hl, h5, k⟩ := h
    refine ⟨_, (pss_one (ps_ret (pe_cmpR op_gt (pe_callB call_len_seq (by rfl) T.len PySem.boot_len (pa_cons (pe_cal C_conflicts (hr.mono (by decide)) (by rfl) (pa_cons (pv 0) (pa_cons (pv 1) pa_nil))) pa_nil)) pe_int (nomark _)))), ?_⟩
    refine s_ret (ev_gt (ev_lenNN (l := conflicts one other) (el_call (ea_cons (ev_var rfl) (ea_cons (ev_var rfl) ea_nil)) ?_)) ev_c) k
    exact fun H1 e Q q E => ⟨a, b, one, other, rfl, e _ _ ha, e _ _ hb, hl, h5, q⟩
end
end Hr
/-! Hc: reports.py, the rest. -/
namespace Hr
open PySem PySem.Spec PyProof.Rows L2 Evl
/-! ### combined -/
def mix (f r : List Nat) (j : Nat) : List Nat := (List.range f.length).map fun a => if a < j then (if f.getD a 0 = 0 then r.getD a 0 else f.getD a 0) else f.getD a 0
theorem mix_len (f r : List Nat) (j : Nat) : (mix f r j).length = f.length := by
  unfold mix
  rw [List.length_map, List.length_range]
theorem mix_at (f r : List Nat) (j a : Nat) (h : a < f.length) : (mix f r j).getD a 0 = if a < j then (if f.getD a 0 = 0 then r.getD a 0 else f.getD a 0) else f.getD a 0 := by
  unfold mix
  rw [List.getD_eq_getElem?_getD, List.getElem?_map, List.getElem?_range h]
  rfl
theorem mix_zero (f r : List Nat) : mix f r 0 = f := by
  apply list_ext_getD (n := f.length) (mix_len _ _ _) rfl
  intro a ha
  rw [mix_at _ _ _ _ ha, if_neg (Nat.not_lt_zero _)]
theorem mix_all (f r : List Nat) : mix f r f.length = merge1 f r := by
  apply list_ext_getD (n := f.length) (mix_len _ _ _) (merge1_len _ _)
  intro a ha
  rw [mix_at _ _ _ _ ha, if_pos ha, merge1_at ha]
theorem mix_here (f r : List Nat) (j : Nat) (h : j < f.length) : (mix f r j).getD j 0 = f.getD j 0 := by
  rw [mix_at _ _ _ _ h, if_neg (Nat.lt_irrefl _)]
theorem mix_put {f r : List Nat} {j : Nat} (h : j < f.length) (h0 : f.getD j 0 = 0) : (mix f r j).set j (r.getD j 0) = mix f r (j + 1) := by
  apply list_ext_getD (n := f.length) (by rw [List.length_set, mix_len]) (mix_len _ _ _)
  intro a ha
  rw [mix_at _ _ _ _ ha]
  by_cases c : a = j
  · subst c
    rw [List.getD_eq_getElem?_getD, List.getElem?_set_self (by rw [mix_len]; exact h), if_pos (by omega), if_pos h0]
    rfl
  · rw [List.getD_eq_getElem?_getD, List.getElem?_set_ne (fun e => c e.symm), ← List.getD_eq_getElem?_getD, mix_at _ _ _ _ ha]
    by_cases d : a < j
    · rw [if_pos d, if_pos (show a < j + 1 by omega)]
    · rw [if_neg d, if_neg (show ¬ a < j + 1 by omega)]
theorem mix_stay {f r : List Nat} {j : Nat} (h : j < f.length) (h0 : ¬ f.getD j 0 = 0) : mix f r j = mix f r (j + 1) := by
  apply list_ext_getD (n := f.length) (mix_len _ _ _) (mix_len _ _ _)
  intro a ha
  rw [mix_at _ _ _ _ ha, mix_at _ _ _ _ ha]
  by_cases c : a = j
  · subst c
    rw [if_neg (Nat.lt_irrefl _), if_pos (by omega), if_neg h0]
  · by_cases d : a < j
    · rw [if_pos d, if_pos (show a < j + 1 by omega)]
    · rw [if_neg d, if_neg (show ¬ a < j + 1 by omega)]
theorem fold_merge_len : ∀ (l : List (List Nat)) (f : List Nat), (l.foldl merge1 f).length = f.length
  | [], _ => rfl
  | r :: l, f => by rw [List.foldl_cons, fold_merge_len l, merge1_len]
/-! ### pairs -/
theorem PLa.mono {H H' : Hp} {a : Addr} {as : List Addr} {ps : List (Nat × Nat)} (h : PLa H a as ps) (e : Ex H H') : PLa H' a as ps :=
  ⟨e _ _ h.1, h.2.1, fun i x hx => by
    obtain ⟨p, h1, h2⟩ := h.2.2 i x hx
    exact ⟨p, h1, e _ _ h2⟩⟩
theorem PLa.snoc {H : Hp} {a p : Addr} {as : List Addr} {ps : List (Nat × Nat)} {x : Nat × Nat} (h : PLa H a as ps) (hp : H p = some (.tup [nV x.1, nV x.2])) : PLa (upd H a (.lst (refs as ++ [.ref p]))) a (as ++ [p]) (ps ++ [x]) := by
  refine ⟨by rw [upd_same, refs_snoc], by rw [List.length_append, List.length_append, h.2.1]; rfl, fun i y hy => ?_⟩
  have nt : ∀ {q : Addr} {xs : List V}, H q = some (.tup xs) → q ≠ a := fun hq => ne_of hq h.1 (by intro z; cases z)
  by_cases c : i < ps.length
  · rw [List.getElem?_append_left c] at hy
    obtain ⟨q, h1, h2⟩ := h.2.2 i y hy
    exact ⟨q, by rw [List.getElem?_append_left (by rw [h.2.1]; exact c)]; exact h1, by rw [upd_ne (nt h2)]; exact h2⟩
  · have e : i = ps.length := by
      have := (List.getElem?_eq_some_iff.mp hy).1
      rw [List.length_append, List.length_singleton] at this
      omega
    subst e
    rw [List.getElem?_append_right (Nat.le_refl _), Nat.sub_self] at hy
    have e2 : x = y := Option.some.inj hy
    subst e2
    exact ⟨p, by rw [← h.2.1, List.getElem?_append_right (Nat.le_refl _), Nat.sub_self]; rfl, by rw [upd_ne (nt hp)]; exact hp⟩
theorem pairsFrom_len (rows : List (List Nat)) (one k : Nat) : (pairsFrom rows one k).length ≤ k := by
  unfold pairsFrom
  rw [List.length_map]
  have h := List.length_filter_le (fun i => !unlike (row rows one) (row rows (one + 1 + i))) (List.range k)
  rw [List.length_range] at h
  exact h
theorem undecidedTo_succ (rows : List (List Nat)) (n : Nat) : undecidedTo rows (n + 1) = undecidedTo rows n ++ pairsFrom rows n (rows.length - (n + 1)) := by
  unfold undecidedTo
  rw [List.range_succ, List.flatMap_append]
  congr 1
  simp
theorem undecidedTo_len (rows : List (List Nat)) : ∀ n, (undecidedTo rows n).length ≤ n * rows.length
  | 0 => Nat.zero_le _
  | n + 1 => by
    rw [undecidedTo_succ, List.length_append, Nat.add_mul, Nat.one_mul]
    have h1 := undecidedTo_len rows n
    have h2 := pairsFrom_len rows n (rows.length - (n + 1))
    omega
theorem pairsFrom_yes {rows : List (List Nat)} {one k : Nat} (h : unlike (row rows one) (row rows (one + 1 + k)) = false) : pairsFrom rows one (k + 1) = pairsFrom rows one k ++ [(one, one + 1 + k)] := by
  unfold pairsFrom
  rw [List.range_succ, List.filter_append, List.map_append, List.filter_cons, if_pos (by rw [h]; rfl)]
  rfl
theorem pairsFrom_no {rows : List (List Nat)} {one k : Nat} (h : unlike (row rows one) (row rows (one + 1 + k)) = true) : pairsFrom rows one (k + 1) = pairsFrom rows one k := by
  unfold pairsFrom
  rw [List.range_succ, List.filter_append, List.map_append, List.filter_cons, if_neg (by rw [h]; decide)]
  show _ ++ [] = _
  rw [List.append_nil]
/-! ### powers, bits -/
def pows (n : Nat) : List Nat := (List.range (n + 1)).map fun i => 2 ^ i
theorem pows_succ (n : Nat) : pows (n + 1) = pows n ++ [2 ^ (n + 1)] := by
  unfold pows
  rw [List.range_succ, List.map_append]
  rfl
theorem pows_last (n : Nat) : ∃ l, pows n = l ++ [2 ^ n] := by
  unfold pows
  rw [List.range_succ, List.map_append]
  exact ⟨_, rfl⟩
theorem pows_len (n : Nat) : (pows n).length = n + 1 := by
  unfold pows
  rw [List.length_map, List.length_range]
theorem pow_le_128 {n : Nat} (h : n ≤ 7) : 2 ^ n ≤ 128 := Nat.pow_le_pow_right (by decide) h
theorem mul_ok {x : Nat} (h : x ≤ 128) : CMul (x : Int) 2 := .inl ⟨by omega, by omega⟩
theorem members_yes {s i : Nat} (h : s.testBit i = true) : members s (i + 1) = members s i ++ [i] := by
  unfold members
  rw [List.range_succ, List.filter_append, List.filter_cons, if_pos h]
  rfl
theorem members_no {s i : Nat} (h : s.testBit i = false) : members s (i + 1) = members s i := by
  unfold members
  rw [List.range_succ, List.filter_append, List.filter_cons, if_neg (by rw [h]; decide)]
  show _ ++ [] = _
  rw [List.append_nil]
theorem members_len (s n : Nat) : (members s n).length ≤ n := by
  unfold members
  have h := List.length_filter_le (fun p => s.testBit p) (List.range n)
  rw [List.length_range] at h
  exact h
theorem div_next (s i : Nat) : s / 2 ^ i / 2 = s / 2 ^ (i + 1) := by rw [Nat.div_div_eq_div_mul, Nat.pow_succ]
/-- promises with rows -/
def RetR (xs : List V) (H : Hp) (Q : VK) : Prop := ∀ p H2, Ex H H2 → H2 p = some (.lst xs) → Q (.ref p) H2
def RetLL (rows : List (List Nat)) (H : Hp) (Q : VK) : Prop := ∀ p H2, Ex H H2 → LL H2 p rows → Q (.ref p) H2
def RetPL (ps : List (Nat × Nat)) (H : Hp) (Q : VK) : Prop := ∀ p H2, Ex H H2 → PL H2 p ps → Q (.ref p) H2
section
variable {P : Program} {w : World} {K : PySem.W.Frag} {mg : Str → Option Value} {base : Heap} {CI CD aS f : Addr} {fd : FuncData}
def sp_combined : Sp := fun vs H Q _ => ∃ (a : Addr) (m : Nat) (rows : List (List Nat)), vs = [.ref a] ∧ LL H a rows ∧ RO m rows ∧ 0 < rows.length ∧ RetL (nsV (combined rows)) H Q
theorem ok_combined (F : Fun K "combined" "combined" s_combined f fd) (T : Txt K mg CI CD aS) : FnOk P w K mg base CX0 1 f fd p_combined sp_combined := by
  refine F.ok sc_combined (fun vs H Q E h => ?_) (fun cdv A outer s H vs Q E hr h => ?_)
  · obtain ⟨a, m, rows, rfl, _⟩ := h
    rfl
  · obtain ⟨a, m, rows, rfl, ⟨as, hL⟩, ro, hne, k⟩ := h
    refine ⟨_, (pss_cons (ps_set (i := 1) sc_combined.nd rfl (Or.inl rfl) (pe_callTy call_list_of (by rfl) T.list (by decide +kernel) (pa_cons (pe_ix ix_list (pv 0) pe_int (fun _ _ => rfl)) pa_nil))) (pss_cons (ps_for PassesOwn.never rfl (pi_list (pv 0)) (pg_name (i := 2) sc_combined.nd rfl (Or.inl rfl)) (pss_one (ps_for PassesOwn.never rfl (pi_range1 (by rfl) T.range (pa_cons (pe_callB call_len_seq (by rfl) T.len PySem.boot_len (pa_cons (pv 1) pa_nil)) pa_nil)) (pg_name (i := 3) sc_combined.nd rfl (Or.inl rfl)) (pss_one (ps_if (pt_cmpR op_eq (pe_ix ix_list (pv 1) (pv 3) (fun _ _ => rfl)) pe_int (nomark _)) (pss_one (ps_asg (pe_ix ix_list (pv 2) (pv 3) (fun _ _ => rfl)) (pg_sub (pv 1) (pv 3) set_list))) pss_nil))))) (pss_one (ps_ret (pv 1))))), ?_⟩
    obtain ⟨q0, hq0, hr0⟩ := hL.2.2 0 hne
    refine q_asgL (xs := nsV (row rows 0)) (el_list (ev_row (i := 0) (ev_var rfl) ev_c hL.1 hq0) (sq_of hr0)) fun p H1 hp e1 h1 => ?_
    refine q_forLn (xs := refs as) (K := K) (a := a) (ev_var rfl) (sq_of (e1 _ _ hL.1)) (fun i σ' H' => ∃ v2 v3, σ' = [some (.ref a), some (.ref p), v2, v3] ∧ Ex H H' ∧ H' p = some (.lst (nsV ((rows.take i).foldl merge1 (row rows 0)))))
      (fun H2 e2 => ⟨none, none, rfl, e1.trans e2, e2 _ _ h1⟩) (fun i σ' H' _ ⟨_, _, _, e, _⟩ => sq_of (e _ _ hL.1)) ?_ ?_
    · rintro i x σ' H' hx ⟨v2, v3, rfl, e2, h2⟩
      obtain ⟨hi, q, rfl, hq, hqr⟩ := hL.of_at hx
      generalize hf : (rows.take i).foldl merge1 (row rows 0) = fo at h2
      have hfl : fo.length = m := by rw [← hf, fold_merge_len, ro.row hne]
      have hrl : (row rows i).length = m := ro.row hi
      have hm := ro.m5
      refine s_forR1 (n := ((fo.length : Nat) : Int)) (ea_cons (ev_lenN' (ev_var rfl) h2) ea_nil) (by omega) (fun j σ' H' => ∃ v3, σ' = [some (.ref a), some (.ref p), some (.ref q), v3] ∧ Ex H H' ∧ H' p = some (.lst (nsV (mix fo (row rows i) j))))
        (fun H3 e3 => ⟨v3, rfl, e2.trans e3, by rw [mix_zero]; exact e3 _ _ h2⟩) ?_ ?_
      · rintro j σ' H' hj ⟨v3, rfl, e3, h3⟩
        have hj' : j < fo.length := by omega
        refine s_when (et_eq (ev_at (l := mix fo (row rows i) j) (ev_var rfl) (ev_var rfl) h3 (by rw [mix_len]; exact hj')) ev_c) (fun hb H4 e4 => ?_) (fun hb H4 e4 => ?_)
        · rw [mix_here _ _ _ hj'] at hb
          refine s_setL (j := j) (e4 _ _ h3) (ev_at (ev_var rfl) (ev_var rfl) ((e3.trans e4) _ _ hqr) (by omega)) (ev_var rfl) (ev_var rfl) (by rw [nsV_len, mix_len]; exact hj') fun H5 e5 => ?_
          refine ⟨some (nV j), rfl, Ex.mut ((e3.trans e4).trans e5) hp, ?_⟩
          rw [upd_same, ← nsV_set, mix_put hj' (of_decide_eq_true hb)]
        · rw [mix_here _ _ _ hj'] at hb
          exact ⟨some (nV j), rfl, e3.trans e4, by rw [← mix_stay hj' (of_decide_eq_false hb)]; exact e4 _ _ h3⟩
      · rintro σ' H' ⟨v3, rfl, e3, h3⟩
        refine ⟨_, _, rfl, e3, ?_⟩
        rw [Int.toNat_natCast, mix_all] at h3
        rw [take_succ_row hi, List.foldl_append, hf]
        exact h3
    · rintro σ' H' ⟨v2, v3, rfl, e2, h2⟩
      refine s_ret (ev_var rfl) fun H3 e3 => k p H3 hp (e2.trans e3) ?_
      rw [refs_len, hL.2.1, List.take_length] at h2
      exact e3 _ _ h2
/-! ### undecided -/
def sp_undecided : Sp := fun vs H Q _ => ∃ (a : Addr) (m : Nat) (rows : List (List Nat)), vs = [.ref a] ∧ LL H a rows ∧ RO m rows ∧ RetPL (undecided rows) H Q
theorem ok_undecided (F : Fun K "undecided" "undecided" s_undecided f fd) (T : Txt K mg CI CD aS) (C_are_unlike : Cal P w K mg base 2 "are_unlike" p_are_unlike sp_are_unlike) : FnOk P w K mg base CX0 3 f fd p_undecided sp_undecided := by
  refine F.ok sc_undecided (fun vs H Q E h => ?_) (fun cdv A outer s H vs Q E hr h => ?_)
  · obtain ⟨a, m, rows, rfl, _⟩ := h
    rfl
  · obtain ⟨a, m, rows, rfl, ⟨as, hL⟩, ro, k⟩ := h
    have h7 := ro.few
    have h5 := ro.m5
    refine ⟨_, (pss_cons (ps_set (i := 1) sc_undecided.nd rfl (Or.inl rfl) (pe_lst pa_nil)) (pss_cons (ps_for PassesOwn.never rfl (pi_range1 (by rfl) T.range (pa_cons (pe_callB call_len_seq (by rfl) T.len PySem.boot_len (pa_cons (pv 0) pa_nil)) pa_nil)) (pg_name (i := 2) sc_undecided.nd rfl (Or.inl rfl)) (pss_one (ps_for PassesOwn.never rfl (pi_range2 (by rfl) T.range (pa_cons (pe_op op_add (pv 2) pe_int) (pa_cons (pe_callB call_len_seq (by rfl) T.len PySem.boot_len (pa_cons (pv 0) pa_nil)) pa_nil))) (pg_name (i := 3) sc_undecided.nd rfl (Or.inl rfl)) (pss_one (ps_if (pt_not (pt_val (pe_cal C_are_unlike (hr.mono (by decide)) (by rfl) (pa_cons (pe_ix ix_list (pv 0) (pv 2) (fun _ _ => rfl)) (pa_cons (pe_ix ix_list (pv 0) (pv 3) (fun _ _ => rfl)) pa_nil))))) (pss_one (ps_expr (pe_bm PySem.F.plainAttrs_list PySem.F.slot_list_append PySem.F.type_list_append mt_append (pv 1) (pa_cons (pe_tup (pa_cons (pv 2) (pa_cons (pv 3) pa_nil))) pa_nil)))) pss_nil))))) (pss_one (ps_ret (pv 1))))), ?_⟩
    refine q_asgL (xs := []) (el_lst ea_nil (by decide)) fun p H1 hp e1 h1 => ?_
    refine q_forR1 (n := ((rows.length : Nat) : Int)) (ea_cons (ev_lenLL (ev_var rfl) (hL.mono e1)) ea_nil) (by omega) (fun i σ' H' => ∃ v2 v3, σ' = [some (.ref a), some (.ref p), v2, v3] ∧ Ex H H' ∧ ∃ ps, PLa H' p ps (undecidedTo rows i))
      (fun H2 e2 => ⟨none, none, rfl, e1.trans e2, [], e2 _ _ h1, rfl, fun i x hx => by cases hx⟩) ?_ ?_
    · rintro i σ' H' hi ⟨v2, v3, rfl, e2, ps, h2⟩
      have hi' : i < rows.length := by omega
      obtain ⟨qi, hqi, hri⟩ := hL.2.2 i hi'
      refine s_forR2 (lo := (((i + 1 : Nat)) : Int)) (n := ((rows.length : Nat) : Int)) (ea_cons (ev_add (b := 1) (ev_var rfl) ev_c) (ea_cons (ev_lenLL (ev_var rfl) (hL.mono e2)) ea_nil)) (by omega)
        (fun j σ' H' => ∃ v3, σ' = [some (.ref a), some (.ref p), some (nV i), v3] ∧ Ex H H' ∧ ∃ ps, PLa H' p ps (undecidedTo rows i ++ pairsFrom rows i j))
        (fun H3 e3 => ⟨v3, rfl, e2.trans e3, ps, by
          have e0 : pairsFrom rows i 0 = [] := rfl
          rw [e0, List.append_nil]
          exact h2.mono e3⟩) ?_ ?_
      · rintro j σ' H' hj ⟨v3, rfl, e3, ps, h3⟩
        have hj' : i + 1 + j < rows.length := by omega
        obtain ⟨qj, hqj, hrj⟩ := hL.2.2 (i + 1 + j) hj'
        have ej : V.int (((i + 1 : Nat) : Int) + (j : Int)) = nV (i + 1 + j) := congrArg V.int (Int.natCast_add _ _).symm
        rw [ej]
        refine s_when (b := !unlike (row rows i) (row rows (i + 1 + j))) (et_not (et_B (ev_call (ea_cons (ev_row (i := i) (ev_var rfl) (ev_var rfl) (e3 _ _ hL.1) hqi) (ea_cons (ev_row (i := i + 1 + j) (ev_var rfl) (ev_var rfl) (e3 _ _ hL.1) hqj) ea_nil)) ?_))) (fun hb H4 e4 => ?_) (fun hb H4 e4 => ?_)
        · exact fun H4 e4 Q q E => ⟨qi, qj, _, _, rfl, (e3.trans e4) _ _ hri, (e3.trans e4) _ _ hrj, by rw [ro.row hi', ro.row hj']; exact Nat.le_refl _, by rw [ro.row hi']; exact h5, q⟩
        · have hz : (refs ps).length < 100000 := by
            have z1 := undecidedTo_len rows i
            have z2 := pairsFrom_len rows i j
            rw [refs_len, h3.2.1, List.length_append]
            have z3 : i * rows.length ≤ 7 * 7 := Nat.mul_le_mul (by omega) h7
            omega
          refine s_appU (e4 _ _ h3.1) (ev_var rfl) (eu_tup (ea_cons (ev_var rfl) (ea_cons (ev_var rfl) ea_nil)) (by show 2 ≤ 100000; decide)) hz fun t H5 ht e5 h5 => ?_
          refine ⟨_, rfl, Ex.mut ((e3.trans e4).trans e5) hp, ps ++ [t], ?_⟩
          rw [pairsFrom_yes (by cases c : unlike (row rows i) (row rows (i + 1 + j)) with | true => rw [c] at hb; cases hb | false => rfl), ← List.append_assoc]
          exact (h3.mono (e4.trans e5)).snoc (x := (i, i + 1 + j)) h5
        · refine ⟨_, rfl, e3.trans e4, ps, ?_⟩
          rw [pairsFrom_no (by cases c : unlike (row rows i) (row rows (i + 1 + j)) with | true => rfl | false => rw [c] at hb; cases hb)]
          exact h3.mono e4
      · rintro σ' H' ⟨v3, rfl, e3, ps, h3⟩
        refine ⟨_, _, rfl, e3, ps, ?_⟩
        rw [undecidedTo_succ]
        have ez : ((rows.length : Int) - ((i + 1 : Nat) : Int)).toNat = rows.length - (i + 1) := by omega
        rw [ez] at h3
        exact h3
    · rintro σ' H' ⟨v2, v3, rfl, e2, ps, h2⟩
      refine s_ret (ev_var rfl) fun H3 e3 => k p H3 (e2.trans e3) ⟨ps, ?_⟩
      rw [Int.toNat_natCast] at h2
      exact h2.mono e3
/-! ### weights, members -/
def sp_weights : Sp := fun vs H Q _ => ∃ (n : Nat), vs = [nV n] ∧ n ≤ 7 ∧ RetL (nsV (pows n)) H Q
theorem ok_weights (F : Fun K "weights" "weights" s_weights f fd) (T : Txt K mg CI CD aS) : FnOk P w K mg base CX0 1 f fd p_weights sp_weights := by
  refine F.ok sc_weights (fun vs H Q E h => ?_) (fun cdv A outer s H vs Q E hr h => ?_)
  · obtain ⟨n, rfl, _⟩ := h
    rfl
  · obtain ⟨n, rfl, h7, k⟩ := h
    refine ⟨_, (pss_cons (ps_set (i := 1) sc_weights.nd rfl (Or.inl rfl) (pe_lst (pa_cons pe_int pa_nil))) (pss_cons (ps_for PassesOwn.never rfl (pi_range1 (by rfl) T.range (pa_cons (pv 0) pa_nil)) (pg_name (i := 2) sc_weights.nd rfl (Or.inl rfl)) (pss_one (ps_expr (pe_bm PySem.F.plainAttrs_list PySem.F.slot_list_append PySem.F.type_list_append mt_append (pv 1) (pa_cons (pe_op op_mul (pe_ix ix_list (pv 1) (pe_un un_neg pe_int) (fun _ _ => rfl)) pe_int) pa_nil))))) (pss_one (ps_ret (pv 1))))), ?_⟩
    refine q_asgL (xs := nsV (pows 0)) (el_lst (ea_cons ev_c ea_nil) (by decide)) fun p H1 hp e1 h1 => ?_
    refine q_forR1 (n := ((n : Nat) : Int)) (ea_cons (ev_var rfl) ea_nil) (by omega) (fun i σ' H' => ∃ v2, σ' = [some (nV n), some (.ref p), v2] ∧ Ex H H' ∧ H' p = some (.lst (nsV (pows i))))
      (fun H2 e2 => ⟨none, rfl, e1.trans e2, e2 _ _ h1⟩) ?_ ?_
    · rintro i σ' H' hi ⟨v2, rfl, e2, h2⟩
      obtain ⟨l, hl⟩ := pows_last i
      have h3 : H' p = some (.lst (nsV l ++ [nV (2 ^ i)])) := by rw [← nsV_snoc, ← hl]; exact h2
      have hp2 : 2 ^ i ≤ 128 := pow_le_128 (by omega)
      refine s_app (v := nV (2 ^ (i + 1))) h2 (ev_var rfl) (ev_is (ev_op (ev_op (ev_var rfl) (ev_un ev_c ru_neg) (rv_ixL (sq_of h3) (atI_last _ _))) ev_c (rv_I (mul_ok hp2))) ?_) (by rw [nsV_len, pows_len]; omega) fun H3 e3 => ?_
      · show V.int _ = V.int _
        rw [Nat.pow_succ, Int.natCast_mul]
        rfl
      · refine ⟨_, rfl, Ex.mut (e2.trans e3) hp, ?_⟩
        rw [upd_same, pows_succ, nsV_snoc]
    · rintro σ' H' ⟨v2, rfl, e2, h2⟩
      exact s_ret (ev_var rfl) fun H3 e3 => k p H3 hp (e2.trans e3) (e3 _ _ h2)
def sp_members : Sp := fun vs H Q _ => ∃ (s n : Nat), vs = [nV s, nV n] ∧ n ≤ 7 ∧ RetL (nsV (members s n)) H Q
theorem ok_members (F : Fun K "members" "members" s_members f fd) (T : Txt K mg CI CD aS) : FnOk P w K mg base CX0 1 f fd p_members sp_members := by
  refine F.ok sc_members (fun vs H Q E h => ?_) (fun cdv A outer s H vs Q E hr h => ?_)
  · obtain ⟨z, n, rfl, _⟩ := h
    rfl
  · obtain ⟨z, n, rfl, h7, k⟩ := h
    refine ⟨_, (pss_cons (ps_set (i := 2) sc_members.nd rfl (Or.inl rfl) (pe_lst pa_nil)) (pss_cons (ps_for PassesOwn.never rfl (pi_range1 (by rfl) T.range (pa_cons (pv 1) pa_nil)) (pg_name (i := 3) sc_members.nd rfl (Or.inl rfl)) (pss_cons (ps_if (pt_cmpR op_eq (pe_op op_mod (pv 0) pe_int) pe_int (nomark _)) (pss_one (ps_expr (pe_bm PySem.F.plainAttrs_list PySem.F.slot_list_append PySem.F.type_list_append mt_append (pv 2) (pa_cons (pv 3) pa_nil)))) pss_nil) (pss_one (ps_set (i := 0) sc_members.nd rfl (Or.inl rfl) (pe_op op_fdiv (pv 0) pe_int))))) (pss_one (ps_ret (pv 2))))), ?_⟩
    refine q_asgL (xs := nsV (members z 0)) (el_lst ea_nil (Nat.zero_le _)) fun p H1 hp e1 h1 => ?_
    refine q_forR1 (n := ((n : Nat) : Int)) (ea_cons (ev_var rfl) ea_nil) (by omega) (fun i σ' H' => ∃ v2, σ' = [some (nV (z / 2 ^ i)), some (nV n), some (.ref p), v2] ∧ Ex H H' ∧ H' p = some (.lst (nsV (members z i))))
      (fun H2 e2 => ⟨none, by rw [Nat.pow_zero, Nat.div_one]; rfl, e1.trans e2, e2 _ _ h1⟩) ?_ ?_
    · rintro i σ' H' hi ⟨v2, rfl, e2, h2⟩
      have em : V.int (((z / 2 ^ i : Nat) : Int) % 2) = nV (z / 2 ^ i % 2) := by
        show V.int _ = V.int _
        rw [Int.natCast_emod]
        rfl
      have ed : V.int (((z / 2 ^ i : Nat) : Int) / 2) = nV (z / 2 ^ (i + 1)) := by
        show V.int _ = V.int _
        rw [← div_next, Int.natCast_ediv]
        rfl
      have tb : z.testBit i = decide (z / 2 ^ i % 2 = 1) := Nat.testBit_eq_decide_div_mod_eq
      have go : ∀ H3, Ex H H3 → H3 p = some (.lst (nsV (members z (i + 1)))) → tAsg (tOp (rI CDiv fun i j => .int (i / j)) (tVar 0) (tC (.int 2))) (gName 0)
          { nx := fun σ' H' => ∃ v2, σ' = [some (nV (z / 2 ^ (i + 1))), some (nV n), some (.ref p), v2] ∧ Ex H H' ∧ H' p = some (.lst (nsV (members z (i + 1)))), rt := Q,
            bk := fun σ' H' => tRet (tVar 2) { nx := fun _ H' => Q .non H', rt := Q } σ' H', ct := fun σ' H' => ∃ v2, σ' = [some (nV (z / 2 ^ (i + 1))), some (nV n), some (.ref p), v2] ∧ Ex H H' ∧ H' p = some (.lst (nsV (members z (i + 1)))) }
          [some (nV (z / 2 ^ i)), some (nV n), some (.ref p), some (nV i)] H3 := fun H3 e3 h3 =>
        s_asg (v := nV (z / 2 ^ (i + 1))) (ev_is (ev_op (ev_var rfl) ev_c (rv_I ⟨by decide, by decide⟩)) ed) fun H4 e4 => ⟨_, rfl, e3.trans e4, e4 _ _ h3⟩
      refine q_when (et_eq (b := 1) (ev_is (ev_op (ev_var rfl) ev_c (rv_I (show (0 : Int) < 2 by decide))) em) ev_c) (fun hb H3 e3 => ?_) (fun hb H3 e3 => ?_)
      · refine s_app (v := nV i) (e3 _ _ h2) (ev_var rfl) (ev_var rfl) (by rw [nsV_len]; have := members_len z i; omega) fun H4 e4 => ?_
        refine go _ (Ex.mut ((e2.trans e3).trans e4) hp) ?_
        rw [upd_same, members_yes (by rw [tb]; exact hb), nsV_snoc]
      · refine go _ (e2.trans e3) ?_
        rw [members_no (by rw [tb]; exact hb)]
        exact e3 _ _ h2
    · rintro σ' H' ⟨v2, rfl, e2, h2⟩
      exact s_ret (ev_var rfl) fun H3 e3 => k p H3 hp (e2.trans e3) (e3 _ _ h2)
end
end Hr
/-! Hd: lists of rows of one's own; changed; groupings.py. -/
namespace Hr
open PySem PySem.Spec PyProof.Rows L2 Evl
theorem row_set_same {rows : List (List Nat)} {i : Nat} {r : List Nat} (h : i < rows.length) : row (rows.set i r) i = r := by
  unfold row
  rw [List.getD_eq_getElem?_getD, List.getElem?_set_self h]
  rfl
theorem row_set_ne {rows : List (List Nat)} {i j : Nat} {r : List Nat} (h : i ≠ j) : row (rows.set i r) j = row rows j := by
  unfold row
  rw [List.getD_eq_getElem?_getD, List.getElem?_set_ne h, ← List.getD_eq_getElem?_getD]
theorem LLa.set {H : Hp} {a p : Addr} {as : List Addr} {rows : List (List Nat)} {i : Nat} {r : List Nat} (h : LLa H a as rows) (nd : (a :: as).Nodup) (hi : i < rows.length) (hp : as[i]? = some p) : LLa (upd H p (.lst (nsV r))) a as (rows.set i r) := by
  have npa : a ≠ p := fun e => (List.nodup_cons.mp nd).1 (by rw [e]; exact List.mem_of_getElem? hp)
  refine ⟨by rw [upd_ne npa]; exact h.1, by rw [List.length_set]; exact h.2.1, fun j hj => ?_⟩
  rw [List.length_set] at hj
  obtain ⟨q, h1, h2⟩ := h.2.2 j hj
  by_cases c : i = j
  · subst c
    rw [hp] at h1
    cases h1
    exact ⟨p, hp, by rw [upd_same, row_set_same hi]⟩
  · refine ⟨q, h1, ?_⟩
    have nq : q ≠ p := fun e => c (by
      subst e
      exact nodup_ix' (List.nodup_cons.mp nd).2 hp h1)
    rw [upd_ne nq, row_set_ne c]
    exact h2
where
  nodup_ix' {N : List Addr} (hN : N.Nodup) {i j : Nat} {x : Addr} (a : N[i]? = some x) (b : N[j]? = some x) : i = j := by
    obtain ⟨h1, e1⟩ := List.getElem?_eq_some_iff.mp a
    obtain ⟨h2, e2⟩ := List.getElem?_eq_some_iff.mp b
    have key := List.pairwise_iff_getElem.mp hN
    rcases Nat.lt_trichotomy i j with c | c | c
    · exact absurd (e1.trans e2.symm) (key i j h1 h2 c)
    · exact c
    · exact absurd (e2.trans e1.symm) (key j i h2 h1 c)
/-- a list of rows that is one's own: nothing of it stood in H0 -/
structure FL (H0 H : Hp) (D : Addr) (ps : List Addr) (rows : List (List Nat)) : Prop where
  ex : Ex H0 H
  ll : LLa H D ps rows
  nd : (D :: ps).Nodup
  free : ∀ b ∈ D :: ps, H0 b = none
theorem LLa.tracked {H : Hp} {a : Addr} {as : List Addr} {rows : List (List Nat)} (h : LLa H a as rows) {b : Addr} (hb : b ∈ a :: as) : ∃ xs, H b = some (.lst xs) := by
  rcases List.mem_cons.mp hb with rfl | hb
  · exact ⟨_, h.1⟩
  · obtain ⟨i, hi⟩ := List.mem_iff_getElem?.mp hb
    have hl := (List.getElem?_eq_some_iff.mp hi).1
    rw [h.2.1] at hl
    obtain ⟨q, h1, h2⟩ := h.2.2 i hl
    rw [hi] at h1
    cases h1
    exact ⟨_, h2⟩
theorem FL.nil {H : Hp} {D : Addr} (hD : H D = none) : FL H (upd H D (.lst [])) D [] [] :=
  ⟨Ex.new hD, ⟨upd_same, rfl, fun i hi => absurd hi (Nat.not_lt_zero _)⟩, by simp, fun b hb => by
    rw [List.mem_singleton.mp hb]
    exact hD⟩
theorem FL.snoc {H0 H : Hp} {D l : Addr} {ps : List Addr} {rows : List (List Nat)} {r : List Nat} (h : FL H0 H D ps rows) (hl : H l = none) : FL H0 (upd (upd H l (.lst (nsV r))) D (.lst (refs ps ++ [.ref l]))) D (ps ++ [l]) (rows ++ [r]) := by
  have nl : ∀ b ∈ D :: ps, b ≠ l := fun b hb e => by
    obtain ⟨xs, q⟩ := h.ll.tracked hb
    rw [e, hl] at q
    cases q
  have nDl : D ≠ l := nl D List.mem_cons_self
  have hD := h.free D List.mem_cons_self
  refine ⟨Ex.mut (h.ex.trans (Ex.new hl)) hD, (h.ll.mono (Ex.new hl)).snoc upd_same nDl.symm (List.nodup_cons.mp h.nd).1, ?_, fun b hb => ?_⟩
  · rw [← List.cons_append, List.nodup_append]
    refine ⟨h.nd, by simp, fun x hx y hy e => ?_⟩
    rw [List.mem_singleton.mp hy] at e
    exact nl x hx e
  · rw [← List.cons_append] at hb
    rcases List.mem_append.mp hb with hb | hb
    · exact h.free b hb
    · rw [List.mem_singleton.mp hb]
      exact fresh_back h.ex hl
theorem FL.mono {H0 H H' : Hp} {D : Addr} {ps : List Addr} {rows : List (List Nat)} (h : FL H0 H D ps rows) (e : Ex H H') : FL H0 H' D ps rows := ⟨h.ex.trans e, h.ll.mono e, h.nd, h.free⟩
theorem FL.put {H0 H : Hp} {D p : Addr} {ps : List Addr} {rows : List (List Nat)} {i : Nat} {r : List Nat} (h : FL H0 H D ps rows) (hi : i < rows.length) (hp : ps[i]? = some p) : FL H0 (upd H p (.lst (nsV r))) D ps (rows.set i r) :=
  ⟨Ex.mut h.ex (h.free p (List.mem_cons_of_mem _ (List.mem_of_getElem? hp))), h.ll.set h.nd hi hp, h.nd, h.free⟩
theorem changed_RO {m : Nat} {rows : List (List Nat)} {n att c : Nat} (ro : RO m rows) (hn : n < rows.length) : RO m (changed rows n att c) := by
  refine ⟨by unfold changed; rw [List.length_set]; exact ro.few, ro.m5, fun r hr => ?_⟩
  rcases mem_set hr with h | h
  · exact ro.all r h
  · rw [h, List.length_set]
    exact ro.row hn
section
variable {P : Program} {w : World} {K : PySem.W.Frag} {mg : Str → Option Value} {base : Heap} {CI CD aS f : Addr} {fd : FuncData}
def sp_changed : Sp := fun vs H Q _ => ∃ (a : Addr) (m : Nat) (rows : List (List Nat)) (n att c : Nat), vs = [.ref a, nV n, nV att, nV c] ∧ LL H a rows ∧ RO m rows ∧ n < rows.length ∧ att < m ∧ RetLL (changed rows n att c) H Q
theorem ok_changed (F : Fun K "changed" "changed" s_changed f fd) (T : Txt K mg CI CD aS) : FnOk P w K mg base CX0 1 f fd p_changed sp_changed := by
  refine F.ok sc_changed (fun vs H Q E h => ?_) (fun cdv A outer s H vs Q E hr h => ?_)
  · obtain ⟨a, m, rows, n, att, c, rfl, _⟩ := h
    rfl
  · obtain ⟨a, m, rows, n, att, c, rfl, ⟨as, hL⟩, ro, hn, hatt, k⟩ := h
    have h7 := ro.few
    refine ⟨_, (pss_cons (ps_setLc (i := 4) (own := [("report", 5)]) (g := gName 5) (tt := tYes) (te := (tCB (Evl.rListS K) (tCons (tVar 5) tNil))) rfl sc_changed.nd rfl rfl (sw_true rfl rfl rfl (by decide +kernel)) (pi_list (pv 0)) (blkOk_by (N := n_changed) (sc := defScope s_changed) (by decide +kernel)) (fun _ _ _ _ _ => pg_name (i := 5) sc_changed.nd rfl (Or.inl rfl)) (fun _ _ _ _ _ => pts_nil) (fun _ _ _ _ _ => (pe_callTy call_list_of (by rfl) T.list (by decide +kernel) (pa_cons (pv 5) pa_nil)))) (pss_cons (ps_asg (pv 3) (pg_sub (pe_ix ix_list (pv 4) (pv 1) (fun _ _ => rfl)) (pv 2) set_list)) (pss_one (ps_ret (pv 4))))), ?_⟩
    refine ⟨_, rfl, a, rfl, ⟨_, sq_of hL.1⟩, fun D hD => ?_⟩
    refine lc_list (K := K) (a := a) (xs := refs as) (fun i H' => ∃ ps, FL H H' D ps (rows.take i)) ⟨[], FL.nil hD⟩ (fun i H' _ ⟨ps, q⟩ => sq_of (q.ex _ _ hL.1)) ?_ ?_
    · rintro i x H' hx ⟨ps, q⟩
      obtain ⟨hi, y, rfl, hy, hyr⟩ := hL.of_at hx
      refine ⟨rfl, ?_⟩
      refine ⟨_, rfl, y, nsV (row rows i), rfl, .inl (sq_of (q.ex _ _ hyr)), fun l hl => ⟨refs ps, ?_, ?_, ps ++ [l], ?_⟩⟩
      · have nDl : D ≠ l := fun e => by
          have z := q.ll.1
          rw [e, hl] at z
          cases z
        rw [upd_ne nDl]
        exact q.ll.1
      · rw [refs_len, q.ll.2.1, List.length_take]
        have z : (7 : Nat) < sizeLine := by decide
        omega
      · rw [take_succ_row hi]
        exact q.snoc hl
    · rintro H' ⟨ps, q⟩
      rw [refs_len, hL.2.1, List.take_length] at q
      show tSeq _ _ _ _ _
      obtain ⟨p, hp, hpr⟩ := q.ll.2.2 n hn
      refine q_setL (σ := [some (.ref a), some (nV n), some (nV att), some (nV c), some (.ref D), none]) (xs := nsV (row rows n)) (j := att) hpr (ev_var rfl) (ev_row (i := n) (ev_var rfl) (ev_var rfl) q.ll.1 hp) (ev_var rfl) (by rw [nsV_len, ro.row hn]; exact hatt) fun H1 e1 => ?_
      refine s_ret (ev_var rfl) fun H2 e2 => ?_
      have q2 := ((q.mono e1).put (r := (row rows n).set att c) hn hp).mono (show Ex _ H2 by rw [nsV_set]; exact e2)
      exact k D H2 q2.ex ⟨ps, q2.ll⟩
end
end Hr
/-! He: groupings.py. -/
namespace Hr
open PySem PySem.Spec PyProof.Rows L2 Evl
theorem households_max {g : List Nat} {x : Nat} (hx : x ∈ g) (h : ∀ y ∈ g, y ≤ x) : households g = x + 1 := by
  have h1 := lt_households g x hx
  have gen : ∀ (g : List Nat) (m : Nat), m ≤ x + 1 → (∀ y ∈ g, y ≤ x) → g.foldl (fun m x => max m (x + 1)) m ≤ x + 1 := by
    intro g
    induction g with
    | nil => intro m hm _; exact hm
    | cons y g ih =>
      intro m hm hy
      have := hy y List.mem_cons_self
      exact ih _ (Nat.max_le.mpr ⟨hm, by omega⟩) fun z hz => hy z (List.mem_cons_of_mem _ hz)
  have h2 : households g ≤ x + 1 := gen g 0 (Nat.zero_le _) h
  omega
theorem nsV_map (g : List Nat) : nsV g = (g.map Int.ofNat).map V.int := by
  unfold nsV
  rw [List.map_map]
  rfl
theorem map_row {α : Type} (f : List Nat → α) : ∀ gs : List (List Nat), (List.range gs.length).map (fun i => f (row gs i)) = gs.map f := by
  intro gs
  apply List.ext_getElem (by rw [List.length_map, List.length_range, List.length_map])
  intro i h1 h2
  rw [List.length_map] at h2
  rw [List.getElem_map, List.getElem_map, List.getElem_range]
  unfold row
  rw [List.getD_eq_getElem?_getD, List.getElem?_eq_getElem h2]
  rfl
theorem filter_yes {α : Type} : ∀ l : List α, l.filter (fun _ => true) = l
  | [] => rfl
  | x :: l => by rw [List.filter_cons, if_pos rfl, filter_yes l]
theorem row_mem {rows : List (List Nat)} {i : Nat} (h : i < rows.length) : row rows i ∈ rows := by
  unfold row
  rw [List.getD_eq_getElem?_getD, List.getElem?_eq_getElem h]
  exact List.getElem_mem h
theorem FL.snoc' {H0 H H1 : Hp} {D l : Addr} {ps : List Addr} {rows : List (List Nat)} {r : List Nat} (h : FL H0 H D ps rows) (hl : H l = none) (e : Ex H H1) (h1 : H1 l = some (.lst (nsV r))) : FL H0 (upd H1 D (.lst (refs ps ++ [.ref l]))) D (ps ++ [l]) (rows ++ [r]) := by
  have nl : ∀ b ∈ D :: ps, b ≠ l := fun b hb e => by
    obtain ⟨xs, q⟩ := h.ll.tracked hb
    rw [e, hl] at q
    cases q
  have nDl : D ≠ l := nl D List.mem_cons_self
  have hD := h.free D List.mem_cons_self
  refine ⟨Ex.mut (h.ex.trans e) hD, (h.ll.mono e).snoc h1 nDl.symm (List.nodup_cons.mp h.nd).1, ?_, fun b hb => ?_⟩
  · rw [← List.cons_append, List.nodup_append]
    refine ⟨h.nd, by simp, fun x hx y hy e => ?_⟩
    rw [List.mem_singleton.mp hy] at e
    exact nl x hx e
  · rw [← List.cons_append] at hb
    rcases List.mem_append.mp hb with hb | hb
    · exact h.free b hb
    · rw [List.mem_singleton.mp hb]
      exact fresh_back h.ex hl
theorem FL.weak {H H1 H' : Hp} {D : Addr} {ps : List Addr} {rows : List (List Nat)} (h : FL H1 H' D ps rows) (e : Ex H H1) : FL H H' D ps rows := ⟨e.trans h.ex, h.ll, h.nd, fun b hb => fresh_back e (h.free b hb)⟩
/-- what gives rows of numbers, maybe old ones -/
def EvLL (te : TE) (σ : L2.St) (H : Hp) (rows : List (List Nat)) : Prop := ∀ H1, Ex H H1 → ∀ Q : VK, (∀ p H2, Ex H1 H2 → LL H2 p rows → Q (.ref p) H2) → te σ H1 Q
def EvR (te : TE) (σ : L2.St) (H : Hp) (xs : List V) : Prop := ∀ H1, Ex H H1 → ∀ Q : VK, (∀ p H2, Ex H1 H2 → H2 p = some (.lst xs) → Q (.ref p) H2) → te σ H1 Q
section
variable {K : PySem.W.Frag} {σ : L2.St} {H H' : Hp} {ta tb te : TE} {a b : Nat} {D : Ends} {tz : TS}
theorem EvL.r {xs : List V} (h : EvL te σ H xs) : EvR te σ H xs := fun H1 e Q q => h H1 e Q fun p H2 _ e2 h2 => q p H2 e2 h2
theorem ell_call {sp : Sp} {dvs vs : List V} {E : XK} {ta : TA} {rows : List (List Nat)} (h : EvA ta σ H vs) (hs : ∀ H1, Ex H H1 → ∀ (Q : VK) (E : XK), RetLL rows H1 Q → sp (vs ++ dvs) H1 Q E) : EvLL (tCall sp dvs E ta) σ H rows := fun H1 e Q q =>
  h H1 e _ fun H2 e2 => hs H2 (e.trans e2) Q E fun p H3 e3 h3 => q p H3 (e2.trans e3) h3
theorem er_call {sp : Sp} {dvs vs : List V} {E : XK} {ta : TA} {xs : List V} (h : EvA ta σ H vs) (hs : ∀ H1, Ex H H1 → ∀ (Q : VK) (E : XK), RetR xs H1 Q → sp (vs ++ dvs) H1 Q E) : EvR (tCall sp dvs E ta) σ H xs := fun H1 e Q q =>
  h H1 e _ fun H2 e2 => hs H2 (e.trans e2) Q E fun p H3 e3 h3 => q p H3 (e2.trans e3) h3
theorem q_asgLL {i : Nat} {rows : List (List Nat)} (h : EvLL te σ H rows) (k : ∀ p H1, Ex H H1 → LL H1 p rows → tz D (σ.set i (some (.ref p))) H1) : tSeq (tAsg te (gName i)) tz D σ H := h H (Ex.refl H) _ fun p H1 e h1 => k p H1 e h1
theorem q_asgR {i : Nat} {xs : List V} (h : EvR te σ H xs) (k : ∀ p H1, Ex H H1 → H1 p = some (.lst xs) → tz D (σ.set i (some (.ref p))) H1) : tSeq (tAsg te (gName i)) tz D σ H := h H (Ex.refl H) _ fun p H1 e h1 => k p H1 e h1
theorem s_retR {xs : List V} (h : EvR te σ H xs) (k : ∀ p H1, Ex H H1 → H1 p = some (.lst xs) → D.rt (.ref p) H1) : tRet te D σ H := h H (Ex.refl H) _ fun p H1 e h1 => k p H1 e h1
theorem ev_maxN {p : Addr} {g : List Nat} (ha : Ev ta σ H (.ref p)) (h : H p = some (.lst (nsV g))) (hne : 0 < g.length) : Ev (tCB (rMax K) (tCons ta tNil)) σ H (nV (households g - 1)) := fun H1 e Q q =>
  ha H1 e _ fun H2 e2 => ⟨p, g.map Int.ofNat, rfl, sq_of (by rw [← nsV_map]; exact (e.trans e2) _ _ h), by rw [List.length_map]; exact hne, fun m hm hle => by
    obtain ⟨x, hx, rfl⟩ := List.mem_map.mp hm
    have e3 : households g = x + 1 := households_max hx fun y hy => Int.ofNat_le.mp (hle _ (List.mem_map.mpr ⟨y, hy, rfl⟩))
    have e4 : nV (households g - 1) = V.int (Int.ofNat x) := by rw [e3]; rfl
    rw [← e4]
    exact q H2 e2⟩
theorem ev_minNL {l : List Nat} {m : Nat} (h : EvL te σ H (nsV l)) (hm : m ∈ l) (hle : ∀ y ∈ l, m ≤ y) : Ev (tCB (rMin K) (tCons te tNil)) σ H (nV m) := fun H1 e Q q =>
  h H1 e _ fun p H2 _ e2 h2 => ⟨p, l.map Int.ofNat, rfl, sq_of (by rw [← nsV_map]; exact h2), by rw [List.length_map]; exact List.length_pos_of_mem hm, fun z hz hzl => by
    obtain ⟨x, hx, rfl⟩ := List.mem_map.mp hz
    have e3 : x = m := Nat.le_antisymm (Int.ofNat_le.mp (hzl _ (List.mem_map.mpr ⟨m, hm, rfl⟩))) (hle x hx)
    rw [e3]
    exact q H2 e2⟩
theorem ev_min2 (ha : Ev ta σ H (nV a)) (hb : Ev tb σ H (nV b)) : Ev (tCB (fun xs H Q => ∃ i j, xs = [V.int i, .int j] ∧ Q (.int (if j < i then j else i)) H) (tCons ta (tCons tb tNil))) σ H (nV (min a b)) := fun H1 e Q q =>
  ha H1 e _ fun H2 e2 => hb H2 (e.trans e2) _ fun H3 e3 => ⟨(a : Int), (b : Int), rfl, by
    have e4 : V.int (if (b : Int) < (a : Int) then (b : Int) else (a : Int)) = nV (min a b) := by
      by_cases c : b < a
      · rw [if_pos (by omega), Nat.min_eq_right (by omega)]
      · rw [if_neg (by omega), Nat.min_eq_left (by omega)]
    rw [e4]
    exact q H3 (e2.trans e3)⟩
theorem ev_max2N (ha : Ev ta σ H (nV a)) (hb : Ev tb σ H (nV b)) : Ev (tCB rMax2 (tCons ta (tCons tb tNil))) σ H (nV (max a b)) := ev_is (ev_max2 ha hb) (by
  by_cases c : b > a
  · rw [if_pos (by omega), Nat.max_eq_right (by omega)]
  · rw [if_neg (by omega), Nat.max_eq_left (by omega)])
/-- xs + [..] -/
theorem el_cat {p : Addr} {xs ys : List V} (ha : Ev ta σ H (.ref p)) (hp : H p = some (.lst xs)) (hb : EvL tb σ H ys) (hz : xs.length + ys.length ≤ 100000) : EvL (tOp rCat ta tb) σ H (xs ++ ys) := fun H1 e Q q =>
  ha H1 e _ fun H2 e2 => hb H2 (e.trans e2) _ fun r H3 hr e3 h3 => ⟨p, r, xs, ys, rfl, rfl, ((e.trans e2).trans e3) _ _ hp, h3, sz_of hz, fun l hl => q l _ (fresh_back (e2.trans e3) hl) ((e2.trans e3).trans (Ex.new hl)) upd_same⟩
/-- [..] + e, e a list that may be old -/
theorem el_catR {xs ys : List V} (ha : EvL ta σ H xs) (hb : EvR tb σ H ys) (hz : xs.length + ys.length ≤ 100000) : EvL (tOp rCat ta tb) σ H (xs ++ ys) := fun H1 e Q q =>
  ha H1 e _ fun p H2 hp e2 h2 => hb H2 (e.trans e2) _ fun r H3 e3 h3 => ⟨p, r, xs, ys, rfl, rfl, e3 _ _ h2, h3, sz_of hz, fun l hl => q l _ (fresh_back (e2.trans e3) hl) ((e2.trans e3).trans (Ex.new hl)) upd_same⟩
theorem er_of {p : Addr} {xs : List V} (ha : Ev ta σ H (.ref p)) (hp : H p = some (.lst xs)) : EvR ta σ H xs := fun H1 e Q q => ha H1 e _ fun H2 e2 => q p H2 e2 ((e.trans e2) _ _ hp)
end
section
variable {P : Program} {w : World} {K : PySem.W.Frag} {mg : Str → Option Value} {base : Heap} {CI CD aS f : Addr} {fd : FuncData}
def sp_households : Sp := fun vs H Q _ => ∃ (a : Addr) (g : List Nat), vs = [.ref a] ∧ H a = some (.lst (nsV g)) ∧ g.length ≤ 7 ∧ RetV (nV (households g)) H Q
theorem ok_households (F : Fun K "households" "households" s_households f fd) (T : Txt K mg CI CD aS) : FnOk P w K mg base CX0 1 f fd p_households sp_households := by
  refine F.ok sc_households (fun vs H Q E h => ?_) (fun cdv A outer s H vs Q E hr h => ?_)
  · obtain ⟨a, g, rfl, _⟩ := h
    rfl
  · obtain ⟨a, g, rfl, hg, h7, k⟩ := h
    refine ⟨_, (pss_one (ps_ret (pe_ifExp (pt_cmpR op_gt (pe_callB call_len_seq (by rfl) T.len PySem.boot_len (pa_cons (pv 0) pa_nil)) pe_int (nomark _)) (pe_op op_add (pe_callB (cr_max rfl) (by rfl) T.max (by decide +kernel) (pa_cons (pv 0) pa_nil)) pe_int) pe_int))), ?_⟩
    refine s_ret (ev_if (et_gt (ev_lenN' (ev_var rfl) hg) ev_c) (fun hb => ?_) (fun hb => ?_)) k
    · have hb' : 0 < g.length := of_decide_eq_true hb
      have hp : 0 < households g := Nat.lt_of_le_of_lt (Nat.zero_le _) (lt_households g (g[0]'hb') (List.getElem_mem hb'))
      have e1 : households g = households g - 1 + 1 := by omega
      rw [e1]
      exact ev_add (b := 1) (ev_maxN (ev_var rfl) hg hb') ev_c
    · have hb' : ¬ 0 < g.length := of_decide_eq_false hb
      have e : g = [] := List.length_eq_zero_iff.mp (by omega)
      rw [e]
      exact ev_c
def sp_can_take : Sp := fun vs H Q _ => ∃ (a b c : Addr) (m : Nat) (rows : List (List Nat)) (g r : List Nat) (h : Nat), vs = [.ref a, .ref b, .ref c, nV h] ∧ LL H a rows ∧ RO m rows ∧ H b = some (.lst (nsV g)) ∧ H c = some (.lst (nsV r)) ∧ r.length = m ∧ g.length ≤ rows.length ∧
  RetV (.bl (canTake rows g r h)) H Q
theorem ok_can_take (F : Fun K "can_take" "can_take" s_can_take f fd) (T : Txt K mg CI CD aS) (C_are_unlike : Cal P w K mg base 2 "are_unlike" p_are_unlike sp_are_unlike) : FnOk P w K mg base CX0 3 f fd p_can_take sp_can_take := by
  refine F.ok sc_can_take (fun vs H Q E h => ?_) (fun cdv A outer s H vs Q E hr h => ?_)
  · obtain ⟨a, b, c, m, rows, g, r, h, rfl, _⟩ := h
    rfl
  · obtain ⟨a, b, c, m, rows, g, r, h, rfl, ⟨as, hL⟩, ro, hg, hrr, hrm, hgl, k⟩ := h
    have h7 := ro.few
    refine ⟨_, (pss_cons (ps_for PassesOwn.never rfl (pi_range1 (by rfl) T.range (pa_cons (pe_callB call_len_seq (by rfl) T.len PySem.boot_len (pa_cons (pv 1) pa_nil)) pa_nil)) (pg_name (i := 4) sc_can_take.nd rfl (Or.inl rfl)) (pss_one (ps_if (PW.pt (pw_and (pt_cmpR op_eq (pe_ix ix_list (pv 1) (pv 4) (fun _ _ => rfl)) (pv 3) (nomark _)) (pw_and1 (pt_val (pe_cal C_are_unlike (hr.mono (by decide)) (by rfl) (pa_cons (pe_ix ix_list (pv 0) (pv 4) (fun _ _ => rfl)) (pa_cons (pv 2) pa_nil))))))) (pss_one (ps_ret pe_bl)) pss_nil))) (pss_one (ps_ret pe_bl))), ?_⟩
    refine q_forR1 (n := ((g.length : Nat) : Int)) (ea_cons (ev_lenN' (ev_var rfl) hg) ea_nil) (by omega) (fun i σ' H' => ∃ v, σ' = [some (.ref a), some (.ref b), some (.ref c), some (nV h), v] ∧ Ex H H' ∧ ∀ p, p < i → (!(decide (g.getD p 0 = h) && unlike (row rows p) r)) = true)
      (fun H2 e2 => ⟨none, rfl, e2, fun p hp => absurd hp (Nat.not_lt_zero _)⟩) ?_ ?_
    · rintro i σ' H' hi ⟨v, rfl, e2, hall⟩
      have hi' : i < g.length := by omega
      obtain ⟨q, hq, hqr⟩ := hL.2.2 i (by omega)
      refine s_when (b := decide (g.getD i 0 = h) && unlike (row rows i) r) (et_and (et_eq (ev_at (ev_var rfl) (ev_var rfl) (e2 _ _ hg) hi') (ev_var rfl)) fun _ => et_B (ev_call (ea_cons (ev_row (i := i) (ev_var rfl) (ev_var rfl) (e2 _ _ hL.1) hq) (ea_cons (ev_var rfl) ea_nil)) ?_)) (fun hb H4 e4 => ?_) (fun hb H4 e4 => ?_)
      · exact fun H4 e4 Q q' E => ⟨q, c, _, _, rfl, (e2.trans e4) _ _ hqr, (e2.trans e4) _ _ hrr, by rw [ro.row (by omega), hrm]; exact Nat.le_refl _, by rw [ro.row (by omega)]; exact ro.m5, q'⟩
      · refine s_ret ev_c fun H5 e5 => ?_
        have e : canTake rows g r h = false := by
          unfold canTake
          rw [List.all_eq_false]
          exact ⟨i, List.mem_range.mpr hi', by rw [hb]; decide⟩
        rw [e] at k
        exact k H5 ((e2.trans e4).trans e5)
      · refine ⟨_, rfl, e2.trans e4, fun p hp => ?_⟩
        by_cases d : p < i
        · exact hall p d
        · have e : p = i := by omega
          subst e
          rw [hb]
          rfl
    · rintro σ' H' ⟨v, rfl, e2, hall⟩
      refine s_ret ev_c fun H5 e5 => ?_
      have e : canTake rows g r h = true := by
        unfold canTake
        rw [List.all_eq_true]
        exact fun p hp => hall p (by have := List.mem_range.mp hp; omega)
      rw [e] at k
      exact k H5 (e2.trans e5)
def sp_groupings : Sp := fun vs H Q _ => ∃ (a : Addr) (m : Nat) (rows : List (List Nat)) (most : Nat), vs = [.ref a, nV most] ∧ LL H a rows ∧ RO m rows ∧ RetLL (groupings rows most) H Q
theorem flat_len (f : List Nat → List (List Nat)) (b : Nat) : ∀ gs : List (List Nat), (∀ g ∈ gs, (f g).length ≤ b) → (gs.flatMap f).length ≤ gs.length * b
  | [], _ => Nat.zero_le _
  | g :: gs, h => by
    rw [List.flatMap_cons, List.length_append, List.length_cons, Nat.add_mul, Nat.one_mul]
    have h1 := h g List.mem_cons_self
    have h2 := flat_len f b gs fun x hx => h x (List.mem_cons_of_mem _ hx)
    omega
theorem ok_groupings (F : Fun K "groupings" "groupings" s_groupings f fd) (T : Txt K mg CI CD aS) (C_households : Cal P w K mg base 1 "households" p_households sp_households) (C_can_take : Cal P w K mg base 3 "can_take" p_can_take sp_can_take) : FnOk P w K mg base CX0 4 f fd p_groupings sp_groupings := by
  refine F.ok sc_groupings (fun vs H Q E h => ?_) (fun cdv A outer s H vs Q E hr h => ?_)
  · obtain ⟨a, m, rows, most, rfl, _⟩ := h
    rfl
  · obtain ⟨a, m, rows, most, rfl, ⟨as, hL⟩, ro, k⟩ := h
    have h7 := ro.few
    refine ⟨_, (pss_cons (ps_set (i := 2) sc_groupings.nd rfl (Or.inl rfl) (pe_lst (pa_cons (pe_lst pa_nil) pa_nil))) (pss_cons (ps_for PassesOwn.never rfl (pi_list (pv 0)) (pg_name (i := 3) sc_groupings.nd rfl (Or.inl rfl)) (pss_cons (ps_set (i := 4) sc_groupings.nd rfl (Or.inl rfl) (pe_lst pa_nil)) (pss_cons (ps_for PassesOwn.never rfl (pi_list (pv 2)) (pg_name (i := 5) sc_groupings.nd rfl (Or.inl rfl)) (pss_one (ps_for PassesOwn.never rfl (pi_range1 (by rfl) T.range (pa_cons (pe_callB (call_min2 rfl) (by rfl) T.min (by decide +kernel) (pa_cons (pv 1) (pa_cons (pe_op op_add (pe_cal C_households (hr.mono (by decide)) (by rfl) (pa_cons (pv 5) pa_nil)) pe_int) pa_nil))) pa_nil)) (pg_name (i := 6) sc_groupings.nd rfl (Or.inl rfl)) (pss_one (ps_if (pt_val (pe_cal C_can_take (hr.mono (by decide)) (by rfl) (pa_cons (pv 0) (pa_cons (pv 5) (pa_cons (pv 3) (pa_cons (pv 6) pa_nil)))))) (pss_one (ps_expr (pe_bm PySem.F.plainAttrs_list PySem.F.slot_list_append PySem.F.type_list_append mt_append (pv 4) (pa_cons (pe_op op_cat (pv 5) (pe_lst (pa_cons (pv 6) pa_nil))) pa_nil)))) pss_nil))))) (pss_one (ps_set (i := 2) sc_groupings.nd rfl (Or.inl rfl) (pv 4)))))) (pss_one (ps_ret (pv 2))))), ?_⟩
    refine ⟨Nat.zero_le _, fun e0 he0 => ⟨(by show 1 ≤ sizeLine; decide), fun rp hrp => ?_⟩⟩
    have q0 : FL H (upd (upd H e0 (.lst (nsV []))) rp (.lst (refs [e0]))) rp [e0] [[]] := by
      have hrp0 : H rp = none := fresh_back (Ex.new he0) hrp
      have ne : rp ≠ e0 := fun e => by
        rw [e, upd_same] at hrp
        cases hrp
      refine ⟨(Ex.new he0).trans (Ex.new hrp), ⟨upd_same, rfl, fun i hi => ?_⟩, by simp [ne], fun b hb => ?_⟩
      · have e : i = 0 := by
          have : i < 1 := hi
          omega
        subst e
        exact ⟨e0, rfl, by rw [upd_ne ne.symm, upd_same]; rfl⟩
      · rcases List.mem_cons.mp hb with rfl | hb
        · exact hrp0
        · rw [List.mem_singleton.mp hb]
          exact he0
    show tSeq _ _ _ _ _
    refine q_forLn (xs := refs as) (K := K) (a := a) (ev_var rfl) (sq_of (q0.ex _ _ hL.1)) (fun i σ' H' => ∃ rp ps v3 v4 v5 v6, σ' = [some (.ref a), some (nV most), some (.ref rp), v3, v4, v5, v6] ∧ FL H H' rp ps (groupTo rows most i))
      (fun H2 e2 => ⟨rp, [e0], none, none, none, none, rfl, q0.mono e2⟩) (fun i σ' H' _ ⟨_, _, _, _, _, _, _, q⟩ => sq_of (q.ex _ _ hL.1)) ?_ ?_
    · rintro i x σ' H1 hx ⟨rp, ps, v3, v4, v5, v6, rfl, q⟩
      obtain ⟨hi, rr, rfl, hrr, hrr2⟩ := hL.of_at hx
      have gk := gok (rows := rows) (most := most) i (Nat.le_of_lt hi)
      have glen := groupTo_len (rows := rows) (most := most) (Nat.le_of_lt hi) h7
      have gsucc := groupTo_succ (rows := rows) (most := most) hi
      revert q gk glen gsucc
      generalize groupTo rows most i = gs
      intro q gk glen gsucc
      refine q_asgL (xs := refs []) (el_lst ea_nil (Nat.zero_le _)) fun l H2 hl e2 h2 => ?_
      have f0 : FL H1 H2 l [] [] := ⟨e2, ⟨h2, rfl, fun i hi => absurd hi (Nat.not_lt_zero _)⟩, by simp, fun b hb => by rw [List.mem_singleton.mp hb]; exact hl⟩
      refine q_forLn (xs := refs ps) (K := K) (a := rp) (ev_var rfl) (sq_of (e2 _ _ q.ll.1)) (fun j σ' H' => ∃ pl v5 v6, σ' = [some (.ref a), some (nV most), some (.ref rp), some (.ref rr), some (.ref l), v5, v6] ∧ FL H1 H' l pl ((gs.take j).flatMap (longer1 rows most (row rows i))))
        (fun H3 e3 => ⟨[], v5, v6, rfl, f0.mono e3⟩) (fun j σ' H' _ ⟨_, _, _, _, f⟩ => sq_of (f.ex _ _ q.ll.1)) ?_ ?_
      · rintro j x σ' H3 hx ⟨pl, v5, v6, rfl, f⟩
        obtain ⟨hj, gq, rfl, hgq, hgq2⟩ := q.ll.of_at hx
        have gj := gk _ (row_mem hj)
        have flen : ((gs.take j).flatMap (longer1 rows most (row rows i))).length ≤ j * 8 := by
          have z := flat_len (longer1 rows most (row rows i)) 8 (gs.take j) fun g hg => by
            have z1 := longer1_len rows most (row rows i) g
            have z2 := (gk g (List.mem_of_mem_take hg)).few
            omega
          rw [List.length_take] at z
          exact Nat.le_trans z (Nat.mul_le_mul_right _ (Nat.min_le_left _ _))
        have ej : (gs.take (j + 1)).flatMap (longer1 rows most (row rows i)) = (gs.take j).flatMap (longer1 rows most (row rows i)) ++ longer1 rows most (row rows i) (row gs j) := by
          rw [take_succ_row hj, List.flatMap_append]
          congr 1
          simp
        rw [ej]
        revert f flen
        generalize (gs.take j).flatMap (longer1 rows most (row rows i)) = acc
        intro f flen
        revert gj hgq2
        generalize row gs j = g
        intro hgq2 gj
        have g1 := gj.len
        have g2 := gj.few
        have hgq3 := (q.ex.trans f.ex)
        refine s_forR1 (n := ((min most (households g + 1) : Nat) : Int)) (ea_cons (ev_min2 (ev_var rfl) (ev_add (b := 1) (ev_call (ea_cons (ev_var rfl) ea_nil) ?_) ev_c)) ea_nil) (by omega)
          (fun h σ' H' => ∃ pl v6, σ' = [some (.ref a), some (nV most), some (.ref rp), some (.ref rr), some (.ref l), some (.ref gq), v6] ∧ FL H1 H' l pl (acc ++ ((List.range h).filter (canTake rows g (row rows i))).map fun h => g ++ [h]))
          (fun H4 e4 => ⟨pl, v6, rfl, by
            have e : ((List.range 0).filter (canTake rows g (row rows i))).map (fun h => g ++ [h]) = [] := rfl
            rw [e, List.append_nil]
            exact f.mono e4⟩) ?_ ?_
        · exact fun H4 e4 Q q' E => ⟨gq, g, rfl, (f.ex.trans e4) _ _ hgq2, by omega, q'⟩
        · rintro h σ' H4 hh ⟨pl, v6, rfl, f⟩
          have hh' : h < min most (households g + 1) := by omega
          refine s_when (b := canTake rows g (row rows i) h) (et_B (ev_call (ea_cons (ev_var rfl) (ea_cons (ev_var rfl) (ea_cons (ev_var rfl) (ea_cons (ev_var rfl) ea_nil)))) ?_)) (fun hb H5 e5 => ?_) (fun hb H5 e5 => ?_)
          · exact fun H5 e5 Q q' E => ⟨a, gq, rr, m, rows, g, _, h, rfl, ⟨as, hL.mono ((q.ex.trans f.ex).trans e5)⟩, ro, (f.ex.trans e5) _ _ hgq2, ((q.ex.trans f.ex).trans e5) _ _ hrr2, ro.row hi, by omega, q'⟩
          · have f5 := f.mono e5
            have hz : (refs pl).length < 100000 := by
              have z1 := List.length_filter_le (canTake rows g (row rows i)) (List.range h)
              rw [List.length_range] at z1
              have z2 : j * 8 ≤ 5040 * 8 := Nat.mul_le_mul_right _ (by omega)
              rw [refs_len, f.ll.2.1, List.length_append, List.length_map]
              omega
            refine s_appL (K := K) f5.ll.1 (ev_var rfl) (el_cat (ev_var rfl) (f5.ex _ _ hgq2) (el_lst (ea_cons (ev_var rfl) ea_nil) (by show 1 ≤ 100000; decide)) (by show (nsV g).length + 1 ≤ 100000; rw [nsV_len]; omega)) hz fun t H6 ht e6 h6 => ?_
            refine ⟨pl ++ [t], _, rfl, ?_⟩
            rw [List.range_succ, List.filter_append, List.map_append, List.filter_cons, if_pos hb, ← List.append_assoc]
            have h6' : H6 t = some (.lst (nsV (g ++ [h]))) := by rw [nsV_snoc]; exact h6
            exact f5.snoc' ht e6 h6'
          · refine ⟨pl, _, rfl, ?_⟩
            rw [List.range_succ, List.filter_append, List.map_append, List.filter_cons, if_neg (by rw [hb]; decide)]
            show FL H1 H5 l pl (acc ++ (_ ++ []))
            rw [List.append_nil]
            exact f.mono e5
        · rintro σ' H4 ⟨pl, v6, rfl, f⟩
          rw [Int.toNat_natCast] at f
          exact ⟨pl, _, _, rfl, f⟩
      · rintro σ' H3 ⟨pl, v5, v6, rfl, f⟩
        refine s_asg (ev_var rfl) fun H4 e4 => ?_
        rw [refs_len, q.ll.2.1, List.take_length] at f
        refine ⟨l, pl, _, _, _, _, rfl, ?_⟩
        rw [gsucc]
        exact (f.mono e4).weak q.ex
    · rintro σ' H1 ⟨rp, ps, v3, v4, v5, v6, rfl, q⟩
      refine s_ret (ev_var rfl) fun H2 e2 => ?_
      rw [refs_len, hL.2.1, groupTo_all] at q
      exact k rp H2 (q.ex.trans e2) ⟨ps, q.ll.mono e2⟩
def sp_first_grouping : Sp := fun vs H Q _ => ∃ (a : Addr) (m : Nat) (rows : List (List Nat)), vs = [.ref a] ∧ LL H a rows ∧ RO m rows ∧ RetR (nsV (firstG rows)) H Q
theorem ok_first_grouping (F : Fun K "first_grouping" "first_grouping" s_first_grouping f fd) (T : Txt K mg CI CD aS) (C_households : Cal P w K mg base 1 "households" p_households sp_households) (C_groupings : Cal P w K mg base 4 "groupings" p_groupings sp_groupings) : FnOk P w K mg base CX0 5 f fd p_first_grouping sp_first_grouping := by
  refine F.ok sc_first_grouping (fun vs H Q E h => ?_) (fun cdv A outer s H vs Q E hr h => ?_)
  · obtain ⟨a, m, rows, rfl, _⟩ := h
    rfl
  · obtain ⟨a, m, rows, rfl, ⟨as, hL⟩, ro, k⟩ := h
    have h7 := ro.few
    obtain ⟨ff1, ff2, ff3⟩ := firstG_facts rows
    have gk : ∀ g ∈ groupings rows rows.length, g.length = rows.length := fun g hg => by
      rw [← groupTo_all] at hg
      exact (gok _ (Nat.le_refl _) g hg).len
    have glen := groupings_len (rows := rows) (most := rows.length) h7
    refine ⟨_, (pss_cons (ps_set (i := 1) sc_first_grouping.nd rfl (Or.inl rfl) (pe_cal C_groupings (hr.mono (by decide)) (by rfl) (pa_cons (pv 0) (pa_cons (pe_callB call_len_seq (by rfl) T.len PySem.boot_len (pa_cons (pv 0) pa_nil)) pa_nil)))) (pss_cons (ps_set (i := 2) sc_first_grouping.nd rfl (Or.inl rfl) (pe_callB (cr_min rfl) (by rfl) T.min (by decide +kernel) (pa_cons (pe_lc (own := [("row", 3)]) (g := gName 3) (tt := tYes) (te := (tCall sp_households [] E0 (tCons (tVar 3) tNil))) rfl sc_first_grouping.nd (pi_list (pv 1)) (blkOk_by (N := n_first_grouping) (sc := defScope s_first_grouping) (by decide +kernel)) (fun _ _ _ _ _ => pg_name (i := 3) sc_first_grouping.nd rfl (Or.inl rfl)) (fun _ _ _ _ _ => pts_nil) (fun _ _ _ _ _ => (pe_cal C_households (hr.mono (by decide)) (by rfl) (pa_cons (pv 3) pa_nil)))) pa_nil))) (pss_cons (ps_for PassesOwn.never rfl (pi_list (pv 1)) (pg_name (i := 3) sc_first_grouping.nd rfl (Or.inl rfl)) (pss_one (ps_if (pt_cmpR op_eq (pe_cal C_households (hr.mono (by decide)) (by rfl) (pa_cons (pv 3) pa_nil)) (pv 2) (nomark _)) (pss_one (ps_ret (pv 3))) pss_nil))) (pss_one (ps_ret (pe_lst pa_nil)))))), ?_⟩
    refine q_asgLL (rows := groupings rows rows.length) (ell_call (ea_cons (ev_var rfl) (ea_cons (ev_lenLL (ev_var rfl) hL) ea_nil)) fun H1 e1 Q E q => ⟨a, m, rows, rows.length, rfl, ⟨as, hL.mono e1⟩, ro, q⟩) fun rp H1 e1 hR => ?_
    obtain ⟨ps, hP⟩ := hR
    have fi := @first_is rows
    revert ff1 ff3 gk glen hP fi
    generalize groupings rows rows.length = gs
    intro ff1 ff3 gk glen hP fi
    refine q_asg (v := nV (minH rows)) (ev_minNL (l := gs.map households) (el_is (el_lcL (xs := refs ps) (a := rp) (fun _ => true) (fun i => nV (households (row gs i))) (ev_var rfl) (sq_of hP.1) (by rw [refs_len, hP.2.1]; omega) (fun x => rfl) (fun i x H2 e2 hx => ?_) (fun i x H2 e2 hx _ => ?_)) ?_)
      (List.mem_map.mpr ⟨_, ff1, ff2⟩) (fun y hy => ?_)) fun H2 e2 => ?_
    · exact fun H3 e3 Q q => q H3 (Ex.refl H3)
    · obtain ⟨hi, q, rfl, hq, hq2⟩ := hP.of_at hx
      refine ev_call (ea_cons (ev_var rfl) ea_nil) fun H3 e3 Q q' E => ⟨q, row gs i, rfl, (e2.trans e3) _ _ hq2, by rw [gk _ (row_mem hi)]; exact h7, q'⟩
    · unfold given
      rw [filter_yes, refs_len, hP.2.1]
      unfold nsV
      rw [← map_row, List.map_map]
      rfl
    · obtain ⟨g, hg, rfl⟩ := List.mem_map.mp hy
      exact ff3 g hg
    · refine q_forLn (xs := refs ps) (K := K) (a := rp) (ev_var rfl) (sq_of (e2 _ _ hP.1)) (fun i σ' H' => ∃ v3, σ' = [some (.ref a), some (.ref rp), some (nV (minH rows)), v3] ∧ Ex H1 H' ∧ ∀ j, j < i → households (row gs j) ≠ minH rows)
        (fun H3 e3 => ⟨none, rfl, e2.trans e3, fun j hj => absurd hj (Nat.not_lt_zero _)⟩) (fun i σ' H' _ ⟨_, _, e, _⟩ => sq_of (e _ _ hP.1)) ?_ ?_
      · rintro i x σ' H3 hx ⟨v3, rfl, e3, hall⟩
        obtain ⟨hi, q, rfl, hq, hq2⟩ := hP.of_at hx
        refine s_when (b := decide (households (row gs i) = minH rows)) (et_eq (ev_call (ea_cons (ev_var rfl) ea_nil) fun H4 e4 Q q' E => ⟨q, row gs i, rfl, (e3.trans e4) _ _ hq2, by rw [gk _ (row_mem hi)]; exact h7, q'⟩) (ev_var rfl)) (fun hb H4 e4 => ?_) (fun hb H4 e4 => ?_)
        · have e : firstG rows = row gs i := by
            refine (fi (pre := gs.take i) (post := gs.drop (i + 1)) ?_ (of_decide_eq_true hb) (fun x hx => ?_) ff3).2
            · rw [← drop_cons hi, List.take_append_drop]
            · obtain ⟨j, hj, e⟩ := List.mem_iff_getElem.mp hx
              rw [List.length_take] at hj
              have z := hall j (by omega)
              rw [List.getElem_take] at e
              have e5 : row gs j = x := by
                unfold row
                rw [List.getD_eq_getElem?_getD, List.getElem?_eq_getElem (by omega)]
                exact e
              rw [e5] at z
              exact z
          rw [e] at k
          exact s_ret (ev_var rfl) fun H5 e5 => k q H5 (((e1.trans e3).trans e4).trans e5) (((e3.trans e4).trans e5) _ _ hq2)
        · refine ⟨_, rfl, e3.trans e4, fun j hj => ?_⟩
          by_cases d : j < i
          · exact hall j d
          · have e : j = i := by omega
            subst e
            exact of_decide_eq_false hb
      · rintro σ' H3 ⟨v3, rfl, e3, hall⟩
        exfalso
        rw [refs_len, hP.2.1] at hall
        obtain ⟨j, hj, e⟩ := List.mem_iff_getElem.mp ff1
        refine hall j hj ?_
        have e5 : row gs j = firstG rows := by
          unfold row
          rw [List.getD_eq_getElem?_getD, List.getElem?_eq_getElem hj]
          exact e
        rw [e5]
        exact ff2
def sp_min_households : Sp := fun vs H Q _ => ∃ (a : Addr) (m : Nat) (rows : List (List Nat)), vs = [.ref a] ∧ LL H a rows ∧ RO m rows ∧ RetV (nV (minH rows)) H Q
theorem ok_min_households (F : Fun K "min_households" "min_households" s_min_households f fd) (T : Txt K mg CI CD aS) (C_households : Cal P w K mg base 1 "households" p_households sp_households) (C_first_grouping : Cal P w K mg base 5 "first_grouping" p_first_grouping sp_first_grouping) : FnOk P w K mg base CX0 6 f fd p_min_households sp_min_households := by
  refine F.ok sc_min_households (fun vs H Q E h => ?_) (fun cdv A outer s H vs Q E hr h => ?_)
  · obtain ⟨a, m, rows, rfl, _⟩ := h
    rfl
  · obtain ⟨a, m, rows, rfl, hL, ro, k⟩ := h
    refine ⟨_, (pss_one (ps_ret (pe_cal C_households (hr.mono (by decide)) (by rfl) (pa_cons (pe_cal C_first_grouping (hr.mono (by decide)) (by rfl) (pa_cons (pv 0) pa_nil)) pa_nil)))), ?_⟩
    refine ⟨_, rfl, a, m, rows, rfl, hL, ro, fun p H2 e2 h2 => ⟨p, firstG rows, rfl, h2, by rw [firstG_len]; exact ro.few, ?_⟩⟩
    rw [(firstG_facts rows).2.1]
    exact fun H3 e3 => k H3 (e2.trans e3)
def sp_of_household : Sp := fun vs H Q _ => ∃ (a : Addr) (m : Nat) (rows : List (List Nat)) (h : Nat), vs = [.ref a, nV h] ∧ LL H a rows ∧ RO m rows ∧ RetLL (ofHousehold rows h) H Q
theorem ok_of_household (F : Fun K "of_household" "of_household" s_of_household f fd) (T : Txt K mg CI CD aS) (C_first_grouping : Cal P w K mg base 5 "first_grouping" p_first_grouping sp_first_grouping) : FnOk P w K mg base CX0 6 f fd p_of_household sp_of_household := by
  refine F.ok sc_of_household (fun vs H Q E h => ?_) (fun cdv A outer s H vs Q E hr h => ?_)
  · obtain ⟨a, m, rows, h, rfl, _⟩ := h
    rfl
  · obtain ⟨a, m, rows, h, rfl, ⟨as, hL⟩, ro, k⟩ := h
    have h7 := ro.few
    refine ⟨_, (pss_cons (ps_set (i := 2) sc_of_household.nd rfl (Or.inr rfl) (pe_cal C_first_grouping (hr.mono (by decide)) (by rfl) (pa_cons (pv 0) pa_nil))) (pss_one (ps_ret (pe_lc (own := [("place", 3)]) (g := gName 3) (tt := (tTest (tOp rEq (tOp (rIxL K) (tVar 2) (tVar 3)) (tVar 1)))) (te := (tOp (rIxL K) (tVar 0) (tVar 3))) rfl sc_of_household.nd (pi_range1 (by rfl) T.range (pa_cons (pe_callB call_len_seq (by rfl) T.len PySem.boot_len (pa_cons (pv 0) pa_nil)) pa_nil)) (blkOk_by (N := n_of_household) (sc := defScope s_of_household) (by decide +kernel)) (fun _ _ _ _ _ => pg_name (i := 3) sc_of_household.nd rfl (Or.inl rfl)) (fun _ _ _ _ _ => pts_one (pt_cmpR op_eq (pe_ix ix_list (pv 2) (pv 3) (fun _ _ => rfl)) (pv 1) (nomark _))) (fun _ _ _ _ _ => (pe_ix ix_list (pv 0) (pv 3) (fun _ _ => rfl))))))), ?_⟩
    refine q_asgR (xs := nsV (firstG rows)) (er_call (ea_cons (ev_var rfl) ea_nil) fun H1 e1 Q E q => ⟨a, m, rows, rfl, ⟨as, hL.mono e1⟩, ro, q⟩) fun gp H1 e1 hg => ?_
    refine s_retL (el_lcR1 (n := ((rows.length : Nat) : Int)) (fun p => decide ((firstG rows).getD p 0 = h)) (fun p => .ref (as.getD p 0)) (ea_cons (ev_lenLL (ev_var rfl) (hL.mono e1)) ea_nil) (by omega) (fun x => rfl) (fun i H2 e2 hi => ?_) (fun i H2 e2 hi _ => ?_)) fun p H2 hp e2 h2 => ?_
    · exact et_eq (ev_at (ev_var rfl) (ev_var rfl) (e2 _ _ hg) (by rw [firstG_len]; omega)) (ev_var rfl)
    · have hi' : i < as.length := by
        rw [hL.2.1]
        omega
      refine ev_row (i := i) (ev_var rfl) (ev_var rfl) ((e1.trans e2) _ _ hL.1) ?_
      rw [List.getD_eq_getElem?_getD, List.getElem?_eq_getElem hi']
      rfl
    · refine k p H2 (e1.trans e2) ⟨(places rows h).map fun p => as.getD p 0, ?_, ?_, fun i hi => ?_⟩
      · rw [h2, Int.toNat_natCast]
        congr 2
        unfold refs places given
        rw [List.map_map]
        rfl
      · unfold ofHousehold
        rw [List.length_map, List.length_map]
      · unfold ofHousehold at hi ⊢
        rw [List.length_map] at hi
        have hm : (places rows h)[i] ∈ places rows h := List.getElem_mem hi
        have hlt : (places rows h)[i] < rows.length := by
          unfold places at hm
          exact List.mem_range.mp (List.mem_filter.mp hm).1
        obtain ⟨q, hq, hq2⟩ := hL.2.2 _ hlt
        refine ⟨as.getD (places rows h)[i] 0, by rw [List.getElem?_map, List.getElem?_eq_getElem hi]; rfl, ?_⟩
        rw [List.getD_eq_getElem?_getD, hq]
        show H2 q = _
        rw [(e1.trans e2) _ _ hq2]
        congr 3
        unfold row
        rw [List.getD_eq_getElem?_getD, List.getD_eq_getElem?_getD, List.getElem?_map, List.getElem?_eq_getElem hi]
        show _ = row rows _
        unfold row
        rw [List.getD_eq_getElem?_getD]
end
end Hr
/-! Hf: sets.py. -/
namespace Hr
open PySem PySem.Spec PyProof.Rows L2 Evl
theorem all_getD (l : List Nat) (p : Nat → Bool) : l.all p = true ↔ ∀ i, i < l.length → p (l.getD i 0) = true := by
  rw [List.all_eq_true]
  constructor
  · intro h i hi
    apply h
    rw [List.getD_eq_getElem?_getD, List.getElem?_eq_getElem hi]
    exact List.getElem_mem hi
  · intro h x hx
    obtain ⟨i, hi, e⟩ := List.mem_iff_getElem.mp hx
    have q := h i hi
    rw [List.getD_eq_getElem?_getD, List.getElem?_eq_getElem hi] at q
    rw [← e]
    exact q
theorem getD_mem {l : List Nat} {i : Nat} (h : i < l.length) : l.getD i 0 ∈ l := by
  rw [List.getD_eq_getElem?_getD, List.getElem?_eq_getElem h]
  exact List.getElem_mem h
theorem map_getD (l : List Nat) : (List.range l.length).map (fun i => l.getD i 0) = l := by
  apply List.ext_getElem (by rw [List.length_map, List.length_range])
  intro i h1 h2
  rw [List.getElem_map, List.getElem_range, List.getD_eq_getElem?_getD, List.getElem?_eq_getElem h2]
  rfl
theorem given_filter (l : List Nat) (p : Nat → Bool) : given l.length (fun i => p (l.getD i 0)) (fun i => nV (l.getD i 0)) = nsV (l.filter p) := by
  have e : l.filter p = ((List.range l.length).filter fun i => p (l.getD i 0)).map fun i => l.getD i 0 := by
    have h := List.filter_map (p := p) (f := fun i => l.getD i 0) (l := List.range l.length)
    rw [map_getD] at h
    exact h
  unfold given nsV
  rw [e, List.map_map]
  rfl
section
variable {K : PySem.W.Frag} {σ : L2.St} {H H' : Hp} {ta tb te : TE} {a b : Nat} {D : Ends} {tz : TS}
theorem ev_lastN {n : Nat} (ha : EvL ta σ H (nsV (pows n))) : Ev (tOp (rIxL K) ta (tUn (rU fun i => .int (-i)) (tC (.int 1)))) σ H (nV (2 ^ n)) := by
  obtain ⟨l, hl⟩ := pows_last n
  rw [hl, nsV_snoc] at ha
  exact ev_opL1 ha (fun H1 e => ev_un ev_c ru_neg) fun p H1 h e => rv_ixL (sq_of h) (atI_last _ _)
theorem ev_call1L {sp : Sp} {E : XK} {v z : V} {xs : List V} (ha : Ev ta σ H v) (hb : EvL tb σ H xs) (hs : ∀ p H1, Ex H H1 → H1 p = some (.lst xs) → SpV sp [v, .ref p] H1 z) : Ev (tCall sp [] E (tCons ta (tCons tb tNil))) σ H z := fun H1 e Q q =>
  ha H1 e _ fun H2 e2 => hb H2 (e.trans e2) _ fun p H3 hp e3 h3 => hs p H3 ((e.trans e2).trans e3) h3 H3 (Ex.refl H3) Q (fun H4 e4 => q H4 ((e2.trans e3).trans e4)) E
theorem et_inN {p : Addr} {l : List Nat} {n : Nat} (ha : Ev ta σ H (nV n)) (hb : Ev tb σ H (.ref p)) (h : H p = some (.lst (nsV l))) : EvT (tTest (tOp (rIn K false) ta tb)) σ H (decide (n ∈ l)) :=
  et_test (ev_is (ev_op ha hb (rv_isL (sq_of h) rfl (flat_nsV _))) (by rw [in_nsV]))
end
section
variable {P : Program} {w : World} {K : PySem.W.Frag} {mg : Str → Option Value} {base : Heap} {CI CD aS f : Addr} {fd : FuncData}
def sp_is_distinct : Sp := fun vs H Q _ => ∃ (a b : Addr) (m : Nat) (rows : List (List Nat)) (chosen : List Nat), vs = [.ref a, .ref b] ∧ LL H a rows ∧ RO m rows ∧ H b = some (.lst (nsV chosen)) ∧ (∀ c ∈ chosen, c < rows.length) ∧ RetV (.bl (isDistinct rows chosen)) H Q
theorem ok_is_distinct (F : Fun K "is_distinct" "is_distinct" s_is_distinct f fd) (T : Txt K mg CI CD aS) (C_are_unlike : Cal P w K mg base 2 "are_unlike" p_are_unlike sp_are_unlike) : FnOk P w K mg base CX0 3 f fd p_is_distinct sp_is_distinct := by
  refine F.ok sc_is_distinct (fun vs H Q E h => ?_) (fun cdv A outer s H vs Q E hr h => ?_)
  · obtain ⟨a, b, m, rows, chosen, rfl, _⟩ := h
    rfl
  · obtain ⟨a, b, m, rows, chosen, rfl, ⟨as, hL⟩, ro, hb, hc, k⟩ := h
    refine ⟨_, (pss_cons (ps_for PassesOwn.never rfl (pi_list (pv 1)) (pg_name (i := 2) sc_is_distinct.nd rfl (Or.inl rfl)) (pss_one (ps_for PassesOwn.never rfl (pi_list (pv 1)) (pg_name (i := 3) sc_is_distinct.nd rfl (Or.inl rfl)) (pss_one (ps_if (PW.pt (pw_and (pt_cmpR op_lt (pv 2) (pv 3) (nomark _)) (pw_and1 (pt_not (pt_val (pe_cal C_are_unlike (hr.mono (by decide)) (by rfl) (pa_cons (pe_ix ix_list (pv 0) (pv 2) (fun _ _ => rfl)) (pa_cons (pe_ix ix_list (pv 0) (pv 3) (fun _ _ => rfl)) pa_nil)))))))) (pss_one (ps_ret pe_bl)) pss_nil))))) (pss_one (ps_ret pe_bl))), ?_⟩
    refine q_forLn (xs := nsV chosen) (K := K) (a := b) (ev_var rfl) (sq_of hb) (fun i σ' H' => ∃ v2 v3, σ' = [some (.ref a), some (.ref b), v2, v3] ∧ Ex H H' ∧ ∀ j, j < i → (chosen.all fun other => !(decide (chosen.getD j 0 < other) && !unlike (row rows (chosen.getD j 0)) (row rows other))) = true)
      (fun H2 e2 => ⟨none, none, rfl, e2, fun p hp => absurd hp (Nat.not_lt_zero _)⟩) (fun i σ' H' _ ⟨_, _, _, e, _⟩ => sq_of (e _ _ hb)) ?_ ?_
    · rintro i x σ' H1 hx ⟨v2, v3, rfl, e1, hall⟩
      obtain ⟨hi, rfl⟩ := nsV_get hx
      have c1 := hc _ (getD_mem hi)
      obtain ⟨q1, hq1, hr1⟩ := hL.2.2 _ c1
      refine s_forLn (xs := nsV chosen) (K := K) (a := b) (ev_var rfl) (sq_of (e1 _ _ hb)) (fun l σ' H' => ∃ v3, σ' = [some (.ref a), some (.ref b), some (nV (chosen.getD i 0)), v3] ∧ Ex H H' ∧ ∀ j, j < l → (!(decide (chosen.getD i 0 < chosen.getD j 0) && !unlike (row rows (chosen.getD i 0)) (row rows (chosen.getD j 0)))) = true)
        (fun H2 e2 => ⟨v3, rfl, e1.trans e2, fun p hp => absurd hp (Nat.not_lt_zero _)⟩) (fun i σ' H' _ ⟨_, _, e, _⟩ => sq_of (e _ _ hb)) ?_ ?_
      · rintro l x σ' H2 hx ⟨v3, rfl, e2, hl⟩
        obtain ⟨hli, rfl⟩ := nsV_get hx
        have c2 := hc _ (getD_mem hli)
        obtain ⟨q2, hq2, hr2⟩ := hL.2.2 _ c2
        refine s_when (b := decide (chosen.getD i 0 < chosen.getD l 0) && !unlike (row rows (chosen.getD i 0)) (row rows (chosen.getD l 0))) (et_and (et_lt (ev_var rfl) (ev_var rfl)) fun _ => et_not (et_B (ev_call (ea_cons (ev_row (ev_var rfl) (ev_var rfl) (e2 _ _ hL.1) hq1) (ea_cons (ev_row (ev_var rfl) (ev_var rfl) (e2 _ _ hL.1) hq2) ea_nil)) ?_)))
          (fun hb2 H4 e4 => ?_) (fun hb2 H4 e4 => ?_)
        · exact fun H4 e4 Q q E => ⟨q1, q2, _, _, rfl, (e2.trans e4) _ _ hr1, (e2.trans e4) _ _ hr2, by rw [ro.row c1, ro.row c2]; exact Nat.le_refl _, by rw [ro.row c1]; exact ro.m5, q⟩
        · refine s_ret ev_c fun H5 e5 => ?_
          have e : isDistinct rows chosen = false := by
            unfold isDistinct
            rw [List.all_eq_false]
            refine ⟨_, getD_mem hi, ?_⟩
            rw [Bool.not_eq_true, List.all_eq_false]
            exact ⟨_, getD_mem hli, by rw [hb2]; decide⟩
          rw [e] at k
          exact k H5 ((e2.trans e4).trans e5)
        · refine ⟨_, rfl, e2.trans e4, fun j hj => ?_⟩
          by_cases d : j < l
          · exact hl j d
          · have e : j = l := by omega
            subst e
            rw [hb2]
            rfl
      · rintro σ' H2 ⟨v3, rfl, e2, hl⟩
        refine ⟨_, _, rfl, e2, fun j hj => ?_⟩
        by_cases d : j < i
        · exact hall j d
        · have e : j = i := by omega
          subst e
          rw [nsV_len] at hl
          exact (all_getD chosen _).mpr hl
    · rintro σ' H1 ⟨v2, v3, rfl, e1, hall⟩
      refine s_ret ev_c fun H5 e5 => ?_
      have e : isDistinct rows chosen = true := by
        unfold isDistinct
        rw [nsV_len] at hall
        exact (all_getD chosen _).mpr hall
      rw [e] at k
      exact k H5 (e1.trans e5)
def sp_largest_distinct : Sp := fun vs H Q _ => ∃ (a : Addr) (m : Nat) (rows : List (List Nat)), vs = [.ref a] ∧ LL H a rows ∧ RO m rows ∧ RetL (nsV [(largest rows).1, (largest rows).2]) H Q
theorem ok_largest_distinct (F : Fun K "largest_distinct" "largest_distinct" s_largest_distinct f fd) (T : Txt K mg CI CD aS) (C_weights : Cal P w K mg base 1 "weights" p_weights sp_weights) (C_members : Cal P w K mg base 1 "members" p_members sp_members) (C_is_distinct : Cal P w K mg base 3 "is_distinct" p_is_distinct sp_is_distinct) :
    FnOk P w K mg base CX0 4 f fd p_largest_distinct sp_largest_distinct := by
  refine F.ok sc_largest_distinct (fun vs H Q E h => ?_) (fun cdv A outer s H vs Q E hr h => ?_)
  · obtain ⟨a, m, rows, rfl, _⟩ := h
    rfl
  · obtain ⟨a, m, rows, rfl, ⟨as, hL⟩, ro, k⟩ := h
    have h7 := ro.few
    have hp := pow_le_128 h7
    refine ⟨_, (pss_cons (ps_set (i := 1) sc_largest_distinct.nd rfl (Or.inl rfl) (pe_lst (pa_cons pe_int (pa_cons pe_int pa_nil)))) (pss_cons (ps_for PassesOwn.never rfl (pi_range1 (by rfl) T.range (pa_cons (pe_ix ix_list (pe_cal C_weights (hr.mono (by decide)) (by rfl) (pa_cons (pe_callB call_len_seq (by rfl) T.len PySem.boot_len (pa_cons (pv 0) pa_nil)) pa_nil)) (pe_un un_neg pe_int) (fun _ _ => rfl)) pa_nil)) (pg_name (i := 2) sc_largest_distinct.nd rfl (Or.inl rfl)) (pss_cons (ps_set (i := 3) sc_largest_distinct.nd rfl (Or.inl rfl) (pe_cal C_members (hr.mono (by decide)) (by rfl) (pa_cons (pv 2) (pa_cons (pe_callB call_len_seq (by rfl) T.len PySem.boot_len (pa_cons (pv 0) pa_nil)) pa_nil)))) (pss_one (ps_if (PW.pt (pw_and (pt_cmpR op_gt (pe_callB call_len_seq (by rfl) T.len PySem.boot_len (pa_cons (pv 3) pa_nil)) (pe_ix ix_list (pv 1) pe_int (fun _ _ => rfl)) (nomark _)) (pw_and1 (pt_val (pe_cal C_is_distinct (hr.mono (by decide)) (by rfl) (pa_cons (pv 0) (pa_cons (pv 3) pa_nil))))))) (pss_one (ps_set (i := 1) sc_largest_distinct.nd rfl (Or.inl rfl) (pe_lst (pa_cons (pe_callB call_len_seq (by rfl) T.len PySem.boot_len (pa_cons (pv 3) pa_nil)) (pa_cons (pv 2) pa_nil))))) pss_nil)))) (pss_one (ps_ret (pv 1))))), ?_⟩
    refine q_asgL (xs := nsV [0, 0]) (el_lst (ea_cons ev_c (ea_cons ev_c ea_nil)) (by decide)) fun bp H1 hbp e1 h1 => ?_
    refine q_forR1 (n := ((2 ^ rows.length : Nat) : Int)) (ea_cons (ev_lastN (el_call (ea_cons (ev_lenLL (ev_var rfl) (hL.mono e1)) ea_nil) fun H2 e2 Q q E => ⟨rows.length, rfl, h7, q⟩)) ea_nil) (by generalize 2 ^ rows.length = z at hp; omega)
      (fun i σ' H' => ∃ bp v2 v3, σ' = [some (.ref a), some (.ref bp), v2, v3] ∧ Ex H H' ∧ H bp = none ∧ H' bp = some (.lst (nsV [((List.range i).foldl (largestStep rows) (0, 0)).1, ((List.range i).foldl (largestStep rows) (0, 0)).2])))
      (fun H2 e2 => ⟨bp, none, none, rfl, e1.trans e2, hbp, e2 _ _ h1⟩) ?_ ?_
    · rintro i σ' H2 hi ⟨bp, v2, v3, rfl, e2, hbp, h2⟩
      have es : (List.range (i + 1)).foldl (largestStep rows) (0, 0) = largestStep rows ((List.range i).foldl (largestStep rows) (0, 0)) i := by
        rw [List.range_succ, List.foldl_append]
        rfl
      rw [es]
      revert h2
      generalize (List.range i).foldl (largestStep rows) (0, 0) = best
      intro h2
      refine q_asgL (xs := nsV (members i rows.length)) (el_call (ea_cons (ev_var rfl) (ea_cons (ev_lenLL (ev_var rfl) (hL.mono e2)) ea_nil)) fun H2 e2 Q q E => ⟨i, rows.length, rfl, h7, q⟩) fun c H3 hc e3 h3 => ?_
      refine s_when (b := decide (best.1 < (members i rows.length).length) && isDistinct rows (members i rows.length)) (et_and (et_gt (ev_lenN' (ev_var rfl) h3) (ev_at (l := [best.1, best.2]) (i := 0) (ev_var rfl) ev_c (e3 _ _ h2) (Nat.zero_lt_succ _))) fun _ => et_B (ev_call (ea_cons (ev_var rfl) (ea_cons (ev_var rfl) ea_nil)) ?_)) (fun hb H4 e4 => ?_) (fun hb H4 e4 => ?_)
      · exact fun H4 e4 Q q E => ⟨a, c, m, rows, _, rfl, ⟨as, hL.mono ((e2.trans e3).trans e4)⟩, ro, e4 _ _ h3, fun x hx => (mem_members.mp hx).1, q⟩
      · refine s_asgL (xs := nsV [(members i rows.length).length, i]) (el_lst (ea_cons (ev_lenN' (ev_var rfl) (e4 _ _ h3)) (ea_cons (ev_var rfl) ea_nil)) (by show 2 ≤ 100000; decide)) fun bp2 H5 hbp2 e5 h5 => ?_
        refine ⟨bp2, _, _, rfl, ((e2.trans e3).trans e4).trans e5, fresh_back ((e2.trans e3).trans e4) hbp2, ?_⟩
        have e : largestStep rows best i = ((members i rows.length).length, i) := if_pos hb
        rw [e]
        exact h5
      · have e : largestStep rows best i = best := if_neg (by rw [hb]; decide)
        rw [e]
        exact ⟨bp, _, _, rfl, (e2.trans e3).trans e4, hbp, (e3.trans e4) _ _ h2⟩
    · rintro σ' H2 ⟨bp, v2, v3, rfl, e2, hbp, h2⟩
      rw [Int.toNat_natCast] at h2
      exact s_ret (ev_var rfl) fun H3 e3 => k bp H3 hbp (e2.trans e3) (e3 _ _ h2)
def sp_is_sufficient : Sp := fun vs H Q _ => ∃ (a b : Addr) (m : Nat) (rows : List (List Nat)) (chosen : List Nat), vs = [.ref a, .ref b] ∧ LL H a rows ∧ RO m rows ∧ H b = some (.lst (nsV chosen)) ∧ RetV (.bl (isSufficient rows chosen)) H Q
theorem conflicts_len (one other : List Nat) : (conflicts one other).length ≤ one.length := by
  unfold conflicts
  have h := List.length_filter_le (cfAt one other) (List.range one.length)
  rw [List.length_range] at h
  exact h
theorem ok_is_sufficient (F : Fun K "is_sufficient" "is_sufficient" s_is_sufficient f fd) (T : Txt K mg CI CD aS) (C_conflicts : Cal P w K mg base 1 "conflicts" p_conflicts sp_conflicts) : FnOk P w K mg base CX0 2 f fd p_is_sufficient sp_is_sufficient := by
  refine F.ok sc_is_sufficient (fun vs H Q E h => ?_) (fun cdv A outer s H vs Q E hr h => ?_)
  · obtain ⟨a, b, m, rows, chosen, rfl, _⟩ := h
    rfl
  · obtain ⟨a, b, m, rows, chosen, rfl, ⟨as, hL⟩, ro, hb, k⟩ := h
    have h7 := ro.few
    have h5 := ro.m5
    refine ⟨_, (pss_cons (ps_for PassesOwn.never rfl (pi_range1 (by rfl) T.range (pa_cons (pe_callB call_len_seq (by rfl) T.len PySem.boot_len (pa_cons (pv 0) pa_nil)) pa_nil)) (pg_name (i := 2) sc_is_sufficient.nd rfl (Or.inl rfl)) (pss_one (ps_for PassesOwn.never rfl (pi_range2 (by rfl) T.range (pa_cons (pe_op op_add (pv 2) pe_int) (pa_cons (pe_callB call_len_seq (by rfl) T.len PySem.boot_len (pa_cons (pv 0) pa_nil)) pa_nil))) (pg_name (i := 3) sc_is_sufficient.nd rfl (Or.inl rfl)) (pss_cons (ps_set (i := 4) sc_is_sufficient.nd rfl (Or.inl rfl) (pe_cal C_conflicts (hr.mono (by decide)) (by rfl) (pa_cons (pe_ix ix_list (pv 0) (pv 2) (fun _ _ => rfl)) (pa_cons (pe_ix ix_list (pv 0) (pv 3) (fun _ _ => rfl)) pa_nil)))) (pss_one (ps_if (PW.pt (pw_and (pt_cmpR op_gt (pe_callB call_len_seq (by rfl) T.len PySem.boot_len (pa_cons (pv 4) pa_nil)) pe_int (nomark _)) (pw_and1 (pt_cmpR op_eq (pe_callB call_len_seq (by rfl) T.len PySem.boot_len (pa_cons (pe_lc (own := [("at", 5)]) (g := gName 5) (tt := (tTest (tOp (rIn K false) (tVar 5) (tVar 1)))) (te := (tVar 5)) rfl sc_is_sufficient.nd (pi_list (pv 4)) (blkOk_by (N := n_is_sufficient) (sc := defScope s_is_sufficient) (by decide +kernel)) (fun _ _ _ _ _ => pg_name (i := 5) sc_is_sufficient.nd rfl (Or.inl rfl)) (fun _ _ _ _ _ => pts_one (pt_cmpR op_in_seq (pv 5) (pv 1) (by rfl))) (fun _ _ _ _ _ => (pv 5))) pa_nil)) pe_int (nomark _))))) (pss_one (ps_ret pe_bl)) pss_nil)))))) (pss_one (ps_ret pe_bl))), ?_⟩
    refine q_forR1 (n := ((rows.length : Nat) : Int)) (ea_cons (ev_lenLL (ev_var rfl) hL) ea_nil) (by omega) (fun i σ' H' => ∃ v2 v3 v4 v5, σ' = [some (.ref a), some (.ref b), v2, v3, v4, v5] ∧ Ex H H' ∧ ∀ j, j < i → ((List.range (rows.length - (j + 1))).all fun l => sufAt (row rows j) (row rows (j + 1 + l)) chosen) = true)
      (fun H2 e2 => ⟨none, none, none, none, rfl, e2, fun p hp => absurd hp (Nat.not_lt_zero _)⟩) ?_ ?_
    · rintro i σ' H1 hi ⟨v2, v3, v4, v5, rfl, e1, hall⟩
      have hi' : i < rows.length := by omega
      obtain ⟨q1, hq1, hr1⟩ := hL.2.2 i hi'
      refine s_forR2 (lo := (((i + 1 : Nat)) : Int)) (n := ((rows.length : Nat) : Int)) (ea_cons (ev_add (b := 1) (ev_var rfl) ev_c) (ea_cons (ev_lenLL (ev_var rfl) (hL.mono e1)) ea_nil)) (by omega)
        (fun l σ' H' => ∃ v3 v4 v5, σ' = [some (.ref a), some (.ref b), some (nV i), v3, v4, v5] ∧ Ex H H' ∧ ∀ j, j < l → sufAt (row rows i) (row rows (i + 1 + j)) chosen = true)
        (fun H3 e3 => ⟨v3, v4, v5, rfl, e1.trans e3, fun p hp => absurd hp (Nat.not_lt_zero _)⟩) ?_ ?_
      · rintro l σ' H2 hl ⟨v3, v4, v5, rfl, e2, hal⟩
        have hl' : i + 1 + l < rows.length := by omega
        obtain ⟨q2, hq2, hr2⟩ := hL.2.2 _ hl'
        have ej : V.int (((i + 1 : Nat) : Int) + (l : Int)) = nV (i + 1 + l) := congrArg V.int (Int.natCast_add _ _).symm
        rw [ej]
        have r1 := ro.row hi'
        have r2 := ro.row hl'
        refine q_asgL (xs := nsV (conflicts (row rows i) (row rows (i + 1 + l)))) (el_call (ea_cons (ev_row (i := i) (ev_var rfl) (ev_var rfl) (e2 _ _ hL.1) hq1) (ea_cons (ev_row (i := i + 1 + l) (ev_var rfl) (ev_var rfl) (e2 _ _ hL.1) hq2) ea_nil)) ?_) fun c H3 hc e3 h3 => ?_
        · exact fun H4 e4 Q q E => ⟨q1, q2, _, _, rfl, (e2.trans e4) _ _ hr1, (e2.trans e4) _ _ hr2, by rw [r1, r2]; exact Nat.le_refl _, by rw [r1]; exact h5, q⟩
        have cl := conflicts_len (row rows i) (row rows (i + 1 + l))
        rw [r1] at cl
        have key : sufAt (row rows i) (row rows (i + 1 + l)) chosen = !(decide (0 < (conflicts (row rows i) (row rows (i + 1 + l))).length) && decide (((conflicts (row rows i) (row rows (i + 1 + l))).filter fun a => decide (a ∈ chosen)).length = 0)) := rfl
        revert key h3 cl
        generalize conflicts (row rows i) (row rows (i + 1 + l)) = cf
        intro h3 cl key
        refine s_when (b := decide (0 < cf.length) && decide ((cf.filter fun a => decide (a ∈ chosen)).length = 0)) (et_and (et_gt (ev_lenN' (ev_var rfl) h3) ev_c) fun _ => et_eq (b := 0) (ev_lenNN (el_is (el_lcL (xs := nsV cf) (a := c) (fun i => decide (cf.getD i 0 ∈ chosen)) (fun i => nV (cf.getD i 0)) (ev_var rfl) (sq_of h3) (by rw [nsV_len]; omega) (fun x => rfl) (fun i x H4 e4 hx => ?_) (fun i x H4 e4 hx _ => ?_)) ?_)) ev_c)
          (fun hb2 H4 e4 => ?_) (fun hb2 H4 e4 => ?_)
        · obtain ⟨hi, rfl⟩ := nsV_get hx
          exact et_inN (ev_var rfl) (ev_var rfl) (((e2.trans e3).trans e4) _ _ hb)
        · obtain ⟨hi, rfl⟩ := nsV_get hx
          exact ev_var rfl
        · rw [nsV_len]
          exact given_filter cf fun a => decide (a ∈ chosen)
        · refine s_ret ev_c fun H5 e5 => ?_
          have e : isSufficient rows chosen = false := by
            unfold isSufficient
            rw [List.all_eq_false]
            refine ⟨i, List.mem_range.mpr hi', ?_⟩
            rw [Bool.not_eq_true, List.all_eq_false]
            exact ⟨l, List.mem_range.mpr (by omega), by rw [key, hb2]; decide⟩
          rw [e] at k
          exact k H5 (((e2.trans e3).trans e4).trans e5)
        · refine ⟨_, _, _, rfl, (e2.trans e3).trans e4, fun j hj => ?_⟩
          by_cases d : j < l
          · exact hal j d
          · have e : j = l := by omega
            subst e
            rw [key, hb2]
            rfl
      · rintro σ' H2 ⟨v3, v4, v5, rfl, e2, hal⟩
        refine ⟨_, _, _, _, rfl, e2, fun j hj => ?_⟩
        by_cases d : j < i
        · exact hall j d
        · have e : j = i := by omega
          subst e
          rw [List.all_eq_true]
          intro l hl
          have hl' := List.mem_range.mp hl
          exact hal l (by omega)
    · rintro σ' H1 ⟨v2, v3, v4, v5, rfl, e1, hall⟩
      refine s_ret ev_c fun H5 e5 => ?_
      have e : isSufficient rows chosen = true := by
        unfold isSufficient
        rw [List.all_eq_true]
        intro l hl
        have hl' := List.mem_range.mp hl
        exact hall l (by omega)
      rw [e] at k
      exact k H5 (e1.trans e5)
def sp_smallest_sufficient : Sp := fun vs H Q _ => ∃ (a : Addr) (m : Nat) (rows : List (List Nat)), vs = [.ref a, nV m] ∧ LL H a rows ∧ RO m rows ∧ RetL (nsV [(smallest rows m).1, (smallest rows m).2]) H Q
theorem ok_smallest_sufficient (F : Fun K "smallest_sufficient" "smallest_sufficient" s_smallest_sufficient f fd) (T : Txt K mg CI CD aS) (C_weights : Cal P w K mg base 1 "weights" p_weights sp_weights) (C_members : Cal P w K mg base 1 "members" p_members sp_members) (C_is_sufficient : Cal P w K mg base 2 "is_sufficient" p_is_sufficient sp_is_sufficient) :
    FnOk P w K mg base CX0 3 f fd p_smallest_sufficient sp_smallest_sufficient := by
  refine F.ok sc_smallest_sufficient (fun vs H Q E h => ?_) (fun cdv A outer s H vs Q E hr h => ?_)
  · obtain ⟨a, m, rows, rfl, _⟩ := h
    rfl
  · obtain ⟨a, m, rows, rfl, ⟨as, hL⟩, ro, k⟩ := h
    have h5 := ro.m5
    have hp := pow_le_128 (show m ≤ 7 by omega)
    have hp1 : 1 ≤ 2 ^ m := Nat.one_le_two_pow
    refine ⟨_, (pss_cons (ps_set (i := 2) sc_smallest_sufficient.nd rfl (Or.inl rfl) (pe_lst (pa_cons (pv 1) (pa_cons (pe_op op_sub (pe_ix ix_list (pe_cal C_weights (hr.mono (by decide)) (by rfl) (pa_cons (pv 1) pa_nil)) (pe_un un_neg pe_int) (fun _ _ => rfl)) pe_int) pa_nil)))) (pss_cons (ps_for PassesOwn.never rfl (pi_range1 (by rfl) T.range (pa_cons (pe_ix ix_list (pe_cal C_weights (hr.mono (by decide)) (by rfl) (pa_cons (pv 1) pa_nil)) (pe_un un_neg pe_int) (fun _ _ => rfl)) pa_nil)) (pg_name (i := 3) sc_smallest_sufficient.nd rfl (Or.inl rfl)) (pss_cons (ps_set (i := 4) sc_smallest_sufficient.nd rfl (Or.inl rfl) (pe_cal C_members (hr.mono (by decide)) (by rfl) (pa_cons (pv 3) (pa_cons (pv 1) pa_nil)))) (pss_one (ps_if (PW.pt (pw_and (pt_cmpR op_lt (pe_callB call_len_seq (by rfl) T.len PySem.boot_len (pa_cons (pv 4) pa_nil)) (pe_ix ix_list (pv 2) pe_int (fun _ _ => rfl)) (nomark _)) (pw_and1 (pt_val (pe_cal C_is_sufficient (hr.mono (by decide)) (by rfl) (pa_cons (pv 0) (pa_cons (pv 4) pa_nil))))))) (pss_one (ps_set (i := 2) sc_smallest_sufficient.nd rfl (Or.inl rfl) (pe_lst (pa_cons (pe_callB call_len_seq (by rfl) T.len PySem.boot_len (pa_cons (pv 4) pa_nil)) (pa_cons (pv 3) pa_nil))))) pss_nil)))) (pss_one (ps_ret (pv 2))))), ?_⟩
    refine q_asgL (xs := nsV [m, 2 ^ m - 1]) (el_lst (ea_cons (ev_var rfl) (ea_cons (ev_sub (b := 1) hp1 (ev_lastN (el_call (ea_cons (ev_var rfl) ea_nil) fun H2 e2 Q q E => ⟨m, rfl, by omega, q⟩)) ev_c) ea_nil)) (by show 2 ≤ 100000; decide)) fun bp H1 hbp e1 h1 => ?_
    refine q_forR1 (n := ((2 ^ m : Nat) : Int)) (ea_cons (ev_lastN (el_call (ea_cons (ev_var rfl) ea_nil) fun H2 e2 Q q E => ⟨m, rfl, by omega, q⟩)) ea_nil) (by generalize 2 ^ m = z at hp; omega)
      (fun i σ' H' => ∃ bp v3 v4, σ' = [some (.ref a), some (nV m), some (.ref bp), v3, v4] ∧ Ex H H' ∧ H bp = none ∧ H' bp = some (.lst (nsV [((List.range i).foldl (smallestStep rows m) (m, 2 ^ m - 1)).1, ((List.range i).foldl (smallestStep rows m) (m, 2 ^ m - 1)).2])))
      (fun H2 e2 => ⟨bp, none, none, rfl, e1.trans e2, hbp, e2 _ _ h1⟩) ?_ ?_
    · rintro i σ' H2 hi ⟨bp, v3, v4, rfl, e2, hbp, h2⟩
      have es : (List.range (i + 1)).foldl (smallestStep rows m) (m, 2 ^ m - 1) = smallestStep rows m ((List.range i).foldl (smallestStep rows m) (m, 2 ^ m - 1)) i := by
        rw [List.range_succ, List.foldl_append]
        rfl
      rw [es]
      revert h2
      generalize (List.range i).foldl (smallestStep rows m) (m, 2 ^ m - 1) = best
      intro h2
      refine q_asgL (xs := nsV (members i m)) (el_call (ea_cons (ev_var rfl) (ea_cons (ev_var rfl) ea_nil)) fun H2 e2 Q q E => ⟨i, m, rfl, by omega, q⟩) fun c H3 hc e3 h3 => ?_
      refine s_when (b := decide ((members i m).length < best.1) && isSufficient rows (members i m)) (et_and (et_lt (ev_lenN' (ev_var rfl) h3) (ev_at (l := [best.1, best.2]) (i := 0) (ev_var rfl) ev_c (e3 _ _ h2) (Nat.zero_lt_succ _))) fun _ => et_B (ev_call (ea_cons (ev_var rfl) (ea_cons (ev_var rfl) ea_nil)) ?_)) (fun hb H4 e4 => ?_) (fun hb H4 e4 => ?_)
      · exact fun H4 e4 Q q E => ⟨a, c, m, rows, _, rfl, ⟨as, hL.mono ((e2.trans e3).trans e4)⟩, ro, e4 _ _ h3, q⟩
      · refine s_asgL (xs := nsV [(members i m).length, i]) (el_lst (ea_cons (ev_lenN' (ev_var rfl) (e4 _ _ h3)) (ea_cons (ev_var rfl) ea_nil)) (by show 2 ≤ 100000; decide)) fun bp2 H5 hbp2 e5 h5 => ?_
        refine ⟨bp2, _, _, rfl, ((e2.trans e3).trans e4).trans e5, fresh_back ((e2.trans e3).trans e4) hbp2, ?_⟩
        have e : smallestStep rows m best i = ((members i m).length, i) := if_pos hb
        rw [e]
        exact h5
      · have e : smallestStep rows m best i = best := if_neg (by rw [hb]; decide)
        rw [e]
        exact ⟨bp, _, _, rfl, (e2.trans e3).trans e4, hbp, (e3.trans e4) _ _ h2⟩
    · rintro σ' H2 ⟨bp, v2, v3, rfl, e2, hbp, h2⟩
      rw [Int.toNat_natCast] at h2
      exact s_ret (ev_var rfl) fun H3 e3 => k bp H3 hbp (e2.trans e3) (e3 _ _ h2)
def sp_essential : Sp := fun vs H Q _ => ∃ (a : Addr) (m : Nat) (rows : List (List Nat)), vs = [.ref a, nV m] ∧ LL H a rows ∧ RO m rows ∧ RetL (nsV (essential rows m)) H Q
def essTo (rows : List (List Nat)) (m i : Nat) : List Nat := (List.range i).filter fun a => !isSufficient rows (others m a)
theorem essTo_len (rows : List (List Nat)) (m i : Nat) : (essTo rows m i).length ≤ i := by
  unfold essTo
  have h := List.length_filter_le (fun a => !isSufficient rows (others m a)) (List.range i)
  rw [List.length_range] at h
  exact h
theorem ok_essential (F : Fun K "essential" "essential" s_essential f fd) (T : Txt K mg CI CD aS) (C_is_sufficient : Cal P w K mg base 2 "is_sufficient" p_is_sufficient sp_is_sufficient) : FnOk P w K mg base CX0 3 f fd p_essential sp_essential := by
  refine F.ok sc_essential (fun vs H Q E h => ?_) (fun cdv A outer s H vs Q E hr h => ?_)
  · obtain ⟨a, m, rows, rfl, _⟩ := h
    rfl
  · obtain ⟨a, m, rows, rfl, ⟨as, hL⟩, ro, k⟩ := h
    have h5 := ro.m5
    refine ⟨_, (pss_cons (ps_set (i := 2) sc_essential.nd rfl (Or.inl rfl) (pe_lst pa_nil)) (pss_cons (ps_for PassesOwn.never rfl (pi_range1 (by rfl) T.range (pa_cons (pv 1) pa_nil)) (pg_name (i := 3) sc_essential.nd rfl (Or.inr rfl)) (pss_one (ps_if (pt_not (pt_val (pe_cal C_is_sufficient (hr.mono (by decide)) (by rfl) (pa_cons (pv 0) (pa_cons (pe_lc (own := [("other", 4)]) (g := gName 4) (tt := (tTest (tOp rNe (tVar 4) (tVar 3)))) (te := (tVar 4)) rfl sc_essential.nd (pi_range1 (by rfl) T.range (pa_cons (pv 1) pa_nil)) (blkOk_by (N := n_essential) (sc := defScope s_essential) (by decide +kernel)) (fun _ _ _ _ _ => pg_name (i := 4) sc_essential.nd rfl (Or.inl rfl)) (fun _ _ _ _ _ => pts_one (pt_cmpR op_ne (pv 4) (pv 3) (nomark _))) (fun _ _ _ _ _ => (pv 4))) pa_nil))))) (pss_one (ps_expr (pe_bm PySem.F.plainAttrs_list PySem.F.slot_list_append PySem.F.type_list_append mt_append (pv 2) (pa_cons (pv 3) pa_nil)))) pss_nil))) (pss_one (ps_ret (pv 2))))), ?_⟩
    refine q_asgL (xs := nsV (essTo rows m 0)) (el_lst ea_nil (Nat.zero_le _)) fun p H1 hp e1 h1 => ?_
    refine q_forR1 (n := ((m : Nat) : Int)) (ea_cons (ev_var rfl) ea_nil) (by omega) (fun i σ' H' => ∃ v3 v4, σ' = [some (.ref a), some (nV m), some (.ref p), v3, v4] ∧ Ex H H' ∧ H' p = some (.lst (nsV (essTo rows m i))))
      (fun H2 e2 => ⟨none, none, rfl, e1.trans e2, e2 _ _ h1⟩) ?_ ?_
    · rintro i σ' H2 hi ⟨v3, v4, rfl, e2, h2⟩
      refine s_when (b := !isSufficient rows (others m i)) (et_not (et_B (ev_call1L (ev_var rfl) (el_is (el_lcR1 (n := ((m : Nat) : Int)) (fun o => !decide (o = i)) nV (ea_cons (ev_var rfl) ea_nil) (by omega) (fun x => rfl) (fun j H3 e3 hj => et_ne (ev_var rfl) (ev_var rfl)) (fun j H3 e3 hj _ => ev_var rfl)) (ys := nsV (others m i)) ?_) fun c H3 e3 h3 => ?_)))
        (fun hb H4 e4 => ?_) (fun hb H4 e4 => ?_)
      · rw [Int.toNat_natCast]
        exact nsV_given _ _
      · exact fun H4 e4 Q q E => ⟨a, c, m, rows, _, rfl, ⟨as, hL.mono ((e2.trans e3).trans e4)⟩, ro, e4 _ _ h3, q⟩
      · refine s_app (v := nV i) (e4 _ _ h2) (ev_var rfl) (ev_var rfl) (by rw [nsV_len]; have := essTo_len rows m i; omega) fun H5 e5 => ?_
        refine ⟨_, _, rfl, Ex.mut ((e2.trans e4).trans e5) hp, ?_⟩
        have e : essTo rows m (i + 1) = essTo rows m i ++ [i] := by
          unfold essTo
          rw [List.range_succ, List.filter_append, List.filter_cons, if_pos hb]
          rfl
        rw [upd_same, e, nsV_snoc]
      · refine ⟨_, _, rfl, e2.trans e4, ?_⟩
        have e : essTo rows m (i + 1) = essTo rows m i := by
          unfold essTo
          rw [List.range_succ, List.filter_append, List.filter_cons, if_neg (by rw [hb]; decide)]
          show _ ++ [] = _
          rw [List.append_nil]
        rw [e]
        exact e4 _ _ h2
    · rintro σ' H2 ⟨v3, v4, rfl, e2, h2⟩
      rw [Int.toNat_natCast] at h2
      exact s_ret (ev_var rfl) fun H3 e3 => k p H3 hp (e2.trans e3) (e3 _ _ h2)
end
end Hr
/-! Hg: an instance on the heap; its questions (asks.py). -/
namespace Hr
open PySem PySem.Spec PyProof.Rows L2 Evl
open Km544 (Registry)
theorem lk_here {k : Str} {v : V} {r : List (Str × V)} : List.lookup k ((k, v) :: r) = some v := by
  have e : (k == k) = true := beq_self_eq_true k
  simp only [List.lookup, e]
theorem lk_past {k g : Str} {v : V} {r : List (Str × V)} (h : (k == g) = false) : List.lookup k ((g, v) :: r) = List.lookup k r := by
  simp only [List.lookup, h]
def instF (m : Nat) (r : Addr) : List (Str × V) := [("many", nV m), ("reports", .ref r)]
theorem instF_many (m : Nat) (r : Addr) : (instF m r).lookup ("many" : Str) = some (nV m) := lk_here
theorem instF_reports (m : Nat) (r : Addr) : (instF m r).lookup ("reports" : Str) = some (.ref r) := (lk_past (by decide +kernel)).trans lk_here
theorem instF_no {m : Nat} {r : Addr} {x : Str} (h1 : (x == ("many" : Str)) = false) (h2 : (x == ("reports" : Str)) = false) : (instF m r).lookup x = none := (lk_past h1).trans ((lk_past h2).trans rfl)
/-- an instance at i: its list of reports at r, these at as -/
structure IA (CI : Addr) (H : Hp) (i dx r : Addr) (as : List Addr) (reg : Registry) : Prop where
  obj : H i = some (.ins CI dx (instF reg.attributeCount r))
  ll : LLa H r as reg.reports
  ro : RO reg.attributeCount reg.reports
def IAp (CI : Addr) (H : Hp) (i : Addr) (reg : Registry) : Prop := ∃ dx r as, IA CI H i dx r as reg
theorem IA.mono {CI : Addr} {H H' : Hp} {i dx r : Addr} {as : List Addr} {reg : Registry} (h : IA CI H i dx r as reg) (e : Ex H H') : IA CI H' i dx r as reg := ⟨e _ _ h.obj, h.ll.mono e, h.ro⟩
theorem IAp.mono {CI : Addr} {H H' : Hp} {i : Addr} {reg : Registry} (h : IAp CI H i reg) (e : Ex H H') : IAp CI H' i reg := by
  obtain ⟨dx, r, as, h⟩ := h
  exact ⟨dx, r, as, h.mono e⟩
theorem IA.wf {CI : Addr} {H : Hp} {i dx r : Addr} {as : List Addr} {reg : Registry} (h : IA CI H i dx r as reg) : Wf reg := h.ro.all
def resV (x : Km544.Result) : List V := (x.num :: x.nums).map V.int
theorem toInts_is (l : List Nat) : (Km544.toInts l).map V.int = nsV l := by
  unfold Km544.toInts nsV
  rw [List.map_map]
  rfl
theorem resV_list (l : List Nat) : resV (Km544.listResult l) = nV l.length :: nsV l := by
  show nV l.length :: (Km544.toInts l).map V.int = _
  rw [toInts_is]
section
variable {K : PySem.W.Frag} {σ : L2.St} {H H' : Hp} {ta tb te to : TE} {t : TT} {a b : Nat} {D : Ends} {tz : TS}
theorem ev_fld {i C dx : Addr} {fs : List (Str × V)} {f : Str} {v : V} (ha : Ev ta σ H (.ref i)) (ho : H i = some (.ins C dx fs)) (hc : Cls K C) (hn : NoAttr K C f) (hl : fs.lookup f = some v) : Ev (tFld K ta f) σ H v := fun H1 e Q q =>
  ha H1 e _ fun H2 e2 => ⟨i, C, dx, fs, v, rfl, (e.trans e2) _ _ ho, hc, hn, hl, q H2 e2⟩
theorem ev_meth {i C dx : Addr} {fs : List (Str × V)} {m : Str} {sp : Sp} {E : XK} {ta : TA} {vs : List V} {z : V} (ho : Ev to σ H (.ref i)) (h : H i = some (.ins C dx fs)) (hn : fs.lookup m = none) (ht : EvA ta σ H vs) (hs : SpV sp (.ref i :: (vs ++ [])) H z) : Ev (tMeth C m sp [] E to ta) σ H z := fun H1 e Q q =>
  ho H1 e _ fun H2 e2 => ⟨i, dx, fs, rfl, (e.trans e2) _ _ h, hn, ht H2 (e.trans e2) _ fun H3 e3 => hs H3 ((e.trans e2).trans e3) Q (fun H4 e4 => q H4 ((e2.trans e3).trans e4)) E⟩
theorem ev_intB {b : Bool} (ha : Ev ta σ H (.bl b)) : Ev (tCB (fun xs H Q => (∃ i, xs = [V.int i] ∧ Q (.int i) H) ∨ ∃ k, xs = [V.bl k] ∧ Q (.int (if k then 1 else 0)) H) (tCons ta tNil)) σ H (.int (if b then 1 else 0)) := fun H1 e Q q =>
  ha H1 e _ fun H2 e2 => .inr ⟨b, rfl, q H2 e2⟩
theorem el_if {b : Bool} {xs : List V} (h : EvT t σ H b) (h1 : b = true → EvL ta σ H xs) (h2 : b = false → EvL tb σ H xs) : EvL (tIf t ta tb) σ H xs := fun H1 e Q q => h H1 e _ fun H2 e2 => by
  cases b with
  | true =>
    show ta σ H2 Q
    exact h1 rfl H2 (e.trans e2) Q fun p H3 hp e3 h3 => q p H3 (fresh_back e2 hp) (e2.trans e3) h3
  | false =>
    show tb σ H2 Q
    exact h2 rfl H2 (e.trans e2) Q fun p H3 hp e3 h3 => q p H3 (fresh_back e2 hp) (e2.trans e3) h3
theorem el_err {c : Int} : EvL (tLst (tCons (tUn (rU fun i => .int (-i)) (tC (.int c))) tNil)) σ H [.int (-c)] := el_lst (ea_cons (ev_un ev_c ru_neg) ea_nil) (by show 1 ≤ 100000; decide)
theorem el_one {v : V} (h : Ev te σ H v) : EvL (tLst (tCons te tNil)) σ H [v] := el_lst (ea_cons h ea_nil) (by show 1 ≤ 100000; decide)
theorem el_two {v u : V} (h : Ev te σ H v) (h2 : Ev ta σ H u) : EvL (tLst (tCons te (tCons ta tNil))) σ H [v, u] := el_lst (ea_cons h (ea_cons h2 ea_nil)) (by show 2 ≤ 100000; decide)
theorem ev_lenLLn {rows : List (List Nat)} (h : EvLL te σ H rows) : Ev (tCB (rLenS K) (tCons te tNil)) σ H (nV rows.length) := fun H1 e Q q =>
  h H1 e _ fun p H2 e2 ⟨as, h2⟩ => ⟨p, refs as, rfl, .inl (sq_of h2.1), by rw [refs_len, h2.2.1]; exact q H2 e2⟩
def EvPL (te : TE) (σ : L2.St) (H : Hp) (ps : List (Nat × Nat)) : Prop := ∀ H1, Ex H H1 → ∀ Q : VK, (∀ p H2, Ex H1 H2 → PL H2 p ps → Q (.ref p) H2) → te σ H1 Q
theorem ev_lenPL {ps : List (Nat × Nat)} (h : EvPL te σ H ps) : Ev (tCB (rLenS K) (tCons te tNil)) σ H (nV ps.length) := fun H1 e Q q =>
  h H1 e _ fun p H2 e2 ⟨as, h2⟩ => ⟨p, refs as, rfl, .inl (sq_of h2.1), by rw [refs_len, h2.2.1]; exact q H2 e2⟩
theorem epl_call {sp : Sp} {dvs vs : List V} {E : XK} {ta : TA} {ps : List (Nat × Nat)} (h : EvA ta σ H vs) (hs : ∀ H1, Ex H H1 → ∀ (Q : VK) (E : XK), RetPL ps H1 Q → sp (vs ++ dvs) H1 Q E) : EvPL (tCall sp dvs E ta) σ H ps := fun H1 e Q q =>
  h H1 e _ fun H2 e2 => hs H2 (e.trans e2) Q E fun p H3 e3 h3 => q p H3 (e2.trans e3) h3
/-- a call whose one argument gives rows -/
theorem epl_callLL {sp : Sp} {E : XK} {rows : List (List Nat)} {ps : List (Nat × Nat)} (h : EvLL te σ H rows) (hs : ∀ p H1, Ex H H1 → LL H1 p rows → ∀ (Q : VK) (E : XK), RetPL ps H1 Q → sp [.ref p] H1 Q E) : EvPL (tCall sp [] E (tCons te tNil)) σ H ps := fun H1 e Q q =>
  h H1 e _ fun p H2 e2 h2 => hs p H2 (e.trans e2) h2 Q E fun p H3 e3 h3 => q p H3 (e2.trans e3) h3
theorem q_asgPL {i : Nat} {ps : List (Nat × Nat)} (h : EvPL te σ H ps) (k : ∀ p H1, Ex H H1 → PL H1 p ps → tz D (σ.set i (some (.ref p))) H1) : tSeq (tAsg te (gName i)) tz D σ H := h H (Ex.refl H) _ fun p H1 e h1 => k p H1 e h1
/-- xs.extend([..]) -/
theorem s_extL {l : Addr} {xs ys : List V} (hl : H l = some (.lst xs)) (ha : Ev ta σ H (.ref l)) (h : EvL te σ H ys) (hz : xs.length + ys.length ≤ 100000) (k : ∀ H1, Ex H H1 → D.nx σ (upd H1 l (.lst (xs ++ ys)))) :
    tDrop (tBM K "list" rExtend ta (tCons te tNil)) D σ H := ha H (Ex.refl H) _ fun H1 e1 =>
  ⟨Or.inl ⟨rfl, xs, sq_of (e1 l _ hl)⟩, h H1 e1 _ fun p H2 hp e2 h2 => ⟨l, p, xs, ys, rfl, rfl, e2 l _ (e1 l _ hl), h2, sz_of hz, k H2 (e1.trans e2)⟩⟩
end
section
variable {P : Program} {w : World} {K : PySem.W.Frag} {mg : Str → Option Value} {base : Heap} {CI CD aS f : Addr} {fd : FuncData}
/-! ### has, has_part -/
def sp_has (CI : Addr) : Sp := fun vs H Q _ => ∃ (i : Addr) (reg : Registry) (x : Nat), vs = [.ref i, nV x] ∧ IAp CI H i reg ∧ RetV (.bl (decide (x < reg.reports.length))) H Q
theorem ok_has (F : Fun K "has" "Instance.has" s_Instance_has f fd) (T : Txt K mg CI CD aS) : FnOk P w K mg base CX0 1 f fd p_Instance_has (sp_has CI) := by
  refine F.ok sc_Instance_has (fun vs H Q E h => ?_) (fun cdv A outer s H vs Q E hr h => ?_)
  · obtain ⟨i, reg, x, rfl, _⟩ := h
    rfl
  · obtain ⟨i, reg, x, rfl, ⟨dx, r, as, h⟩, k⟩ := h
    refine ⟨_, (pss_one (ps_ret (pe_cmpR op_lt (pv 1) (pe_callB call_len_seq (by rfl) T.len PySem.boot_len (pa_cons (pe_fld (pv 0) rfl) pa_nil)) (nomark _)))), ?_⟩
    exact s_ret (ev_lt (ev_var rfl) (ev_lenLL (ev_fld (ev_var rfl) h.obj T.clInstance T.nReports (instF_reports _ _)) h.ll)) k
def sp_has_part (CI : Addr) : Sp := fun vs H Q _ => ∃ (i : Addr) (reg : Registry) (x y : Nat), vs = [.ref i, nV x, nV y] ∧ IAp CI H i reg ∧ RetV (.bl (decide (x < reg.reports.length) && decide (y < reg.attributeCount))) H Q
theorem no_has {m : Nat} {r : Addr} : (instF m r).lookup ("has" : Str) = none := instF_no (by decide +kernel) (by decide +kernel)
theorem no_has_part {m : Nat} {r : Addr} : (instF m r).lookup ("has_part" : Str) = none := instF_no (by decide +kernel) (by decide +kernel)
theorem ok_has_part (F : Fun K "has_part" "Instance.has_part" s_Instance_has_part f fd) (T : Txt K mg CI CD aS) (C_Instance_has : Met P w K mg base 1 CI "has" p_Instance_has (sp_has CI)) : FnOk P w K mg base CX0 2 f fd p_Instance_has_part (sp_has_part CI) := by
  refine F.ok sc_Instance_has_part (fun vs H Q E h => ?_) (fun cdv A outer s H vs Q E hr h => ?_)
  · obtain ⟨i, reg, x, y, rfl, _⟩ := h
    rfl
  · obtain ⟨i, reg, x, y, rfl, ⟨dx, r, as, h⟩, k⟩ := h
    refine ⟨_, (pss_one (ps_ret (pe_and (pe_met C_Instance_has T.clInstance (hr.mono (by decide)) (pv 0) (pa_cons (pv 1) pa_nil)) (pe_one (pe_cmpR op_lt (pv 2) (pe_fld (pv 0) rfl) (nomark _)))))), ?_⟩
    exact s_ret (ev_andV (ev_meth (ev_var rfl) h.obj no_has (ea_cons (ev_var rfl) ea_nil) fun H1 e1 Q q E => ⟨i, reg, x, rfl, ⟨dx, r, as, h.mono e1⟩, q⟩) fun _ => ev_lt (ev_var rfl) (ev_fld (ev_var rfl) h.obj T.clInstance T.nMany (instF_many _ _))) k
theorem ev_has {σ : L2.St} {H : Hp} {to tx : TE} {i : Addr} {reg : Registry} {x : Nat} (h : IAp CI H i reg) (ho : Ev to σ H (.ref i)) (hx : Ev tx σ H (nV x)) : Ev (tMeth CI "has" (sp_has CI) [] E0 to (tCons tx tNil)) σ H (.bl (decide (x < reg.reports.length))) := by
  obtain ⟨dx, r, as, h'⟩ := id h
  exact ev_meth ho h'.obj no_has (ea_cons hx ea_nil) fun H1 e1 Q q E => ⟨i, reg, x, rfl, h.mono e1, q⟩
theorem ev_hasPart {σ : L2.St} {H : Hp} {to tx ty : TE} {i : Addr} {reg : Registry} {x y : Nat} (h : IAp CI H i reg) (ho : Ev to σ H (.ref i)) (hx : Ev tx σ H (nV x)) (hy : Ev ty σ H (nV y)) : Ev (tMeth CI "has_part" (sp_has_part CI) [] E0 to (tCons tx (tCons ty tNil))) σ H (.bl (decide (x < reg.reports.length) && decide (y < reg.attributeCount))) := by
  obtain ⟨dx, r, as, h'⟩ := id h
  exact ev_meth ho h'.obj no_has_part (ea_cons hx (ea_cons hy ea_nil)) fun H1 e1 Q q E => ⟨i, reg, x, y, rfl, h.mono e1, q⟩
theorem part_no {x n y m : Nat} (h : (!(decide (x < n) && decide (y < m))) = true) : n ≤ x ∨ m ≤ y := by
  simp only [Bool.not_eq_true', Bool.and_eq_false_iff, decide_eq_false_iff_not] at h
  omega
theorem part_yes {x n y m : Nat} (h : (!(decide (x < n) && decide (y < m))) = false) : x < n ∧ y < m := by
  simp only [Bool.not_eq_false', Bool.and_eq_true, decide_eq_true_eq] at h
  exact h
theorem has_no {x n : Nat} (h : (!decide (x < n)) = true) : n ≤ x := by
  simp only [Bool.not_eq_true', decide_eq_false_iff_not] at h
  omega
theorem has_yes {x n : Nat} (h : (!decide (x < n)) = false) : x < n := by
  simp only [Bool.not_eq_false', decide_eq_true_eq] at h
  exact h
theorem both_no {x y n : Nat} (h : (!decide (x < n) || !decide (y < n)) = true) : n ≤ x ∨ n ≤ y := by
  simp only [Bool.or_eq_true, Bool.not_eq_true', decide_eq_false_iff_not] at h
  omega
theorem both_yes {x y n : Nat} (h : (!decide (x < n) || !decide (y < n)) = false) : x < n ∧ y < n := by
  simp only [Bool.or_eq_false_iff, Bool.not_eq_false', decide_eq_true_eq] at h
  exact h
/-- reports, many of an instance -/
theorem ev_reports {σ : L2.St} {H : Hp} {to : TE} {i dx r : Addr} {as : List Addr} {reg : Registry} (T : Txt K mg CI CD aS) (h : IA CI H i dx r as reg) (ho : Ev to σ H (.ref i)) : Ev (tFld K to "reports") σ H (.ref r) := ev_fld ho h.obj T.clInstance T.nReports (instF_reports _ _)
theorem ev_many {σ : L2.St} {H : Hp} {to : TE} {i dx r : Addr} {as : List Addr} {reg : Registry} (T : Txt K mg CI CD aS) (h : IA CI H i dx r as reg) (ho : Ev to σ H (.ref i)) : Ev (tFld K to "many") σ H (nV reg.attributeCount) := ev_fld ho h.obj T.clInstance T.nMany (instF_many _ _)
theorem ev_report {σ : L2.St} {H : Hp} {to tx : TE} {i dx r q : Addr} {as : List Addr} {reg : Registry} {x : Nat} (T : Txt K mg CI CD aS) (h : IA CI H i dx r as reg) (ho : Ev to σ H (.ref i)) (hx : Ev tx σ H (nV x)) (hq : as[x]? = some q) : Ev (tOp (rIxL K) (tFld K to "reports") tx) σ H (.ref q) :=
  ev_row (ev_reports T h ho) hx h.ll.1 hq
theorem ev_count {σ : L2.St} {H : Hp} {to : TE} {i dx r : Addr} {as : List Addr} {reg : Registry} (T : Txt K mg CI CD aS) (h : IA CI H i dx r as reg) (ho : Ev to σ H (.ref i)) : Ev (tCB (rLenS K) (tCons (tFld K to "reports") tNil)) σ H (nV reg.reports.length) := ev_lenLL (ev_reports T h ho) h.ll
/-! ### get_attribute -/
def sp_get_attribute (CI : Addr) : Sp := fun vs H Q _ => ∃ (i : Addr) (reg : Registry) (x y : Nat), vs = [.ref i, nV x, nV y] ∧ IAp CI H i reg ∧ RetL (resV (Km544.step (some reg) (.getAttribute x y)).2) H Q
theorem ok_get_attribute (F : Fun K "get_attribute" "get_attribute" s_get_attribute f fd) (T : Txt K mg CI CD aS) (C_Instance_has_part : Met P w K mg base 2 CI "has_part" p_Instance_has_part (sp_has_part CI)) : FnOk P w K mg base CX0 3 f fd p_get_attribute (sp_get_attribute CI) := by
  refine F.ok sc_get_attribute (fun vs H Q E h => ?_) (fun cdv A outer s H vs Q E hr h => ?_)
  · obtain ⟨i, reg, x, y, rfl, _⟩ := h
    rfl
  · obtain ⟨i, reg, x, y, rfl, ⟨dx, r, as, h⟩, k⟩ := h
    have es : (Km544.step (some reg) (.getAttribute x y)).2 = if reg.reports.length ≤ x ∨ reg.attributeCount ≤ y then Km544.error (-2) else if Km544.code reg x y = 0 then Km544.error (-33) else Km544.number (Km544.code reg x y - 1 : Nat) := rfl
    rw [es] at k
    refine ⟨_, (pss_cons (ps_if (pt_not (pt_val (pe_met C_Instance_has_part T.clInstance (hr.mono (by decide)) (pv 0) (pa_cons (pv 1) (pa_cons (pv 2) pa_nil))))) (pss_one (ps_ret (pe_lst (pa_cons (pe_un un_neg pe_int) pa_nil)))) pss_nil) (pss_cons (ps_set (i := 3) sc_get_attribute.nd rfl (Or.inl rfl) (pe_ix ix_list (pe_ix ix_list (pe_fld (pv 0) rfl) (pv 1) (fun _ _ => rfl)) (pv 2) (fun _ _ => rfl))) (pss_one (ps_ret (pe_ifExp (pt_cmpR op_eq (pv 3) pe_int (nomark _)) (pe_lst (pa_cons (pe_un un_neg pe_int) pa_nil)) (pe_lst (pa_cons (pe_op op_sub (pv 3) pe_int) pa_nil))))))), ?_⟩
    refine q_when (et_not (et_B (ev_hasPart ⟨dx, r, as, h⟩ (ev_var rfl) (ev_var rfl) (ev_var rfl)))) (fun hb H1 e1 => ?_) (fun hb H1 e1 => ?_)
    · rw [if_pos (part_no hb)] at k
      exact s_retL el_err fun p H2 hp e2 h2 => k.go e1 hp e2 h2
    · obtain ⟨c1, c2⟩ := part_yes hb
      have hx : ¬ (reg.reports.length ≤ x ∨ reg.attributeCount ≤ y) := by
        omega
      rw [if_neg hx] at k
      obtain ⟨q, hq, hqr⟩ := h.ll.2.2 x c1
      have ec : Km544.code reg x y = (row reg.reports x).getD y 0 := rfl
      rw [ec] at k
      refine q_asg (v := nV ((row reg.reports x).getD y 0)) (ev_at (ev_report T (h.mono e1) (ev_var rfl) (ev_var rfl) hq) (ev_var rfl) (e1 _ _ hqr) (by rw [h.ro.row c1]; exact c2)) fun H2 e2 => ?_
      by_cases c : (row reg.reports x).getD y 0 = 0
      · rw [if_pos c] at k
        exact s_retL (el_if (et_eq (b := 0) (ev_var rfl) ev_c) (fun _ => el_err) (fun hb => absurd c (of_decide_eq_false hb))) fun p H3 hp e3 h3 => k.go (e1.trans e2) hp e3 h3
      · rw [if_neg c] at k
        exact s_retL (el_if (et_eq (b := 0) (ev_var rfl) ev_c) (fun hb => absurd (of_decide_eq_true hb) c) (fun _ => el_one (ev_sub (b := 1) (by omega) (ev_var rfl) ev_c))) fun p H3 hp e3 h3 => k.go (e1.trans e2) hp e3 h3
/-! ### get_report -/
def sp_get_report (CI : Addr) : Sp := fun vs H Q _ => ∃ (i : Addr) (reg : Registry) (x : Nat), vs = [.ref i, nV x] ∧ IAp CI H i reg ∧ RetL (resV (Km544.step (some reg) (.getReport x)).2) H Q
theorem ok_get_report (F : Fun K "get_report" "get_report" s_get_report f fd) (T : Txt K mg CI CD aS) (C_Instance_has : Met P w K mg base 1 CI "has" p_Instance_has (sp_has CI)) : FnOk P w K mg base CX0 2 f fd p_get_report (sp_get_report CI) := by
  refine F.ok sc_get_report (fun vs H Q E h => ?_) (fun cdv A outer s H vs Q E hr h => ?_)
  · obtain ⟨i, reg, x, rfl, _⟩ := h
    rfl
  · obtain ⟨i, reg, x, rfl, ⟨dx, r, as, h⟩, k⟩ := h
    have es : (Km544.step (some reg) (.getReport x)).2 = if reg.reports.length ≤ x then Km544.error (-2) else Km544.listResult (row reg.reports x) := rfl
    rw [es] at k
    have h5 := h.ro.m5
    refine ⟨_, (pss_cons (ps_if (pt_not (pt_val (pe_met C_Instance_has T.clInstance (hr.mono (by decide)) (pv 0) (pa_cons (pv 1) pa_nil)))) (pss_one (ps_ret (pe_lst (pa_cons (pe_un un_neg pe_int) pa_nil)))) pss_nil) (pss_one (ps_ret (pe_op op_cat (pe_lst (pa_cons (pe_fld (pv 0) rfl) pa_nil)) (pe_ix ix_list (pe_fld (pv 0) rfl) (pv 1) (fun _ _ => rfl)))))), ?_⟩
    refine q_when (et_not (et_B (ev_has ⟨dx, r, as, h⟩ (ev_var rfl) (ev_var rfl)))) (fun hb H1 e1 => ?_) (fun hb H1 e1 => ?_)
    · rw [if_pos (has_no hb)] at k
      exact s_retL el_err fun p H2 hp e2 h2 => k.go e1 hp e2 h2
    · have c1 := has_yes hb
      rw [if_neg (Nat.not_le_of_lt c1), resV_list, h.ro.row c1] at k
      obtain ⟨q, hq, hqr⟩ := h.ll.2.2 x c1
      exact s_retL (el_catR (el_one (ev_many T (h.mono e1) (ev_var rfl))) (er_of (ev_report T (h.mono e1) (ev_var rfl) (ev_var rfl) hq) (e1 _ _ hqr)) (by rw [nsV_len, h.ro.row c1]; show 1 + _ ≤ _; omega)) fun p H3 hp e3 h3 => k.go e1 hp e3 h3
/-! ### are_different, conflicting_attributes -/
def sp_are_different (CI : Addr) : Sp := fun vs H Q _ => ∃ (i : Addr) (reg : Registry) (x y : Nat), vs = [.ref i, nV x, nV y] ∧ IAp CI H i reg ∧ RetL (resV (Km544.step (some reg) (.areDifferent x y)).2) H Q
theorem ok_are_different (F : Fun K "are_different" "are_different" s_are_different f fd) (T : Txt K mg CI CD aS) (C_Instance_has : Met P w K mg base 1 CI "has" p_Instance_has (sp_has CI)) (C_are_unlike : Cal P w K mg base 2 "are_unlike" p_are_unlike sp_are_unlike) : FnOk P w K mg base CX0 3 f fd p_are_different (sp_are_different CI) := by
  refine F.ok sc_are_different (fun vs H Q E h => ?_) (fun cdv A outer s H vs Q E hr h => ?_)
  · obtain ⟨i, reg, x, y, rfl, _⟩ := h
    rfl
  · obtain ⟨i, reg, x, y, rfl, ⟨dx, r, as, h⟩, k⟩ := h
    have es : (Km544.step (some reg) (.areDifferent x y)).2 = if reg.reports.length ≤ x ∨ reg.reports.length ≤ y then Km544.error (-2) else Km544.boolean (Km544.areDifferent reg x y) := rfl
    rw [es] at k
    refine ⟨_, (pss_cons (ps_if (PW.pt (pw_or (pt_not (pt_val (pe_met C_Instance_has T.clInstance (hr.mono (by decide)) (pv 0) (pa_cons (pv 1) pa_nil)))) (pw_or1 (pt_not (pt_val (pe_met C_Instance_has T.clInstance (hr.mono (by decide)) (pv 0) (pa_cons (pv 2) pa_nil))))))) (pss_one (ps_ret (pe_lst (pa_cons (pe_un un_neg pe_int) pa_nil)))) pss_nil) (pss_one (ps_ret (pe_lst (pa_cons (pe_callTy call_int1 (by rfl) T.int (by decide +kernel) (pa_cons (pe_cal C_are_unlike (hr.mono (by decide)) (by rfl) (pa_cons (pe_ix ix_list (pe_fld (pv 0) rfl) (pv 1) (fun _ _ => rfl)) (pa_cons (pe_ix ix_list (pe_fld (pv 0) rfl) (pv 2) (fun _ _ => rfl)) pa_nil))) pa_nil)) pa_nil))))), ?_⟩
    refine q_when (et_or (et_not (et_B (ev_has ⟨dx, r, as, h⟩ (ev_var rfl) (ev_var rfl)))) fun _ => et_not (et_B (ev_has ⟨dx, r, as, h⟩ (ev_var rfl) (ev_var rfl)))) (fun hb H1 e1 => ?_) (fun hb H1 e1 => ?_)
    · rw [if_pos (both_no hb)] at k
      exact s_retL el_err fun p H2 hp e2 h2 => k.go e1 hp e2 h2
    · obtain ⟨c1, c2⟩ := both_yes hb
      have hx : ¬ (reg.reports.length ≤ x ∨ reg.reports.length ≤ y) := by
        omega
      rw [if_neg hx, different_is h.wf c1] at k
      obtain ⟨q, hq, hqr⟩ := h.ll.2.2 x c1
      obtain ⟨q', hq', hqr'⟩ := h.ll.2.2 y c2
      refine s_retL (el_one (ev_intB (ev_call (ea_cons (ev_report T (h.mono e1) (ev_var rfl) (ev_var rfl) hq) (ea_cons (ev_report T (h.mono e1) (ev_var rfl) (ev_var rfl) hq') ea_nil)) ?_))) fun p H3 hp e3 h3 => k.go e1 hp e3 h3
      exact fun H4 e4 Q q2 E => ⟨q, q', _, _, rfl, (e1.trans e4) _ _ hqr, (e1.trans e4) _ _ hqr', by rw [h.ro.row c1, h.ro.row c2]; exact Nat.le_refl _, by rw [h.ro.row c1]; exact h.ro.m5, q2⟩
def sp_conflicting (CI : Addr) : Sp := fun vs H Q _ => ∃ (i : Addr) (reg : Registry) (x y : Nat), vs = [.ref i, nV x, nV y] ∧ IAp CI H i reg ∧ RetL (resV (Km544.step (some reg) (.conflictingAttributes x y)).2) H Q
theorem ok_conflicting (F : Fun K "conflicting_attributes" "conflicting_attributes" s_conflicting_attributes f fd) (T : Txt K mg CI CD aS) (C_Instance_has : Met P w K mg base 1 CI "has" p_Instance_has (sp_has CI)) (C_conflicts : Cal P w K mg base 1 "conflicts" p_conflicts sp_conflicts) : FnOk P w K mg base CX0 2 f fd p_conflicting_attributes (sp_conflicting CI) := by
  refine F.ok sc_conflicting_attributes (fun vs H Q E h => ?_) (fun cdv A outer s H vs Q E hr h => ?_)
  · obtain ⟨i, reg, x, y, rfl, _⟩ := h
    rfl
  · obtain ⟨i, reg, x, y, rfl, ⟨dx, r, as, h⟩, k⟩ := h
    have es : (Km544.step (some reg) (.conflictingAttributes x y)).2 = if reg.reports.length ≤ x ∨ reg.reports.length ≤ y then Km544.error (-2) else if Km544.areDifferent reg x y = false then Km544.error (-33) else Km544.listResult ((List.range reg.attributeCount).filter fun a => Km544.conflictsAt reg x y a) := rfl
    rw [es] at k
    refine ⟨_, (pss_cons (ps_if (PW.pt (pw_or (pt_not (pt_val (pe_met C_Instance_has T.clInstance (hr.mono (by decide)) (pv 0) (pa_cons (pv 1) pa_nil)))) (pw_or1 (pt_not (pt_val (pe_met C_Instance_has T.clInstance (hr.mono (by decide)) (pv 0) (pa_cons (pv 2) pa_nil))))))) (pss_one (ps_ret (pe_lst (pa_cons (pe_un un_neg pe_int) pa_nil)))) pss_nil) (pss_cons (ps_set (i := 3) sc_conflicting_attributes.nd rfl (Or.inl rfl) (pe_cal C_conflicts (hr.mono (by decide)) (by rfl) (pa_cons (pe_ix ix_list (pe_fld (pv 0) rfl) (pv 1) (fun _ _ => rfl)) (pa_cons (pe_ix ix_list (pe_fld (pv 0) rfl) (pv 2) (fun _ _ => rfl)) pa_nil)))) (pss_one (ps_ret (pe_ifExp (pt_cmpR op_gt (pe_callB call_len_seq (by rfl) T.len PySem.boot_len (pa_cons (pv 3) pa_nil)) pe_int (nomark _)) (pe_op op_cat (pe_lst (pa_cons (pe_callB call_len_seq (by rfl) T.len PySem.boot_len (pa_cons (pv 3) pa_nil)) pa_nil)) (pv 3)) (pe_lst (pa_cons (pe_un un_neg pe_int) pa_nil))))))), ?_⟩
    refine q_when (et_or (et_not (et_B (ev_has ⟨dx, r, as, h⟩ (ev_var rfl) (ev_var rfl)))) fun _ => et_not (et_B (ev_has ⟨dx, r, as, h⟩ (ev_var rfl) (ev_var rfl)))) (fun hb H1 e1 => ?_) (fun hb H1 e1 => ?_)
    · rw [if_pos (both_no hb)] at k
      exact s_retL el_err fun p H2 hp e2 h2 => k.go e1 hp e2 h2
    · obtain ⟨c1, c2⟩ := both_yes hb
      have hx : ¬ (reg.reports.length ≤ x ∨ reg.reports.length ≤ y) := by
        omega
      rw [if_neg hx, different_is h.wf c1, conflicts_is h.wf c1] at k
      obtain ⟨q, hq, hqr⟩ := h.ll.2.2 x c1
      obtain ⟨q', hq', hqr'⟩ := h.ll.2.2 y c2
      have cl := conflicts_len (row reg.reports x) (row reg.reports y)
      rw [h.ro.row c1] at cl
      have h5 := h.ro.m5
      refine q_asgL (xs := nsV (conflicts (row reg.reports x) (row reg.reports y))) (el_call (ea_cons (ev_report T (h.mono e1) (ev_var rfl) (ev_var rfl) hq) (ea_cons (ev_report T (h.mono e1) (ev_var rfl) (ev_var rfl) hq') ea_nil)) ?_) fun c H2 hc e2 h2 => ?_
      · exact fun H4 e4 Q q2 E => ⟨q, q', _, _, rfl, (e1.trans e4) _ _ hqr, (e1.trans e4) _ _ hqr', by rw [h.ro.row c1, h.ro.row c2]; exact Nat.le_refl _, by rw [h.ro.row c1]; exact h.ro.m5, q2⟩
      · by_cases c : 0 < (conflicts (row reg.reports x) (row reg.reports y)).length
        · have eu : unlike (row reg.reports x) (row reg.reports y) = true := decide_eq_true c
          rw [eu, if_neg (by decide), resV_list] at k
          exact s_retL (el_if (et_gt (b := 0) (ev_lenN' (ev_var rfl) h2) ev_c) (fun _ => el_catR (el_one (ev_lenN' (ev_var rfl) h2)) (er_of (ev_var rfl) h2) (by rw [nsV_len]; show 1 + _ ≤ _; omega)) (fun hb => absurd c (of_decide_eq_false hb))) fun p H3 hp e3 h3 => k.go (e1.trans e2) hp e3 h3
        · have eu : unlike (row reg.reports x) (row reg.reports y) = false := decide_eq_false c
          rw [eu, if_pos rfl] at k
          exact s_retL (el_if (et_gt (b := 0) (ev_lenN' (ev_var rfl) h2) ev_c) (fun hb => absurd (of_decide_eq_true hb) c) (fun _ => el_err)) fun p H3 hp e3 h3 => k.go (e1.trans e2) hp e3 h3
/-! ### groupings -/
def sp_household_numbers (CI : Addr) : Sp := fun vs H Q _ => ∃ (i : Addr) (reg : Registry), vs = [.ref i] ∧ IAp CI H i reg ∧ RetL (resV (Km544.step (some reg) .minHouseholds).2) H Q
theorem ok_household_numbers (F : Fun K "household_numbers" "household_numbers" s_household_numbers f fd) (T : Txt K mg CI CD aS) (C_min_households : Cal P w K mg base 6 "min_households" p_min_households sp_min_households) : FnOk P w K mg base CX0 7 f fd p_household_numbers (sp_household_numbers CI) := by
  refine F.ok sc_household_numbers (fun vs H Q E h => ?_) (fun cdv A outer s H vs Q E hr h => ?_)
  · obtain ⟨i, reg, rfl, _⟩ := h
    rfl
  · obtain ⟨i, reg, rfl, ⟨dx, r, as, h⟩, k⟩ := h
    have es : resV (Km544.step (some reg) .minHouseholds).2 = [nV (minH reg.reports), nV reg.reports.length] := by
      rw [← minH_is h.wf]
      rfl
    rw [es] at k
    refine ⟨_, (pss_one (ps_ret (pe_lst (pa_cons (pe_cal C_min_households (hr.mono (by decide)) (by rfl) (pa_cons (pe_fld (pv 0) rfl) pa_nil)) (pa_cons (pe_callB call_len_seq (by rfl) T.len PySem.boot_len (pa_cons (pe_fld (pv 0) rfl) pa_nil)) pa_nil))))), ?_⟩
    exact s_retL (el_two (ev_call (ea_cons (ev_reports T h (ev_var rfl)) ea_nil) fun H1 e1 Q q E => ⟨r, _, _, rfl, ⟨as, h.ll.mono e1⟩, h.ro, q⟩) (ev_count T h (ev_var rfl))) k
def sp_tell_first (CI : Addr) : Sp := fun vs H Q _ => ∃ (i : Addr) (reg : Registry), vs = [.ref i] ∧ IAp CI H i reg ∧ RetL (resV (Km544.step (some reg) .firstGrouping).2) H Q
theorem ok_tell_first (F : Fun K "tell_first_grouping" "tell_first_grouping" s_tell_first_grouping f fd) (T : Txt K mg CI CD aS) (C_first_grouping : Cal P w K mg base 5 "first_grouping" p_first_grouping sp_first_grouping) : FnOk P w K mg base CX0 6 f fd p_tell_first_grouping (sp_tell_first CI) := by
  refine F.ok sc_tell_first_grouping (fun vs H Q E h => ?_) (fun cdv A outer s H vs Q E hr h => ?_)
  · obtain ⟨i, reg, rfl, _⟩ := h
    rfl
  · obtain ⟨i, reg, rfl, ⟨dx, r, as, h⟩, k⟩ := h
    have es : resV (Km544.step (some reg) .firstGrouping).2 = nV reg.reports.length :: nsV (firstG reg.reports) := by
      have e0 : (Km544.step (some reg) .firstGrouping).2 = Km544.listResult (Km544.firstGrouping reg) := rfl
      rw [e0, firstG_is h.wf, resV_list, firstG_len]
    rw [es] at k
    have h7 := h.ro.few
    refine ⟨_, (pss_one (ps_ret (pe_op op_cat (pe_lst (pa_cons (pe_callB call_len_seq (by rfl) T.len PySem.boot_len (pa_cons (pe_fld (pv 0) rfl) pa_nil)) pa_nil)) (pe_cal C_first_grouping (hr.mono (by decide)) (by rfl) (pa_cons (pe_fld (pv 0) rfl) pa_nil))))), ?_⟩
    exact s_retL (el_catR (el_one (ev_count T h (ev_var rfl))) (er_call (ea_cons (ev_reports T h (ev_var rfl)) ea_nil) fun H1 e1 Q E q => ⟨r, _, _, rfl, ⟨as, h.ll.mono e1⟩, h.ro, q⟩) (by rw [nsV_len, firstG_len]; show 1 + _ ≤ _; omega)) k
def sp_grouping_count (CI : Addr) : Sp := fun vs H Q _ => ∃ (i : Addr) (reg : Registry) (x : Nat), vs = [.ref i, nV x] ∧ IAp CI H i reg ∧ RetL (resV (Km544.step (some reg) (.groupingCount x)).2) H Q
theorem ok_grouping_count (F : Fun K "grouping_count" "grouping_count" s_grouping_count f fd) (T : Txt K mg CI CD aS) (C_groupings : Cal P w K mg base 4 "groupings" p_groupings sp_groupings) : FnOk P w K mg base CX0 5 f fd p_grouping_count (sp_grouping_count CI) := by
  refine F.ok sc_grouping_count (fun vs H Q E h => ?_) (fun cdv A outer s H vs Q E hr h => ?_)
  · obtain ⟨i, reg, x, rfl, _⟩ := h
    rfl
  · obtain ⟨i, reg, x, rfl, ⟨dx, r, as, h⟩, k⟩ := h
    have es : (Km544.step (some reg) (.groupingCount x)).2 = if 7 < x then Km544.error (-22) else Km544.number ((Km544.groupings reg x).length : Nat) := rfl
    rw [es, groupings_is h.wf] at k
    refine ⟨_, (pss_cons (ps_if (pt_cmpR op_gt (pv 1) (pe_gl rfl T.gMostHouseholds) (nomark _)) (pss_one (ps_ret (pe_lst (pa_cons (pe_un un_neg pe_int) pa_nil)))) pss_nil) (pss_one (ps_ret (pe_lst (pa_cons (pe_callB call_len_seq (by rfl) T.len PySem.boot_len (pa_cons (pe_cal C_groupings (hr.mono (by decide)) (by rfl) (pa_cons (pe_fld (pv 0) rfl) (pa_cons (pv 1) pa_nil))) pa_nil)) pa_nil))))), ?_⟩
    refine q_when (et_gt (b := 7) (ev_var rfl) ev_c) (fun hb H1 e1 => ?_) (fun hb H1 e1 => ?_)
    · rw [if_pos (of_decide_eq_true hb)] at k
      exact s_retL el_err fun p H2 hp e2 h2 => k.go e1 hp e2 h2
    · rw [if_neg (of_decide_eq_false hb)] at k
      exact s_retL (el_one (ev_lenLLn (ell_call (ea_cons (ev_reports T (h.mono e1) (ev_var rfl)) (ea_cons (ev_var rfl) ea_nil)) fun H2 e2 Q E q => ⟨r, _, _, x, rfl, ⟨as, h.ll.mono (e1.trans e2)⟩, h.ro, q⟩))) fun p H2 hp e2 h2 => k.go e1 hp e2 h2
def sp_get_grouping (CI : Addr) : Sp := fun vs H Q _ => ∃ (i : Addr) (reg : Registry) (x y : Nat), vs = [.ref i, nV x, nV y] ∧ IAp CI H i reg ∧ RetL (resV (Km544.step (some reg) (.getGrouping x y)).2) H Q
theorem ok_get_grouping (F : Fun K "get_grouping" "get_grouping" s_get_grouping f fd) (T : Txt K mg CI CD aS) (C_groupings : Cal P w K mg base 4 "groupings" p_groupings sp_groupings) : FnOk P w K mg base CX0 5 f fd p_get_grouping (sp_get_grouping CI) := by
  refine F.ok sc_get_grouping (fun vs H Q E h => ?_) (fun cdv A outer s H vs Q E hr h => ?_)
  · obtain ⟨i, reg, x, y, rfl, _⟩ := h
    rfl
  · obtain ⟨i, reg, x, y, rfl, ⟨dx, r, as, h⟩, k⟩ := h
    have es : (Km544.step (some reg) (.getGrouping x y)).2 = if 7 < x then Km544.error (-22) else match (Km544.groupings reg x)[y]? with
          | none => Km544.error (-33)
          | some grouping => Km544.listResult grouping := rfl
    rw [es, groupings_is h.wf] at k
    have h7 := h.ro.few
    refine ⟨_, (pss_cons (ps_if (pt_cmpR op_gt (pv 1) (pe_gl rfl T.gMostHouseholds) (nomark _)) (pss_one (ps_ret (pe_lst (pa_cons (pe_un un_neg pe_int) pa_nil)))) pss_nil) (pss_cons (ps_set (i := 3) sc_get_grouping.nd rfl (Or.inl rfl) (pe_cal C_groupings (hr.mono (by decide)) (by rfl) (pa_cons (pe_fld (pv 0) rfl) (pa_cons (pv 1) pa_nil)))) (pss_cons (ps_if (pt_cmpR op_ge (pv 2) (pe_callB call_len_seq (by rfl) T.len PySem.boot_len (pa_cons (pv 3) pa_nil)) (nomark _)) (pss_one (ps_ret (pe_lst (pa_cons (pe_un un_neg pe_int) pa_nil)))) pss_nil) (pss_one (ps_ret (pe_op op_cat (pe_lst (pa_cons (pe_callB call_len_seq (by rfl) T.len PySem.boot_len (pa_cons (pe_fld (pv 0) rfl) pa_nil)) pa_nil)) (pe_ix ix_list (pv 3) (pv 2) (fun _ _ => rfl)))))))), ?_⟩
    refine q_when (et_gt (b := 7) (ev_var rfl) ev_c) (fun hb H1 e1 => ?_) (fun hb H1 e1 => ?_)
    · rw [if_pos (of_decide_eq_true hb)] at k
      exact s_retL el_err fun p H2 hp e2 h2 => k.go e1 hp e2 h2
    · rw [if_neg (of_decide_eq_false hb)] at k
      refine q_asgLL (rows := groupings reg.reports x) (ell_call (ea_cons (ev_reports T (h.mono e1) (ev_var rfl)) (ea_cons (ev_var rfl) ea_nil)) fun H2 e2 Q E q => ⟨r, _, _, x, rfl, ⟨as, h.ll.mono (e1.trans e2)⟩, h.ro, q⟩) fun rp H2 e2 hR => ?_
      obtain ⟨ps, hP⟩ := hR
      refine q_when (et_ge (ev_var rfl) (ev_lenLL (ev_var rfl) hP)) (fun hb2 H3 e3 => ?_) (fun hb2 H3 e3 => ?_)
      · have e : (groupings reg.reports x)[y]? = none := List.getElem?_eq_none (of_decide_eq_true hb2)
        rw [e] at k
        exact s_retL el_err fun p H4 hp e4 h4 => k.go ((e1.trans e2).trans e3) hp e4 h4
      · have c : y < (groupings reg.reports x).length := by
          have := of_decide_eq_false hb2
          omega
        obtain ⟨q, hq, hqr⟩ := hP.2.2 y c
        have e : (groupings reg.reports x)[y]? = some (row (groupings reg.reports x) y) := by
          unfold row
          rw [List.getD_eq_getElem?_getD, List.getElem?_eq_getElem c]
          rfl
        have gl : (row (groupings reg.reports x) y).length = reg.reports.length := by
          have hm := row_mem c
          rw [← groupTo_all] at hm
          rw [← groupTo_all]
          exact (gok _ (Nat.le_refl _) _ hm).len
        rw [e] at k
        have k : RetL (resV (Km544.listResult (row (groupings reg.reports x) y))) H Q := k
        rw [resV_list, gl] at k
        exact s_retL (el_catR (el_one (ev_count T (h.mono ((e1.trans e2).trans e3)) (ev_var rfl))) (er_of (ev_row (ev_var rfl) (ev_var rfl) (e3 _ _ hP.1) hq) (e3 _ _ hqr)) (by rw [nsV_len, gl]; show 1 + _ ≤ _; omega)) fun p H4 hp e4 h4 => k.go ((e1.trans e2).trans e3) hp e4 h4
def sp_get_household (CI : Addr) : Sp := fun vs H Q _ => ∃ (i : Addr) (reg : Registry) (x : Nat), vs = [.ref i, nV x] ∧ IAp CI H i reg ∧ RetL (resV (Km544.step (some reg) (.getHousehold x)).2) H Q
theorem of_RO {m : Nat} {rows : List (List Nat)} (ro : RO m rows) (h : Nat) : RO m (ofHousehold rows h) := by
  have h7 := ro.few
  refine ⟨?_, ro.m5, fun x hx => ?_⟩
  · unfold ofHousehold places
    rw [List.length_map]
    have z := List.length_filter_le (fun p => decide ((firstG rows).getD p 0 = h)) (List.range rows.length)
    rw [List.length_range] at z
    omega
  · unfold ofHousehold places at hx
    obtain ⟨p, hp, rfl⟩ := List.mem_map.mp hx
    exact ro.row (List.mem_range.mp (List.mem_filter.mp hp).1)
theorem ok_get_household (F : Fun K "get_household" "get_household" s_get_household f fd) (T : Txt K mg CI CD aS) (C_combined : Cal P w K mg base 1 "combined" p_combined sp_combined) (C_of_household : Cal P w K mg base 6 "of_household" p_of_household sp_of_household) (C_min_households : Cal P w K mg base 6 "min_households" p_min_households sp_min_households) : FnOk P w K mg base CX0 7 f fd p_get_household (sp_get_household CI) := by
  refine F.ok sc_get_household (fun vs H Q E h => ?_) (fun cdv A outer s H vs Q E hr h => ?_)
  · obtain ⟨i, reg, x, rfl, _⟩ := h
    rfl
  · obtain ⟨i, reg, x, rfl, ⟨dx, r, as, h⟩, k⟩ := h
    have es : (Km544.step (some reg) (.getHousehold x)).2 = if Km544.minHouseholds reg ≤ x then Km544.error (-2) else ⟨((Km544.membersOf (Km544.firstGrouping reg) x).length : Int), Km544.toInts (Km544.combined reg (Km544.membersOf (Km544.firstGrouping reg) x))⟩ := rfl
    rw [es, minH_is h.wf, members_is h.wf] at k
    have h7 := h.ro.few
    have h5 := h.ro.m5
    refine ⟨_, (pss_cons (ps_if (pt_cmpR op_ge (pv 1) (pe_cal C_min_households (hr.mono (by decide)) (by rfl) (pa_cons (pe_fld (pv 0) rfl) pa_nil)) (nomark _)) (pss_one (ps_ret (pe_lst (pa_cons (pe_un un_neg pe_int) pa_nil)))) pss_nil) (pss_cons (ps_set (i := 2) sc_get_household.nd rfl (Or.inl rfl) (pe_cal C_of_household (hr.mono (by decide)) (by rfl) (pa_cons (pe_fld (pv 0) rfl) (pa_cons (pv 1) pa_nil)))) (pss_one (ps_ret (pe_op op_cat (pe_lst (pa_cons (pe_callB call_len_seq (by rfl) T.len PySem.boot_len (pa_cons (pv 2) pa_nil)) pa_nil)) (pe_cal C_combined (hr.mono (by decide)) (by rfl) (pa_cons (pv 2) pa_nil))))))), ?_⟩
    refine q_when (et_ge (ev_var rfl) (ev_call (ea_cons (ev_reports T h (ev_var rfl)) ea_nil) fun H1 e1 Q q E => ⟨r, _, _, rfl, ⟨as, h.ll.mono e1⟩, h.ro, q⟩)) (fun hb H1 e1 => ?_) (fun hb H1 e1 => ?_)
    · rw [if_pos (of_decide_eq_true hb)] at k
      exact s_retL el_err fun p H2 hp e2 h2 => k.go e1 hp e2 h2
    · have c := of_decide_eq_false hb
      rw [if_neg c] at k
      have hne := places_ne (rows := reg.reports) (h := x) (by omega)
      have hin : ∀ p ∈ places reg.reports x, p < reg.reports.length := fun p hp => List.mem_range.mp (List.mem_filter.mp hp).1
      rw [combined_is h.wf hne hin] at k
      have ro2 := of_RO h.ro x
      have hl2 : (ofHousehold reg.reports x).length = (places reg.reports x).length := List.length_map _
      have hpos : 0 < (ofHousehold reg.reports x).length := by
        rw [hl2]
        exact List.length_pos_iff.mpr hne
      have ek : resV ⟨((places reg.reports x).length : Int), Km544.toInts (combined ((places reg.reports x).map (row reg.reports)))⟩ = nV (ofHousehold reg.reports x).length :: nsV (combined (ofHousehold reg.reports x)) := by
        rw [hl2]
        show nV (places reg.reports x).length :: (Km544.toInts _).map V.int = _
        rw [toInts_is]
        rfl
      rw [ek] at k
      have cl : (combined (ofHousehold reg.reports x)).length = reg.attributeCount := by
        unfold combined
        rw [fold_merge_len]
        exact ro2.row hpos
      have z7 := ro2.few
      refine q_asgLL (rows := ofHousehold reg.reports x) (ell_call (ea_cons (ev_reports T (h.mono e1) (ev_var rfl)) (ea_cons (ev_var rfl) ea_nil)) fun H2 e2 Q E q => ⟨r, _, _, x, rfl, ⟨as, h.ll.mono (e1.trans e2)⟩, h.ro, q⟩) fun rp H2 e2 hR => ?_
      obtain ⟨ps, hP⟩ := hR
      exact s_retL (el_catR (el_one (ev_lenLL (ev_var rfl) hP)) (EvL.r (el_call (ea_cons (ev_var rfl) ea_nil) fun H3 e3 Q q E => ⟨rp, _, _, rfl, ⟨ps, hP.mono e3⟩, ro2, hpos, q⟩)) (by rw [nsV_len, cl]; show 1 + _ ≤ _; omega)) fun p H4 hp e4 h4 => k.go (e1.trans e2) hp e4 h4
end
end Hr
/-! Hh: asks.py, the rest. -/
namespace Hr
open PySem PySem.Spec PyProof.Rows L2 Evl
open Km544 (Registry)
section
variable {P : Program} {w : World} {K : PySem.W.Frag} {mg : Str → Option Value} {base : Heap} {CI CD aS f : Addr} {fd : FuncData}
/-! ### sets -/
def sp_largest_set (CI : Addr) : Sp := fun vs H Q _ => ∃ (i : Addr) (reg : Registry), vs = [.ref i] ∧ IAp CI H i reg ∧ RetL (resV (Km544.step (some reg) .largestDistinctSet).2) H Q
theorem ok_largest_set (F : Fun K "largest_distinct_set" "largest_distinct_set" s_largest_distinct_set f fd) (T : Txt K mg CI CD aS) (C_largest_distinct : Cal P w K mg base 4 "largest_distinct" p_largest_distinct sp_largest_distinct) : FnOk P w K mg base CX0 5 f fd p_largest_distinct_set (sp_largest_set CI) := by
  refine F.ok sc_largest_distinct_set (fun vs H Q E h => ?_) (fun cdv A outer s H vs Q E hr h => ?_)
  · obtain ⟨i, reg, rfl, _⟩ := h
    rfl
  · obtain ⟨i, reg, rfl, ⟨dx, r, as, h⟩, k⟩ := h
    have es : resV (Km544.step (some reg) .largestDistinctSet).2 = nsV [(largest reg.reports).1, (largest reg.reports).2] := by
      rw [largest_is h.wf]
      rfl
    rw [es] at k
    refine ⟨_, (pss_one (ps_ret (pe_cal C_largest_distinct (hr.mono (by decide)) (by rfl) (pa_cons (pe_fld (pv 0) rfl) pa_nil)))), ?_⟩
    exact s_retL (el_call (ea_cons (ev_reports T h (ev_var rfl)) ea_nil) fun H1 e1 Q q E => ⟨r, _, _, rfl, ⟨as, h.ll.mono e1⟩, h.ro, q⟩) k
def sp_tell_sufficient (CI : Addr) : Sp := fun vs H Q _ => ∃ (i : Addr) (reg : Registry) (x : Nat), vs = [.ref i, nV x] ∧ IAp CI H i reg ∧ RetL (resV (Km544.step (some reg) (.isSufficient x)).2) H Q
theorem ok_tell_sufficient (F : Fun K "tell_sufficient" "tell_sufficient" s_tell_sufficient f fd) (T : Txt K mg CI CD aS) (C_weights : Cal P w K mg base 1 "weights" p_weights sp_weights) (C_members : Cal P w K mg base 1 "members" p_members sp_members) (C_is_sufficient : Cal P w K mg base 2 "is_sufficient" p_is_sufficient sp_is_sufficient) :
    FnOk P w K mg base CX0 3 f fd p_tell_sufficient (sp_tell_sufficient CI) := by
  refine F.ok sc_tell_sufficient (fun vs H Q E h => ?_) (fun cdv A outer s H vs Q E hr h => ?_)
  · obtain ⟨i, reg, x, rfl, _⟩ := h
    rfl
  · obtain ⟨i, reg, x, rfl, ⟨dx, r, as, h⟩, k⟩ := h
    have es : (Km544.step (some reg) (.isSufficient x)).2 = if 2 ^ reg.attributeCount ≤ x then Km544.error (-22) else Km544.boolean (Km544.isSufficient reg x) := rfl
    rw [es, sufficient_members h.wf] at k
    have h5 := h.ro.m5
    refine ⟨_, (pss_cons (ps_if (pt_cmpR op_ge (pv 1) (pe_ix ix_list (pe_cal C_weights (hr.mono (by decide)) (by rfl) (pa_cons (pe_fld (pv 0) rfl) pa_nil)) (pe_un un_neg pe_int) (fun _ _ => rfl)) (nomark _)) (pss_one (ps_ret (pe_lst (pa_cons (pe_un un_neg pe_int) pa_nil)))) pss_nil) (pss_one (ps_ret (pe_lst (pa_cons (pe_callTy call_int1 (by rfl) T.int (by decide +kernel) (pa_cons (pe_cal C_is_sufficient (hr.mono (by decide)) (by rfl) (pa_cons (pe_fld (pv 0) rfl) (pa_cons (pe_cal C_members (hr.mono (by decide)) (by rfl) (pa_cons (pv 1) (pa_cons (pe_fld (pv 0) rfl) pa_nil))) pa_nil))) pa_nil)) pa_nil))))), ?_⟩
    refine q_when (et_ge (ev_var rfl) (ev_lastN (el_call (ea_cons (ev_many T h (ev_var rfl)) ea_nil) fun H1 e1 Q q E => ⟨_, rfl, by omega, q⟩))) (fun hb H1 e1 => ?_) (fun hb H1 e1 => ?_)
    · rw [if_pos (of_decide_eq_true hb)] at k
      exact s_retL el_err fun p H2 hp e2 h2 => k.go e1 hp e2 h2
    · rw [if_neg (of_decide_eq_false hb)] at k
      refine s_retL (el_one (ev_intB (ev_call1L (ev_reports T (h.mono e1) (ev_var rfl)) (el_call (xs := nsV (members x reg.attributeCount)) (ea_cons (ev_var rfl) (ea_cons (ev_many T (h.mono e1) (ev_var rfl)) ea_nil)) fun H2 e2 Q q E => ⟨x, _, rfl, by omega, q⟩) fun p H2 e2 h2 => ?_))) fun p H2 hp e2 h2 => k.go e1 hp e2 h2
      exact fun H3 e3 Q q E => ⟨r, p, _, _, _, rfl, ⟨as, h.ll.mono ((e1.trans e2).trans e3)⟩, h.ro, e3 _ _ h2, q⟩
def sp_smallest_set (CI : Addr) : Sp := fun vs H Q _ => ∃ (i : Addr) (reg : Registry), vs = [.ref i] ∧ IAp CI H i reg ∧ RetL (resV (Km544.step (some reg) .smallestSufficientSet).2) H Q
theorem ok_smallest_set (F : Fun K "smallest_sufficient_set" "smallest_sufficient_set" s_smallest_sufficient_set f fd) (T : Txt K mg CI CD aS) (C_smallest_sufficient : Cal P w K mg base 3 "smallest_sufficient" p_smallest_sufficient sp_smallest_sufficient) : FnOk P w K mg base CX0 4 f fd p_smallest_sufficient_set (sp_smallest_set CI) := by
  refine F.ok sc_smallest_sufficient_set (fun vs H Q E h => ?_) (fun cdv A outer s H vs Q E hr h => ?_)
  · obtain ⟨i, reg, rfl, _⟩ := h
    rfl
  · obtain ⟨i, reg, rfl, ⟨dx, r, as, h⟩, k⟩ := h
    have es : resV (Km544.step (some reg) .smallestSufficientSet).2 = nsV [(smallest reg.reports reg.attributeCount).1, (smallest reg.reports reg.attributeCount).2] := by
      rw [smallest_is h.wf h.ro.m5]
      rfl
    rw [es] at k
    refine ⟨_, (pss_one (ps_ret (pe_cal C_smallest_sufficient (hr.mono (by decide)) (by rfl) (pa_cons (pe_fld (pv 0) rfl) (pa_cons (pe_fld (pv 0) rfl) pa_nil))))), ?_⟩
    exact s_retL (el_call (ea_cons (ev_reports T h (ev_var rfl)) (ea_cons (ev_many T h (ev_var rfl)) ea_nil)) fun H1 e1 Q q E => ⟨r, _, _, rfl, ⟨as, h.ll.mono e1⟩, h.ro, q⟩) k
def sp_essential_attributes (CI : Addr) : Sp := fun vs H Q _ => ∃ (i : Addr) (reg : Registry), vs = [.ref i] ∧ IAp CI H i reg ∧ RetL (resV (Km544.step (some reg) .essentialAttributes).2) H Q
theorem ok_essential_attributes (F : Fun K "essential_attributes" "essential_attributes" s_essential_attributes f fd) (T : Txt K mg CI CD aS) (C_essential : Cal P w K mg base 3 "essential" p_essential sp_essential) : FnOk P w K mg base CX0 4 f fd p_essential_attributes (sp_essential_attributes CI) := by
  refine F.ok sc_essential_attributes (fun vs H Q E h => ?_) (fun cdv A outer s H vs Q E hr h => ?_)
  · obtain ⟨i, reg, rfl, _⟩ := h
    rfl
  · obtain ⟨i, reg, rfl, ⟨dx, r, as, h⟩, k⟩ := h
    have es : resV (Km544.step (some reg) .essentialAttributes).2 = nV (essential reg.reports reg.attributeCount).length :: nsV (essential reg.reports reg.attributeCount) := by
      rw [← resV_list, ← essential_is h.wf h.ro.m5]
      rfl
    rw [es] at k
    have h5 := h.ro.m5
    have cl : (essential reg.reports reg.attributeCount).length ≤ reg.attributeCount := essTo_len _ _ _
    refine ⟨_, (pss_cons (ps_set (i := 1) sc_essential_attributes.nd rfl (Or.inl rfl) (pe_cal C_essential (hr.mono (by decide)) (by rfl) (pa_cons (pe_fld (pv 0) rfl) (pa_cons (pe_fld (pv 0) rfl) pa_nil)))) (pss_one (ps_ret (pe_op op_cat (pe_lst (pa_cons (pe_callB call_len_seq (by rfl) T.len PySem.boot_len (pa_cons (pv 1) pa_nil)) pa_nil)) (pv 1))))), ?_⟩
    refine q_asgL (xs := nsV (essential reg.reports reg.attributeCount)) (el_call (ea_cons (ev_reports T h (ev_var rfl)) (ea_cons (ev_many T h (ev_var rfl)) ea_nil)) fun H1 e1 Q q E => ⟨r, _, _, rfl, ⟨as, h.ll.mono e1⟩, h.ro, q⟩) fun c H1 hc e1 h1 => ?_
    exact s_retL (el_catR (el_one (ev_lenN' (ev_var rfl) h1)) (er_of (ev_var rfl) h1) (by rw [nsV_len]; show 1 + _ ≤ _; omega)) fun p H2 hp e2 h2 => k.go e1 hp e2 h2
/-! ### pairs -/
def flatP (ps : List (Nat × Nat)) : List Nat := ps.flatMap fun p => [p.1, p.2]
theorem flatP_len : ∀ ps : List (Nat × Nat), (flatP ps).length = 2 * ps.length
  | [] => rfl
  | p :: ps => by
    have ih := flatP_len ps
    unfold flatP at ih ⊢
    rw [List.flatMap_cons, List.length_append, ih]
    show 2 + 2 * ps.length = 2 * (ps.length + 1)
    omega
theorem undecided_len (rows : List (List Nat)) (h7 : rows.length ≤ 7) : (undecided rows).length ≤ 49 := by
  have z1 := undecidedTo_len rows rows.length
  have z2 : rows.length * rows.length ≤ 7 * 7 := Nat.mul_le_mul h7 h7
  unfold undecided
  omega
theorem resV_pairs (ps : List (Nat × Nat)) : resV (Km544.pairsResult ps) = nsV (ps.length :: flatP ps) := by
  show nV ps.length :: (ps.flatMap fun p => [(p.1 : Int), (p.2 : Int)]).map V.int = nV ps.length :: nsV (flatP ps)
  congr 1
  unfold flatP nsV
  rw [List.map_flatMap, List.map_flatMap]
  rfl
def sp_undecided_pairs (CI : Addr) : Sp := fun vs H Q _ => ∃ (i : Addr) (reg : Registry), vs = [.ref i] ∧ IAp CI H i reg ∧ RetL (nsV ((undecided reg.reports).length :: flatP (undecided reg.reports))) H Q
theorem ok_undecided_pairs (F : Fun K "undecided_pairs" "undecided_pairs" s_undecided_pairs f fd) (T : Txt K mg CI CD aS) (C_undecided : Cal P w K mg base 3 "undecided" p_undecided sp_undecided) : FnOk P w K mg base CX0 4 f fd p_undecided_pairs (sp_undecided_pairs CI) := by
  refine F.ok sc_undecided_pairs (fun vs H Q E h => ?_) (fun cdv A outer s H vs Q E hr h => ?_)
  · obtain ⟨i, reg, rfl, _⟩ := h
    rfl
  · obtain ⟨i, reg, rfl, ⟨dx, r, as, h⟩, k⟩ := h
    have hlen := undecided_len reg.reports h.ro.few
    refine ⟨_, (pss_cons (ps_set (i := 1) sc_undecided_pairs.nd rfl (Or.inl rfl) (pe_cal C_undecided (hr.mono (by decide)) (by rfl) (pa_cons (pe_fld (pv 0) rfl) pa_nil))) (pss_cons (ps_set (i := 2) sc_undecided_pairs.nd rfl (Or.inl rfl) (pe_lst (pa_cons (pe_callB call_len_seq (by rfl) T.len PySem.boot_len (pa_cons (pv 1) pa_nil)) pa_nil))) (pss_cons (ps_for PassesOwn.never rfl (pi_list (pv 1)) (pg_tup rfl (pgs_cons (pg_name (i := 3) sc_undecided_pairs.nd rfl (Or.inl rfl)) (pgs_cons (pg_name (i := 4) sc_undecided_pairs.nd rfl (Or.inl rfl)) pgs_nil))) (pss_one (ps_expr (pe_bm PySem.F.plainAttrs_list PySem.F.slot_list_extend PySem.F.type_list_extend mt_extend (pv 2) (pa_cons (pe_lst (pa_cons (pv 3) (pa_cons (pv 4) pa_nil))) pa_nil))))) (pss_one (ps_ret (pv 2)))))), ?_⟩
    refine q_asgPL (ps := undecided reg.reports) (epl_call (ea_cons (ev_reports T h (ev_var rfl)) ea_nil) fun H1 e1 Q E q => ⟨r, _, _, rfl, ⟨as, h.ll.mono e1⟩, h.ro, q⟩) fun rp H1 e1 hR => ?_
    obtain ⟨qs, hP⟩ := hR
    revert k hlen hP
    generalize undecided reg.reports = ps
    intro k hlen hP
    refine q_asgL (xs := nsV [ps.length]) (el_one (ev_is (ev_lenR (ev_var rfl) hP.1) (by rw [hP.2.1]))) fun l H2 hl e2 h2 => ?_
    refine q_forL (xs := refs qs) (K := K) (a := rp) (ev_var rfl) (sq_of (e2 _ _ hP.1)) (fun j σ' H' => ∃ v3 v4, σ' = [some (.ref i), some (.ref rp), some (.ref l), v3, v4] ∧ Ex H1 H' ∧ H' l = some (.lst (nsV (ps.length :: flatP (ps.take j)))))
      (fun H3 e3 => ⟨none, none, rfl, e2.trans e3, e3 _ _ h2⟩) (fun j σ' H' _ ⟨_, _, _, e, _⟩ => sq_of (e _ _ hP.1)) ?_ ?_
    · rintro j x σ' H3 hx ⟨v3, v4, rfl, e3, h3⟩
      have hj : j < ps.length := by
        have := (List.getElem?_eq_some_iff.mp hx).1
        rw [refs_len, hP.2.1] at this
        exact this
      obtain ⟨t, ht, ht2⟩ := hP.2.2 j ps[j] (List.getElem?_eq_getElem hj)
      have ex : x = .ref t := by
        rw [refs_at ht] at hx
        exact (Option.some.inj hx).symm
      subst ex
      refine ⟨t, [nV ps[j].1, nV ps[j].2], rfl, st_of (e3 _ _ ht2), rfl, nV ps[j].1, [nV ps[j].2], rfl, nV ps[j].2, [], rfl, rfl, ?_⟩
      refine s_extL (K := K) h3 (ev_var rfl) (el_two (ev_var rfl) (ev_var rfl)) ?_ fun H4 e4 => ?_
      · rw [nsV_len, List.length_cons, flatP_len, List.length_take]
        show _ + 2 ≤ _
        omega
      · refine ⟨_, _, rfl, Ex.mut (e3.trans e4) hl, ?_⟩
        rw [upd_same, List.take_add_one, List.getElem?_eq_getElem hj]
        have e5 : flatP (ps.take j ++ (some ps[j]).toList) = flatP (ps.take j) ++ [ps[j].1, ps[j].2] := by
          unfold flatP
          rw [List.flatMap_append]
          rfl
        rw [e5]
        unfold nsV
        rw [List.map_cons, List.map_cons, List.map_append]
        rfl
    · rintro σ' H3 ⟨v3, v4, rfl, e3, h3⟩
      rw [refs_len, hP.2.1, List.take_length] at h3
      exact s_ret (ev_var rfl) fun H4 e4 => k.go e1 hl (e3.trans e4) (e4 _ _ h3)
/-! ### possible_duplicates -/
def dupTo (rows : List (List Nat)) (x n : Nat) : List Nat := (List.range n).filter fun other => !decide (other = x) && !unlike (row rows x) (row rows other)
theorem dupTo_len (rows : List (List Nat)) (x n : Nat) : (dupTo rows x n).length ≤ n := by
  unfold dupTo
  have h := List.length_filter_le (fun other => !decide (other = x) && !unlike (row rows x) (row rows other)) (List.range n)
  rw [List.length_range] at h
  exact h
def sp_possible_duplicates (CI : Addr) : Sp := fun vs H Q _ => ∃ (i : Addr) (reg : Registry) (x : Nat), vs = [.ref i, nV x] ∧ IAp CI H i reg ∧ RetL (resV (Km544.step (some reg) (.possibleDuplicates x)).2) H Q
theorem ok_possible_duplicates (F : Fun K "possible_duplicates" "possible_duplicates" s_possible_duplicates f fd) (T : Txt K mg CI CD aS) (C_Instance_has : Met P w K mg base 1 CI "has" p_Instance_has (sp_has CI)) (C_are_unlike : Cal P w K mg base 2 "are_unlike" p_are_unlike sp_are_unlike) :
    FnOk P w K mg base CX0 3 f fd p_possible_duplicates (sp_possible_duplicates CI) := by
  refine F.ok sc_possible_duplicates (fun vs H Q E h => ?_) (fun cdv A outer s H vs Q E hr h => ?_)
  · obtain ⟨i, reg, x, rfl, _⟩ := h
    rfl
  · obtain ⟨i, reg, x, rfl, ⟨dx, r, as, h⟩, k⟩ := h
    have es : (Km544.step (some reg) (.possibleDuplicates x)).2 = if reg.reports.length ≤ x then Km544.error (-2) else Km544.listResult ((List.range (Km544.reportCount reg)).filter fun j => j != x && !(Km544.areDifferent reg x j)) := rfl
    rw [es] at k
    have h7 := h.ro.few
    refine ⟨_, (pss_cons (ps_if (pt_not (pt_val (pe_met C_Instance_has T.clInstance (hr.mono (by decide)) (pv 0) (pa_cons (pv 1) pa_nil)))) (pss_one (ps_ret (pe_lst (pa_cons (pe_un un_neg pe_int) pa_nil)))) pss_nil) (pss_cons (ps_set (i := 2) sc_possible_duplicates.nd rfl (Or.inl rfl) (pe_lst pa_nil)) (pss_cons (ps_for PassesOwn.never rfl (pi_range1 (by rfl) T.range (pa_cons (pe_callB call_len_seq (by rfl) T.len PySem.boot_len (pa_cons (pe_fld (pv 0) rfl) pa_nil)) pa_nil)) (pg_name (i := 3) sc_possible_duplicates.nd rfl (Or.inl rfl)) (pss_one (ps_if (PW.pt (pw_and (pt_cmpR op_ne (pv 3) (pv 1) (nomark _)) (pw_and1 (pt_not (pt_val (pe_cal C_are_unlike (hr.mono (by decide)) (by rfl) (pa_cons (pe_ix ix_list (pe_fld (pv 0) rfl) (pv 1) (fun _ _ => rfl)) (pa_cons (pe_ix ix_list (pe_fld (pv 0) rfl) (pv 3) (fun _ _ => rfl)) pa_nil)))))))) (pss_one (ps_expr (pe_bm PySem.F.plainAttrs_list PySem.F.slot_list_append PySem.F.type_list_append mt_append (pv 2) (pa_cons (pv 3) pa_nil)))) pss_nil))) (pss_one (ps_ret (pe_op op_cat (pe_lst (pa_cons (pe_callB call_len_seq (by rfl) T.len PySem.boot_len (pa_cons (pv 2) pa_nil)) pa_nil)) (pv 2))))))), ?_⟩
    refine q_when (et_not (et_B (ev_has ⟨dx, r, as, h⟩ (ev_var rfl) (ev_var rfl)))) (fun hb H1 e1 => ?_) (fun hb H1 e1 => ?_)
    · rw [if_pos (has_no hb)] at k
      exact s_retL el_err fun p H2 hp e2 h2 => k.go e1 hp e2 h2
    · have c1 := has_yes hb
      rw [if_neg (Nat.not_le_of_lt c1), duplicates_is h.wf c1, resV_list] at k
      obtain ⟨q, hq, hqr⟩ := h.ll.2.2 x c1
      refine q_asgL (xs := nsV (dupTo reg.reports x 0)) (el_lst ea_nil (Nat.zero_le _)) fun p H2 hp e2 h2 => ?_
      refine q_forR1 (n := ((reg.reports.length : Nat) : Int)) (ea_cons (ev_count T (h.mono (e1.trans e2)) (ev_var rfl)) ea_nil) (by omega) (fun j σ' H' => ∃ v3, σ' = [some (.ref i), some (nV x), some (.ref p), v3] ∧ Ex H1 H' ∧ H' p = some (.lst (nsV (dupTo reg.reports x j))))
        (fun H3 e3 => ⟨none, rfl, e2.trans e3, e3 _ _ h2⟩) ?_ ?_
      · rintro j σ' H3 hj ⟨v3, rfl, e3, h3⟩
        have hj' : j < reg.reports.length := by omega
        obtain ⟨q', hq', hqr'⟩ := h.ll.2.2 j hj'
        have hm := h.mono (e1.trans e3)
        refine s_when (b := !decide (j = x) && !unlike (row reg.reports x) (row reg.reports j)) (et_and (et_ne (ev_var rfl) (ev_var rfl)) fun _ => et_not (et_B (ev_call (ea_cons (ev_report T hm (ev_var rfl) (ev_var rfl) hq) (ea_cons (ev_report T hm (ev_var rfl) (ev_var rfl) hq') ea_nil)) ?_))) (fun hb H4 e4 => ?_) (fun hb H4 e4 => ?_)
        · exact fun H4 e4 Q q2 E => ⟨q, q', _, _, rfl, ((e1.trans e3).trans e4) _ _ hqr, ((e1.trans e3).trans e4) _ _ hqr', by rw [h.ro.row c1, h.ro.row hj']; exact Nat.le_refl _, by rw [h.ro.row c1]; exact h.ro.m5, q2⟩
        · refine s_app (v := nV j) (e4 _ _ h3) (ev_var rfl) (ev_var rfl) (by rw [nsV_len]; have := dupTo_len reg.reports x j; omega) fun H5 e5 => ?_
          refine ⟨_, rfl, Ex.mut ((e3.trans e4).trans e5) hp, ?_⟩
          have e : dupTo reg.reports x (j + 1) = dupTo reg.reports x j ++ [j] := by
            unfold dupTo
            rw [List.range_succ, List.filter_append, List.filter_cons, if_pos hb]
            rfl
          rw [upd_same, e, nsV_snoc]
        · refine ⟨_, rfl, e3.trans e4, ?_⟩
          have e : dupTo reg.reports x (j + 1) = dupTo reg.reports x j := by
            unfold dupTo
            rw [List.range_succ, List.filter_append, List.filter_cons, if_neg (by rw [hb]; decide)]
            show _ ++ [] = _
            rw [List.append_nil]
          rw [e]
          exact e4 _ _ h3
      · rintro σ' H3 ⟨v3, rfl, e3, h3⟩
        rw [Int.toNat_natCast] at h3
        have cl := dupTo_len reg.reports x reg.reports.length
        exact s_retL (el_catR (el_one (ev_lenN' (ev_var rfl) h3)) (er_of (ev_var rfl) h3) (by rw [nsV_len]; show 1 + _ ≤ _; omega)) fun p H4 hp e4 h4 => k.go (e1.trans e3) hp e4 h4
/-! ### what would be -/
theorem with_RO {reg : Registry} {x y c : Nat} (ro : RO reg.attributeCount reg.reports) (hx : x < reg.reports.length) : RO reg.attributeCount (changed reg.reports x y c) := changed_RO ro hx
def sp_min_households_if (CI : Addr) : Sp := fun vs H Q _ => ∃ (i : Addr) (reg : Registry) (x y z : Nat), vs = [.ref i, nV x, nV y, nV z] ∧ IAp CI H i reg ∧ RetL (resV (Km544.step (some reg) (.minHouseholdsIf x y z)).2) H Q
theorem ok_min_households_if (F : Fun K "min_households_if" "min_households_if" s_min_households_if f fd) (T : Txt K mg CI CD aS) (C_Instance_has_part : Met P w K mg base 2 CI "has_part" p_Instance_has_part (sp_has_part CI)) (C_changed : Cal P w K mg base 1 "changed" p_changed sp_changed)
    (C_min_households : Cal P w K mg base 6 "min_households" p_min_households sp_min_households) (C_undecided : Cal P w K mg base 3 "undecided" p_undecided sp_undecided) : FnOk P w K mg base CX0 7 f fd p_min_households_if (sp_min_households_if CI) := by
  refine F.ok sc_min_households_if (fun vs H Q E h => ?_) (fun cdv A outer s H vs Q E hr h => ?_)
  · obtain ⟨i, reg, x, y, z, rfl, _⟩ := h
    rfl
  · obtain ⟨i, reg, x, y, z, rfl, ⟨dx, r, as, h⟩, k⟩ := h
    have es : (Km544.step (some reg) (.minHouseholdsIf x y z)).2 = if reg.reports.length ≤ x ∨ reg.attributeCount ≤ y then Km544.error (-2) else if 4 ≤ z then Km544.error (-22) else ⟨(Km544.minHouseholds (Km544.withCode reg x y (z + 1)) : Int), [((Km544.undecidedPairs (Km544.withCode reg x y (z + 1))).length : Int)]⟩ := rfl
    rw [es] at k
    refine ⟨_, (pss_cons (ps_if (pt_not (pt_val (pe_met C_Instance_has_part T.clInstance (hr.mono (by decide)) (pv 0) (pa_cons (pv 1) (pa_cons (pv 2) pa_nil))))) (pss_one (ps_ret (pe_lst (pa_cons (pe_un un_neg pe_int) pa_nil)))) pss_nil) (pss_cons (ps_if (pt_cmpR op_gt (pv 3) pe_int (nomark _)) (pss_one (ps_ret (pe_lst (pa_cons (pe_un un_neg pe_int) pa_nil)))) pss_nil) (pss_cons (ps_set (i := 4) sc_min_households_if.nd rfl (Or.inl rfl) (pe_cal C_changed (hr.mono (by decide)) (by rfl) (pa_cons (pe_fld (pv 0) rfl) (pa_cons (pv 1) (pa_cons (pv 2) (pa_cons (pe_op op_add (pv 3) pe_int) pa_nil)))))) (pss_one (ps_ret (pe_lst (pa_cons (pe_cal C_min_households (hr.mono (by decide)) (by rfl) (pa_cons (pv 4) pa_nil)) (pa_cons (pe_callB call_len_seq (by rfl) T.len PySem.boot_len (pa_cons (pe_cal C_undecided (hr.mono (by decide)) (by rfl) (pa_cons (pv 4) pa_nil)) pa_nil)) pa_nil)))))))), ?_⟩
    refine q_when (et_not (et_B (ev_hasPart ⟨dx, r, as, h⟩ (ev_var rfl) (ev_var rfl) (ev_var rfl)))) (fun hb H1 e1 => ?_) (fun hb H1 e1 => ?_)
    · rw [if_pos (part_no hb)] at k
      exact s_retL el_err fun p H2 hp e2 h2 => k.go e1 hp e2 h2
    · obtain ⟨c1, c2⟩ := part_yes hb
      rw [if_neg (show ¬ (reg.reports.length ≤ x ∨ reg.attributeCount ≤ y) by omega)] at k
      refine q_when (et_gt (b := 3) (ev_var rfl) ev_c) (fun hb2 H2 e2 => ?_) (fun hb2 H2 e2 => ?_)
      · have c3 := of_decide_eq_true hb2
        rw [if_pos (show 4 ≤ z by omega)] at k
        exact s_retL el_err fun p H3 hp e3 h3 => k.go (e1.trans e2) hp e3 h3
      · have c3 := of_decide_eq_false hb2
        have wf2 := wf_with (a := y) (c := z + 1) h.wf c1
        rw [if_neg (show ¬ 4 ≤ z by omega), minH_is wf2, undecided_is wf2, changed_is] at k
        have ro2 := with_RO (y := y) (c := z + 1) h.ro c1
        have hm := h.mono (e1.trans e2)
        refine q_asgLL (rows := changed reg.reports x y (z + 1)) (ell_call (ea_cons (ev_reports T hm (ev_var rfl)) (ea_cons (ev_var rfl) (ea_cons (ev_var rfl) (ea_cons (ev_add (b := 1) (ev_var rfl) ev_c) ea_nil)))) fun H3 e3 Q E q => ⟨r, _, _, x, y, z + 1, rfl, ⟨as, hm.ll.mono e3⟩, h.ro, c1, c2, q⟩) fun rp H3 e3 hR => ?_
        refine s_retL (el_two (ev_call (ea_cons (ev_var rfl) ea_nil) fun H4 e4 Q q E => ⟨rp, _, _, rfl, hR.mono e4, ro2, q⟩) (ev_lenPL (epl_call (ea_cons (ev_var rfl) ea_nil) fun H4 e4 Q E q => ⟨rp, _, _, rfl, hR.mono e4, ro2, q⟩))) fun p H4 hp e4 h4 => k.go ((e1.trans e2).trans e3) hp e4 h4
def worstTo (rows : List (List Nat)) (x y n : Nat) : Nat := (List.range n).foldl (fun m v => max m (undecided (changed rows x y (v + 1))).length) 0
def sp_worst (CI : Addr) : Sp := fun vs H Q _ => ∃ (i : Addr) (reg : Registry) (x y : Nat), vs = [.ref i, nV x, nV y] ∧ IAp CI H i reg ∧ RetL (resV (Km544.step (some reg) (.worstUndecidedIfAsked x y)).2) H Q
theorem ok_worst (F : Fun K "worst_undecided_if_asked" "worst_undecided_if_asked" s_worst_undecided_if_asked f fd) (T : Txt K mg CI CD aS) (C_Instance_has_part : Met P w K mg base 2 CI "has_part" p_Instance_has_part (sp_has_part CI)) (C_changed : Cal P w K mg base 1 "changed" p_changed sp_changed)
    (C_undecided : Cal P w K mg base 3 "undecided" p_undecided sp_undecided) : FnOk P w K mg base CX0 4 f fd p_worst_undecided_if_asked (sp_worst CI) := by
  refine F.ok sc_worst_undecided_if_asked (fun vs H Q E h => ?_) (fun cdv A outer s H vs Q E hr h => ?_)
  · obtain ⟨i, reg, x, y, rfl, _⟩ := h
    rfl
  · obtain ⟨i, reg, x, y, rfl, ⟨dx, r, as, h⟩, k⟩ := h
    have es : (Km544.step (some reg) (.worstUndecidedIfAsked x y)).2 = if reg.reports.length ≤ x ∨ reg.attributeCount ≤ y then Km544.error (-2) else if (row reg.reports x).getD y 0 != 0 then Km544.error (-17) else Km544.number (Km544.worstUndecidedIfAsked reg x y : Nat) := rfl
    rw [es] at k
    refine ⟨_, (pss_cons (ps_if (pt_not (pt_val (pe_met C_Instance_has_part T.clInstance (hr.mono (by decide)) (pv 0) (pa_cons (pv 1) (pa_cons (pv 2) pa_nil))))) (pss_one (ps_ret (pe_lst (pa_cons (pe_un un_neg pe_int) pa_nil)))) pss_nil) (pss_cons (ps_if (pt_cmpR op_gt (pe_ix ix_list (pe_ix ix_list (pe_fld (pv 0) rfl) (pv 1) (fun _ _ => rfl)) (pv 2) (fun _ _ => rfl)) pe_int (nomark _)) (pss_one (ps_ret (pe_lst (pa_cons (pe_un un_neg pe_int) pa_nil)))) pss_nil) (pss_cons (ps_set (i := 3) sc_worst_undecided_if_asked.nd rfl (Or.inl rfl) pe_int) (pss_cons (ps_for PassesOwn.never rfl (pi_range2 (by rfl) T.range (pa_cons pe_int (pa_cons pe_int pa_nil))) (pg_name (i := 4) sc_worst_undecided_if_asked.nd rfl (Or.inl rfl)) (pss_one (ps_set (i := 3) sc_worst_undecided_if_asked.nd rfl (Or.inl rfl) (pe_callB (call_max2 rfl) (by rfl) T.max (by decide +kernel) (pa_cons (pv 3) (pa_cons (pe_callB call_len_seq (by rfl) T.len PySem.boot_len (pa_cons (pe_cal C_undecided (hr.mono (by decide)) (by rfl) (pa_cons (pe_cal C_changed (hr.mono (by decide)) (by rfl) (pa_cons (pe_fld (pv 0) rfl) (pa_cons (pv 1) (pa_cons (pv 2) (pa_cons (pv 4) pa_nil))))) pa_nil)) pa_nil)) pa_nil)))))) (pss_one (ps_ret (pe_lst (pa_cons (pv 3) pa_nil)))))))), ?_⟩
    refine q_when (et_not (et_B (ev_hasPart ⟨dx, r, as, h⟩ (ev_var rfl) (ev_var rfl) (ev_var rfl)))) (fun hb H1 e1 => ?_) (fun hb H1 e1 => ?_)
    · rw [if_pos (part_no hb)] at k
      exact s_retL el_err fun p H2 hp e2 h2 => k.go e1 hp e2 h2
    · obtain ⟨c1, c2⟩ := part_yes hb
      rw [if_neg (show ¬ (reg.reports.length ≤ x ∨ reg.attributeCount ≤ y) by omega)] at k
      obtain ⟨q, hq, hqr⟩ := h.ll.2.2 x c1
      refine q_when (et_gt (b := 0) (ev_at (ev_report T (h.mono e1) (ev_var rfl) (ev_var rfl) hq) (ev_var rfl) (e1 _ _ hqr) (by rw [h.ro.row c1]; exact c2)) ev_c) (fun hb2 H2 e2 => ?_) (fun hb2 H2 e2 => ?_)
      · have c3 : 0 < (row reg.reports x).getD y 0 := of_decide_eq_true hb2
        rw [if_pos (bne_iff_ne.mpr (by omega))] at k
        exact s_retL el_err fun p H3 hp e3 h3 => k.go (e1.trans e2) hp e3 h3
      · have c3 : ¬ 0 < (row reg.reports x).getD y 0 := of_decide_eq_false hb2
        rw [if_neg (by rw [bne_iff_ne]; omega), worst_is h.wf c1] at k
        have hm := h.mono (e1.trans e2)
        refine q_asg (v := nV 0) ev_c fun H3 e3 => ?_
        refine q_forR2 (lo := 1) (n := 5) (ea_cons ev_c (ea_cons ev_c ea_nil)) (by omega) (fun j σ' H' => ∃ v4, σ' = [some (.ref i), some (nV x), some (nV y), some (nV (worstTo reg.reports x y j)), v4] ∧ Ex H H')
          (fun H4 e4 => ⟨none, rfl, ((e1.trans e2).trans e3).trans e4⟩) ?_ ?_
        · rintro j σ' H4 hj ⟨v4, rfl, e4⟩
          have ej : V.int (1 + (j : Int)) = nV (j + 1) := congrArg V.int (by omega)
          rw [ej]
          have ro2 := with_RO (y := y) (c := j + 1) h.ro c1
          refine s_asg (v := nV (worstTo reg.reports x y (j + 1))) ?_ fun H5 e5 => ⟨_, rfl, e4.trans e5⟩
          have ew : worstTo reg.reports x y (j + 1) = max (worstTo reg.reports x y j) (undecided (changed reg.reports x y (j + 1))).length := by
            unfold worstTo
            rw [List.range_succ, List.foldl_append]
            rfl
          rw [ew]
          exact ev_max2N (ev_var rfl) (ev_lenPL (epl_callLL (ell_call (ea_cons (ev_reports T (h.mono e4) (ev_var rfl)) (ea_cons (ev_var rfl) (ea_cons (ev_var rfl) (ea_cons (ev_var rfl) ea_nil)))) fun H5 e5 Q E q => ⟨r, _, _, x, y, j + 1, rfl, ⟨as, h.ll.mono (e4.trans e5)⟩, h.ro, c1, c2, q⟩)
            fun p H5 e5 h5 Q E q => ⟨p, _, _, rfl, h5, ro2, q⟩))
        · rintro σ' H4 ⟨v4, rfl, e4⟩
          exact s_retL (el_one (ev_var rfl)) fun p H5 hp e5 h5 => k.go e4 hp e5 h5
/-! ### summary -/
def knownTo (rows : List (List Nat)) (n : Nat) : Nat := (rows.take n).foldl (fun t r => t + (r.filter fun c => decide (0 < c)).length) 0
def sp_summary (CI : Addr) : Sp := fun vs H Q _ => ∃ (i : Addr) (reg : Registry), vs = [.ref i] ∧ IAp CI H i reg ∧ RetL (resV (Km544.step (some reg) .summary).2) H Q
theorem ok_summary (F : Fun K "summary" "summary" s_summary f fd) (T : Txt K mg CI CD aS) : FnOk P w K mg base CX0 1 f fd p_summary (sp_summary CI) := by
  refine F.ok sc_summary (fun vs H Q E h => ?_) (fun cdv A outer s H vs Q E hr h => ?_)
  · obtain ⟨i, reg, rfl, _⟩ := h
    rfl
  · obtain ⟨i, reg, rfl, ⟨dx, r, as, h⟩, k⟩ := h
    have es : resV (Km544.step (some reg) .summary).2 = [nV reg.reports.length, nV reg.attributeCount, nV (known reg.reports)] := by
      rw [← known_is]
      rfl
    rw [es] at k
    have h5 := h.ro.m5
    refine ⟨_, (pss_cons (ps_set (i := 1) sc_summary.nd rfl (Or.inl rfl) pe_int) (pss_cons (ps_for PassesOwn.never rfl (pi_list (pe_fld (pv 0) rfl)) (pg_name (i := 2) sc_summary.nd rfl (Or.inl rfl)) (pss_one (ps_aug (i := 1) sc_summary.nd rfl (Or.inl rfl) (pe_callB call_len_seq (by rfl) T.len PySem.boot_len (pa_cons (pe_lc (own := [("code", 3)]) (g := gName 3) (tt := (tTest (tOp rGt (tVar 3) (tC (.int 0))))) (te := (tVar 3)) rfl sc_summary.nd (pi_list (pv 2)) (blkOk_by (N := n_summary) (sc := defScope s_summary) (by decide +kernel)) (fun _ _ _ _ _ => pg_name (i := 3) sc_summary.nd rfl (Or.inl rfl)) (fun _ _ _ _ _ => pts_one (pt_cmpR op_gt (pv 3) pe_int (nomark _))) (fun _ _ _ _ _ => (pv 3))) pa_nil)) ip_add))) (pss_one (ps_ret (pe_lst (pa_cons (pe_callB call_len_seq (by rfl) T.len PySem.boot_len (pa_cons (pe_fld (pv 0) rfl) pa_nil)) (pa_cons (pe_fld (pv 0) rfl) (pa_cons (pv 1) pa_nil)))))))), ?_⟩
    refine q_asg (v := nV 0) ev_c fun H1 e1 => ?_
    refine q_forLn (xs := refs as) (K := K) (a := r) (ev_reports T (h.mono e1) (ev_var rfl)) (sq_of (e1 _ _ h.ll.1)) (fun j σ' H' => ∃ v2 v3, σ' = [some (.ref i), some (nV (knownTo reg.reports j)), v2, v3] ∧ Ex H H')
      (fun H2 e2 => ⟨none, none, rfl, e1.trans e2⟩) (fun j σ' H' _ ⟨_, _, _, e⟩ => sq_of (e _ _ h.ll.1)) ?_ ?_
    · rintro j x σ' H2 hx ⟨v2, v3, rfl, e2⟩
      obtain ⟨hj, q, rfl, hq, hqr⟩ := h.ll.of_at hx
      have hrow := h.ro.row hj
      refine s_aug (f := fun i j => i + j) (a := ((knownTo reg.reports j : Nat) : Int)) (b := ((((row reg.reports j).filter fun c => decide (0 < c)).length : Nat) : Int)) rfl (ev_lenNN (el_is (el_lcL (xs := nsV (row reg.reports j)) (a := q) (fun i => decide (0 < (row reg.reports j).getD i 0)) (fun i => nV ((row reg.reports j).getD i 0)) (ev_var rfl) (sq_of (e2 _ _ hqr)) (by rw [nsV_len]; omega) (fun x => rfl) (fun l x H3 e3 hx => ?_) (fun l x H3 e3 hx _ => ?_)) ?_)) fun H3 e3 => ?_
      · obtain ⟨hl, rfl⟩ := nsV_get hx
        exact et_gt (b := 0) (ev_var rfl) ev_c
      · obtain ⟨hl, rfl⟩ := nsV_get hx
        exact ev_var rfl
      · rw [nsV_len]
        exact given_filter (row reg.reports j) fun c => decide (0 < c)
      · have ek : knownTo reg.reports (j + 1) = knownTo reg.reports j + ((row reg.reports j).filter fun c => decide (0 < c)).length := by
          unfold knownTo
          rw [take_succ_row hj, List.foldl_append]
          rfl
        refine ⟨some (.ref q), v3, ?_, e2.trans e3⟩
        rw [ek]
        show _ = [some (V.ref i), some (V.int ((_ + _ : Nat) : Int)), _, _]
        rw [Int.natCast_add]
        rfl
    · rintro σ' H2 ⟨v2, v3, rfl, e2⟩
      have ek : knownTo reg.reports (refs as).length = known reg.reports := by
        unfold knownTo known
        rw [refs_len, h.ll.2.1, List.take_length]
      rw [ek]
      exact s_retL (el_lst (ea_cons (ev_count T (h.mono e2) (ev_var rfl)) (ea_cons (ev_many T (h.mono e2) (ev_var rfl)) (ea_cons (ev_var rfl) ea_nil))) (by show 3 ≤ 100000; decide)) fun p H3 hp e3 h3 => k.go e2 hp e3 h3
end
end Hr
/-! Hi: instances.py: what changes an instance. -/
namespace Hr
open PySem PySem.Spec PyProof.Rows L2 Evl
open Km544 (Registry)
/-! ### rows taken out, put in -/
theorem row_erase (rows : List (List Nat)) (x j : Nat) : row (rows.eraseIdx x) j = if j < x then row rows j else row rows (j + 1) := by
  unfold row
  rw [List.getD_eq_getElem?_getD, List.getElem?_eraseIdx]
  by_cases c : j < x
  · rw [if_pos c, if_pos c, List.getD_eq_getElem?_getD]
  · rw [if_neg c, if_neg c, List.getD_eq_getElem?_getD]
theorem refs_erase (as : List Addr) (x : Nat) : refs (as.eraseIdx x) = (refs as).eraseIdx x := by
  unfold refs
  apply List.ext_getElem?
  intro j
  rw [List.getElem?_map, List.getElem?_eraseIdx, List.getElem?_eraseIdx]
  by_cases c : j < x
  · rw [if_pos c, if_pos c, List.getElem?_map]
  · rw [if_neg c, if_neg c, List.getElem?_map]
theorem LLa.erase {H : Hp} {a : Addr} {as : List Addr} {rows : List (List Nat)} {x : Nat} (h : LLa H a as rows) (hna : a ∉ as) (hx : x < rows.length) : LLa (upd H a (.lst ((refs as).eraseIdx x))) a (as.eraseIdx x) (rows.eraseIdx x) := by
  have hl := h.2.1
  refine ⟨by rw [upd_same, refs_erase], by rw [List.length_eraseIdx, List.length_eraseIdx, hl], fun j hj => ?_⟩
  rw [List.length_eraseIdx, if_pos hx] at hj
  rw [List.getElem?_eraseIdx, row_erase]
  have ne : ∀ {q : Addr} {j : Nat}, as[j]? = some q → q ≠ a := fun hq e => hna (by rw [← e]; exact List.mem_of_getElem? hq)
  by_cases c : j < x
  · obtain ⟨q, h1, h2⟩ := h.2.2 j (by omega)
    exact ⟨q, by rw [if_pos c]; exact h1, by rw [if_pos c, upd_ne (ne h1)]; exact h2⟩
  · obtain ⟨q, h1, h2⟩ := h.2.2 (j + 1) (by omega)
    exact ⟨q, by rw [if_neg c]; exact h1, by rw [if_neg c, upd_ne (ne h1)]; exact h2⟩
/-- another row at a place: its list is a new one -/
theorem LLa.repl {H : Hp} {a c : Addr} {as : List Addr} {rows : List (List Nat)} {x : Nat} {r : List Nat} (h : LLa H a as rows) (hna : a ∉ as) (hx : x < rows.length) (hc : H c = some (.lst (nsV r))) (hca : c ≠ a) : LLa (upd H a (.lst ((refs as).set x (.ref c)))) a (as.set x c) (rows.set x r) := by
  have hl := h.2.1
  refine ⟨by rw [upd_same, refs_set], by rw [List.length_set, List.length_set, hl], fun j hj => ?_⟩
  rw [List.length_set] at hj
  have ne : ∀ {q : Addr} {j : Nat}, as[j]? = some q → q ≠ a := fun hq e => hna (by rw [← e]; exact List.mem_of_getElem? hq)
  by_cases d : x = j
  · subst d
    exact ⟨c, by rw [List.getElem?_set_self (by rw [hl]; exact hx)], by rw [upd_ne hca, row_set_same hx]; exact hc⟩
  · obtain ⟨q, h1, h2⟩ := h.2.2 j hj
    exact ⟨q, by rw [List.getElem?_set_ne d]; exact h1, by rw [upd_ne (ne h1), row_set_ne d]; exact h2⟩
/-- an instance that may be changed -/
structure IM (CI : Addr) (H : Hp) (i dx r : Addr) (as : List Addr) (reg : Registry) : Prop where
  ia : IA CI H i dx r as reg
  nd : (r :: as).Nodup
theorem IM.mono {CI : Addr} {H H' : Hp} {i dx r : Addr} {as : List Addr} {reg : Registry} (h : IM CI H i dx r as reg) (e : Ex H H') : IM CI H' i dx r as reg := ⟨h.ia.mono e, h.nd⟩
theorem IM.p {CI : Addr} {H : Hp} {i dx r : Addr} {as : List Addr} {reg : Registry} (h : IM CI H i dx r as reg) : IAp CI H i reg := ⟨dx, r, as, h.ia⟩
theorem IM.ni {CI : Addr} {H : Hp} {i dx r : Addr} {as : List Addr} {reg : Registry} (h : IM CI H i dx r as reg) {b : Addr} (hb : b ∈ r :: as) : i ≠ b := fun e => by
  obtain ⟨xs, q⟩ := h.ia.ll.tracked hb
  rw [← e, h.ia.obj] at q
  cases q
theorem IM.rna {CI : Addr} {H : Hp} {i dx r : Addr} {as : List Addr} {reg : Registry} (h : IM CI H i dx r as reg) : r ∉ as := (List.nodup_cons.mp h.nd).1
/-- what a change hands back: a new list of the answer's numbers, the instance as the specification has it; beside the lists of the instance all stands -/
def RetM (CI : Addr) (H : Hp) (i dx r : Addr) (as : List Addr) (out : Km544.State × Km544.Result) (Q : VK) : Prop := ∀ (p : Addr) (H' : Hp) (as' : List Addr) (reg' : Registry), out.1 = some reg' → H p = none → H' p = some (.lst (resV out.2)) →
  IM CI H' i dx r as' reg' → (∀ b o, H b = some o → b ∉ r :: as → H' b = some o) → (∀ b ∈ as', b ∈ as ∨ H b = none) → Q (.ref p) H'
theorem RetM.weak {CI : Addr} {H H1 : Hp} {i dx r : Addr} {as : List Addr} {out : Km544.State × Km544.Result} {Q : VK} (k : RetM CI H i dx r as out Q) (e : Ex H H1) : RetM CI H1 i dx r as out Q := fun p H' as' reg' h1 h2 h3 h4 h5 h6 =>
  k p H' as' reg' h1 (fresh_back e h2) h3 h4 (fun b o hb hn => h5 b o (e b o hb) hn) fun b hb => (h6 b hb).imp id (fresh_back e)
/-- nothing is changed -/
theorem RetM.same {CI : Addr} {H : Hp} {i dx r : Addr} {as : List Addr} {reg : Registry} {x : Km544.Result} {Q : VK} (h : IM CI H i dx r as reg) (k : RetM CI H i dx r as (some reg, x) Q) : RetL (resV x) H Q := fun p H' hp e hq =>
  k p H' as reg rfl hp hq (h.mono e) (fun b o hb _ => e b o hb) fun b hb => .inl hb
section
variable {K : PySem.W.Frag} {σ : L2.St} {H H' : Hp} {ta tb te to : TE} {t : TT} {a b : Nat} {D : Ends} {tz : TS}
theorem el_rep {v : V} {k : Nat} (hk : k ≤ 1000) (ha : EvL ta σ H [v]) (hb : Ev tb σ H (nV k)) : EvL (tOp rRep ta tb) σ H (List.replicate k v) := fun H1 e Q q =>
  ha H1 e _ fun p H2 hp e2 h2 => hb H2 (e.trans e2) _ fun H3 e3 => ⟨p, (k : Int), [v], rfl, rfl, e3 _ _ h2, by omega, by omega, by
    rw [Int.toNat_natCast]
    show 1 * k ≤ sizeLine
    exact sz_of (by omega), fun l hl => q l _ (fresh_back (e2.trans e3) hl) ((e2.trans e3).trans (Ex.new hl)) (by
      rw [upd_same, Int.toNat_natCast, flat_one])⟩
where
  flat_one {v : V} : ∀ {k : Nat}, some (HO.lst (List.replicate k [v]).flatten) = some (HO.lst (List.replicate k v)) := by
    intro k
    congr 2
    induction k with
    | zero => rfl
    | succ k ih =>
      rw [List.replicate_succ, List.flatten_cons, ih, List.replicate_succ]
      rfl
/-- xs[i] = a new list -/
theorem q_setN {l : Addr} {xs ys : List V} {j : Nat} (hl : H l = some (.lst xs)) (h : EvL te σ H ys) (ho : Ev ta σ H (.ref l)) (hi : Ev tb σ H (nV j)) (hj : j < xs.length) (k : ∀ c H1, H c = none → Ex H H1 → H1 c = some (.lst ys) → tz D σ (upd H1 l (.lst (xs.set j (.ref c))))) :
    tSeq (tAsg te (gSub ta tb rSetL)) tz D σ H := h H (Ex.refl H) _ fun c H1 hc e1 h1 => ho H1 e1 _ fun H2 e2 => hi H2 (e1.trans e2) _ fun H3 e3 =>
  ⟨l, xs, (j : Int), j, rfl, rfl, ((e1.trans e2).trans e3) l _ hl, ixN_nat hj, k c H3 hc ((e1.trans e2).trans e3) ((e2.trans e3) _ _ h1)⟩
theorem el_call1L {sp : Sp} {E : XK} {xs ys : List V} (hb : EvL tb σ H xs) (hs : ∀ p H1, Ex H H1 → H1 p = some (.lst xs) → SpL sp [.ref p] H1 ys) : EvL (tCall sp [] E (tCons tb tNil)) σ H ys := fun H1 e Q q =>
  hb H1 e _ fun p H2 hp e2 h2 => hs p H2 (e.trans e2) h2 H2 (Ex.refl H2) Q (fun r H3 hr e3 h3 => q r H3 (fresh_back e2 hr) (e2.trans e3) h3) E
theorem seqIndex_nat {x n : Nat} (h : x < n) : seqIndex? (x : Int) n = some x := by
  have e : (if (x : Int) < 0 then (x : Int) + (n : Int) else (x : Int)) = (x : Int) := if_neg (by omega)
  show (if decide (0 ≤ (if (x : Int) < 0 then (x : Int) + (n : Int) else (x : Int))) && decide ((if (x : Int) < 0 then (x : Int) + (n : Int) else (x : Int)) < (n : Int)) then some (if (x : Int) < 0 then (x : Int) + (n : Int) else (x : Int)).toNat else none) = some x
  rw [e, decide_eq_true (by omega), decide_eq_true (by omega), Int.toNat_natCast]
  rfl
/-- xs.pop(i), its value forgotten -/
theorem q_popAt {l : Addr} {xs : List V} {x : Nat} (hl : H l = some (.lst xs)) (ha : Ev ta σ H (.ref l)) (hb : Ev tb σ H (nV x)) (hx : x < xs.length) (h7 : x ≤ 1000) (k : ∀ H1, Ex H H1 → tz D σ (upd H1 l (.lst (xs.eraseIdx x)))) :
    tSeq (tDrop (tBM K "list" rPopAt ta (tCons tb tNil))) tz D σ H := ha H (Ex.refl H) _ fun H1 e1 =>
  ⟨Or.inl ⟨rfl, xs, sq_of (e1 l _ hl)⟩, hb H1 e1 _ fun H2 e2 => ⟨l, xs, (x : Int), x, xs[x], rfl, rfl, (e1.trans e2) l _ hl, by omega, by omega, seqIndex_nat hx, List.getElem?_eq_getElem hx, k H2 (e1.trans e2)⟩⟩
end
theorem nsV_rep (m : Nat) : List.replicate m (nV 0) = nsV (List.replicate m 0) := by
  unfold nsV
  rw [List.map_replicate]
section
variable {P : Program} {w : World} {K : PySem.W.Frag} {mg : Str → Option Value} {base : Heap} {CI CD aS f : Addr} {fd : FuncData}
def sp_add_report (CI : Addr) : Sp := fun vs H Q _ => ∃ (i dx r : Addr) (as : List Addr) (reg : Registry), vs = [.ref i] ∧ IM CI H i dx r as reg ∧ RetM CI H i dx r as (Km544.step (some reg) .addReport) Q
theorem ok_add_report (F : Fun K "add_report" "Instance.add_report" s_Instance_add_report f fd) (T : Txt K mg CI CD aS) : FnOk P w K mg base CX0 1 f fd p_Instance_add_report (sp_add_report CI) := by
  refine F.ok sc_Instance_add_report (fun vs H Q E h => ?_) (fun cdv A outer s H vs Q E hr h => ?_)
  · obtain ⟨i, dx, r, as, reg, rfl, _⟩ := h
    rfl
  · obtain ⟨i, dx, r, as, reg, rfl, h, k⟩ := h
    have es : Km544.step (some reg) .addReport = if 7 ≤ reg.reports.length then (some reg, Km544.error (-28)) else (some { reg with reports := reg.reports ++ [List.replicate reg.attributeCount 0] }, Km544.number (reg.reports.length : Nat)) := rfl
    rw [es] at k
    have h7 := h.ia.ro.few
    have h5 := h.ia.ro.m5
    refine ⟨_, (pss_cons (ps_if (pt_cmpR op_eq (pe_callB call_len_seq (by rfl) T.len PySem.boot_len (pa_cons (pe_fld (pv 0) rfl) pa_nil)) (pe_gl rfl T.gMostReports) (nomark _)) (pss_one (ps_ret (pe_lst (pa_cons (pe_un un_neg pe_int) pa_nil)))) pss_nil) (pss_cons (ps_expr (pe_bm PySem.F.plainAttrs_list PySem.F.slot_list_append PySem.F.type_list_append mt_append (pe_fld (pv 0) rfl) (pa_cons (pe_op op_rep (pe_lst (pa_cons pe_int pa_nil)) (pe_fld (pv 0) rfl)) pa_nil))) (pss_one (ps_ret (pe_lst (pa_cons (pe_op op_sub (pe_callB call_len_seq (by rfl) T.len PySem.boot_len (pa_cons (pe_fld (pv 0) rfl) pa_nil)) pe_int) pa_nil)))))), ?_⟩
    refine q_when (et_eq (b := 7) (ev_count T h.ia (ev_var rfl)) ev_c) (fun hb H1 e1 => ?_) (fun hb H1 e1 => ?_)
    · rw [if_pos (Nat.le_of_eq (of_decide_eq_true hb).symm)] at k
      exact s_retL el_err fun p H2 hp e2 h2 => (RetM.same h k).go e1 hp e2 h2
    · have c := of_decide_eq_false hb
      rw [if_neg (show ¬ 7 ≤ reg.reports.length by omega)] at k
      have h1 := h.mono e1
      refine q_appL (K := K) h1.ia.ll.1 (ev_reports T h1.ia (ev_var rfl)) (el_rep (by omega) (el_one (v := nV 0) ev_c) (ev_many T h1.ia (ev_var rfl))) (by rw [refs_len, h.ia.ll.2.1]; omega) fun c H2 hc e2 h2 => ?_
      have hc0 : H c = none := fresh_back e1 hc
      have hn : ∀ b ∈ r :: as, b ≠ c := fun b hb e => by
        obtain ⟨xs, q⟩ := h.ia.ll.tracked hb
        rw [e, hc0] at q
        cases q
      rw [nsV_rep] at h2
      have ll2 := (h1.ia.ll.mono e2).snoc h2 (hn r List.mem_cons_self).symm h.rna
      have im2 : IM CI (upd H2 r (.lst (refs as ++ [.ref c]))) i dx r (as ++ [c]) { reg with reports := reg.reports ++ [List.replicate reg.attributeCount 0] } := by
        refine ⟨⟨?_, ll2, ⟨?_, h5, fun x hx => ?_⟩⟩, ?_⟩
        · rw [upd_ne (h.ni List.mem_cons_self)]
          exact e2 _ _ h1.ia.obj
        · show (reg.reports ++ [_]).length ≤ 7
          rw [List.length_append, List.length_singleton]
          omega
        · rcases List.mem_append.mp hx with hx | hx
          · exact h.ia.ro.all x hx
          · rw [List.mem_singleton.mp hx, List.length_replicate]
        · rw [← List.cons_append, List.nodup_append]
          refine ⟨h.nd, by simp, fun x hx y hy e => ?_⟩
          rw [List.mem_singleton.mp hy] at e
          exact hn x hx e
      refine s_retL (el_one (ev_sub (a := reg.reports.length + 1) (b := 1) (by omega) (ev_is (ev_count T im2.ia (ev_var rfl)) (by
        show nV (reg.reports ++ [_]).length = _
        rw [List.length_append, List.length_singleton])) ev_c)) fun p H3 hp e3 h3 => ?_
      have hp0 : H p = none := by
        have z : p ≠ r := fun e => by
          rw [e, upd_same] at hp
          cases hp
        rw [upd_ne z] at hp
        exact fresh_back (e1.trans e2) hp
      refine k p H3 _ _ rfl hp0 ?_ (im2.mono e3) (fun b o hb hnb => e3 _ _ ?_) (fun b hb => ?_)
      · rw [h3]
        rfl
      · rw [upd_ne (fun e => hnb (by rw [e]; exact List.mem_cons_self))]
        exact (e1.trans e2) _ _ hb
      · rcases List.mem_append.mp hb with hb | hb
        · exact .inl hb
        · rw [List.mem_singleton.mp hb]
          exact .inr hc0
def sp_remove_report (CI : Addr) : Sp := fun vs H Q _ => ∃ (i dx r : Addr) (as : List Addr) (reg : Registry) (x : Nat), vs = [.ref i, nV x] ∧ IM CI H i dx r as reg ∧ RetM CI H i dx r as (Km544.step (some reg) (.removeReport x)) Q
theorem mem_erase {α : Type} {l : List α} {x : α} {i : Nat} (h : x ∈ l.eraseIdx i) : x ∈ l := (List.eraseIdx_sublist l i).subset h
/-- a report taken out of an instance -/
theorem IM.erase {CI : Addr} {H : Hp} {i dx r : Addr} {as : List Addr} {reg : Registry} {x : Nat} (h : IM CI H i dx r as reg) (hx : x < reg.reports.length) : IM CI (upd H r (.lst ((refs as).eraseIdx x))) i dx r (as.eraseIdx x) { reg with reports := reg.reports.eraseIdx x } := by
  refine ⟨⟨?_, h.ia.ll.erase h.rna hx, ⟨?_, h.ia.ro.m5, fun y hy => h.ia.ro.all y (mem_erase hy)⟩⟩, ?_⟩
  · rw [upd_ne (h.ni List.mem_cons_self)]
    exact h.ia.obj
  · show (reg.reports.eraseIdx x).length ≤ 7
    rw [List.length_eraseIdx, if_pos hx]
    have := h.ia.ro.few
    omega
  · exact List.nodup_cons.mpr ⟨fun z => h.rna (mem_erase z), (List.eraseIdx_sublist as x).nodup (List.nodup_cons.mp h.nd).2⟩
theorem ok_remove_report (F : Fun K "remove_report" "Instance.remove_report" s_Instance_remove_report f fd) (T : Txt K mg CI CD aS) (C_Instance_has : Met P w K mg base 1 CI "has" p_Instance_has (sp_has CI)) : FnOk P w K mg base CX0 2 f fd p_Instance_remove_report (sp_remove_report CI) := by
  refine F.ok sc_Instance_remove_report (fun vs H Q E h => ?_) (fun cdv A outer s H vs Q E hr h => ?_)
  · obtain ⟨i, dx, r, as, reg, x, rfl, _⟩ := h
    rfl
  · obtain ⟨i, dx, r, as, reg, x, rfl, h, k⟩ := h
    have es : Km544.step (some reg) (.removeReport x) = if reg.reports.length ≤ x then (some reg, Km544.error (-2)) else (some { reg with reports := reg.reports.eraseIdx x }, Km544.number (reg.reports.length - 1 : Nat)) := rfl
    rw [es] at k
    have h7 := h.ia.ro.few
    refine ⟨_, (pss_cons (ps_if (pt_not (pt_val (pe_met C_Instance_has T.clInstance (hr.mono (by decide)) (pv 0) (pa_cons (pv 1) pa_nil)))) (pss_one (ps_ret (pe_lst (pa_cons (pe_un un_neg pe_int) pa_nil)))) pss_nil) (pss_cons (ps_expr (pe_bm PySem.F.plainAttrs_list PySem.F.slot_list_pop PySem.F.type_list_pop mt_popAt (pe_fld (pv 0) rfl) (pa_cons (pv 1) pa_nil))) (pss_one (ps_ret (pe_lst (pa_cons (pe_callB call_len_seq (by rfl) T.len PySem.boot_len (pa_cons (pe_fld (pv 0) rfl) pa_nil)) pa_nil)))))), ?_⟩
    refine q_when (et_not (et_B (ev_has h.p (ev_var rfl) (ev_var rfl)))) (fun hb H1 e1 => ?_) (fun hb H1 e1 => ?_)
    · rw [if_pos (has_no hb)] at k
      exact s_retL el_err fun p H2 hp e2 h2 => (RetM.same h k).go e1 hp e2 h2
    · have c := has_yes hb
      rw [if_neg (Nat.not_le_of_lt c)] at k
      have h1 := h.mono e1
      refine q_popAt (K := K) h1.ia.ll.1 (ev_reports T h1.ia (ev_var rfl)) (ev_var rfl) (by rw [refs_len, h.ia.ll.2.1]; exact c) (by omega) fun H2 e2 => ?_
      have im2 := (h1.mono e2).erase c
      refine s_retL (el_one (ev_is (ev_count T im2.ia (ev_var rfl)) (by
        show nV (reg.reports.eraseIdx x).length = nV (reg.reports.length - 1)
        rw [List.length_eraseIdx, if_pos c]))) fun p H3 hp e3 h3 => ?_
      have hp0 : H p = none := by
        have z : p ≠ r := fun e => by
          rw [e, upd_same] at hp
          cases hp
        rw [upd_ne z] at hp
        exact fresh_back (e1.trans e2) hp
      refine k p H3 _ _ rfl hp0 ?_ (im2.mono e3) (fun b o hb hnb => e3 _ _ ?_) (fun b hb => .inl (mem_erase hb))
      · rw [h3]
        rfl
      · rw [upd_ne (fun e => hnb (by rw [e]; exact List.mem_cons_self))]
        exact (e1.trans e2) _ _ hb
/-- another code in an instance -/
theorem IM.put {CI : Addr} {H : Hp} {i dx r q : Addr} {as : List Addr} {reg : Registry} {x y c : Nat} (h : IM CI H i dx r as reg) (hx : x < reg.reports.length) (hq : as[x]? = some q) : IM CI (upd H q (.lst (nsV ((row reg.reports x).set y c)))) i dx r as (Km544.withCode reg x y c) := by
  refine ⟨⟨?_, h.ia.ll.set h.nd hx hq, changed_RO h.ia.ro hx⟩, h.nd⟩
  rw [upd_ne (h.ni (List.mem_cons_of_mem _ (List.mem_of_getElem? hq)))]
  exact h.ia.obj
def sp_set_attribute (CI : Addr) : Sp := fun vs H Q _ => ∃ (i dx r : Addr) (as : List Addr) (reg : Registry) (x y z : Nat), vs = [.ref i, nV x, nV y, nV z] ∧ IM CI H i dx r as reg ∧ RetM CI H i dx r as (Km544.step (some reg) (.setAttribute x y z)) Q
theorem ok_set_attribute (F : Fun K "set_attribute" "Instance.set_attribute" s_Instance_set_attribute f fd) (T : Txt K mg CI CD aS) (C_Instance_has_part : Met P w K mg base 2 CI "has_part" p_Instance_has_part (sp_has_part CI)) : FnOk P w K mg base CX0 3 f fd p_Instance_set_attribute (sp_set_attribute CI) := by
  refine F.ok sc_Instance_set_attribute (fun vs H Q E h => ?_) (fun cdv A outer s H vs Q E hr h => ?_)
  · obtain ⟨i, dx, r, as, reg, x, y, z, rfl, _⟩ := h
    rfl
  · obtain ⟨i, dx, r, as, reg, x, y, z, rfl, h, k⟩ := h
    have es : Km544.step (some reg) (.setAttribute x y z) = if reg.reports.length ≤ x ∨ reg.attributeCount ≤ y then (some reg, Km544.error (-2)) else if 4 ≤ z then (some reg, Km544.error (-22)) else (some (Km544.withCode reg x y (z + 1)), Km544.number ((row reg.reports x).getD y 0 : Nat)) := rfl
    rw [es] at k
    refine ⟨_, (pss_cons (ps_if (pt_not (pt_val (pe_met C_Instance_has_part T.clInstance (hr.mono (by decide)) (pv 0) (pa_cons (pv 1) (pa_cons (pv 2) pa_nil))))) (pss_one (ps_ret (pe_lst (pa_cons (pe_un un_neg pe_int) pa_nil)))) pss_nil) (pss_cons (ps_if (pt_cmpR op_gt (pv 3) pe_int (nomark _)) (pss_one (ps_ret (pe_lst (pa_cons (pe_un un_neg pe_int) pa_nil)))) pss_nil) (pss_cons (ps_set (i := 4) sc_Instance_set_attribute.nd rfl (Or.inl rfl) (pe_ix ix_list (pe_ix ix_list (pe_fld (pv 0) rfl) (pv 1) (fun _ _ => rfl)) (pv 2) (fun _ _ => rfl))) (pss_cons (ps_asg (pe_op op_add (pv 3) pe_int) (pg_sub (pe_ix ix_list (pe_fld (pv 0) rfl) (pv 1) (fun _ _ => rfl)) (pv 2) set_list)) (pss_one (ps_ret (pe_lst (pa_cons (pv 4) pa_nil)))))))), ?_⟩
    refine q_when (et_not (et_B (ev_hasPart h.p (ev_var rfl) (ev_var rfl) (ev_var rfl)))) (fun hb H1 e1 => ?_) (fun hb H1 e1 => ?_)
    · rw [if_pos (part_no hb)] at k
      exact s_retL el_err fun p H2 hp e2 h2 => (RetM.same h k).go e1 hp e2 h2
    · obtain ⟨c1, c2⟩ := part_yes hb
      rw [if_neg (show ¬ (reg.reports.length ≤ x ∨ reg.attributeCount ≤ y) by omega)] at k
      refine q_when (et_gt (b := 3) (ev_var rfl) ev_c) (fun hb2 H2 e2 => ?_) (fun hb2 H2 e2 => ?_)
      · have c3 := of_decide_eq_true hb2
        rw [if_pos (show 4 ≤ z by omega)] at k
        exact s_retL el_err fun p H3 hp e3 h3 => (RetM.same h k).go (e1.trans e2) hp e3 h3
      · have c3 := of_decide_eq_false hb2
        rw [if_neg (show ¬ 4 ≤ z by omega)] at k
        have h2 := h.mono (e1.trans e2)
        obtain ⟨q, hq, hqr⟩ := h2.ia.ll.2.2 x c1
        have hrow := h.ia.ro.row c1
        refine q_asg (v := nV ((row reg.reports x).getD y 0)) (ev_at (ev_report T h2.ia (ev_var rfl) (ev_var rfl) hq) (ev_var rfl) hqr (by rw [hrow]; exact c2)) fun H3 e3 => ?_
        have h3 := h2.mono e3
        refine q_setL (j := y) (v := nV (z + 1)) (e3 _ _ hqr) (ev_add (b := 1) (ev_var rfl) ev_c) (ev_report T h3.ia (ev_var rfl) (ev_var rfl) hq) (ev_var rfl) (by rw [nsV_len, hrow]; exact c2) fun H4 e4 => ?_
        rw [← nsV_set]
        have im4 := (h3.mono e4).put (y := y) (c := z + 1) c1 hq
        refine s_retL (el_one (ev_var rfl)) fun p H5 hp e5 h5 => ?_
        have hp0 : H p = none := by
          have z : p ≠ q := fun e => by
            rw [e, upd_same] at hp
            cases hp
          rw [upd_ne z] at hp
          exact fresh_back (((e1.trans e2).trans e3).trans e4) hp
        refine k p H5 _ _ rfl hp0 ?_ (im4.mono e5) (fun b o hb hnb => e5 _ _ ?_) (fun b hb => .inl hb)
        · rw [h5]
          rfl
        · rw [upd_ne (fun e => hnb (by rw [e]; exact List.mem_cons_of_mem _ (List.mem_of_getElem? hq)))]
          exact (((e1.trans e2).trans e3).trans e4) _ _ hb
def sp_clear_attribute (CI : Addr) : Sp := fun vs H Q _ => ∃ (i dx r : Addr) (as : List Addr) (reg : Registry) (x y : Nat), vs = [.ref i, nV x, nV y] ∧ IM CI H i dx r as reg ∧ RetM CI H i dx r as (Km544.step (some reg) (.clearAttribute x y)) Q
theorem ok_clear_attribute (F : Fun K "clear_attribute" "Instance.clear_attribute" s_Instance_clear_attribute f fd) (T : Txt K mg CI CD aS) (C_Instance_has_part : Met P w K mg base 2 CI "has_part" p_Instance_has_part (sp_has_part CI)) : FnOk P w K mg base CX0 3 f fd p_Instance_clear_attribute (sp_clear_attribute CI) := by
  refine F.ok sc_Instance_clear_attribute (fun vs H Q E h => ?_) (fun cdv A outer s H vs Q E hr h => ?_)
  · obtain ⟨i, dx, r, as, reg, x, y, rfl, _⟩ := h
    rfl
  · obtain ⟨i, dx, r, as, reg, x, y, rfl, h, k⟩ := h
    have es : Km544.step (some reg) (.clearAttribute x y) = if reg.reports.length ≤ x ∨ reg.attributeCount ≤ y then (some reg, Km544.error (-2)) else if (row reg.reports x).getD y 0 = 0 then (some reg, Km544.error (-6)) else (some (Km544.withCode reg x y 0), Km544.number ((row reg.reports x).getD y 0 - 1 : Nat)) := rfl
    rw [es] at k
    refine ⟨_, (pss_cons (ps_if (pt_not (pt_val (pe_met C_Instance_has_part T.clInstance (hr.mono (by decide)) (pv 0) (pa_cons (pv 1) (pa_cons (pv 2) pa_nil))))) (pss_one (ps_ret (pe_lst (pa_cons (pe_un un_neg pe_int) pa_nil)))) pss_nil) (pss_cons (ps_set (i := 3) sc_Instance_clear_attribute.nd rfl (Or.inl rfl) (pe_ix ix_list (pe_ix ix_list (pe_fld (pv 0) rfl) (pv 1) (fun _ _ => rfl)) (pv 2) (fun _ _ => rfl))) (pss_cons (ps_if (pt_cmpR op_eq (pv 3) pe_int (nomark _)) (pss_one (ps_ret (pe_lst (pa_cons (pe_un un_neg pe_int) pa_nil)))) pss_nil) (pss_cons (ps_asg pe_int (pg_sub (pe_ix ix_list (pe_fld (pv 0) rfl) (pv 1) (fun _ _ => rfl)) (pv 2) set_list)) (pss_one (ps_ret (pe_lst (pa_cons (pe_op op_sub (pv 3) pe_int) pa_nil)))))))), ?_⟩
    refine q_when (et_not (et_B (ev_hasPart h.p (ev_var rfl) (ev_var rfl) (ev_var rfl)))) (fun hb H1 e1 => ?_) (fun hb H1 e1 => ?_)
    · rw [if_pos (part_no hb)] at k
      exact s_retL el_err fun p H2 hp e2 h2 => (RetM.same h k).go e1 hp e2 h2
    · obtain ⟨c1, c2⟩ := part_yes hb
      rw [if_neg (show ¬ (reg.reports.length ≤ x ∨ reg.attributeCount ≤ y) by omega)] at k
      have h1 := h.mono e1
      obtain ⟨q, hq, hqr⟩ := h1.ia.ll.2.2 x c1
      have hrow := h.ia.ro.row c1
      refine q_asg (v := nV ((row reg.reports x).getD y 0)) (ev_at (ev_report T h1.ia (ev_var rfl) (ev_var rfl) hq) (ev_var rfl) hqr (by rw [hrow]; exact c2)) fun H2 e2 => ?_
      have h2 := h1.mono e2
      refine q_when (et_eq (b := 0) (ev_var rfl) ev_c) (fun hb2 H3 e3 => ?_) (fun hb2 H3 e3 => ?_)
      · rw [if_pos (of_decide_eq_true hb2)] at k
        exact s_retL el_err fun p H4 hp e4 h4 => (RetM.same h k).go ((e1.trans e2).trans e3) hp e4 h4
      · have c3 := of_decide_eq_false hb2
        rw [if_neg c3] at k
        have h3 := h2.mono e3
        refine q_setL (j := y) (v := nV 0) ((e2.trans e3) _ _ hqr) ev_c (ev_report T h3.ia (ev_var rfl) (ev_var rfl) hq) (ev_var rfl) (by rw [nsV_len, hrow]; exact c2) fun H4 e4 => ?_
        rw [← nsV_set]
        have im4 := (h3.mono e4).put (y := y) (c := 0) c1 hq
        refine s_retL (el_one (ev_sub (b := 1) (by omega) (ev_var rfl) ev_c)) fun p H5 hp e5 h5 => ?_
        have hp0 : H p = none := by
          have z : p ≠ q := fun e => by
            rw [e, upd_same] at hp
            cases hp
          rw [upd_ne z] at hp
          exact fresh_back (((e1.trans e2).trans e3).trans e4) hp
        refine k p H5 _ _ rfl hp0 ?_ (im4.mono e5) (fun b o hb hnb => e5 _ _ ?_) (fun b hb => .inl hb)
        · rw [h5]
          rfl
        · rw [upd_ne (fun e => hnb (by rw [e]; exact List.mem_cons_of_mem _ (List.mem_of_getElem? hq)))]
          exact (((e1.trans e2).trans e3).trans e4) _ _ hb
def sp_merge_reports (CI : Addr) : Sp := fun vs H Q _ => ∃ (i dx r : Addr) (as : List Addr) (reg : Registry) (x y : Nat), vs = [.ref i, nV x, nV y] ∧ IM CI H i dx r as reg ∧ RetM CI H i dx r as (Km544.step (some reg) (.mergeReports x y)) Q
theorem combined_len {rows : List (List Nat)} {m : Nat} (ro : RO m rows) (h : 0 < rows.length) : (combined rows).length = m := by
  unfold combined
  rw [fold_merge_len]
  exact ro.row h
theorem ok_merge_reports (F : Fun K "merge_reports" "Instance.merge_reports" s_Instance_merge_reports f fd) (T : Txt K mg CI CD aS) (C_Instance_has : Met P w K mg base 1 CI "has" p_Instance_has (sp_has CI)) (C_are_unlike : Cal P w K mg base 2 "are_unlike" p_are_unlike sp_are_unlike)
    (C_combined : Cal P w K mg base 1 "combined" p_combined sp_combined) : FnOk P w K mg base CX0 3 f fd p_Instance_merge_reports (sp_merge_reports CI) := by
  refine F.ok sc_Instance_merge_reports (fun vs H Q E h => ?_) (fun cdv A outer s H vs Q E hr h => ?_)
  · obtain ⟨i, dx, r, as, reg, x, y, rfl, _⟩ := h
    rfl
  · obtain ⟨i, dx, r, as, reg, x, y, rfl, h, k⟩ := h
    have es : Km544.step (some reg) (.mergeReports x y) = if reg.reports.length ≤ x ∨ reg.reports.length ≤ y then (some reg, Km544.error (-2)) else if x = y then (some reg, Km544.error (-22)) else if Km544.areDifferent reg x y = true then (some reg, Km544.error (-33))
        else (some { reg with reports := (reg.reports.set (min x y) (Km544.combined reg [min x y, max x y])).eraseIdx (max x y) }, Km544.number (reg.reports.length - 1 : Nat)) := rfl
    rw [es] at k
    have h7 := h.ia.ro.few
    refine ⟨_, (pss_cons (ps_if (PW.pt (pw_or (pt_not (pt_val (pe_met C_Instance_has T.clInstance (hr.mono (by decide)) (pv 0) (pa_cons (pv 1) pa_nil)))) (pw_or1 (pt_not (pt_val (pe_met C_Instance_has T.clInstance (hr.mono (by decide)) (pv 0) (pa_cons (pv 2) pa_nil))))))) (pss_one (ps_ret (pe_lst (pa_cons (pe_un un_neg pe_int) pa_nil)))) pss_nil) (pss_cons (ps_if (pt_cmpR op_eq (pv 1) (pv 2) (nomark _)) (pss_one (ps_ret (pe_lst (pa_cons (pe_un un_neg pe_int) pa_nil)))) pss_nil) (pss_cons (ps_set (i := 3) sc_Instance_merge_reports.nd rfl (Or.inl rfl) (pe_callB (call_min2 rfl) (by rfl) T.min (by decide +kernel) (pa_cons (pv 1) (pa_cons (pv 2) pa_nil)))) (pss_cons (ps_set (i := 4) sc_Instance_merge_reports.nd rfl (Or.inl rfl) (pe_callB (call_max2 rfl) (by rfl) T.max (by decide +kernel) (pa_cons (pv 1) (pa_cons (pv 2) pa_nil)))) (pss_cons (ps_if (pt_val (pe_cal C_are_unlike (hr.mono (by decide)) (by rfl) (pa_cons (pe_ix ix_list (pe_fld (pv 0) rfl) (pv 3) (fun _ _ => rfl)) (pa_cons (pe_ix ix_list (pe_fld (pv 0) rfl) (pv 4) (fun _ _ => rfl)) pa_nil)))) (pss_one (ps_ret (pe_lst (pa_cons (pe_un un_neg pe_int) pa_nil)))) pss_nil) (pss_cons (ps_asg (pe_cal C_combined (hr.mono (by decide)) (by rfl) (pa_cons (pe_lst (pa_cons (pe_ix ix_list (pe_fld (pv 0) rfl) (pv 3) (fun _ _ => rfl)) (pa_cons (pe_ix ix_list (pe_fld (pv 0) rfl) (pv 4) (fun _ _ => rfl)) pa_nil))) pa_nil)) (pg_sub (pe_fld (pv 0) rfl) (pv 3) set_list)) (pss_cons (ps_expr (pe_bm PySem.F.plainAttrs_list PySem.F.slot_list_pop PySem.F.type_list_pop mt_popAt (pe_fld (pv 0) rfl) (pa_cons (pv 4) pa_nil))) (pss_one (ps_ret (pe_lst (pa_cons (pe_callB call_len_seq (by rfl) T.len PySem.boot_len (pa_cons (pe_fld (pv 0) rfl) pa_nil)) pa_nil))))))))))), ?_⟩
    refine q_when (et_or (et_not (et_B (ev_has h.p (ev_var rfl) (ev_var rfl)))) fun _ => et_not (et_B (ev_has h.p (ev_var rfl) (ev_var rfl)))) (fun hb H1 e1 => ?_) (fun hb H1 e1 => ?_)
    · rw [if_pos (both_no hb)] at k
      exact s_retL el_err fun p H2 hp e2 h2 => (RetM.same h k).go e1 hp e2 h2
    · obtain ⟨c1, c2⟩ := both_yes hb
      rw [if_neg (show ¬ (reg.reports.length ≤ x ∨ reg.reports.length ≤ y) by omega)] at k
      refine q_when (et_eq (ev_var rfl) (ev_var rfl)) (fun hb2 H2 e2 => ?_) (fun hb2 H2 e2 => ?_)
      · rw [if_pos (of_decide_eq_true hb2)] at k
        exact s_retL el_err fun p H3 hp e3 h3 => (RetM.same h k).go (e1.trans e2) hp e3 h3
      · have c3 := of_decide_eq_false hb2
        rw [if_neg c3] at k
        refine q_asg (v := nV (min x y)) (ev_min2 (ev_var rfl) (ev_var rfl)) fun H3 e3 => ?_
        refine q_asg (v := nV (max x y)) (ev_max2N (ev_var rfl) (ev_var rfl)) fun H4 e4 => ?_
        have d1 : min x y < reg.reports.length := by omega
        have d2 : max x y < reg.reports.length := by omega
        have r1 := h.ia.ro.row d1
        have r2 := h.ia.ro.row d2
        have eu : Km544.areDifferent reg x y = unlike (row reg.reports (min x y)) (row reg.reports (max x y)) := by
          rw [different_is h.ia.wf c1]
          by_cases c : x ≤ y
          · rw [Nat.min_eq_left c, Nat.max_eq_right c]
          · rw [Nat.min_eq_right (by omega), Nat.max_eq_left (by omega)]
            exact unlike_symm (by rw [h.ia.ro.row c1, h.ia.ro.row c2])
        have ecm : Km544.combined reg [min x y, max x y] = combined [row reg.reports (min x y), row reg.reports (max x y)] :=
          combined_is h.ia.wf (ms := [min x y, max x y]) (by simp) fun j hj => by
            rcases List.mem_cons.mp hj with rfl | hj
            · exact d1
            · rw [List.mem_singleton.mp hj]
              exact d2
        rw [eu, ecm] at k
        have hne : min x y ≠ max x y := by omega
        clear eu ecm es
        revert k d1 d2 r1 r2 hne
        generalize min x y = u
        generalize max x y = v
        intro k d1 d2 r1 r2 hne
        have h4 := h.mono (((e1.trans e2).trans e3).trans e4)
        obtain ⟨q1, hq1, hr1⟩ := h4.ia.ll.2.2 u d1
        obtain ⟨q2, hq2, hr2⟩ := h4.ia.ll.2.2 v d2
        refine q_when (et_B (ev_call (ea_cons (ev_report T h4.ia (ev_var rfl) (ev_var rfl) hq1) (ea_cons (ev_report T h4.ia (ev_var rfl) (ev_var rfl) hq2) ea_nil)) (z := .bl (unlike (row reg.reports u) (row reg.reports v))) ?_)) (fun hb3 H5 e5 => ?_) (fun hb3 H5 e5 => ?_)
        · exact fun H5 e5 Q q E => ⟨q1, q2, _, _, rfl, e5 _ _ hr1, e5 _ _ hr2, by rw [r1, r2]; exact Nat.le_refl _, by rw [r1]; exact h.ia.ro.m5, q⟩
        · rw [if_pos hb3] at k
          exact s_retL el_err fun p H6 hp e6 h6 => (RetM.same h k).go ((((e1.trans e2).trans e3).trans e4).trans e5) hp e6 h6
        · rw [if_neg (by rw [hb3]; decide)] at k
          have h5 := h4.mono e5
          have ro2 : RO reg.attributeCount [row reg.reports u, row reg.reports v] := ⟨by show 2 ≤ 7; decide, h.ia.ro.m5, fun z hz => by
            rcases List.mem_cons.mp hz with rfl | hz
            · exact r1
            · rw [List.mem_singleton.mp hz]
              exact r2⟩
          have cl := combined_len ro2 (by show 0 < 2; decide)
          refine q_setN (j := u) (ys := nsV (combined [row reg.reports u, row reg.reports v])) h5.ia.ll.1 (el_call1L (xs := refs [q1, q2]) (el_two (ev_report T h5.ia (ev_var rfl) (ev_var rfl) hq1) (ev_report T h5.ia (ev_var rfl) (ev_var rfl) hq2)) ?_) (ev_reports T h5.ia (ev_var rfl)) (ev_var rfl) (by rw [refs_len, h.ia.ll.2.1]; exact d1) fun c H6 hc e6 h6 => ?_
          · refine fun p H6 e6 h6 H7 e7 Q q E => ⟨p, _, [row reg.reports u, row reg.reports v], rfl, ⟨[q1, q2], e7 _ _ h6, rfl, fun j hj => ?_⟩, ro2, (by show 0 < 2; decide), q⟩
            match j, hj with
            | 0, _ => exact ⟨q1, rfl, ((e5.trans e6).trans e7) _ _ hr1⟩
            | 1, _ => exact ⟨q2, rfl, ((e5.trans e6).trans e7) _ _ hr2⟩
            | j + 2, hj =>
              have : j + 2 < 2 := hj
              omega
          · have hc0 : H c = none := fresh_back ((((e1.trans e2).trans e3).trans e4).trans e5) hc
            have hn : ∀ b ∈ r :: as, b ≠ c := fun b hb e => by
              obtain ⟨xs, q⟩ := h.ia.ll.tracked hb
              rw [e, hc0] at q
              cases q
            have im7 : IM CI (upd H6 r (.lst ((refs as).set u (.ref c)))) i dx r (as.set u c) { reg with reports := reg.reports.set u (combined [row reg.reports u, row reg.reports v]) } := by
              refine ⟨⟨?_, (h5.ia.ll.mono e6).repl h.rna d1 h6 (hn r List.mem_cons_self).symm, ⟨?_, h.ia.ro.m5, fun z hz => ?_⟩⟩, ?_⟩
              · rw [upd_ne (h.ni List.mem_cons_self)]
                exact e6 _ _ h5.ia.obj
              · show (reg.reports.set u _).length ≤ 7
                rw [List.length_set]
                exact h7
              · rcases mem_set hz with hz | hz
                · exact h.ia.ro.all z hz
                · rw [hz]
                  exact cl
              · refine List.nodup_cons.mpr ⟨fun z => ?_, ?_⟩
                · rcases mem_set_any z with z | z
                  · exact h.rna z
                  · exact hn r List.mem_cons_self z
                · exact nodup_set (List.nodup_cons.mp h.nd).2 fun z => hn c (List.mem_cons_of_mem _ z) rfl
            have d3 : v < (reg.reports.set u (combined [row reg.reports u, row reg.reports v])).length := by
              rw [List.length_set]
              exact d2
            have er : (refs as).set u (.ref c) = refs (as.set u c) := (refs_set as u c).symm
            rw [er] at im7 ⊢
            refine q_popAt (K := K) (x := v) im7.ia.ll.1 (ev_reports T im7.ia (ev_var rfl)) (ev_var rfl) (by rw [refs_len, im7.ia.ll.2.1]; exact d3) (by omega) fun H8 e8 => ?_
            have im8 := (im7.mono e8).erase d3
            refine s_retL (el_one (ev_is (ev_count T im8.ia (ev_var rfl)) (by
              show nV ((reg.reports.set u _).eraseIdx v).length = nV (reg.reports.length - 1)
              rw [List.length_eraseIdx, if_pos d3, List.length_set]))) fun p H9 hp e9 h9 => ?_
            have e06 := ((((e1.trans e2).trans e3).trans e4).trans e5).trans e6
            have hp0 : H p = none := by
              have z : p ≠ r := fun e => by
                rw [e, upd_same] at hp
                cases hp
              rw [upd_ne z] at hp
              have z2 := fresh_back e8 hp
              rw [upd_ne z] at z2
              exact fresh_back e06 z2
            refine k p H9 _ _ rfl hp0 ?_ (im8.mono e9) (fun b o hb hnb => e9 _ _ ?_) (fun b hb => ?_)
            · rw [h9]
              rfl
            · have z : b ≠ r := fun e => hnb (by rw [e]; exact List.mem_cons_self)
              rw [upd_ne z]
              apply e8
              rw [upd_ne z]
              exact e06 _ _ hb
            · rcases mem_set_any (mem_erase hb) with hb | hb
              · exact .inl hb
              · rw [hb]
                exact .inr hc0
where
  mem_set_any {l : List Addr} {i : Nat} {x y : Addr} (h : y ∈ l.set i x) : y ∈ l ∨ y = x := List.mem_or_eq_of_mem_set h
  nodup_set {l : List Addr} {i : Nat} {x : Addr} (hn : l.Nodup) (hx : x ∉ l) : (l.set i x).Nodup := by
    induction l generalizing i with
    | nil => simp
    | cons y l ih =>
      cases i with
      | zero =>
        show (x :: l).Nodup
        exact List.nodup_cons.mpr ⟨fun z => hx (List.mem_cons_of_mem _ z), (List.nodup_cons.mp hn).2⟩
      | succ i =>
        show (y :: l.set i x).Nodup
        refine List.nodup_cons.mpr ⟨fun z => ?_, ih (List.nodup_cons.mp hn).2 fun z => hx (List.mem_cons_of_mem _ z)⟩
        rcases mem_set_any z with z | z
        · exact (List.nodup_cons.mp hn).1 z
        · exact hx (by rw [z]; exact List.mem_cons_self)
end
end Hr
/-! Hj: the desk (desk.py) but its last def. -/
namespace Hr
open PySem PySem.Spec PyProof.Rows L2 Evl
open Km544 (Registry)
/-- the call that a number and its arguments are -/
inductive CallIs : Nat → List Nat → Km544.Call → Prop
  | create (x : Nat) : CallIs 0 [x] (.create x)
  | addReport : CallIs 1 [] (.addReport)
  | removeReport (x : Nat) : CallIs 2 [x] (.removeReport x)
  | setAttribute (x y z : Nat) : CallIs 3 [x, y, z] (.setAttribute x y z)
  | clearAttribute (x y : Nat) : CallIs 4 [x, y] (.clearAttribute x y)
  | getAttribute (x y : Nat) : CallIs 5 [x, y] (.getAttribute x y)
  | getReport (x : Nat) : CallIs 6 [x] (.getReport x)
  | mergeReports (x y : Nat) : CallIs 7 [x, y] (.mergeReports x y)
  | areDifferent (x y : Nat) : CallIs 8 [x, y] (.areDifferent x y)
  | conflictingAttributes (x y : Nat) : CallIs 9 [x, y] (.conflictingAttributes x y)
  | minHouseholds : CallIs 10 [] (.minHouseholds)
  | firstGrouping : CallIs 11 [] (.firstGrouping)
  | groupingCount (x : Nat) : CallIs 12 [x] (.groupingCount x)
  | getGrouping (x y : Nat) : CallIs 13 [x, y] (.getGrouping x y)
  | getHousehold (x : Nat) : CallIs 14 [x] (.getHousehold x)
  | largestDistinctSet : CallIs 15 [] (.largestDistinctSet)
  | isSufficient (x : Nat) : CallIs 16 [x] (.isSufficient x)
  | smallestSufficientSet : CallIs 17 [] (.smallestSufficientSet)
  | essentialAttributes : CallIs 18 [] (.essentialAttributes)
  | undecidedPairs : CallIs 19 [] (.undecidedPairs)
  | possibleDuplicates (x : Nat) : CallIs 20 [x] (.possibleDuplicates x)
  | minHouseholdsIf (x y z : Nat) : CallIs 21 [x, y, z] (.minHouseholdsIf x y z)
  | worstUndecidedIfAsked (x y : Nat) : CallIs 22 [x, y] (.worstUndecidedIfAsked x y)
  | isResolved : CallIs 23 [] (.isResolved)
  | summary : CallIs 24 [] (.summary)
theorem CallIs.le {n : Nat} {args : List Nat} {c : Km544.Call} (h : CallIs n args c) : n ≤ 24 := by cases h <;> decide
theorem CallIs.step_none {n : Nat} {args : List Nat} {c : Km544.Call} (h : CallIs n args c) (h0 : n ≠ 0) : Km544.step none c = (none, Km544.error (-11)) := by cases h <;> first | exact absurd rfl h0 | rfl
theorem CallIs.keeps {n : Nat} {args : List Nat} {c : Km544.Call} {reg : Registry} (h : CallIs n args c) (h0 : n ≠ 0) (h1 : n ∉ [1, 2, 3, 4, 7]) : (Km544.step (some reg) c).1 = some reg := by cases h <;> first | exact absurd rfl h0 | exact absurd (by decide) h1 | rfl
theorem retL_weak {xs : List V} {H H1 : Hp} {Q : VK} (k : RetL xs H Q) (e : Ex H H1) : RetL xs H1 Q := fun p H2 hp e2 h2 => k.go e hp e2 h2
theorem IAp.wf {CI : Addr} {H : Hp} {i : Addr} {reg : Registry} (h : IAp CI H i reg) : Wf reg := by
  obtain ⟨dx, r, as, h⟩ := h
  exact h.wf
section
variable {K : PySem.W.Frag} {σ : L2.St} {H H' : Hp} {ta tb tc te to : TE} {t : TT} {D : Ends} {tz tu : TS}
theorem q_no (h : EvT t σ H false) (k : ∀ H1, Ex H H1 → tz D σ H1) : tSeq (tIfS t tu tNext) tz D σ H := q_when h (fun hb => Bool.noConfusion hb) fun _ => k
theorem q_yes (h : EvT t σ H true) (k : ∀ H1, Ex H H1 → tu { D with nx := tz D } σ H1) : tSeq (tIfS t tu tNext) tz D σ H := q_when h (fun _ => k) fun hb => Bool.noConfusion hb
theorem s_retMeth {C dx i : Addr} {fs : List (Str × V)} {m : Str} {sp : Sp} {ta : TA} {vs : List V} (ho : Ev to σ H (.ref i)) (h : H i = some (.ins C dx fs)) (hn : fs.lookup m = none) (ht : EvA ta σ H vs) (k : ∀ H1, Ex H H1 → sp (.ref i :: (vs ++ [])) H1 D.rt E0) : tRet (tMeth C m sp [] E0 to ta) D σ H :=
  ho H (Ex.refl H) _ fun H1 e1 => ⟨i, dx, fs, rfl, e1 _ _ h, hn, ht H1 e1 _ fun H2 e2 => k H2 (e1.trans e2)⟩
theorem s_retCall {sp : Sp} {ta : TA} {vs : List V} (ht : EvA ta σ H vs) (k : ∀ H1, Ex H H1 → sp (vs ++ []) H1 D.rt E0) : tRet (tCall sp [] E0 ta) D σ H := ht H (Ex.refl H) _ k
theorem ev_a0 {p : Addr} {x : Nat} {l : List Nat} (ha : Ev ta σ H (.ref p)) (h : H p = some (.lst (nsV (x :: l)))) : Ev (tOp (rIxL K) ta (tC (.int 0))) σ H (nV x) := ev_at (i := 0) ha ev_c h (Nat.zero_lt_succ _)
theorem ev_a1 {p : Addr} {x y : Nat} {l : List Nat} (ha : Ev ta σ H (.ref p)) (h : H p = some (.lst (nsV (x :: y :: l)))) : Ev (tOp (rIxL K) ta (tC (.int 1))) σ H (nV y) := ev_at (i := 1) ha ev_c h (Nat.succ_lt_succ (Nat.zero_lt_succ _))
theorem ev_a2 {p : Addr} {x y z : Nat} {l : List Nat} (ha : Ev ta σ H (.ref p)) (h : H p = some (.lst (nsV (x :: y :: z :: l)))) : Ev (tOp (rIxL K) ta (tC (.int 2))) σ H (nV z) := ev_at (i := 2) ha ev_c h (Nat.succ_lt_succ (Nat.succ_lt_succ (Nat.zero_lt_succ _)))
theorem ev_isN {v : V} (ha : Ev ta σ H v) : Ev (tIsN ta) σ H (.bl (decide (v = .non))) := fun H1 e Q q => ha H1 e _ fun H2 e2 => q H2 e2
theorem ev_chain {a b c : Nat} (ha : Ev ta σ H (nV a)) (hb : Ev tb σ H (nV b)) (hc : Ev tc σ H (nV c)) : Ev (tChain (rI0 fun i j => .bl (decide (i ≤ j))) (rI0 fun i j => .bl (decide (i ≤ j))) ta tb tc) σ H (.bl (decide (a ≤ b) && decide (b ≤ c))) := fun H1 e Q q =>
  ha H1 e _ fun H2 e2 => hb H2 (e.trans e2) _ fun H3 e3 => ⟨(a : Int), (b : Int), rfl, rfl, decide ((a : Int) ≤ (b : Int)), rfl, by
    rw [dLe]
    by_cases x : a ≤ b
    · rw [decide_eq_true x, if_pos rfl]
      rw [decide_eq_true x, Bool.true_and] at q
      exact hc H3 ((e.trans e2).trans e3) _ fun H4 e4 => ⟨(b : Int), (c : Int), rfl, rfl, by
        show Q (.bl (decide ((b : Int) ≤ (c : Int)))) H4
        rw [dLe]
        exact q H4 ((e2.trans e3).trans e4)⟩
    · rw [decide_eq_false x, if_neg (by decide)]
      rw [decide_eq_false x, Bool.false_and] at q
      exact q H3 (e2.trans e3)⟩
end
section
variable {P : Program} {w : World} {K : PySem.W.Frag} {mg : Str → Option Value} {base : Heap} {CI CD aS f : Addr} {fd : FuncData}
def sp_change (CI : Addr) : Sp := fun vs H Q _ => ∃ (i dx r : Addr) (as : List Addr) (reg : Registry) (t : Addr) (n : Nat) (args : List Nat) (c : Km544.Call), vs = [.ref i, nV n, .ref t] ∧ IM CI H i dx r as reg ∧ H t = some (.lst (nsV args)) ∧ CallIs n args c ∧ (n = 1 ∨ n = 2 ∨ n = 3 ∨ n = 4 ∨ n = 7) ∧ RetM CI H i dx r as (Km544.step (some reg) c) Q
theorem ok_change (F : Fun K "change" "change" s_change f fd) (T : Txt K mg CI CD aS) (C_Instance_add_report : Met P w K mg base 1 CI "add_report" p_Instance_add_report (sp_add_report CI))
    (C_Instance_remove_report : Met P w K mg base 2 CI "remove_report" p_Instance_remove_report (sp_remove_report CI))
    (C_Instance_set_attribute : Met P w K mg base 3 CI "set_attribute" p_Instance_set_attribute (sp_set_attribute CI))
    (C_Instance_clear_attribute : Met P w K mg base 3 CI "clear_attribute" p_Instance_clear_attribute (sp_clear_attribute CI))
    (C_Instance_merge_reports : Met P w K mg base 3 CI "merge_reports" p_Instance_merge_reports (sp_merge_reports CI)) : FnOk P w K mg base CX0 4 f fd p_change (sp_change CI) := by
  refine F.ok sc_change (fun vs H Q E h => ?_) (fun cdv A outer s H vs Q E hr h => ?_)
  · obtain ⟨i, dx, r, as, reg, t, n, args, c, rfl, _⟩ := h
    rfl
  · obtain ⟨i, dx, r, as, reg, t, n, args, c, rfl, h, ht, hc, hn, k⟩ := h
    refine ⟨_, (pss_cons (ps_if (pt_cmpR op_eq (pv 1) pe_int (nomark _)) (pss_one (ps_ret (pe_met0 C_Instance_add_report T.clInstance (hr.mono (by decide)) (pv 0)))) pss_nil) (pss_cons (ps_if (pt_cmpR op_eq (pv 1) pe_int (nomark _)) (pss_one (ps_ret (pe_met C_Instance_remove_report T.clInstance (hr.mono (by decide)) (pv 0) (pa_cons (pe_ix ix_list (pv 2) pe_int (fun _ _ => rfl)) pa_nil)))) pss_nil) (pss_cons (ps_if (pt_cmpR op_eq (pv 1) pe_int (nomark _)) (pss_one (ps_ret (pe_met C_Instance_set_attribute T.clInstance (hr.mono (by decide)) (pv 0) (pa_cons (pe_ix ix_list (pv 2) pe_int (fun _ _ => rfl)) (pa_cons (pe_ix ix_list (pv 2) pe_int (fun _ _ => rfl)) (pa_cons (pe_ix ix_list (pv 2) pe_int (fun _ _ => rfl)) pa_nil)))))) pss_nil) (pss_cons (ps_if (pt_cmpR op_eq (pv 1) pe_int (nomark _)) (pss_one (ps_ret (pe_met C_Instance_clear_attribute T.clInstance (hr.mono (by decide)) (pv 0) (pa_cons (pe_ix ix_list (pv 2) pe_int (fun _ _ => rfl)) (pa_cons (pe_ix ix_list (pv 2) pe_int (fun _ _ => rfl)) pa_nil))))) pss_nil) (pss_one (ps_ret (pe_met C_Instance_merge_reports T.clInstance (hr.mono (by decide)) (pv 0) (pa_cons (pe_ix ix_list (pv 2) pe_int (fun _ _ => rfl)) (pa_cons (pe_ix ix_list (pv 2) pe_int (fun _ _ => rfl)) pa_nil))))))))), ?_⟩
    cases hc <;> first | exact absurd hn (by decide) | skip
    · have E : Ex H H := Ex.refl H
      refine q_yes (et_is (et_eq (a := 1) (b := 1) (ev_var rfl) ev_c) (by decide)) fun H1 e1 => ?_
      have E := E.trans e1
      exact s_retMeth (ev_var rfl) (h.mono E).ia.obj (instF_no (by decide +kernel) (by decide +kernel)) ea_nil fun H2 e2 => ⟨i, dx, r, as, reg, rfl, h.mono (E.trans e2), k.weak (E.trans e2)⟩
    · rename_i x
      have E : Ex H H := Ex.refl H
      refine q_no (et_is (et_eq (a := 2) (b := 1) (ev_var rfl) ev_c) (by decide)) fun H1 e1 => ?_
      have E := E.trans e1
      refine q_yes (et_is (et_eq (a := 2) (b := 2) (ev_var rfl) ev_c) (by decide)) fun H1 e1 => ?_
      have E := E.trans e1
      exact s_retMeth (ev_var rfl) (h.mono E).ia.obj (instF_no (by decide +kernel) (by decide +kernel)) (ea_cons (ev_a0 (ev_var rfl) (E _ _ ht)) ea_nil) fun H2 e2 => ⟨i, dx, r, as, reg, x, rfl, h.mono (E.trans e2), k.weak (E.trans e2)⟩
    · rename_i x y z
      have E : Ex H H := Ex.refl H
      refine q_no (et_is (et_eq (a := 3) (b := 1) (ev_var rfl) ev_c) (by decide)) fun H1 e1 => ?_
      have E := E.trans e1
      refine q_no (et_is (et_eq (a := 3) (b := 2) (ev_var rfl) ev_c) (by decide)) fun H1 e1 => ?_
      have E := E.trans e1
      refine q_yes (et_is (et_eq (a := 3) (b := 3) (ev_var rfl) ev_c) (by decide)) fun H1 e1 => ?_
      have E := E.trans e1
      exact s_retMeth (ev_var rfl) (h.mono E).ia.obj (instF_no (by decide +kernel) (by decide +kernel)) (ea_cons (ev_a0 (ev_var rfl) (E _ _ ht)) (ea_cons (ev_a1 (ev_var rfl) (E _ _ ht)) (ea_cons (ev_a2 (ev_var rfl) (E _ _ ht)) ea_nil))) fun H2 e2 => ⟨i, dx, r, as, reg, x, y, z, rfl, h.mono (E.trans e2), k.weak (E.trans e2)⟩
    · rename_i x y
      have E : Ex H H := Ex.refl H
      refine q_no (et_is (et_eq (a := 4) (b := 1) (ev_var rfl) ev_c) (by decide)) fun H1 e1 => ?_
      have E := E.trans e1
      refine q_no (et_is (et_eq (a := 4) (b := 2) (ev_var rfl) ev_c) (by decide)) fun H1 e1 => ?_
      have E := E.trans e1
      refine q_no (et_is (et_eq (a := 4) (b := 3) (ev_var rfl) ev_c) (by decide)) fun H1 e1 => ?_
      have E := E.trans e1
      refine q_yes (et_is (et_eq (a := 4) (b := 4) (ev_var rfl) ev_c) (by decide)) fun H1 e1 => ?_
      have E := E.trans e1
      exact s_retMeth (ev_var rfl) (h.mono E).ia.obj (instF_no (by decide +kernel) (by decide +kernel)) (ea_cons (ev_a0 (ev_var rfl) (E _ _ ht)) (ea_cons (ev_a1 (ev_var rfl) (E _ _ ht)) ea_nil)) fun H2 e2 => ⟨i, dx, r, as, reg, x, y, rfl, h.mono (E.trans e2), k.weak (E.trans e2)⟩
    · rename_i x y
      have E : Ex H H := Ex.refl H
      refine q_no (et_is (et_eq (a := 7) (b := 1) (ev_var rfl) ev_c) (by decide)) fun H1 e1 => ?_
      have E := E.trans e1
      refine q_no (et_is (et_eq (a := 7) (b := 2) (ev_var rfl) ev_c) (by decide)) fun H1 e1 => ?_
      have E := E.trans e1
      refine q_no (et_is (et_eq (a := 7) (b := 3) (ev_var rfl) ev_c) (by decide)) fun H1 e1 => ?_
      have E := E.trans e1
      refine q_no (et_is (et_eq (a := 7) (b := 4) (ev_var rfl) ev_c) (by decide)) fun H1 e1 => ?_
      have E := E.trans e1
      exact s_retMeth (ev_var rfl) (h.mono E).ia.obj (instF_no (by decide +kernel) (by decide +kernel)) (ea_cons (ev_a0 (ev_var rfl) (E _ _ ht)) (ea_cons (ev_a1 (ev_var rfl) (E _ _ ht)) ea_nil)) fun H2 e2 => ⟨i, dx, r, as, reg, x, y, rfl, h.mono (E.trans e2), k.weak (E.trans e2)⟩
def sp_ask_reports (CI : Addr) : Sp := fun vs H Q _ => ∃ (i : Addr) (reg : Registry) (t : Addr) (n : Nat) (args : List Nat) (c : Km544.Call), vs = [.ref i, nV n, .ref t] ∧ IAp CI H i reg ∧ H t = some (.lst (nsV args)) ∧ CallIs n args c ∧ (n = 5 ∨ n = 6 ∨ n = 8 ∨ n = 9) ∧ RetL (resV (Km544.step (some reg) c).2) H Q
theorem ok_ask_reports (F : Fun K "ask_reports" "ask_reports" s_ask_reports f fd) (T : Txt K mg CI CD aS) (C_get_attribute : Cal P w K mg base 3 "get_attribute" p_get_attribute (sp_get_attribute CI))
    (C_get_report : Cal P w K mg base 2 "get_report" p_get_report (sp_get_report CI))
    (C_are_different : Cal P w K mg base 3 "are_different" p_are_different (sp_are_different CI))
    (C_conflicting_attributes : Cal P w K mg base 2 "conflicting_attributes" p_conflicting_attributes (sp_conflicting CI)) : FnOk P w K mg base CX0 4 f fd p_ask_reports (sp_ask_reports CI) := by
  refine F.ok sc_ask_reports (fun vs H Q E h => ?_) (fun cdv A outer s H vs Q E hr h => ?_)
  · obtain ⟨i, reg, t, n, args, c, rfl, _⟩ := h
    rfl
  · obtain ⟨i, reg, t, n, args, c, rfl, h, ht, hc, hn, k⟩ := h
    refine ⟨_, (pss_cons (ps_if (pt_cmpR op_eq (pv 1) pe_int (nomark _)) (pss_one (ps_ret (pe_cal C_get_attribute (hr.mono (by decide)) (by rfl) (pa_cons (pv 0) (pa_cons (pe_ix ix_list (pv 2) pe_int (fun _ _ => rfl)) (pa_cons (pe_ix ix_list (pv 2) pe_int (fun _ _ => rfl)) pa_nil)))))) pss_nil) (pss_cons (ps_if (pt_cmpR op_eq (pv 1) pe_int (nomark _)) (pss_one (ps_ret (pe_cal C_get_report (hr.mono (by decide)) (by rfl) (pa_cons (pv 0) (pa_cons (pe_ix ix_list (pv 2) pe_int (fun _ _ => rfl)) pa_nil))))) pss_nil) (pss_cons (ps_if (pt_cmpR op_eq (pv 1) pe_int (nomark _)) (pss_one (ps_ret (pe_cal C_are_different (hr.mono (by decide)) (by rfl) (pa_cons (pv 0) (pa_cons (pe_ix ix_list (pv 2) pe_int (fun _ _ => rfl)) (pa_cons (pe_ix ix_list (pv 2) pe_int (fun _ _ => rfl)) pa_nil)))))) pss_nil) (pss_one (ps_ret (pe_cal C_conflicting_attributes (hr.mono (by decide)) (by rfl) (pa_cons (pv 0) (pa_cons (pe_ix ix_list (pv 2) pe_int (fun _ _ => rfl)) (pa_cons (pe_ix ix_list (pv 2) pe_int (fun _ _ => rfl)) pa_nil))))))))), ?_⟩
    cases hc <;> first | exact absurd hn (by decide) | skip
    · rename_i x y
      have E : Ex H H := Ex.refl H
      refine q_yes (et_is (et_eq (a := 5) (b := 5) (ev_var rfl) ev_c) (by decide)) fun H1 e1 => ?_
      have E := E.trans e1
      exact s_retCall (ea_cons (ev_var rfl) (ea_cons (ev_a0 (ev_var rfl) (E _ _ ht)) (ea_cons (ev_a1 (ev_var rfl) (E _ _ ht)) ea_nil))) fun H2 e2 => ⟨i, reg, x, y, rfl, h.mono (E.trans e2), retL_weak k (E.trans e2)⟩
    · rename_i x
      have E : Ex H H := Ex.refl H
      refine q_no (et_is (et_eq (a := 6) (b := 5) (ev_var rfl) ev_c) (by decide)) fun H1 e1 => ?_
      have E := E.trans e1
      refine q_yes (et_is (et_eq (a := 6) (b := 6) (ev_var rfl) ev_c) (by decide)) fun H1 e1 => ?_
      have E := E.trans e1
      exact s_retCall (ea_cons (ev_var rfl) (ea_cons (ev_a0 (ev_var rfl) (E _ _ ht)) ea_nil)) fun H2 e2 => ⟨i, reg, x, rfl, h.mono (E.trans e2), retL_weak k (E.trans e2)⟩
    · rename_i x y
      have E : Ex H H := Ex.refl H
      refine q_no (et_is (et_eq (a := 8) (b := 5) (ev_var rfl) ev_c) (by decide)) fun H1 e1 => ?_
      have E := E.trans e1
      refine q_no (et_is (et_eq (a := 8) (b := 6) (ev_var rfl) ev_c) (by decide)) fun H1 e1 => ?_
      have E := E.trans e1
      refine q_yes (et_is (et_eq (a := 8) (b := 8) (ev_var rfl) ev_c) (by decide)) fun H1 e1 => ?_
      have E := E.trans e1
      exact s_retCall (ea_cons (ev_var rfl) (ea_cons (ev_a0 (ev_var rfl) (E _ _ ht)) (ea_cons (ev_a1 (ev_var rfl) (E _ _ ht)) ea_nil))) fun H2 e2 => ⟨i, reg, x, y, rfl, h.mono (E.trans e2), retL_weak k (E.trans e2)⟩
    · rename_i x y
      have E : Ex H H := Ex.refl H
      refine q_no (et_is (et_eq (a := 9) (b := 5) (ev_var rfl) ev_c) (by decide)) fun H1 e1 => ?_
      have E := E.trans e1
      refine q_no (et_is (et_eq (a := 9) (b := 6) (ev_var rfl) ev_c) (by decide)) fun H1 e1 => ?_
      have E := E.trans e1
      refine q_no (et_is (et_eq (a := 9) (b := 8) (ev_var rfl) ev_c) (by decide)) fun H1 e1 => ?_
      have E := E.trans e1
      exact s_retCall (ea_cons (ev_var rfl) (ea_cons (ev_a0 (ev_var rfl) (E _ _ ht)) (ea_cons (ev_a1 (ev_var rfl) (E _ _ ht)) ea_nil))) fun H2 e2 => ⟨i, reg, x, y, rfl, h.mono (E.trans e2), retL_weak k (E.trans e2)⟩
def sp_ask_groupings (CI : Addr) : Sp := fun vs H Q _ => ∃ (i : Addr) (reg : Registry) (t : Addr) (n : Nat) (args : List Nat) (c : Km544.Call), vs = [.ref i, nV n, .ref t] ∧ IAp CI H i reg ∧ H t = some (.lst (nsV args)) ∧ CallIs n args c ∧ (n = 10 ∨ n = 11 ∨ n = 12 ∨ n = 13 ∨ n = 14 ∨ n = 15 ∨ n = 16 ∨ n = 17) ∧ RetL (resV (Km544.step (some reg) c).2) H Q
theorem ok_ask_groupings (F : Fun K "ask_groupings" "ask_groupings" s_ask_groupings f fd) (T : Txt K mg CI CD aS) (C_household_numbers : Cal P w K mg base 7 "household_numbers" p_household_numbers (sp_household_numbers CI))
    (C_tell_first_grouping : Cal P w K mg base 6 "tell_first_grouping" p_tell_first_grouping (sp_tell_first CI))
    (C_grouping_count : Cal P w K mg base 5 "grouping_count" p_grouping_count (sp_grouping_count CI))
    (C_get_grouping : Cal P w K mg base 5 "get_grouping" p_get_grouping (sp_get_grouping CI))
    (C_get_household : Cal P w K mg base 7 "get_household" p_get_household (sp_get_household CI))
    (C_largest_distinct_set : Cal P w K mg base 5 "largest_distinct_set" p_largest_distinct_set (sp_largest_set CI))
    (C_tell_sufficient : Cal P w K mg base 3 "tell_sufficient" p_tell_sufficient (sp_tell_sufficient CI))
    (C_smallest_sufficient_set : Cal P w K mg base 4 "smallest_sufficient_set" p_smallest_sufficient_set (sp_smallest_set CI)) : FnOk P w K mg base CX0 8 f fd p_ask_groupings (sp_ask_groupings CI) := by
  refine F.ok sc_ask_groupings (fun vs H Q E h => ?_) (fun cdv A outer s H vs Q E hr h => ?_)
  · obtain ⟨i, reg, t, n, args, c, rfl, _⟩ := h
    rfl
  · obtain ⟨i, reg, t, n, args, c, rfl, h, ht, hc, hn, k⟩ := h
    refine ⟨_, (pss_cons (ps_if (pt_cmpR op_eq (pv 1) pe_int (nomark _)) (pss_one (ps_ret (pe_cal C_household_numbers (hr.mono (by decide)) (by rfl) (pa_cons (pv 0) pa_nil)))) pss_nil) (pss_cons (ps_if (pt_cmpR op_eq (pv 1) pe_int (nomark _)) (pss_one (ps_ret (pe_cal C_tell_first_grouping (hr.mono (by decide)) (by rfl) (pa_cons (pv 0) pa_nil)))) pss_nil) (pss_cons (ps_if (pt_cmpR op_eq (pv 1) pe_int (nomark _)) (pss_one (ps_ret (pe_cal C_grouping_count (hr.mono (by decide)) (by rfl) (pa_cons (pv 0) (pa_cons (pe_ix ix_list (pv 2) pe_int (fun _ _ => rfl)) pa_nil))))) pss_nil) (pss_cons (ps_if (pt_cmpR op_eq (pv 1) pe_int (nomark _)) (pss_one (ps_ret (pe_cal C_get_grouping (hr.mono (by decide)) (by rfl) (pa_cons (pv 0) (pa_cons (pe_ix ix_list (pv 2) pe_int (fun _ _ => rfl)) (pa_cons (pe_ix ix_list (pv 2) pe_int (fun _ _ => rfl)) pa_nil)))))) pss_nil) (pss_cons (ps_if (pt_cmpR op_eq (pv 1) pe_int (nomark _)) (pss_one (ps_ret (pe_cal C_get_household (hr.mono (by decide)) (by rfl) (pa_cons (pv 0) (pa_cons (pe_ix ix_list (pv 2) pe_int (fun _ _ => rfl)) pa_nil))))) pss_nil) (pss_cons (ps_if (pt_cmpR op_eq (pv 1) pe_int (nomark _)) (pss_one (ps_ret (pe_cal C_largest_distinct_set (hr.mono (by decide)) (by rfl) (pa_cons (pv 0) pa_nil)))) pss_nil) (pss_cons (ps_if (pt_cmpR op_eq (pv 1) pe_int (nomark _)) (pss_one (ps_ret (pe_cal C_tell_sufficient (hr.mono (by decide)) (by rfl) (pa_cons (pv 0) (pa_cons (pe_ix ix_list (pv 2) pe_int (fun _ _ => rfl)) pa_nil))))) pss_nil) (pss_one (ps_ret (pe_cal C_smallest_sufficient_set (hr.mono (by decide)) (by rfl) (pa_cons (pv 0) pa_nil))))))))))), ?_⟩
    cases hc <;> first | exact absurd hn (by decide) | skip
    · have E : Ex H H := Ex.refl H
      refine q_yes (et_is (et_eq (a := 10) (b := 10) (ev_var rfl) ev_c) (by decide)) fun H1 e1 => ?_
      have E := E.trans e1
      exact s_retCall (ea_cons (ev_var rfl) ea_nil) fun H2 e2 => ⟨i, reg, rfl, h.mono (E.trans e2), retL_weak k (E.trans e2)⟩
    · have E : Ex H H := Ex.refl H
      refine q_no (et_is (et_eq (a := 11) (b := 10) (ev_var rfl) ev_c) (by decide)) fun H1 e1 => ?_
      have E := E.trans e1
      refine q_yes (et_is (et_eq (a := 11) (b := 11) (ev_var rfl) ev_c) (by decide)) fun H1 e1 => ?_
      have E := E.trans e1
      exact s_retCall (ea_cons (ev_var rfl) ea_nil) fun H2 e2 => ⟨i, reg, rfl, h.mono (E.trans e2), retL_weak k (E.trans e2)⟩
    · rename_i x
      have E : Ex H H := Ex.refl H
      refine q_no (et_is (et_eq (a := 12) (b := 10) (ev_var rfl) ev_c) (by decide)) fun H1 e1 => ?_
      have E := E.trans e1
      refine q_no (et_is (et_eq (a := 12) (b := 11) (ev_var rfl) ev_c) (by decide)) fun H1 e1 => ?_
      have E := E.trans e1
      refine q_yes (et_is (et_eq (a := 12) (b := 12) (ev_var rfl) ev_c) (by decide)) fun H1 e1 => ?_
      have E := E.trans e1
      exact s_retCall (ea_cons (ev_var rfl) (ea_cons (ev_a0 (ev_var rfl) (E _ _ ht)) ea_nil)) fun H2 e2 => ⟨i, reg, x, rfl, h.mono (E.trans e2), retL_weak k (E.trans e2)⟩
    · rename_i x y
      have E : Ex H H := Ex.refl H
      refine q_no (et_is (et_eq (a := 13) (b := 10) (ev_var rfl) ev_c) (by decide)) fun H1 e1 => ?_
      have E := E.trans e1
      refine q_no (et_is (et_eq (a := 13) (b := 11) (ev_var rfl) ev_c) (by decide)) fun H1 e1 => ?_
      have E := E.trans e1
      refine q_no (et_is (et_eq (a := 13) (b := 12) (ev_var rfl) ev_c) (by decide)) fun H1 e1 => ?_
      have E := E.trans e1
      refine q_yes (et_is (et_eq (a := 13) (b := 13) (ev_var rfl) ev_c) (by decide)) fun H1 e1 => ?_
      have E := E.trans e1
      exact s_retCall (ea_cons (ev_var rfl) (ea_cons (ev_a0 (ev_var rfl) (E _ _ ht)) (ea_cons (ev_a1 (ev_var rfl) (E _ _ ht)) ea_nil))) fun H2 e2 => ⟨i, reg, x, y, rfl, h.mono (E.trans e2), retL_weak k (E.trans e2)⟩
    · rename_i x
      have E : Ex H H := Ex.refl H
      refine q_no (et_is (et_eq (a := 14) (b := 10) (ev_var rfl) ev_c) (by decide)) fun H1 e1 => ?_
      have E := E.trans e1
      refine q_no (et_is (et_eq (a := 14) (b := 11) (ev_var rfl) ev_c) (by decide)) fun H1 e1 => ?_
      have E := E.trans e1
      refine q_no (et_is (et_eq (a := 14) (b := 12) (ev_var rfl) ev_c) (by decide)) fun H1 e1 => ?_
      have E := E.trans e1
      refine q_no (et_is (et_eq (a := 14) (b := 13) (ev_var rfl) ev_c) (by decide)) fun H1 e1 => ?_
      have E := E.trans e1
      refine q_yes (et_is (et_eq (a := 14) (b := 14) (ev_var rfl) ev_c) (by decide)) fun H1 e1 => ?_
      have E := E.trans e1
      exact s_retCall (ea_cons (ev_var rfl) (ea_cons (ev_a0 (ev_var rfl) (E _ _ ht)) ea_nil)) fun H2 e2 => ⟨i, reg, x, rfl, h.mono (E.trans e2), retL_weak k (E.trans e2)⟩
    · have E : Ex H H := Ex.refl H
      refine q_no (et_is (et_eq (a := 15) (b := 10) (ev_var rfl) ev_c) (by decide)) fun H1 e1 => ?_
      have E := E.trans e1
      refine q_no (et_is (et_eq (a := 15) (b := 11) (ev_var rfl) ev_c) (by decide)) fun H1 e1 => ?_
      have E := E.trans e1
      refine q_no (et_is (et_eq (a := 15) (b := 12) (ev_var rfl) ev_c) (by decide)) fun H1 e1 => ?_
      have E := E.trans e1
      refine q_no (et_is (et_eq (a := 15) (b := 13) (ev_var rfl) ev_c) (by decide)) fun H1 e1 => ?_
      have E := E.trans e1
      refine q_no (et_is (et_eq (a := 15) (b := 14) (ev_var rfl) ev_c) (by decide)) fun H1 e1 => ?_
      have E := E.trans e1
      refine q_yes (et_is (et_eq (a := 15) (b := 15) (ev_var rfl) ev_c) (by decide)) fun H1 e1 => ?_
      have E := E.trans e1
      exact s_retCall (ea_cons (ev_var rfl) ea_nil) fun H2 e2 => ⟨i, reg, rfl, h.mono (E.trans e2), retL_weak k (E.trans e2)⟩
    · rename_i x
      have E : Ex H H := Ex.refl H
      refine q_no (et_is (et_eq (a := 16) (b := 10) (ev_var rfl) ev_c) (by decide)) fun H1 e1 => ?_
      have E := E.trans e1
      refine q_no (et_is (et_eq (a := 16) (b := 11) (ev_var rfl) ev_c) (by decide)) fun H1 e1 => ?_
      have E := E.trans e1
      refine q_no (et_is (et_eq (a := 16) (b := 12) (ev_var rfl) ev_c) (by decide)) fun H1 e1 => ?_
      have E := E.trans e1
      refine q_no (et_is (et_eq (a := 16) (b := 13) (ev_var rfl) ev_c) (by decide)) fun H1 e1 => ?_
      have E := E.trans e1
      refine q_no (et_is (et_eq (a := 16) (b := 14) (ev_var rfl) ev_c) (by decide)) fun H1 e1 => ?_
      have E := E.trans e1
      refine q_no (et_is (et_eq (a := 16) (b := 15) (ev_var rfl) ev_c) (by decide)) fun H1 e1 => ?_
      have E := E.trans e1
      refine q_yes (et_is (et_eq (a := 16) (b := 16) (ev_var rfl) ev_c) (by decide)) fun H1 e1 => ?_
      have E := E.trans e1
      exact s_retCall (ea_cons (ev_var rfl) (ea_cons (ev_a0 (ev_var rfl) (E _ _ ht)) ea_nil)) fun H2 e2 => ⟨i, reg, x, rfl, h.mono (E.trans e2), retL_weak k (E.trans e2)⟩
    · have E : Ex H H := Ex.refl H
      refine q_no (et_is (et_eq (a := 17) (b := 10) (ev_var rfl) ev_c) (by decide)) fun H1 e1 => ?_
      have E := E.trans e1
      refine q_no (et_is (et_eq (a := 17) (b := 11) (ev_var rfl) ev_c) (by decide)) fun H1 e1 => ?_
      have E := E.trans e1
      refine q_no (et_is (et_eq (a := 17) (b := 12) (ev_var rfl) ev_c) (by decide)) fun H1 e1 => ?_
      have E := E.trans e1
      refine q_no (et_is (et_eq (a := 17) (b := 13) (ev_var rfl) ev_c) (by decide)) fun H1 e1 => ?_
      have E := E.trans e1
      refine q_no (et_is (et_eq (a := 17) (b := 14) (ev_var rfl) ev_c) (by decide)) fun H1 e1 => ?_
      have E := E.trans e1
      refine q_no (et_is (et_eq (a := 17) (b := 15) (ev_var rfl) ev_c) (by decide)) fun H1 e1 => ?_
      have E := E.trans e1
      refine q_no (et_is (et_eq (a := 17) (b := 16) (ev_var rfl) ev_c) (by decide)) fun H1 e1 => ?_
      have E := E.trans e1
      exact s_retCall (ea_cons (ev_var rfl) ea_nil) fun H2 e2 => ⟨i, reg, rfl, h.mono (E.trans e2), retL_weak k (E.trans e2)⟩
def sp_ask_more (CI : Addr) : Sp := fun vs H Q _ => ∃ (i : Addr) (reg : Registry) (t : Addr) (n : Nat) (args : List Nat) (c : Km544.Call), vs = [.ref i, nV n, .ref t] ∧ IAp CI H i reg ∧ H t = some (.lst (nsV args)) ∧ CallIs n args c ∧ (n = 18 ∨ n = 19 ∨ n = 20 ∨ n = 21 ∨ n = 22 ∨ n = 23 ∨ n = 24) ∧ RetL (resV (Km544.step (some reg) c).2) H Q
theorem ok_ask_more (F : Fun K "ask_more" "ask_more" s_ask_more f fd) (T : Txt K mg CI CD aS) (C_essential_attributes : Cal P w K mg base 4 "essential_attributes" p_essential_attributes (sp_essential_attributes CI))
    (C_undecided_pairs : Cal P w K mg base 4 "undecided_pairs" p_undecided_pairs (sp_undecided_pairs CI))
    (C_possible_duplicates : Cal P w K mg base 3 "possible_duplicates" p_possible_duplicates (sp_possible_duplicates CI))
    (C_min_households_if : Cal P w K mg base 7 "min_households_if" p_min_households_if (sp_min_households_if CI))
    (C_worst_undecided_if_asked : Cal P w K mg base 4 "worst_undecided_if_asked" p_worst_undecided_if_asked (sp_worst CI))
    (C_summary : Cal P w K mg base 1 "summary" p_summary (sp_summary CI)) : FnOk P w K mg base CX0 8 f fd p_ask_more (sp_ask_more CI) := by
  refine F.ok sc_ask_more (fun vs H Q E h => ?_) (fun cdv A outer s H vs Q E hr h => ?_)
  · obtain ⟨i, reg, t, n, args, c, rfl, _⟩ := h
    rfl
  · obtain ⟨i, reg, t, n, args, c, rfl, h, ht, hc, hn, k⟩ := h
    refine ⟨_, (pss_cons (ps_if (pt_cmpR op_eq (pv 1) pe_int (nomark _)) (pss_one (ps_ret (pe_cal C_essential_attributes (hr.mono (by decide)) (by rfl) (pa_cons (pv 0) pa_nil)))) pss_nil) (pss_cons (ps_if (pt_cmpR op_eq (pv 1) pe_int (nomark _)) (pss_one (ps_ret (pe_cal C_undecided_pairs (hr.mono (by decide)) (by rfl) (pa_cons (pv 0) pa_nil)))) pss_nil) (pss_cons (ps_if (pt_cmpR op_eq (pv 1) pe_int (nomark _)) (pss_one (ps_ret (pe_cal C_possible_duplicates (hr.mono (by decide)) (by rfl) (pa_cons (pv 0) (pa_cons (pe_ix ix_list (pv 2) pe_int (fun _ _ => rfl)) pa_nil))))) pss_nil) (pss_cons (ps_if (pt_cmpR op_eq (pv 1) pe_int (nomark _)) (pss_one (ps_ret (pe_cal C_min_households_if (hr.mono (by decide)) (by rfl) (pa_cons (pv 0) (pa_cons (pe_ix ix_list (pv 2) pe_int (fun _ _ => rfl)) (pa_cons (pe_ix ix_list (pv 2) pe_int (fun _ _ => rfl)) (pa_cons (pe_ix ix_list (pv 2) pe_int (fun _ _ => rfl)) pa_nil))))))) pss_nil) (pss_cons (ps_if (pt_cmpR op_eq (pv 1) pe_int (nomark _)) (pss_one (ps_ret (pe_cal C_worst_undecided_if_asked (hr.mono (by decide)) (by rfl) (pa_cons (pv 0) (pa_cons (pe_ix ix_list (pv 2) pe_int (fun _ _ => rfl)) (pa_cons (pe_ix ix_list (pv 2) pe_int (fun _ _ => rfl)) pa_nil)))))) pss_nil) (pss_cons (ps_if (pt_cmpR op_eq (pv 1) pe_int (nomark _)) (pss_one (ps_ret (pe_lst (pa_cons (pe_callTy call_int1 (by rfl) T.int (by decide +kernel) (pa_cons (pe_cmpR op_eq (pe_ix ix_list (pe_cal C_undecided_pairs (hr.mono (by decide)) (by rfl) (pa_cons (pv 0) pa_nil)) pe_int (fun _ _ => rfl)) pe_int (nomark _)) pa_nil)) pa_nil)))) pss_nil) (pss_one (ps_ret (pe_cal C_summary (hr.mono (by decide)) (by rfl) (pa_cons (pv 0) pa_nil)))))))))), ?_⟩
    cases hc <;> first | exact absurd hn (by decide) | skip
    · have E : Ex H H := Ex.refl H
      refine q_yes (et_is (et_eq (a := 18) (b := 18) (ev_var rfl) ev_c) (by decide)) fun H1 e1 => ?_
      have E := E.trans e1
      exact s_retCall (ea_cons (ev_var rfl) ea_nil) fun H2 e2 => ⟨i, reg, rfl, h.mono (E.trans e2), retL_weak k (E.trans e2)⟩
    · have E : Ex H H := Ex.refl H
      refine q_no (et_is (et_eq (a := 19) (b := 18) (ev_var rfl) ev_c) (by decide)) fun H1 e1 => ?_
      have E := E.trans e1
      refine q_yes (et_is (et_eq (a := 19) (b := 19) (ev_var rfl) ev_c) (by decide)) fun H1 e1 => ?_
      have E := E.trans e1
      have es : resV (Km544.step (some reg) .undecidedPairs).2 = nsV ((undecided reg.reports).length :: flatP (undecided reg.reports)) := by
        rw [← resV_pairs, ← undecided_is h.wf]
        rfl
      rw [es] at k
      exact s_retCall (ea_cons (ev_var rfl) ea_nil) fun H2 e2 => ⟨i, reg, rfl, h.mono (E.trans e2), retL_weak k (E.trans e2)⟩
    · rename_i x
      have E : Ex H H := Ex.refl H
      refine q_no (et_is (et_eq (a := 20) (b := 18) (ev_var rfl) ev_c) (by decide)) fun H1 e1 => ?_
      have E := E.trans e1
      refine q_no (et_is (et_eq (a := 20) (b := 19) (ev_var rfl) ev_c) (by decide)) fun H1 e1 => ?_
      have E := E.trans e1
      refine q_yes (et_is (et_eq (a := 20) (b := 20) (ev_var rfl) ev_c) (by decide)) fun H1 e1 => ?_
      have E := E.trans e1
      exact s_retCall (ea_cons (ev_var rfl) (ea_cons (ev_a0 (ev_var rfl) (E _ _ ht)) ea_nil)) fun H2 e2 => ⟨i, reg, x, rfl, h.mono (E.trans e2), retL_weak k (E.trans e2)⟩
    · rename_i x y z
      have E : Ex H H := Ex.refl H
      refine q_no (et_is (et_eq (a := 21) (b := 18) (ev_var rfl) ev_c) (by decide)) fun H1 e1 => ?_
      have E := E.trans e1
      refine q_no (et_is (et_eq (a := 21) (b := 19) (ev_var rfl) ev_c) (by decide)) fun H1 e1 => ?_
      have E := E.trans e1
      refine q_no (et_is (et_eq (a := 21) (b := 20) (ev_var rfl) ev_c) (by decide)) fun H1 e1 => ?_
      have E := E.trans e1
      refine q_yes (et_is (et_eq (a := 21) (b := 21) (ev_var rfl) ev_c) (by decide)) fun H1 e1 => ?_
      have E := E.trans e1
      exact s_retCall (ea_cons (ev_var rfl) (ea_cons (ev_a0 (ev_var rfl) (E _ _ ht)) (ea_cons (ev_a1 (ev_var rfl) (E _ _ ht)) (ea_cons (ev_a2 (ev_var rfl) (E _ _ ht)) ea_nil)))) fun H2 e2 => ⟨i, reg, x, y, z, rfl, h.mono (E.trans e2), retL_weak k (E.trans e2)⟩
    · rename_i x y
      have E : Ex H H := Ex.refl H
      refine q_no (et_is (et_eq (a := 22) (b := 18) (ev_var rfl) ev_c) (by decide)) fun H1 e1 => ?_
      have E := E.trans e1
      refine q_no (et_is (et_eq (a := 22) (b := 19) (ev_var rfl) ev_c) (by decide)) fun H1 e1 => ?_
      have E := E.trans e1
      refine q_no (et_is (et_eq (a := 22) (b := 20) (ev_var rfl) ev_c) (by decide)) fun H1 e1 => ?_
      have E := E.trans e1
      refine q_no (et_is (et_eq (a := 22) (b := 21) (ev_var rfl) ev_c) (by decide)) fun H1 e1 => ?_
      have E := E.trans e1
      refine q_yes (et_is (et_eq (a := 22) (b := 22) (ev_var rfl) ev_c) (by decide)) fun H1 e1 => ?_
      have E := E.trans e1
      exact s_retCall (ea_cons (ev_var rfl) (ea_cons (ev_a0 (ev_var rfl) (E _ _ ht)) (ea_cons (ev_a1 (ev_var rfl) (E _ _ ht)) ea_nil))) fun H2 e2 => ⟨i, reg, x, y, rfl, h.mono (E.trans e2), retL_weak k (E.trans e2)⟩
    · have E : Ex H H := Ex.refl H
      refine q_no (et_is (et_eq (a := 23) (b := 18) (ev_var rfl) ev_c) (by decide)) fun H1 e1 => ?_
      have E := E.trans e1
      refine q_no (et_is (et_eq (a := 23) (b := 19) (ev_var rfl) ev_c) (by decide)) fun H1 e1 => ?_
      have E := E.trans e1
      refine q_no (et_is (et_eq (a := 23) (b := 20) (ev_var rfl) ev_c) (by decide)) fun H1 e1 => ?_
      have E := E.trans e1
      refine q_no (et_is (et_eq (a := 23) (b := 21) (ev_var rfl) ev_c) (by decide)) fun H1 e1 => ?_
      have E := E.trans e1
      refine q_no (et_is (et_eq (a := 23) (b := 22) (ev_var rfl) ev_c) (by decide)) fun H1 e1 => ?_
      have E := E.trans e1
      refine q_yes (et_is (et_eq (a := 23) (b := 23) (ev_var rfl) ev_c) (by decide)) fun H1 e1 => ?_
      have E := E.trans e1
      have es : resV (Km544.step (some reg) .isResolved).2 = [.int (if decide ((undecided reg.reports).length = 0) then 1 else 0)] := by
        have e0 : (Km544.step (some reg) .isResolved).2 = Km544.boolean (Km544.undecidedPairs reg == []) := rfl
        rw [e0, undecided_is h.wf]
        cases undecided reg.reports <;> rfl
      rw [es] at k
      refine s_retL (el_one (ev_intB (ev_eq (b := 0) (ev_opL1 (el_call (xs := nsV ((undecided reg.reports).length :: flatP (undecided reg.reports))) (ea_cons (ev_var rfl) ea_nil) fun H2 e2 Q q E2 => ⟨i, reg, rfl, h.mono (E.trans e2), q⟩) (fun H2 e2 => ev_c) (fun p H2 h2 e2 => rv_ixL (sq_of h2) (nsV_at (i := 0) (Nat.zero_lt_succ _)))) ev_c))) fun p H2 hp e2 h2 => k.go E hp e2 h2
    · have E : Ex H H := Ex.refl H
      refine q_no (et_is (et_eq (a := 24) (b := 18) (ev_var rfl) ev_c) (by decide)) fun H1 e1 => ?_
      have E := E.trans e1
      refine q_no (et_is (et_eq (a := 24) (b := 19) (ev_var rfl) ev_c) (by decide)) fun H1 e1 => ?_
      have E := E.trans e1
      refine q_no (et_is (et_eq (a := 24) (b := 20) (ev_var rfl) ev_c) (by decide)) fun H1 e1 => ?_
      have E := E.trans e1
      refine q_no (et_is (et_eq (a := 24) (b := 21) (ev_var rfl) ev_c) (by decide)) fun H1 e1 => ?_
      have E := E.trans e1
      refine q_no (et_is (et_eq (a := 24) (b := 22) (ev_var rfl) ev_c) (by decide)) fun H1 e1 => ?_
      have E := E.trans e1
      refine q_no (et_is (et_eq (a := 24) (b := 23) (ev_var rfl) ev_c) (by decide)) fun H1 e1 => ?_
      have E := E.trans e1
      exact s_retCall (ea_cons (ev_var rfl) ea_nil) fun H2 e2 => ⟨i, reg, rfl, h.mono (E.trans e2), retL_weak k (E.trans e2)⟩
/-! ### the desk -/
def deskF (v : V) : List (Str × V) := [("instance", v)]
theorem deskF_at (v : V) : (deskF v).lookup ("instance" : Str) = some v := lk_here
theorem deskF_no {v : V} {x : Str} (h1 : (x == ("instance" : Str)) = false) : (deskF v).lookup x = none := (lk_past h1).trans rfl
theorem deskF_put (v u : V) : putF "instance" u (deskF v) = deskF u := if_pos rfl
/-- a desk at d: fp, what a call may write -/
def DA (CD CI : Addr) (H : Hp) (d ddx : Addr) (fp : List Addr) : Km544.State → Prop
  | none => H d = some (.ins CD ddx (deskF .non)) ∧ fp = [d]
  | some reg => ∃ i dx r as, H d = some (.ins CD ddx (deskF (.ref i))) ∧ IM CI H i dx r as reg ∧ fp = d :: r :: as
theorem DA.obj {CD CI : Addr} {H : Hp} {d ddx : Addr} {fp : List Addr} : ∀ {s : Km544.State}, DA CD CI H d ddx fp s → ∃ v, H d = some (.ins CD ddx (deskF v))
  | none, h => ⟨_, h.1⟩
  | some _, ⟨_, _, _, _, h, _⟩ => ⟨_, h⟩
theorem DA.mono {CD CI : Addr} {H H' : Hp} {d ddx : Addr} {fp : List Addr} : ∀ {s : Km544.State}, DA CD CI H d ddx fp s → Ex H H' → DA CD CI H' d ddx fp s
  | none, h, e => ⟨e _ _ h.1, h.2⟩
  | some _, ⟨i, dx, r, as, h, im, hf⟩, e => ⟨i, dx, r, as, e _ _ h, im.mono e, hf⟩
theorem DA.mem {CD CI : Addr} {H : Hp} {d ddx : Addr} {fp : List Addr} : ∀ {s : Km544.State}, DA CD CI H d ddx fp s → d ∈ fp
  | none, h => by rw [h.2]; exact List.mem_cons_self
  | some _, ⟨i, dx, r, as, h, im, hf⟩ => by rw [hf]; exact List.mem_cons_self
def RetD (CD CI : Addr) (H : Hp) (d ddx : Addr) (fp : List Addr) (out : Km544.State × Km544.Result) (Q : VK) : Prop := ∀ (p : Addr) (H' : Hp) (fp' : List Addr), H p = none → H' p = some (.lst (resV out.2)) → DA CD CI H' d ddx fp' out.1 →
  (∀ b o, H b = some o → b ∉ fp → H' b = some o) → (∀ b ∈ fp', b ∈ fp ∨ H b = none) → Q (.ref p) H'
theorem RetD.weak {CD CI : Addr} {H H1 : Hp} {d ddx : Addr} {fp : List Addr} {out : Km544.State × Km544.Result} {Q : VK} (k : RetD CD CI H d ddx fp out Q) (e : Ex H H1) : RetD CD CI H1 d ddx fp out Q := fun p H' fp' h2 h3 h4 h5 h6 =>
  k p H' fp' (fresh_back e h2) h3 h4 (fun b o hb hn => h5 b o (e b o hb) hn) fun b hb => (h6 b hb).imp id (fresh_back e)
theorem RetD.same {CD CI : Addr} {H : Hp} {d ddx : Addr} {fp : List Addr} {s : Km544.State} {x : Km544.Result} {Q : VK} (h : DA CD CI H d ddx fp s) (k : RetD CD CI H d ddx fp (s, x) Q) : RetL (resV x) H Q := fun p H' hp e hq =>
  k p H' fp hp hq (h.mono e) (fun b o hb _ => e b o hb) fun b hb => .inl hb
/-- an instance of the desk is changed -/
theorem RetD.change {CD CI : Addr} {H : Hp} {d ddx i dx r : Addr} {as : List Addr} {reg : Registry} {out : Km544.State × Km544.Result} {Q : VK} (hd : H d = some (.ins CD ddx (deskF (.ref i)))) (im : IM CI H i dx r as reg) (k : RetD CD CI H d ddx (d :: r :: as) out Q) :
    RetM CI H i dx r as out Q := fun p H' as' reg' h1 h2 h3 h4 h5 h6 => by
  have nd : d ∉ r :: as := fun z => by
    obtain ⟨xs, q⟩ := im.ia.ll.tracked z
    rw [hd] at q
    cases q
  refine k p H' (d :: r :: as') h2 h3 ?_ (fun b o hb hn => h5 b o hb fun z => hn (List.mem_cons_of_mem _ z)) fun b hb => ?_
  · rw [h1]
    exact ⟨i, dx, r, as', h5 _ _ hd nd, h4, rfl⟩
  · rcases List.mem_cons.mp hb with rfl | hb
    · exact .inl List.mem_cons_self
    · rcases List.mem_cons.mp hb with rfl | hb
      · exact .inl (List.mem_cons_of_mem _ List.mem_cons_self)
      · exact (h6 b hb).imp (fun z => List.mem_cons_of_mem _ (List.mem_cons_of_mem _ z)) id
/-! ### making -/
def sp_Instance_init (CI : Addr) : Sp := fun vs H Q _ => ∃ (p dx : Addr) (m : Nat), vs = [.ref p, nV m] ∧ H p = some (.ins CI dx []) ∧
  ∀ (H' : Hp) (r : Addr), H r = none → H' p = some (.ins CI dx (instF m r)) → H' r = some (.lst []) → (∀ b o, H b = some o → b ≠ p → H' b = some o) → Q .non H'
theorem instF_new (m : Nat) (r : Addr) : putF "reports" (.ref r) (putF "many" (nV m) []) = instF m r := (if_neg (by decide +kernel)).trans rfl
theorem ok_Instance_init (F : Fun K "__init__" "Instance.__init__" s_Instance___init__ f fd) (T : Txt K mg CI CD aS) : FnOk P w K mg base CX0 1 f fd p_Instance___init__ (sp_Instance_init CI) := by
  refine F.ok sc_Instance___init__ (fun vs H Q E h => ?_) (fun cdv A outer s H vs Q E hr h => ?_)
  · obtain ⟨p, dx, m, rfl, _⟩ := h
    rfl
  · obtain ⟨p, dx, m, rfl, hp, k⟩ := h
    refine ⟨_, (pss_cons (ps_fld (pv 0) (pv 1) rfl) (pss_one (ps_fld (pv 0) (pe_lst pa_nil) rfl))), ?_⟩
    refine ⟨_, rfl, _, rfl, p, CI, dx, [], rfl, hp, T.clInstance, T.nMany, (by show 0 < 1000; decide), ?_⟩
    refine ⟨Nat.zero_le _, fun r hr => ?_⟩
    have npr : p ≠ r := fun e => by
      rw [e, upd_same] at hr
      cases hr
    have hr0 : H r = none := by
      rw [upd_ne npr.symm] at hr
      exact hr
    refine ⟨_, rfl, p, CI, dx, _, rfl, (upd_ne npr).trans upd_same, T.clInstance, T.nReports, (by show 1 < 1000; decide), ?_⟩
    refine k _ r hr0 ?_ ?_ fun b o hb hn => ?_
    · rw [upd_same, instF_new]
    · rw [upd_ne npr.symm, upd_same]
    · rw [upd_ne hn, upd_ne (ne_of_none hb hr0), upd_ne hn]
      exact hb
def sp_Desk_init (CD : Addr) : Sp := fun vs H Q _ => ∃ (p dx : Addr), vs = [.ref p] ∧ H p = some (.ins CD dx []) ∧ ∀ (H' : Hp), H' p = some (.ins CD dx (deskF .non)) → (∀ b o, H b = some o → b ≠ p → H' b = some o) → Q .non H'
theorem ok_Desk_init (F : Fun K "__init__" "Desk.__init__" s_Desk___init__ f fd) (T : Txt K mg CI CD aS) : FnOk P w K mg base CX0 1 f fd p_Desk___init__ (sp_Desk_init CD) := by
  refine F.ok sc_Desk___init__ (fun vs H Q E h => ?_) (fun cdv A outer s H vs Q E hr h => ?_)
  · obtain ⟨p, dx, rfl, _⟩ := h
    rfl
  · obtain ⟨p, dx, rfl, hp, k⟩ := h
    refine ⟨_, (pss_one (ps_fld (pv 0) pe_non rfl)), ?_⟩
    refine ⟨_, rfl, p, CD, dx, [], rfl, hp, T.clDesk, T.nInst, (by show 0 < 1000; decide), ?_⟩
    exact k _ upd_same fun b o hb hn => by
      rw [upd_ne hn]
      exact hb
def sp_create (CD CI : Addr) : Sp := fun vs H Q _ => ∃ (d ddx : Addr) (fp : List Addr) (s : Km544.State) (m : Nat), vs = [.ref d, nV m] ∧ DA CD CI H d ddx fp s ∧ RetD CD CI H d ddx fp (Km544.step s (.create m)) Q
theorem ok_create (F : Fun K "create" "Desk.create" s_Desk_create f fd) (T : Txt K mg CI CD aS) (C_Instance___init__ : Mkd P w K mg base 1 CI "Instance" p_Instance___init__ (sp_Instance_init CI)) : FnOk P w K mg base CX0 3 f fd p_Desk_create (sp_create CD CI) := by
  refine F.ok sc_Desk_create (fun vs H Q E h => ?_) (fun cdv A outer sh H vs Q E hr h => ?_)
  · obtain ⟨d, ddx, fp, s, m, rfl, _⟩ := h
    rfl
  · obtain ⟨d, ddx, fp, s, m, rfl, h, k⟩ := h
    have es : Km544.step s (.create m) = if m = 0 ∨ 5 < m then (s, Km544.error (-22)) else (some ⟨m, []⟩, Km544.number 0) := rfl
    rw [es] at k
    refine ⟨_, (pss_cons (ps_if (pt_not (pt_chain op_le op_le pe_int (pv 1) pe_int)) (pss_one (ps_ret (pe_lst (pa_cons (pe_un un_neg pe_int) pa_nil)))) pss_nil) (pss_cons (ps_fld (pv 0) (pe_mk C_Instance___init__ (hr.mono (by decide)) (by rfl) (pa_cons (pv 1) pa_nil)) rfl) (pss_one (ps_ret (pe_lst (pa_cons pe_int pa_nil)))))), ?_⟩
    refine q_when (et_not (et_test (ev_chain (a := 1) (b := m) (c := 5) ev_c (ev_var rfl) ev_c))) (fun hb H1 e1 => ?_) (fun hb H1 e1 => ?_)
    · have c : m = 0 ∨ 5 < m := by
        simp only [Bool.not_eq_true', Bool.and_eq_false_iff, decide_eq_false_iff_not] at hb
        omega
      rw [if_pos c] at k
      exact s_retL el_err fun p H2 hp e2 h2 => (RetD.same h k).go e1 hp e2 h2
    · have c : ¬ (m = 0 ∨ 5 < m) ∧ m ≤ 5 := by
        simp only [Bool.not_eq_false', Bool.and_eq_true, decide_eq_true_eq] at hb
        omega
      rw [if_neg c.1] at k
      obtain ⟨v, hd⟩ := (h.mono e1).obj
      refine ⟨_, rfl, fun x dx nx ndx nex => ⟨x, dx, m, rfl, upd_same, fun H2 r hr hx hrl keep => ⟨rfl, ?_⟩⟩⟩
      have dnx : d ≠ x := ne_of_none hd nx
      have k1 : ∀ b o, H1 b = some o → H2 b = some o := fun b o hb => by
        refine keep b o ?_ (ne_of_none hb nx)
        rw [upd_ne (ne_of_none hb nx), upd_ne (ne_of_none hb ndx)]
        exact hb
      have hr1 : H1 r = none := by
        cases z : H1 r with
        | none => rfl
        | some o =>
          rw [upd_ne (ne_of_none z nx), upd_ne (ne_of_none z ndx), z] at hr
          cases hr
      have dnr : d ≠ r := ne_of_none hd hr1
      have rnx : r ≠ x := fun e => by
        rw [e, upd_same] at hr
        cases hr
      refine ⟨_, rfl, d, CD, ddx, _, rfl, k1 _ _ hd, T.clDesk, T.nInst, (by show 1 < 1000; decide), ?_⟩
      rw [deskF_put]
      refine s_retL (σ := [some (.ref d), some (nV m)]) (el_one (v := .int 0) ev_c) fun p H3 hp e3 h3 => ?_
      have hp0 : H1 p = none := by
        cases z : H1 p with
        | none => rfl
        | some o =>
          by_cases q : p = d
          · rw [q, upd_same] at hp
            cases hp
          · rw [upd_ne q, k1 _ _ z] at hp
            cases hp
      refine k p H3 (d :: r :: []) (fresh_back e1 hp0) h3 ⟨x, dx, r, [], e3 _ _ upd_same, ⟨⟨e3 _ _ ?_, ⟨e3 _ _ ?_, rfl, fun i hi => absurd hi (Nat.not_lt_zero _)⟩, ⟨Nat.zero_le _, c.2, fun z hz => by cases hz⟩⟩, by simp⟩, rfl⟩ (fun b o hb hn => e3 _ _ ?_) fun b hb => ?_
      · rw [upd_ne dnx.symm]
        exact hx
      · rw [upd_ne dnr.symm]
        exact hrl
      · rw [upd_ne (fun e => hn (by rw [e]; exact h.mem))]
        exact k1 _ _ (e1 _ _ hb)
      · rcases List.mem_cons.mp hb with rfl | hb
        · exact .inl h.mem
        · rw [List.mem_singleton.mp hb]
          exact .inr (fresh_back e1 hr1)
/-! ### answer -/
def sp_answer (CD CI : Addr) : Sp := fun vs H Q _ => ∃ (d ddx : Addr) (fp : List Addr) (s : Km544.State) (t : Addr) (n : Nat) (args : List Nat) (c : Km544.Call), vs = [.ref d, nV n, .ref t] ∧ DA CD CI H d ddx fp s ∧ H t = some (.lst (nsV args)) ∧ CallIs n args c ∧ RetD CD CI H d ddx fp (Km544.step s c) Q
theorem ok_answer (F : Fun K "answer" "answer" s_answer f fd) (T : Txt K mg CI CD aS) (C_Desk_create : Met P w K mg base 3 CD "create" p_Desk_create (sp_create CD CI)) (C_change : Cal P w K mg base 4 "change" p_change (sp_change CI)) (C_ask_reports : Cal P w K mg base 4 "ask_reports" p_ask_reports (sp_ask_reports CI))
    (C_ask_groupings : Cal P w K mg base 8 "ask_groupings" p_ask_groupings (sp_ask_groupings CI)) (C_ask_more : Cal P w K mg base 8 "ask_more" p_ask_more (sp_ask_more CI)) : FnOk P w K mg base CX0 9 f fd p_answer (sp_answer CD CI) := by
  refine F.ok sc_answer (fun vs H Q E h => ?_) (fun cdv A outer sh H vs Q E hr h => ?_)
  · obtain ⟨d, ddx, fp, s, t, n, args, c, rfl, _⟩ := h
    rfl
  · obtain ⟨d, ddx, fp, s, t, n, args, c, rfl, h, ht, hc, k⟩ := h
    refine ⟨_, (pss_cons (ps_if (pt_cmpR op_eq (pv 1) pe_int (nomark _)) (pss_one (ps_ret (pe_met C_Desk_create T.clDesk (hr.mono (by decide)) (pv 0) (pa_cons (pe_ix ix_list (pv 2) pe_int (fun _ _ => rfl)) pa_nil)))) pss_nil) (pss_cons (ps_if (pt_cmp (pc_isN (pe_fld (pv 0) rfl)) rfl) (pss_one (ps_ret (pe_lst (pa_cons (pe_un un_neg pe_int) pa_nil)))) pss_nil) (pss_cons (ps_if (pt_cmpR op_in_seq (pv 1) (pe_tup (pa_cons pe_int (pa_cons pe_int (pa_cons pe_int (pa_cons pe_int (pa_cons pe_int pa_nil)))))) (by rfl)) (pss_one (ps_ret (pe_cal C_change (hr.mono (by decide)) (by rfl) (pa_cons (pe_fld (pv 0) rfl) (pa_cons (pv 1) (pa_cons (pv 2) pa_nil)))))) pss_nil) (pss_cons (ps_if (pt_cmpR op_lt (pv 1) pe_int (nomark _)) (pss_one (ps_ret (pe_cal C_ask_reports (hr.mono (by decide)) (by rfl) (pa_cons (pe_fld (pv 0) rfl) (pa_cons (pv 1) (pa_cons (pv 2) pa_nil)))))) pss_nil) (pss_cons (ps_if (pt_cmpR op_lt (pv 1) pe_int (nomark _)) (pss_one (ps_ret (pe_cal C_ask_groupings (hr.mono (by decide)) (by rfl) (pa_cons (pe_fld (pv 0) rfl) (pa_cons (pv 1) (pa_cons (pv 2) pa_nil)))))) pss_nil) (pss_one (ps_ret (pe_cal C_ask_more (hr.mono (by decide)) (by rfl) (pa_cons (pe_fld (pv 0) rfl) (pa_cons (pv 1) (pa_cons (pv 2) pa_nil))))))))))), ?_⟩
    by_cases c0 : n = 0
    · subst c0
      refine q_yes (et_is (et_eq (a := 0) (b := 0) (ev_var rfl) ev_c) (by decide)) fun H1 e1 => ?_
      cases hc
      obtain ⟨v, hd⟩ := (h.mono e1).obj
      exact s_retMeth (ev_var rfl) hd (deskF_no (by decide +kernel)) (ea_cons (ev_a0 (ev_var rfl) (e1 _ _ ht)) ea_nil) fun H2 e2 => ⟨d, ddx, fp, s, _, rfl, h.mono (e1.trans e2), k.weak (e1.trans e2)⟩
    · refine q_no (et_is (et_eq (a := n) (b := 0) (ev_var rfl) ev_c) (decide_eq_false c0)) fun H1 e1 => ?_
      cases s with
      | none =>
        obtain ⟨hd, hf⟩ := h
        refine q_yes (et_B (ev_isN (ev_fld (v := .non) (ev_var rfl) (e1 _ _ hd) T.clDesk T.nInst (deskF_at _)))) fun H2 e2 => ?_
        rw [hc.step_none c0] at k
        exact s_retL el_err fun p H3 hp e3 h3 => (RetD.same (s := none) ⟨hd, hf⟩ k).go (e1.trans e2) hp e3 h3
      | some reg =>
        obtain ⟨i, dx, r, as, hd, im, rfl⟩ := h
        have hinst : ∀ H1, Ex H H1 → Ev (tFld K (tVar 0) "instance") (L2.start n_answer [V.ref d, nV n, V.ref t]) H1 (.ref i) := fun H1 e1 => ev_fld (v := .ref i) (ev_var rfl) (e1 _ _ hd) T.clDesk T.nInst (deskF_at _)
        refine q_no (et_B (ev_isN (hinst H1 e1))) fun H2 e2 => ?_
        have E := e1.trans e2
        have hset : EvT (tTest (tOp (rIn K false) (tVar 1) (tTup (tCons (tC (.int 1)) (tCons (tC (.int 2)) (tCons (tC (.int 3)) (tCons (tC (.int 4)) (tCons (tC (.int 7)) tNil)))))))) (L2.start n_answer [V.ref d, nV n, V.ref t]) H2 (decide (n ∈ [1, 2, 3, 4, 7])) :=
          et_test (ev_is (ev_inU (xs := nsV [1, 2, 3, 4, 7]) (ev_var (v := nV n) rfl) (eu_tup (ea_cons ev_c (ea_cons ev_c (ea_cons ev_c (ea_cons ev_c (ea_cons ev_c ea_nil))))) (by show 5 ≤ 100000; decide)) rfl (flat_nsV _)) (by rw [in_nsV]))
        by_cases c1 : n ∈ [1, 2, 3, 4, 7]
        · refine q_yes (et_is hset (decide_eq_true c1)) fun H3 e3 => ?_
          have hn : n = 1 ∨ n = 2 ∨ n = 3 ∨ n = 4 ∨ n = 7 := by
            simp only [List.mem_cons, List.not_mem_nil, or_false] at c1
            exact c1
          exact s_retCall (ea_cons (hinst H3 (E.trans e3)) (ea_cons (ev_var rfl) (ea_cons (ev_var rfl) ea_nil))) fun H4 e4 => ⟨i, dx, r, as, reg, t, n, args, c, rfl, im.mono ((E.trans e3).trans e4), ((E.trans e3).trans e4) _ _ ht, hc, hn, (RetD.change hd im k).weak ((E.trans e3).trans e4)⟩
        · refine q_no (et_is hset (decide_eq_false c1)) fun H3 e3 => ?_
          have E := E.trans e3
          have hk := hc.keeps (reg := reg) c0 c1
          have k2 : RetL (resV (Km544.step (some reg) c).2) H Q := by
            refine RetD.same (s := some reg) ⟨i, dx, r, as, hd, im, rfl⟩ ?_
            have z : (some reg, (Km544.step (some reg) c).2) = Km544.step (some reg) c := Prod.ext hk.symm rfl
            rw [z]
            exact k
          have h24 := hc.le
          have hn : n ≠ 1 ∧ n ≠ 2 ∧ n ≠ 3 ∧ n ≠ 4 ∧ n ≠ 7 := by
            simp only [List.mem_cons, List.not_mem_nil, or_false, not_or] at c1
            exact c1
          by_cases c2 : n < 10
          · refine q_yes (et_is (et_lt (a := n) (b := 10) (ev_var rfl) ev_c) (decide_eq_true c2)) fun H4 e4 => ?_
            exact s_retCall (ea_cons (hinst H4 (E.trans e4)) (ea_cons (ev_var rfl) (ea_cons (ev_var rfl) ea_nil))) fun H5 e5 => ⟨i, reg, t, n, args, c, rfl, im.p.mono ((E.trans e4).trans e5), ((E.trans e4).trans e5) _ _ ht, hc, by omega, retL_weak k2 ((E.trans e4).trans e5)⟩
          · refine q_no (et_is (et_lt (a := n) (b := 10) (ev_var rfl) ev_c) (decide_eq_false c2)) fun H4 e4 => ?_
            have E := E.trans e4
            by_cases c3 : n < 18
            · refine q_yes (et_is (et_lt (a := n) (b := 18) (ev_var rfl) ev_c) (decide_eq_true c3)) fun H5 e5 => ?_
              exact s_retCall (ea_cons (hinst H5 (E.trans e5)) (ea_cons (ev_var rfl) (ea_cons (ev_var rfl) ea_nil))) fun H6 e6 => ⟨i, reg, t, n, args, c, rfl, im.p.mono ((E.trans e5).trans e6), ((E.trans e5).trans e6) _ _ ht, hc, by omega, retL_weak k2 ((E.trans e5).trans e6)⟩
            · refine q_no (et_is (et_lt (a := n) (b := 18) (ev_var rfl) ev_c) (decide_eq_false c3)) fun H5 e5 => ?_
              exact s_retCall (ea_cons (hinst H5 (E.trans e5)) (ea_cons (ev_var rfl) (ea_cons (ev_var rfl) ea_nil))) fun H6 e6 => ⟨i, reg, t, n, args, c, rfl, im.p.mono ((E.trans e5).trans e6), ((E.trans e5).trans e6) _ _ ht, hc, by omega, retL_weak k2 ((E.trans e5).trans e6)⟩
end
end Hr
/-! Hk: the calls read off the list; the last def. -/
namespace Hr
open PySem PySem.Spec PyProof.Rows L2 Evl
open Km544 (Registry)
theorem shape_some {p : Int} {n k : Nat} (h : PyKm544.shape p = some (n, k)) : ∃ q : Nat, p = Int.ofNat q ∧ q < 25 ∧ k = 0 ∧ sizesN.getD q 0 = n := by
  by_cases e0 : p = 0
  · subst e0
    have z : PyKm544.shape 0 = some (1, 0) := rfl
    rw [z] at h
    cases h
    exact ⟨0, rfl, by decide, rfl, rfl⟩
  by_cases e1 : p = 1
  · subst e1
    have z : PyKm544.shape 1 = some (0, 0) := rfl
    rw [z] at h
    cases h
    exact ⟨1, rfl, by decide, rfl, rfl⟩
  by_cases e2 : p = 2
  · subst e2
    have z : PyKm544.shape 2 = some (1, 0) := rfl
    rw [z] at h
    cases h
    exact ⟨2, rfl, by decide, rfl, rfl⟩
  by_cases e3 : p = 3
  · subst e3
    have z : PyKm544.shape 3 = some (3, 0) := rfl
    rw [z] at h
    cases h
    exact ⟨3, rfl, by decide, rfl, rfl⟩
  by_cases e4 : p = 4
  · subst e4
    have z : PyKm544.shape 4 = some (2, 0) := rfl
    rw [z] at h
    cases h
    exact ⟨4, rfl, by decide, rfl, rfl⟩
  by_cases e5 : p = 5
  · subst e5
    have z : PyKm544.shape 5 = some (2, 0) := rfl
    rw [z] at h
    cases h
    exact ⟨5, rfl, by decide, rfl, rfl⟩
  by_cases e6 : p = 6
  · subst e6
    have z : PyKm544.shape 6 = some (1, 0) := rfl
    rw [z] at h
    cases h
    exact ⟨6, rfl, by decide, rfl, rfl⟩
  by_cases e7 : p = 7
  · subst e7
    have z : PyKm544.shape 7 = some (2, 0) := rfl
    rw [z] at h
    cases h
    exact ⟨7, rfl, by decide, rfl, rfl⟩
  by_cases e8 : p = 8
  · subst e8
    have z : PyKm544.shape 8 = some (2, 0) := rfl
    rw [z] at h
    cases h
    exact ⟨8, rfl, by decide, rfl, rfl⟩
  by_cases e9 : p = 9
  · subst e9
    have z : PyKm544.shape 9 = some (2, 0) := rfl
    rw [z] at h
    cases h
    exact ⟨9, rfl, by decide, rfl, rfl⟩
  by_cases e10 : p = 10
  · subst e10
    have z : PyKm544.shape 10 = some (0, 0) := rfl
    rw [z] at h
    cases h
    exact ⟨10, rfl, by decide, rfl, rfl⟩
  by_cases e11 : p = 11
  · subst e11
    have z : PyKm544.shape 11 = some (0, 0) := rfl
    rw [z] at h
    cases h
    exact ⟨11, rfl, by decide, rfl, rfl⟩
  by_cases e12 : p = 12
  · subst e12
    have z : PyKm544.shape 12 = some (1, 0) := rfl
    rw [z] at h
    cases h
    exact ⟨12, rfl, by decide, rfl, rfl⟩
  by_cases e13 : p = 13
  · subst e13
    have z : PyKm544.shape 13 = some (2, 0) := rfl
    rw [z] at h
    cases h
    exact ⟨13, rfl, by decide, rfl, rfl⟩
  by_cases e14 : p = 14
  · subst e14
    have z : PyKm544.shape 14 = some (1, 0) := rfl
    rw [z] at h
    cases h
    exact ⟨14, rfl, by decide, rfl, rfl⟩
  by_cases e15 : p = 15
  · subst e15
    have z : PyKm544.shape 15 = some (0, 0) := rfl
    rw [z] at h
    cases h
    exact ⟨15, rfl, by decide, rfl, rfl⟩
  by_cases e16 : p = 16
  · subst e16
    have z : PyKm544.shape 16 = some (1, 0) := rfl
    rw [z] at h
    cases h
    exact ⟨16, rfl, by decide, rfl, rfl⟩
  by_cases e17 : p = 17
  · subst e17
    have z : PyKm544.shape 17 = some (0, 0) := rfl
    rw [z] at h
    cases h
    exact ⟨17, rfl, by decide, rfl, rfl⟩
  by_cases e18 : p = 18
  · subst e18
    have z : PyKm544.shape 18 = some (0, 0) := rfl
    rw [z] at h
    cases h
    exact ⟨18, rfl, by decide, rfl, rfl⟩
  by_cases e19 : p = 19
  · subst e19
    have z : PyKm544.shape 19 = some (0, 0) := rfl
    rw [z] at h
    cases h
    exact ⟨19, rfl, by decide, rfl, rfl⟩
  by_cases e20 : p = 20
  · subst e20
    have z : PyKm544.shape 20 = some (1, 0) := rfl
    rw [z] at h
    cases h
    exact ⟨20, rfl, by decide, rfl, rfl⟩
  by_cases e21 : p = 21
  · subst e21
    have z : PyKm544.shape 21 = some (3, 0) := rfl
    rw [z] at h
    cases h
    exact ⟨21, rfl, by decide, rfl, rfl⟩
  by_cases e22 : p = 22
  · subst e22
    have z : PyKm544.shape 22 = some (2, 0) := rfl
    rw [z] at h
    cases h
    exact ⟨22, rfl, by decide, rfl, rfl⟩
  by_cases e23 : p = 23
  · subst e23
    have z : PyKm544.shape 23 = some (0, 0) := rfl
    rw [z] at h
    cases h
    exact ⟨23, rfl, by decide, rfl, rfl⟩
  by_cases e24 : p = 24
  · subst e24
    have z : PyKm544.shape 24 = some (0, 0) := rfl
    rw [z] at h
    cases h
    exact ⟨24, rfl, by decide, rfl, rfl⟩
  unfold PyKm544.shape at h
  rw [if_neg e0, if_neg e1, if_neg e2, if_neg e3, if_neg e4, if_neg e5, if_neg e6, if_neg e7, if_neg e8, if_neg e9, if_neg e10, if_neg e11, if_neg e12, if_neg e13, if_neg e14, if_neg e15, if_neg e16, if_neg e17, if_neg e18, if_neg e19, if_neg e20, if_neg e21, if_neg e22, if_neg e23, if_neg e24] at h
  cases h
theorem len0 {l : List Nat} (h : l.length = 0) : l = [] := List.length_eq_zero_iff.mp h
theorem len1 : ∀ {l : List Nat}, l.length = 1 → ∃ x, l = [x]
  | [x], _ => ⟨x, rfl⟩
  | [], h => by cases h
  | _ :: _ :: _, h => by
    rw [List.length_cons, List.length_cons] at h
    omega
theorem len2 : ∀ {l : List Nat}, l.length = 2 → ∃ x y, l = [x, y]
  | [], h => by cases h
  | x :: l, h => by
    rw [List.length_cons] at h
    obtain ⟨y, rfl⟩ := len1 (l := l) (by omega)
    exact ⟨x, y, rfl⟩
theorem len3 : ∀ {l : List Nat}, l.length = 3 → ∃ x y z, l = [x, y, z]
  | [], h => by cases h
  | x :: l, h => by
    rw [List.length_cons] at h
    obtain ⟨y, z, rfl⟩ := len2 (l := l) (by omega)
    exact ⟨x, y, z, rfl⟩
theorem call_is : ∀ (q : Nat) (args : List Nat), q < 25 → args.length = sizesN.getD q 0 → ∃ c, CallIs q args c ∧ Km544Neutral.parseCall (PyKm544.whole [Int.ofNat q :: args.map Int.ofNat]) = some c
  | 0, args, _, h => by
    obtain ⟨x, rfl⟩ := len1 h
    exact ⟨_, .create x, rfl⟩
  | 1, args, _, h => by
    obtain rfl := len0 h
    exact ⟨_, .addReport, rfl⟩
  | 2, args, _, h => by
    obtain ⟨x, rfl⟩ := len1 h
    exact ⟨_, .removeReport x, rfl⟩
  | 3, args, _, h => by
    obtain ⟨x, y, z, rfl⟩ := len3 h
    exact ⟨_, .setAttribute x y z, rfl⟩
  | 4, args, _, h => by
    obtain ⟨x, y, rfl⟩ := len2 h
    exact ⟨_, .clearAttribute x y, rfl⟩
  | 5, args, _, h => by
    obtain ⟨x, y, rfl⟩ := len2 h
    exact ⟨_, .getAttribute x y, rfl⟩
  | 6, args, _, h => by
    obtain ⟨x, rfl⟩ := len1 h
    exact ⟨_, .getReport x, rfl⟩
  | 7, args, _, h => by
    obtain ⟨x, y, rfl⟩ := len2 h
    exact ⟨_, .mergeReports x y, rfl⟩
  | 8, args, _, h => by
    obtain ⟨x, y, rfl⟩ := len2 h
    exact ⟨_, .areDifferent x y, rfl⟩
  | 9, args, _, h => by
    obtain ⟨x, y, rfl⟩ := len2 h
    exact ⟨_, .conflictingAttributes x y, rfl⟩
  | 10, args, _, h => by
    obtain rfl := len0 h
    exact ⟨_, .minHouseholds, rfl⟩
  | 11, args, _, h => by
    obtain rfl := len0 h
    exact ⟨_, .firstGrouping, rfl⟩
  | 12, args, _, h => by
    obtain ⟨x, rfl⟩ := len1 h
    exact ⟨_, .groupingCount x, rfl⟩
  | 13, args, _, h => by
    obtain ⟨x, y, rfl⟩ := len2 h
    exact ⟨_, .getGrouping x y, rfl⟩
  | 14, args, _, h => by
    obtain ⟨x, rfl⟩ := len1 h
    exact ⟨_, .getHousehold x, rfl⟩
  | 15, args, _, h => by
    obtain rfl := len0 h
    exact ⟨_, .largestDistinctSet, rfl⟩
  | 16, args, _, h => by
    obtain ⟨x, rfl⟩ := len1 h
    exact ⟨_, .isSufficient x, rfl⟩
  | 17, args, _, h => by
    obtain rfl := len0 h
    exact ⟨_, .smallestSufficientSet, rfl⟩
  | 18, args, _, h => by
    obtain rfl := len0 h
    exact ⟨_, .essentialAttributes, rfl⟩
  | 19, args, _, h => by
    obtain rfl := len0 h
    exact ⟨_, .undecidedPairs, rfl⟩
  | 20, args, _, h => by
    obtain ⟨x, rfl⟩ := len1 h
    exact ⟨_, .possibleDuplicates x, rfl⟩
  | 21, args, _, h => by
    obtain ⟨x, y, z, rfl⟩ := len3 h
    exact ⟨_, .minHouseholdsIf x y z, rfl⟩
  | 22, args, _, h => by
    obtain ⟨x, y, rfl⟩ := len2 h
    exact ⟨_, .worstUndecidedIfAsked x y, rfl⟩
  | 23, args, _, h => by
    obtain rfl := len0 h
    exact ⟨_, .isResolved, rfl⟩
  | 24, args, _, h => by
    obtain rfl := len0 h
    exact ⟨_, .summary, rfl⟩
  | q + 25, _, h, _ => by omega
theorem parse_step {f : Nat} {p : Int} {r : List Int} {cs : List (List (List Int))} (h : PyFlat.calls PyKm544.shape f (p :: r) = some cs) :
    ∃ f' n cs', PyKm544.shape p = some (n, 0) ∧ n ≤ r.length ∧ cs = [p :: r.take n] :: cs' ∧ PyFlat.calls PyKm544.shape f' (r.drop n) = some cs' := by
  cases f with
  | zero => cases h
  | succ f =>
    unfold PyFlat.calls at h
    cases e : PyKm544.shape p with
    | none =>
      simp only [PyFlat.call, e] at h
      cases h
    | some nk =>
      obtain ⟨n, k⟩ := nk
      obtain ⟨q, _, _, rfl, _⟩ := shape_some e
      simp only [PyFlat.call, e] at h
      by_cases c : r.length < n
      · simp only [if_pos c] at h
        cases h
      · simp only [if_neg c, PyFlat.rows] at h
        cases e2 : PyFlat.calls PyKm544.shape f (r.drop n) with
        | none =>
          rw [e2] at h
          cases h
        | some cs' =>
          rw [e2] at h
          exact ⟨f, n, cs', rfl, Nat.le_of_not_lt c, (Option.some.inj h).symm, e2⟩
/-- what is due from a state on -/
def due (s : Km544.State) (cs : List (List (List Int))) : List Int := PyFlat.told (PyFlat.played Km544Neutral.step s (cs.map PyKm544.whole))
def outI (x : Km544.Result) : List Int := x.num :: x.nums
theorem due_step {s : Km544.State} {c0 : List (List Int)} {cs : List (List (List Int))} {c : Km544.Call} (h : Km544Neutral.parseCall (PyKm544.whole c0) = some c) : due s (c0 :: cs) = ((outI (Km544.step s c).2).length : Int) :: outI (Km544.step s c).2 ++ due (Km544.step s c).1 cs := by
  have e : Km544Neutral.step s (PyKm544.whole c0) = ((Km544.step s c).1, outI (Km544.step s c).2) := by
    unfold Km544Neutral.step
    rw [h]
    rfl
  unfold due
  rw [List.map_cons]
  show PyFlat.told ((Km544Neutral.step s (PyKm544.whole c0)).2 :: PyFlat.played Km544Neutral.step (Km544Neutral.step s (PyKm544.whole c0)).1 (cs.map PyKm544.whole)) = _
  rw [e]
  rfl
theorem asked_is {l : List Int} (h : PyKm544.answers_asked l = true) : ∃ raw, PyFlat.calls PyKm544.shape l.length l = some raw ∧ PyKm544.answers l = due none raw ∧ (PyKm544.answers l).length ≤ 10000000 := by
  have e2 : PyKm544.answers l = match PyFlat.calls PyKm544.shape l.length l with | none => [] | some cs => PyFlat.told (PyFlat.played Km544Neutral.step Km544Neutral.start (cs.map PyKm544.whole)) := by
    unfold PyKm544.answers PyKm544.calls
    cases PyFlat.calls PyKm544.shape l.length l <;> rfl
  unfold PyKm544.answers_asked at h
  cases e : PyFlat.calls PyKm544.shape l.length l with
  | none =>
    rw [e] at h
    cases h
  | some raw =>
    rw [e] at h e2
    refine ⟨raw, rfl, e2, ?_⟩
    simp only [Bool.and_eq_true] at h
    exact of_decide_eq_true h.2
theorem getD_drop {l : List Nat} {i : Nat} (h : i < l.length) : l.drop i = l.getD i 0 :: l.drop (i + 1) := by
  rw [List.getD_eq_getElem?_getD, List.getElem?_eq_getElem h]
  exact List.drop_eq_getElem_cons h
theorem cut_is {l : List Nat} {i n : Nat} (h : i + 1 + n ≤ l.length) : cutV (nsV l) (some ((i + 1 : Nat) : Int)) (some ((i + 1 + n : Nat) : Int)) = nsV ((l.drop (i + 1)).take n) := by
  unfold cutV
  rw [HT.sIx_nat, HT.sIx_nat, nsV_len, Nat.min_eq_left (show i + 1 ≤ l.length by omega), Nat.min_eq_left h]
  have e : i + 1 + n - (i + 1) = n := by omega
  rw [e]
  unfold nsV
  rw [List.map_take, List.map_drop]
/-! ### frames -/
theorem LLa.frame {H H' : Hp} {a : Addr} {as : List Addr} {rows : List (List Nat)} (h : LLa H a as rows) (k : ∀ b o, H b = some o → b ∈ a :: as → H' b = some o) : LLa H' a as rows :=
  ⟨k _ _ h.1 List.mem_cons_self, h.2.1, fun i hi => by
    obtain ⟨p, h1, h2⟩ := h.2.2 i hi
    exact ⟨p, h1, k _ _ h2 (List.mem_cons_of_mem _ (List.mem_of_getElem? h1))⟩⟩
theorem DA.upd {CD CI : Addr} {H : Hp} {d ddx l : Addr} {fp : List Addr} {xs : List V} {o : HO} (hl : H l = some (.lst xs)) : ∀ {s : Km544.State}, DA CD CI H d ddx fp s → l ∉ fp → DA CD CI (upd H l o) d ddx fp s
  | none, ⟨hd, hf⟩, hn => ⟨by
    rw [upd_ne (fun e => hn (by rw [hf, e]; exact List.mem_cons_self))]
    exact hd, hf⟩
  | some reg, ⟨i, dx, r, as, hd, im, hf⟩, hn => by
    have nd : ∀ {b}, b ∈ fp → b ≠ l := fun hb e => hn (by rw [← e]; exact hb)
    have ni : i ≠ l := ne_of im.ia.obj hl (by intro z; cases z)
    refine ⟨i, dx, r, as, ?_, ⟨⟨?_, im.ia.ll.frame fun b o hb hm => ?_, im.ia.ro⟩, im.nd⟩, hf⟩
    · rw [upd_ne (nd (by rw [hf]; exact List.mem_cons_self))]
      exact hd
    · rw [upd_ne ni]
      exact im.ia.obj
    · rw [upd_ne (nd (by rw [hf]; exact List.mem_cons_of_mem _ hm))]
      exact hb
section
variable {K : PySem.W.Frag} {σ : L2.St} {H H' : Hp} {ta tb te : TE} {D : Ends} {tz : TS}
theorem q_appZ {l : Addr} {xs : List V} {v : V} (hl : H l = some (.lst xs)) (ha : Ev ta σ H (.ref l)) (h : Ev te σ H v) (hz : xs.length < sizeLine) (k : ∀ H1, Ex H H1 → tz D σ (upd H1 l (.lst (xs ++ [v])))) :
    tSeq (tDrop (tBM K "list" rAppend ta (tCons te tNil))) tz D σ H := ha H (Ex.refl H) _ fun H1 e1 =>
  ⟨Or.inl ⟨rfl, xs, sq_of (e1 l _ hl)⟩, h H1 e1 _ fun H2 e2 => ⟨l, xs, v, rfl, rfl, e2 l _ (e1 l _ hl), hz, k H2 (e1.trans e2)⟩⟩
theorem q_extZ {l b : Addr} {xs zs : List V} (hl : H l = some (.lst xs)) (hb : H b = some (.lst zs)) (ha : Ev ta σ H (.ref l)) (h : Ev te σ H (.ref b)) (hz : xs.length + zs.length ≤ sizeLine) (k : ∀ H1, Ex H H1 → tz D σ (upd H1 l (.lst (xs ++ zs)))) :
    tSeq (tDrop (tBM K "list" rExtend ta (tCons te tNil))) tz D σ H := ha H (Ex.refl H) _ fun H1 e1 =>
  ⟨Or.inl ⟨rfl, xs, sq_of (e1 l _ hl)⟩, h H1 e1 _ fun H2 e2 => ⟨l, b, xs, zs, rfl, rfl, (e1.trans e2) l _ hl, (e1.trans e2) b _ hb, hz, k H2 (e1.trans e2)⟩⟩
end
theorem q_asgAns {σ : L2.St} {H : Hp} {ta tb tc : TE} {D : Ends} {tz : TS} {sp : Sp} {E : XK} {i : Nat} {v1 v2 : V} {xs : List V} (h1 : Ev ta σ H v1) (h2 : Ev tb σ H v2) (h3 : EvL tc σ H xs) (k : ∀ t H1, Ex H H1 → H1 t = some (.lst xs) → sp [v1, v2, .ref t] H1 (fun v H2 => tz D (σ.set i (some v)) H2) E) :
    tSeq (tAsg (tCall sp [] E (tCons ta (tCons tb (tCons tc tNil)))) (gName i)) tz D σ H :=
  h1 H (Ex.refl H) _ fun H1 e1 => h2 H1 e1 _ fun H2 e2 => h3 H2 (e1.trans e2) _ fun t H3 ht e3 h => k t H3 ((e1.trans e2).trans e3) h
theorem size_ten : 10000000 < sizeLine := by decide
section
variable {P : Program} {w : World} {K : PySem.W.Frag} {mg : Str → Option Value} {base : Heap} {CI CD aS f : Addr} {fd : FuncData}
/-- the loop's word: cl the calls' numbers, H0 the heap ahead of all, at the place reached -/
def WA (CD CI : Addr) (H0 : Hp) (a : Addr) (cl : List Nat) (m : Nat) (σ : L2.St) (H : Hp) : Prop := ∃ (d ddx l : Addr) (fp : List Addr) (s : Km544.State) (pos fuel : Nat) (cs : List (List (List Int))) (acc : List Int) (v4 v5 : Option V),
  m = cl.length - pos ∧ pos ≤ cl.length ∧ σ = [some (.ref a), some (.ref d), some (.ref l), some (nV pos), v4, v5] ∧ PyFlat.calls PyKm544.shape fuel ((cl.drop pos).map Int.ofNat) = some cs ∧ PyKm544.answers (cl.map Int.ofNat) = acc ++ due s cs ∧
  Ex H0 H ∧ DA CD CI H d ddx fp s ∧ H l = some (.lst (acc.map V.int)) ∧ l ∉ fp ∧ H0 l = none ∧ ∀ b ∈ fp, H0 b = none
def sp_answers (K : PySem.W.Frag) : Sp := fun vs H Q _ => ∃ (a : Addr) (cl : List Nat), vs = [.ref a] ∧ SqL K H a (nsV cl) ∧ PyKm544.answers_asked (cl.map Int.ofNat) = true ∧
  ∀ (H' : Hp) (p : Addr), H' p = some (.lst ((PyKm544.answers (cl.map Int.ofNat)).map V.int)) → Q (.ref p) H'
theorem ok_answers (F : Fun K "answers" "answers" s_answers f fd) (T : Txt K mg CI CD aS) (C_Desk___init__ : Mkd P w K mg base 1 CD "Desk" p_Desk___init__ (sp_Desk_init CD)) (C_answer : Cal P w K mg base 9 "answer" p_answer (sp_answer CD CI)) : FnOk P w K mg base CX0 10 f fd p_answers (sp_answers K) := by
  refine F.ok sc_answers (fun vs H Q E h => ?_) (fun cdv A outer sh H0 vs Q E hr h => ?_)
  · obtain ⟨a, cl, rfl, _⟩ := h
    rfl
  · obtain ⟨a, cl, rfl, hS, hask, k⟩ := h
    obtain ⟨raw, hraw, hdue, hlen⟩ := asked_is hask
    refine ⟨_, (pss_cons (ps_set (i := 1) sc_answers.nd rfl (Or.inl rfl) (pe_mk0 C_Desk___init__ (hr.mono (by decide)) (by rfl))) (pss_cons (ps_set (i := 2) sc_answers.nd rfl (Or.inl rfl) (pe_lst pa_nil)) (pss_cons (ps_set (i := 3) sc_answers.nd rfl (Or.inl rfl) pe_int) (pss_cons (ps_while PassesOwn.never (pt_cmpR op_lt (pv 3) (pe_callB call_len_seq (by rfl) T.len PySem.boot_len (pa_cons (pv 0) pa_nil)) (nomark _)) (pss_cons (ps_set (i := 4) sc_answers.nd rfl (Or.inl rfl) (pe_ix ix_tup (pe_gl rfl T.gSizes) (pe_ix ix_list (pv 0) (pv 3) (fun _ _ => rfl)) (fun _ _ => rfl))) (pss_cons (ps_set (i := 5) sc_answers.nd rfl (Or.inl rfl) (pe_cal C_answer (hr.mono (by decide)) (by rfl) (pa_cons (pv 1) (pa_cons (pe_ix ix_list (pv 0) (pv 3) (fun _ _ => rfl)) (pa_cons (pe_slice sl_list (pv 0) (po_some (pe_op op_add (pv 3) pe_int)) (po_some (pe_op op_add (pe_op op_add (pv 3) pe_int) (pv 4)))) pa_nil))))) (pss_cons (ps_expr (pe_bm PySem.F.plainAttrs_list PySem.F.slot_list_append PySem.F.type_list_append mt_append (pv 2) (pa_cons (pe_callB call_len_seq (by rfl) T.len PySem.boot_len (pa_cons (pv 5) pa_nil)) pa_nil))) (pss_cons (ps_expr (pe_bm PySem.F.plainAttrs_list PySem.F.slot_list_extend PySem.F.type_list_extend mt_extend (pv 2) (pa_cons (pv 5) pa_nil))) (pss_one (ps_aug (i := 3) sc_answers.nd rfl (Or.inl rfl) (pe_op op_add pe_int (pv 4)) ip_add))))))) (pss_one (ps_ret (pv 2))))))), ?_⟩
    refine fun d ddx nd ndx nex => ⟨d, ddx, rfl, upd_same, fun H1 hd keep => ⟨rfl, ?_⟩⟩
    have E1 : Ex H0 H1 := fun b o hb => by
      refine keep b o ?_ (ne_of_none hb nd)
      rw [upd_ne (ne_of_none hb nd), upd_ne (ne_of_none hb ndx)]
      exact hb
    show tSeq _ _ _ _ _
    refine q_asgL (σ := [some (.ref a), some (.ref d), none, none, none, none]) (xs := []) (el_lst ea_nil (Nat.zero_le _)) fun l H2 hl e2 h2 => ?_
    have nl0 : H0 l = none := fresh_back E1 hl
    have ndl : d ≠ l := ne_of_none hd hl
    refine q_asg (v := nV 0) ev_c fun H3 e3 => ?_
    refine q_while (WA CD CI H0 a cl) cl.length ⟨d, ddx, l, [d], none, 0, cl.length, raw, [], none, none, rfl, Nat.zero_le _, rfl, ?_, hdue, (E1.trans e2).trans e3, ⟨(e2.trans e3) _ _ hd, rfl⟩, e3 _ _ h2, ?_, nl0, ?_⟩ ?_
    · rw [List.length_map] at hraw
      exact hraw
    · intro z
      exact ndl (List.mem_singleton.mp z).symm
    · intro b hb
      rw [List.mem_singleton.mp hb]
      exact nd
    · rintro m σ H4 ⟨d, ddx, l, fp, s, pos, fuel, cs, acc, v4, v5, rfl, hpos, rfl, hcs, hA, E4, hD, hl, hlf, nl0, hfp⟩
      have hS4 : SqL K H4 a (nsV cl) := ex_l E4 hS
      refine ⟨decide (pos < cl.length), et_lt (ev_var rfl) (ev_is (ev_len (ev_var rfl) hS4) (by rw [nsV_len])), fun hb H5 e5 => ?_, fun hb H5 e5 => ?_⟩
      · have c : pos < cl.length := of_decide_eq_true hb
        rw [getD_drop c, List.map_cons] at hcs
        obtain ⟨fuel', n, cs', hsh, hn, rfl, hcs'⟩ := parse_step hcs
        obtain ⟨q, eq, hq, _, hsz⟩ := shape_some hsh
        have eq' : cl.getD pos 0 = q := Int.ofNat.inj eq
        rw [← List.map_take] at hA
        rw [List.length_map, List.length_drop] at hn
        rw [← List.map_drop, List.drop_drop] at hcs'
        rw [eq'] at hA
        have hal : ((cl.drop (pos + 1)).take n).length = sizesN.getD q 0 := by
          rw [List.length_take, List.length_drop, hsz]
          omega
        obtain ⟨c0, hci, hpc⟩ := call_is q ((cl.drop (pos + 1)).take n) hq hal
        rw [due_step hpc] at hA
        have hS5 : SqL K H5 a (nsV cl) := ex_l (E4.trans e5) hS
        refine ⟨fun σ2 H2 => ∃ m', m' < cl.length - pos ∧ WA CD CI H0 a cl m' σ2 H2, fun _ _ h => h, ?_⟩
        have evc : ∀ {σ : L2.St} {H : Hp}, SqL K H a (nsV cl) → σ[0]? = some (some (.ref a)) → σ[3]? = some (some (nV pos)) → Ev (tOp (rIxL K) (tVar 0) (tVar 3)) σ H (nV q) := fun hs h0 h3 => by
          rw [← eq']
          exact ev_op (ev_var h0) (ev_var h3) (rv_ixL hs (nsV_at c))
        refine q_asg (v := nV n) (ev_is (ev_op (z := nV (sizesN.getD q 0)) ev_c (evc hS5 rfl rfl) (rv_ixT (T.sizes H5) (nsV_at hq))) (by rw [hsz])) fun H6 e6 => ?_
        have E6 := (E4.trans e5).trans e6
        have hS6 : SqL K H6 a (nsV cl) := ex_l E6 hS
        refine q_asgAns (v1 := .ref d) (v2 := nV q) (xs := cutV (nsV cl) (some ((pos + 1 : Nat) : Int)) (some ((pos + 1 + n : Nat) : Int))) (ev_var rfl) (evc hS6 rfl rfl) (el_sl (a := a) (xs := nsV cl) (ev_var rfl) (eo_some (ev_add (a := pos) (b := 1) (ev_var rfl) ev_c)) (eo_some (ev_add (a := pos + 1) (b := n) (ev_add (a := pos) (b := 1) (ev_var rfl) ev_c) (ev_var rfl))) hS6) fun t H9 e69 h9 => ?_
        rw [cut_is (by omega)] at h9
        have e49 := ((e5.trans e6).trans e69)
        have E9 := E6.trans e69
        have hl9 := e49 _ _ hl
        refine ⟨d, ddx, fp, s, t, q, _, c0, rfl, hD.mono e49, h9, hci, fun p H10 fp' hp hpr hD' hfr hfp' => ?_⟩
        have E10 : Ex H0 H10 := fun b o hb => hfr b o (E9 _ _ hb) fun z => by
          have y := hfp b z
          rw [hb] at y
          cases y
        have hl10 : H10 l = some (.lst (acc.map V.int)) := hfr _ _ hl9 hlf
        have hlf' : l ∉ fp' := fun z => (hfp' l z).elim hlf fun y => by
          rw [hl9] at y
          cases y
        have hfp2 : ∀ b ∈ fp', H0 b = none := fun b hb => (hfp' b hb).elim (hfp b) (fresh_back E9)
        have npl : p ≠ l := fun e => by
          rw [e, hl9] at hp
          cases hp
        have hA' := congrArg List.length hA
        rw [List.length_append, List.length_append, List.length_cons] at hA'
        have hz := size_ten
        have hres : (resV (Km544.step s c0).2).length = (outI (Km544.step s c0).2).length := List.length_map _
        show tSeq _ _ _ _ _
        refine q_appZ (K := K) (σ := [some (.ref a), some (.ref d), some (.ref l), some (nV pos), some (nV n), some (.ref p)]) (v := nV (outI (Km544.step s c0).2).length) hl10 (ev_var rfl) (ev_is (ev_len (ev_var rfl) (sq_of hpr)) (by rw [hres])) (by rw [List.length_map]; omega) fun H11 e11 => ?_
        refine q_extZ (K := K) (l := l) (b := p) (zs := resV (Km544.step s c0).2) upd_same (by rw [upd_ne npl]; exact e11 _ _ hpr) (ev_var rfl) (ev_var rfl) (by rw [List.length_append, List.length_map, List.length_singleton, hres]; omega) fun H12 e12 => ?_
        refine s_aug (f := fun i j => i + j) (a := ((pos : Nat) : Int)) (b := ((1 + n : Nat) : Int)) rfl (ev_add (a := 1) (b := n) ev_c (ev_var rfl)) fun H13 e13 => ?_
        refine ⟨cl.length - (pos + (1 + n)), by omega, d, ddx, l, fp', (Km544.step s c0).1, pos + (1 + n), fuel', cs', acc ++ (((outI (Km544.step s c0).2).length : Int) :: outI (Km544.step s c0).2), some (nV n), some (.ref p), rfl, by omega, ?_, ?_, ?_, ?_, ?_, ?_, hlf', nl0, hfp2⟩
        · show [_, _, _, some (V.int ((pos : Int) + ((1 + n : Nat) : Int))), _, _] = _
          rw [← Int.natCast_add]
        · rw [show pos + (1 + n) = pos + 1 + n by omega]
          exact hcs'
        · rw [hA, List.append_assoc]
        · exact (Ex.mut ((Ex.mut (E10.trans e11) nl0).trans e12) nl0).trans e13
        · exact ((((hD'.mono e11).upd (e11 _ _ hl10) hlf').mono e12).upd (e12 _ _ upd_same) hlf').mono e13
        · apply e13
          rw [upd_same, List.map_append, List.map_cons, List.append_assoc]
          rfl
      · have c : ¬ pos < cl.length := of_decide_eq_false hb
        have ed : cl.drop pos = [] := List.drop_eq_nil_of_le (by omega)
        rw [ed] at hcs
        have ec : cs = [] := by
          cases fuel with
          | zero => exact (Option.some.inj hcs).symm
          | succ f => exact (Option.some.inj hcs).symm
        rw [ec] at hA
        have hA2 : PyKm544.answers (cl.map Int.ofNat) = acc := by
          rw [hA]
          exact List.append_nil _
        refine s_ret (ev_var rfl) fun H6 e6 => k H6 l ?_
        rw [hA2]
        exact (e5.trans e6) _ _ hl
end
end Hr
/-! Hl: all defs together, from what the top has written. -/
namespace Hr
open PySem PySem.Spec PyProof.Rows L2 Evl
/-- a def of the top as it was written; a method -/
def TopFn (K : PySem.W.Frag) (x : Str) (st : Stmt) : Prop := ∃ (f : Addr) (fd : FuncData), PySem.W.nsIn K mainGlobals x = some (some (.ref f)) ∧ Fun K x x st f fd
def MetFn (K : PySem.W.Frag) (C : Addr) (x qual : Str) (st : Stmt) : Prop := ∃ (f : Addr) (fd : FuncData), PySem.W.findIn K (.ref C) x = some (some (.ref f)) ∧ PySem.W.isFn K (.ref f) = true ∧ Fun K x qual st f fd
theorem topFn_mk {K : PySem.W.Frag} {x : Str} {st : Stmt} {f : Addr} {oc : Value} {od an : Option Addr} {osl : Array (Option Value)} {kV doc pm cdv ct : Value} (a : PySem.W.nsIn K mainGlobals x = some (some (.ref f)))
    (l : K.lookup f = some ⟨oc, od, .func (PySem.W.fnOf x x (defArgs st) (defBody st) (defScope st) .none kV doc pm an cdv ct), osl⟩) (c : PySem.W.codeIn K cdv x = true) (k : PySem.W.keepIn K (.ref f) = true) : TopFn K x st := ⟨f, _, a, fun_mk l c k⟩
theorem metFn_mk {K : PySem.W.Frag} {C : Addr} {x qual : Str} {st : Stmt} {f : Addr} {oc : Value} {od an : Option Addr} {osl : Array (Option Value)} {kV doc pm cdv ct : Value} (a : PySem.W.findIn K (.ref C) x = some (some (.ref f))) (i : PySem.W.isFn K (.ref f) = true)
    (l : K.lookup f = some ⟨oc, od, .func (PySem.W.fnOf x qual (defArgs st) (defBody st) (defScope st) .none kV doc pm an cdv ct), osl⟩) (c : PySem.W.codeIn K cdv qual = true) (k : PySem.W.keepIn K (.ref f) = true) : MetFn K C x qual st := ⟨f, _, a, i, fun_mk l c k⟩
def valsN : List Nat → List Value → Bool
  | [], [] => true
  | n :: l, .int i _ :: r => decide (i = (n : Int)) && valsN l r
  | _, _ => false
theorem valsN_ok : ∀ (l : List Nat) (r : List Value), valsN l r = true → Vals (nsV l) r
  | [], [], _ => .nil
  | n :: l, .int i t :: r, h => by
    have h' : (decide (i = (n : Int)) && valsN l r) = true := h
    rw [Bool.and_eq_true, decide_eq_true_eq] at h'
    obtain ⟨rfl, h2⟩ := h'
    exact .cons ⟨t, rfl⟩ (valsN_ok l r h2)
/-- a class as it was written -/
structure ClsFn (K : PySem.W.Frag) (C : Addr) : Prop where
  pg : PySem.W.plainGet K C Str.empty = true
  hd : PySem.W.hasDictIn K C = true
  po : PySem.W.plainOver K C = true
  sa : PySem.W.findIn K (.ref C) "__setattr__" = some (some (.builtin "object.__setattr__"))
  mki : PySem.W.makesIn K C = true
  kc : PySem.W.keepIn K (.ref C) = true
theorem all_mk {P : Program} {w : World} {K : PySem.W.Frag} {h : Heap} {mg : Str → Option Value} {fa CI CD aS : Addr} {t1 t2 : Tok} {its : Array Value} {nS : Nat} {dS : Option Addr} {slS : Array (Option Value)} (X : K.In h) (G : h.Ns mainGlobals mg) (hfa : mg "answers" = some (.ref fa))
    (aI : PySem.W.nsIn K mainGlobals "Instance" = some (some (.ref CI))) (aD : PySem.W.nsIn K mainGlobals "Desk" = some (some (.ref CD))) (aZ : PySem.W.nsIn K mainGlobals "SIZES" = some (some (.ref aS)))
    (lZ : K.lookup aS = some ⟨.type "tuple", dS, .seq its nS, slS⟩) (zZ : its.size ≤ 100) (vZ : valsN sizesN its.toList = true)
    (aH : PySem.W.nsIn K mainGlobals "MOST_HOUSEHOLDS" = some (some (.int 7 t1))) (aR : PySem.W.nsIn K mainGlobals "MOST_REPORTS" = some (some (.int 7 t2)))
    (z_len : PySem.W.nsIn K mainGlobals "len" = some none) (z_range : PySem.W.nsIn K mainGlobals "range" = some none) (z_list : PySem.W.nsIn K mainGlobals "list" = some none) (z_max : PySem.W.nsIn K mainGlobals "max" = some none) (z_min : PySem.W.nsIn K mainGlobals "min" = some none) (z_int : PySem.W.nsIn K mainGlobals "int" = some none)
    (kI : ClsFn K CI) (kD : ClsFn K CD) (nM : PySem.W.findIn K (.ref CI) "many" = some none) (nR : PySem.W.findIn K (.ref CI) "reports" = some none) (nI : PySem.W.findIn K (.ref CD) "instance" = some none)
    (D_conflicts : TopFn K "conflicts" s_conflicts)
    (D_are_unlike : TopFn K "are_unlike" s_are_unlike)
    (D_combined : TopFn K "combined" s_combined)
    (D_changed : TopFn K "changed" s_changed)
    (D_undecided : TopFn K "undecided" s_undecided)
    (D_weights : TopFn K "weights" s_weights)
    (D_members : TopFn K "members" s_members)
    (D_households : TopFn K "households" s_households)
    (D_can_take : TopFn K "can_take" s_can_take)
    (D_groupings : TopFn K "groupings" s_groupings)
    (D_first_grouping : TopFn K "first_grouping" s_first_grouping)
    (D_min_households : TopFn K "min_households" s_min_households)
    (D_of_household : TopFn K "of_household" s_of_household)
    (D_is_distinct : TopFn K "is_distinct" s_is_distinct)
    (D_largest_distinct : TopFn K "largest_distinct" s_largest_distinct)
    (D_is_sufficient : TopFn K "is_sufficient" s_is_sufficient)
    (D_smallest_sufficient : TopFn K "smallest_sufficient" s_smallest_sufficient)
    (D_essential : TopFn K "essential" s_essential)
    (D_Instance_has : MetFn K CI "has" "Instance.has" s_Instance_has)
    (D_Instance_has_part : MetFn K CI "has_part" "Instance.has_part" s_Instance_has_part)
    (D_get_attribute : TopFn K "get_attribute" s_get_attribute)
    (D_get_report : TopFn K "get_report" s_get_report)
    (D_are_different : TopFn K "are_different" s_are_different)
    (D_conflicting_attributes : TopFn K "conflicting_attributes" s_conflicting_attributes)
    (D_household_numbers : TopFn K "household_numbers" s_household_numbers)
    (D_tell_first_grouping : TopFn K "tell_first_grouping" s_tell_first_grouping)
    (D_grouping_count : TopFn K "grouping_count" s_grouping_count)
    (D_get_grouping : TopFn K "get_grouping" s_get_grouping)
    (D_get_household : TopFn K "get_household" s_get_household)
    (D_largest_distinct_set : TopFn K "largest_distinct_set" s_largest_distinct_set)
    (D_tell_sufficient : TopFn K "tell_sufficient" s_tell_sufficient)
    (D_smallest_sufficient_set : TopFn K "smallest_sufficient_set" s_smallest_sufficient_set)
    (D_essential_attributes : TopFn K "essential_attributes" s_essential_attributes)
    (D_undecided_pairs : TopFn K "undecided_pairs" s_undecided_pairs)
    (D_possible_duplicates : TopFn K "possible_duplicates" s_possible_duplicates)
    (D_min_households_if : TopFn K "min_households_if" s_min_households_if)
    (D_worst_undecided_if_asked : TopFn K "worst_undecided_if_asked" s_worst_undecided_if_asked)
    (D_summary : TopFn K "summary" s_summary)
    (D_Instance_add_report : MetFn K CI "add_report" "Instance.add_report" s_Instance_add_report)
    (D_Instance_remove_report : MetFn K CI "remove_report" "Instance.remove_report" s_Instance_remove_report)
    (D_Instance_set_attribute : MetFn K CI "set_attribute" "Instance.set_attribute" s_Instance_set_attribute)
    (D_Instance_clear_attribute : MetFn K CI "clear_attribute" "Instance.clear_attribute" s_Instance_clear_attribute)
    (D_Instance_merge_reports : MetFn K CI "merge_reports" "Instance.merge_reports" s_Instance_merge_reports)
    (D_change : TopFn K "change" s_change)
    (D_ask_reports : TopFn K "ask_reports" s_ask_reports)
    (D_ask_groupings : TopFn K "ask_groupings" s_ask_groupings)
    (D_ask_more : TopFn K "ask_more" s_ask_more)
    (D_Instance___init__ : MetFn K CI "__init__" "Instance.__init__" s_Instance___init__)
    (D_Desk___init__ : MetFn K CD "__init__" "Desk.__init__" s_Desk___init__)
    (D_Desk_create : MetFn K CD "create" "Desk.create" s_Desk_create)
    (D_answer : TopFn K "answer" s_answer)
    (D_answers : TopFn K "answers" s_answers) :
    ∃ fd : FuncData, (∀ (s : Shared) (us : List Value), us.length = (["calls"] : List Str).length → BindsTo s fd ⟨us, []⟩ ((["calls"] : List Str).zip us)) ∧ ∀ base : Heap, K.In base → base.Ns mainGlobals mg → FnOk P w K mg base CX0 10 fa fd ["calls"] (sp_answers K) := by
  have T : Txt K mg CI CD aS := {
    len := PySem.W.mg_none_of X G z_len
    range := PySem.W.mg_none_of X G z_range
    list := PySem.W.mg_none_of X G z_list
    max := PySem.W.mg_none_of X G z_max
    min := PySem.W.mg_none_of X G z_min
    int := PySem.W.mg_none_of X G z_int
    gMostHouseholds := ⟨_, PySem.W.mg_of X G aH, ⟨_, rfl⟩⟩
    gMostReports := ⟨_, PySem.W.mg_of X G aR, ⟨_, rfl⟩⟩
    gSizes := ⟨_, PySem.W.mg_of X G aZ, rfl⟩
    sizes := fun H => .inr ⟨_, its, nS, lZ, rfl, rfl, sz_of (by omega), valsN_ok _ _ vZ⟩
    clInstance := ⟨kI.pg, kI.hd, kI.po, kI.sa⟩
    nMany := nM
    nReports := nR
    clDesk := ⟨kD.pg, kD.hd, kD.po, kD.sa⟩
    nInst := nI }
  obtain ⟨f_conflicts, d_conflicts, a_conflicts, F_conflicts⟩ := D_conflicts
  have b_conflicts := F_conflicts.binds (ps := p_conflicts) fun _ _ _ _ _ _ us hl => match us, hl with | [_, _], _ => rfl
  obtain ⟨f_are_unlike, d_are_unlike, a_are_unlike, F_are_unlike⟩ := D_are_unlike
  have b_are_unlike := F_are_unlike.binds (ps := p_are_unlike) fun _ _ _ _ _ _ us hl => match us, hl with | [_, _], _ => rfl
  obtain ⟨f_combined, d_combined, a_combined, F_combined⟩ := D_combined
  have b_combined := F_combined.binds (ps := p_combined) fun _ _ _ _ _ _ us hl => match us, hl with | [_], _ => rfl
  obtain ⟨f_changed, d_changed, a_changed, F_changed⟩ := D_changed
  have b_changed := F_changed.binds (ps := p_changed) fun _ _ _ _ _ _ us hl => match us, hl with | [_, _, _, _], _ => rfl
  obtain ⟨f_undecided, d_undecided, a_undecided, F_undecided⟩ := D_undecided
  have b_undecided := F_undecided.binds (ps := p_undecided) fun _ _ _ _ _ _ us hl => match us, hl with | [_], _ => rfl
  obtain ⟨f_weights, d_weights, a_weights, F_weights⟩ := D_weights
  have b_weights := F_weights.binds (ps := p_weights) fun _ _ _ _ _ _ us hl => match us, hl with | [_], _ => rfl
  obtain ⟨f_members, d_members, a_members, F_members⟩ := D_members
  have b_members := F_members.binds (ps := p_members) fun _ _ _ _ _ _ us hl => match us, hl with | [_, _], _ => rfl
  obtain ⟨f_households, d_households, a_households, F_households⟩ := D_households
  have b_households := F_households.binds (ps := p_households) fun _ _ _ _ _ _ us hl => match us, hl with | [_], _ => rfl
  obtain ⟨f_can_take, d_can_take, a_can_take, F_can_take⟩ := D_can_take
  have b_can_take := F_can_take.binds (ps := p_can_take) fun _ _ _ _ _ _ us hl => match us, hl with | [_, _, _, _], _ => rfl
  obtain ⟨f_groupings, d_groupings, a_groupings, F_groupings⟩ := D_groupings
  have b_groupings := F_groupings.binds (ps := p_groupings) fun _ _ _ _ _ _ us hl => match us, hl with | [_, _], _ => rfl
  obtain ⟨f_first_grouping, d_first_grouping, a_first_grouping, F_first_grouping⟩ := D_first_grouping
  have b_first_grouping := F_first_grouping.binds (ps := p_first_grouping) fun _ _ _ _ _ _ us hl => match us, hl with | [_], _ => rfl
  obtain ⟨f_min_households, d_min_households, a_min_households, F_min_households⟩ := D_min_households
  have b_min_households := F_min_households.binds (ps := p_min_households) fun _ _ _ _ _ _ us hl => match us, hl with | [_], _ => rfl
  obtain ⟨f_of_household, d_of_household, a_of_household, F_of_household⟩ := D_of_household
  have b_of_household := F_of_household.binds (ps := p_of_household) fun _ _ _ _ _ _ us hl => match us, hl with | [_, _], _ => rfl
  obtain ⟨f_is_distinct, d_is_distinct, a_is_distinct, F_is_distinct⟩ := D_is_distinct
  have b_is_distinct := F_is_distinct.binds (ps := p_is_distinct) fun _ _ _ _ _ _ us hl => match us, hl with | [_, _], _ => rfl
  obtain ⟨f_largest_distinct, d_largest_distinct, a_largest_distinct, F_largest_distinct⟩ := D_largest_distinct
  have b_largest_distinct := F_largest_distinct.binds (ps := p_largest_distinct) fun _ _ _ _ _ _ us hl => match us, hl with | [_], _ => rfl
  obtain ⟨f_is_sufficient, d_is_sufficient, a_is_sufficient, F_is_sufficient⟩ := D_is_sufficient
  have b_is_sufficient := F_is_sufficient.binds (ps := p_is_sufficient) fun _ _ _ _ _ _ us hl => match us, hl with | [_, _], _ => rfl
  obtain ⟨f_smallest_sufficient, d_smallest_sufficient, a_smallest_sufficient, F_smallest_sufficient⟩ := D_smallest_sufficient
  have b_smallest_sufficient := F_smallest_sufficient.binds (ps := p_smallest_sufficient) fun _ _ _ _ _ _ us hl => match us, hl with | [_, _], _ => rfl
  obtain ⟨f_essential, d_essential, a_essential, F_essential⟩ := D_essential
  have b_essential := F_essential.binds (ps := p_essential) fun _ _ _ _ _ _ us hl => match us, hl with | [_, _], _ => rfl
  obtain ⟨f_Instance_has, d_Instance_has, a_Instance_has, i_Instance_has, F_Instance_has⟩ := D_Instance_has
  have b_Instance_has := F_Instance_has.binds (ps := p_Instance_has) fun _ _ _ _ _ _ us hl => match us, hl with | [_, _], _ => rfl
  obtain ⟨f_Instance_has_part, d_Instance_has_part, a_Instance_has_part, i_Instance_has_part, F_Instance_has_part⟩ := D_Instance_has_part
  have b_Instance_has_part := F_Instance_has_part.binds (ps := p_Instance_has_part) fun _ _ _ _ _ _ us hl => match us, hl with | [_, _, _], _ => rfl
  obtain ⟨f_get_attribute, d_get_attribute, a_get_attribute, F_get_attribute⟩ := D_get_attribute
  have b_get_attribute := F_get_attribute.binds (ps := p_get_attribute) fun _ _ _ _ _ _ us hl => match us, hl with | [_, _, _], _ => rfl
  obtain ⟨f_get_report, d_get_report, a_get_report, F_get_report⟩ := D_get_report
  have b_get_report := F_get_report.binds (ps := p_get_report) fun _ _ _ _ _ _ us hl => match us, hl with | [_, _], _ => rfl
  obtain ⟨f_are_different, d_are_different, a_are_different, F_are_different⟩ := D_are_different
  have b_are_different := F_are_different.binds (ps := p_are_different) fun _ _ _ _ _ _ us hl => match us, hl with | [_, _, _], _ => rfl
  obtain ⟨f_conflicting_attributes, d_conflicting_attributes, a_conflicting_attributes, F_conflicting_attributes⟩ := D_conflicting_attributes
  have b_conflicting_attributes := F_conflicting_attributes.binds (ps := p_conflicting_attributes) fun _ _ _ _ _ _ us hl => match us, hl with | [_, _, _], _ => rfl
  obtain ⟨f_household_numbers, d_household_numbers, a_household_numbers, F_household_numbers⟩ := D_household_numbers
  have b_household_numbers := F_household_numbers.binds (ps := p_household_numbers) fun _ _ _ _ _ _ us hl => match us, hl with | [_], _ => rfl
  obtain ⟨f_tell_first_grouping, d_tell_first_grouping, a_tell_first_grouping, F_tell_first_grouping⟩ := D_tell_first_grouping
  have b_tell_first_grouping := F_tell_first_grouping.binds (ps := p_tell_first_grouping) fun _ _ _ _ _ _ us hl => match us, hl with | [_], _ => rfl
  obtain ⟨f_grouping_count, d_grouping_count, a_grouping_count, F_grouping_count⟩ := D_grouping_count
  have b_grouping_count := F_grouping_count.binds (ps := p_grouping_count) fun _ _ _ _ _ _ us hl => match us, hl with | [_, _], _ => rfl
  obtain ⟨f_get_grouping, d_get_grouping, a_get_grouping, F_get_grouping⟩ := D_get_grouping
  have b_get_grouping := F_get_grouping.binds (ps := p_get_grouping) fun _ _ _ _ _ _ us hl => match us, hl with | [_, _, _], _ => rfl
  obtain ⟨f_get_household, d_get_household, a_get_household, F_get_household⟩ := D_get_household
  have b_get_household := F_get_household.binds (ps := p_get_household) fun _ _ _ _ _ _ us hl => match us, hl with | [_, _], _ => rfl
  obtain ⟨f_largest_distinct_set, d_largest_distinct_set, a_largest_distinct_set, F_largest_distinct_set⟩ := D_largest_distinct_set
  have b_largest_distinct_set := F_largest_distinct_set.binds (ps := p_largest_distinct_set) fun _ _ _ _ _ _ us hl => match us, hl with | [_], _ => rfl
  obtain ⟨f_tell_sufficient, d_tell_sufficient, a_tell_sufficient, F_tell_sufficient⟩ := D_tell_sufficient
  have b_tell_sufficient := F_tell_sufficient.binds (ps := p_tell_sufficient) fun _ _ _ _ _ _ us hl => match us, hl with | [_, _], _ => rfl
  obtain ⟨f_smallest_sufficient_set, d_smallest_sufficient_set, a_smallest_sufficient_set, F_smallest_sufficient_set⟩ := D_smallest_sufficient_set
  have b_smallest_sufficient_set := F_smallest_sufficient_set.binds (ps := p_smallest_sufficient_set) fun _ _ _ _ _ _ us hl => match us, hl with | [_], _ => rfl
  obtain ⟨f_essential_attributes, d_essential_attributes, a_essential_attributes, F_essential_attributes⟩ := D_essential_attributes
  have b_essential_attributes := F_essential_attributes.binds (ps := p_essential_attributes) fun _ _ _ _ _ _ us hl => match us, hl with | [_], _ => rfl
  obtain ⟨f_undecided_pairs, d_undecided_pairs, a_undecided_pairs, F_undecided_pairs⟩ := D_undecided_pairs
  have b_undecided_pairs := F_undecided_pairs.binds (ps := p_undecided_pairs) fun _ _ _ _ _ _ us hl => match us, hl with | [_], _ => rfl
  obtain ⟨f_possible_duplicates, d_possible_duplicates, a_possible_duplicates, F_possible_duplicates⟩ := D_possible_duplicates
  have b_possible_duplicates := F_possible_duplicates.binds (ps := p_possible_duplicates) fun _ _ _ _ _ _ us hl => match us, hl with | [_, _], _ => rfl
  obtain ⟨f_min_households_if, d_min_households_if, a_min_households_if, F_min_households_if⟩ := D_min_households_if
  have b_min_households_if := F_min_households_if.binds (ps := p_min_households_if) fun _ _ _ _ _ _ us hl => match us, hl with | [_, _, _, _], _ => rfl
  obtain ⟨f_worst_undecided_if_asked, d_worst_undecided_if_asked, a_worst_undecided_if_asked, F_worst_undecided_if_asked⟩ := D_worst_undecided_if_asked
  have b_worst_undecided_if_asked := F_worst_undecided_if_asked.binds (ps := p_worst_undecided_if_asked) fun _ _ _ _ _ _ us hl => match us, hl with | [_, _, _], _ => rfl
  obtain ⟨f_summary, d_summary, a_summary, F_summary⟩ := D_summary
  have b_summary := F_summary.binds (ps := p_summary) fun _ _ _ _ _ _ us hl => match us, hl with | [_], _ => rfl
  obtain ⟨f_Instance_add_report, d_Instance_add_report, a_Instance_add_report, i_Instance_add_report, F_Instance_add_report⟩ := D_Instance_add_report
  have b_Instance_add_report := F_Instance_add_report.binds (ps := p_Instance_add_report) fun _ _ _ _ _ _ us hl => match us, hl with | [_], _ => rfl
  obtain ⟨f_Instance_remove_report, d_Instance_remove_report, a_Instance_remove_report, i_Instance_remove_report, F_Instance_remove_report⟩ := D_Instance_remove_report
  have b_Instance_remove_report := F_Instance_remove_report.binds (ps := p_Instance_remove_report) fun _ _ _ _ _ _ us hl => match us, hl with | [_, _], _ => rfl
  obtain ⟨f_Instance_set_attribute, d_Instance_set_attribute, a_Instance_set_attribute, i_Instance_set_attribute, F_Instance_set_attribute⟩ := D_Instance_set_attribute
  have b_Instance_set_attribute := F_Instance_set_attribute.binds (ps := p_Instance_set_attribute) fun _ _ _ _ _ _ us hl => match us, hl with | [_, _, _, _], _ => rfl
  obtain ⟨f_Instance_clear_attribute, d_Instance_clear_attribute, a_Instance_clear_attribute, i_Instance_clear_attribute, F_Instance_clear_attribute⟩ := D_Instance_clear_attribute
  have b_Instance_clear_attribute := F_Instance_clear_attribute.binds (ps := p_Instance_clear_attribute) fun _ _ _ _ _ _ us hl => match us, hl with | [_, _, _], _ => rfl
  obtain ⟨f_Instance_merge_reports, d_Instance_merge_reports, a_Instance_merge_reports, i_Instance_merge_reports, F_Instance_merge_reports⟩ := D_Instance_merge_reports
  have b_Instance_merge_reports := F_Instance_merge_reports.binds (ps := p_Instance_merge_reports) fun _ _ _ _ _ _ us hl => match us, hl with | [_, _, _], _ => rfl
  obtain ⟨f_change, d_change, a_change, F_change⟩ := D_change
  have b_change := F_change.binds (ps := p_change) fun _ _ _ _ _ _ us hl => match us, hl with | [_, _, _], _ => rfl
  obtain ⟨f_ask_reports, d_ask_reports, a_ask_reports, F_ask_reports⟩ := D_ask_reports
  have b_ask_reports := F_ask_reports.binds (ps := p_ask_reports) fun _ _ _ _ _ _ us hl => match us, hl with | [_, _, _], _ => rfl
  obtain ⟨f_ask_groupings, d_ask_groupings, a_ask_groupings, F_ask_groupings⟩ := D_ask_groupings
  have b_ask_groupings := F_ask_groupings.binds (ps := p_ask_groupings) fun _ _ _ _ _ _ us hl => match us, hl with | [_, _, _], _ => rfl
  obtain ⟨f_ask_more, d_ask_more, a_ask_more, F_ask_more⟩ := D_ask_more
  have b_ask_more := F_ask_more.binds (ps := p_ask_more) fun _ _ _ _ _ _ us hl => match us, hl with | [_, _, _], _ => rfl
  obtain ⟨f_Instance___init__, d_Instance___init__, a_Instance___init__, i_Instance___init__, F_Instance___init__⟩ := D_Instance___init__
  have b_Instance___init__ := F_Instance___init__.binds (ps := p_Instance___init__) fun _ _ _ _ _ _ us hl => match us, hl with | [_, _], _ => rfl
  obtain ⟨f_Desk___init__, d_Desk___init__, a_Desk___init__, i_Desk___init__, F_Desk___init__⟩ := D_Desk___init__
  have b_Desk___init__ := F_Desk___init__.binds (ps := p_Desk___init__) fun _ _ _ _ _ _ us hl => match us, hl with | [_], _ => rfl
  obtain ⟨f_Desk_create, d_Desk_create, a_Desk_create, i_Desk_create, F_Desk_create⟩ := D_Desk_create
  have b_Desk_create := F_Desk_create.binds (ps := p_Desk_create) fun _ _ _ _ _ _ us hl => match us, hl with | [_, _], _ => rfl
  obtain ⟨f_answer, d_answer, a_answer, F_answer⟩ := D_answer
  have b_answer := F_answer.binds (ps := p_answer) fun _ _ _ _ _ _ us hl => match us, hl with | [_, _, _], _ => rfl
  obtain ⟨f_answers, d_answers, a_answers, F_answers⟩ := D_answers
  have e := hfa.symm.trans (PySem.W.mg_of X G a_answers)
  cases e
  refine ⟨d_answers, ?_, fun base _ _ => ?_⟩
  · obtain ⟨oc, od, kV, doc, pm, an, cdv, ct, osl, rfl, lk, hcd⟩ := F_answers.ex
    exact fun s us hu => match us, hu with | [_], _ => .of_eq rfl
  · have C_conflicts : Cal P w K mg base 1 "conflicts" p_conflicts (sp_conflicts) := ⟨f_conflicts, d_conflicts, ok_conflicts F_conflicts T, PySem.W.mg_of X G a_conflicts, F_conflicts.kp, b_conflicts⟩
    have C_are_unlike : Cal P w K mg base 2 "are_unlike" p_are_unlike (sp_are_unlike) := ⟨f_are_unlike, d_are_unlike, ok_are_unlike F_are_unlike T C_conflicts, PySem.W.mg_of X G a_are_unlike, F_are_unlike.kp, b_are_unlike⟩
    have C_combined : Cal P w K mg base 1 "combined" p_combined (sp_combined) := ⟨f_combined, d_combined, ok_combined F_combined T, PySem.W.mg_of X G a_combined, F_combined.kp, b_combined⟩
    have C_changed : Cal P w K mg base 1 "changed" p_changed (sp_changed) := ⟨f_changed, d_changed, ok_changed F_changed T, PySem.W.mg_of X G a_changed, F_changed.kp, b_changed⟩
    have C_undecided : Cal P w K mg base 3 "undecided" p_undecided (sp_undecided) := ⟨f_undecided, d_undecided, ok_undecided F_undecided T C_are_unlike, PySem.W.mg_of X G a_undecided, F_undecided.kp, b_undecided⟩
    have C_weights : Cal P w K mg base 1 "weights" p_weights (sp_weights) := ⟨f_weights, d_weights, ok_weights F_weights T, PySem.W.mg_of X G a_weights, F_weights.kp, b_weights⟩
    have C_members : Cal P w K mg base 1 "members" p_members (sp_members) := ⟨f_members, d_members, ok_members F_members T, PySem.W.mg_of X G a_members, F_members.kp, b_members⟩
    have C_households : Cal P w K mg base 1 "households" p_households (sp_households) := ⟨f_households, d_households, ok_households F_households T, PySem.W.mg_of X G a_households, F_households.kp, b_households⟩
    have C_can_take : Cal P w K mg base 3 "can_take" p_can_take (sp_can_take) := ⟨f_can_take, d_can_take, ok_can_take F_can_take T C_are_unlike, PySem.W.mg_of X G a_can_take, F_can_take.kp, b_can_take⟩
    have C_groupings : Cal P w K mg base 4 "groupings" p_groupings (sp_groupings) := ⟨f_groupings, d_groupings, ok_groupings F_groupings T C_households C_can_take, PySem.W.mg_of X G a_groupings, F_groupings.kp, b_groupings⟩
    have C_first_grouping : Cal P w K mg base 5 "first_grouping" p_first_grouping (sp_first_grouping) := ⟨f_first_grouping, d_first_grouping, ok_first_grouping F_first_grouping T C_households C_groupings, PySem.W.mg_of X G a_first_grouping, F_first_grouping.kp, b_first_grouping⟩
    have C_min_households : Cal P w K mg base 6 "min_households" p_min_households (sp_min_households) := ⟨f_min_households, d_min_households, ok_min_households F_min_households T C_households C_first_grouping, PySem.W.mg_of X G a_min_households, F_min_households.kp, b_min_households⟩
    have C_of_household : Cal P w K mg base 6 "of_household" p_of_household (sp_of_household) := ⟨f_of_household, d_of_household, ok_of_household F_of_household T C_first_grouping, PySem.W.mg_of X G a_of_household, F_of_household.kp, b_of_household⟩
    have C_is_distinct : Cal P w K mg base 3 "is_distinct" p_is_distinct (sp_is_distinct) := ⟨f_is_distinct, d_is_distinct, ok_is_distinct F_is_distinct T C_are_unlike, PySem.W.mg_of X G a_is_distinct, F_is_distinct.kp, b_is_distinct⟩
    have C_largest_distinct : Cal P w K mg base 4 "largest_distinct" p_largest_distinct (sp_largest_distinct) := ⟨f_largest_distinct, d_largest_distinct, ok_largest_distinct F_largest_distinct T C_weights C_members C_is_distinct, PySem.W.mg_of X G a_largest_distinct, F_largest_distinct.kp, b_largest_distinct⟩
    have C_is_sufficient : Cal P w K mg base 2 "is_sufficient" p_is_sufficient (sp_is_sufficient) := ⟨f_is_sufficient, d_is_sufficient, ok_is_sufficient F_is_sufficient T C_conflicts, PySem.W.mg_of X G a_is_sufficient, F_is_sufficient.kp, b_is_sufficient⟩
    have C_smallest_sufficient : Cal P w K mg base 3 "smallest_sufficient" p_smallest_sufficient (sp_smallest_sufficient) := ⟨f_smallest_sufficient, d_smallest_sufficient, ok_smallest_sufficient F_smallest_sufficient T C_weights C_members C_is_sufficient, PySem.W.mg_of X G a_smallest_sufficient, F_smallest_sufficient.kp, b_smallest_sufficient⟩
    have C_essential : Cal P w K mg base 3 "essential" p_essential (sp_essential) := ⟨f_essential, d_essential, ok_essential F_essential T C_is_sufficient, PySem.W.mg_of X G a_essential, F_essential.kp, b_essential⟩
    have C_Instance_has : Met P w K mg base 1 CI "has" p_Instance_has (sp_has CI) := ⟨f_Instance_has, d_Instance_has, ok_has F_Instance_has T, ⟨a_Instance_has, i_Instance_has, F_Instance_has.kp⟩, b_Instance_has⟩
    have C_Instance_has_part : Met P w K mg base 2 CI "has_part" p_Instance_has_part (sp_has_part CI) := ⟨f_Instance_has_part, d_Instance_has_part, ok_has_part F_Instance_has_part T C_Instance_has, ⟨a_Instance_has_part, i_Instance_has_part, F_Instance_has_part.kp⟩, b_Instance_has_part⟩
    have C_get_attribute : Cal P w K mg base 3 "get_attribute" p_get_attribute (sp_get_attribute CI) := ⟨f_get_attribute, d_get_attribute, ok_get_attribute F_get_attribute T C_Instance_has_part, PySem.W.mg_of X G a_get_attribute, F_get_attribute.kp, b_get_attribute⟩
    have C_get_report : Cal P w K mg base 2 "get_report" p_get_report (sp_get_report CI) := ⟨f_get_report, d_get_report, ok_get_report F_get_report T C_Instance_has, PySem.W.mg_of X G a_get_report, F_get_report.kp, b_get_report⟩
    have C_are_different : Cal P w K mg base 3 "are_different" p_are_different (sp_are_different CI) := ⟨f_are_different, d_are_different, ok_are_different F_are_different T C_Instance_has C_are_unlike, PySem.W.mg_of X G a_are_different, F_are_different.kp, b_are_different⟩
    have C_conflicting_attributes : Cal P w K mg base 2 "conflicting_attributes" p_conflicting_attributes (sp_conflicting CI) := ⟨f_conflicting_attributes, d_conflicting_attributes, ok_conflicting F_conflicting_attributes T C_Instance_has C_conflicts, PySem.W.mg_of X G a_conflicting_attributes, F_conflicting_attributes.kp, b_conflicting_attributes⟩
    have C_household_numbers : Cal P w K mg base 7 "household_numbers" p_household_numbers (sp_household_numbers CI) := ⟨f_household_numbers, d_household_numbers, ok_household_numbers F_household_numbers T C_min_households, PySem.W.mg_of X G a_household_numbers, F_household_numbers.kp, b_household_numbers⟩
    have C_tell_first_grouping : Cal P w K mg base 6 "tell_first_grouping" p_tell_first_grouping (sp_tell_first CI) := ⟨f_tell_first_grouping, d_tell_first_grouping, ok_tell_first F_tell_first_grouping T C_first_grouping, PySem.W.mg_of X G a_tell_first_grouping, F_tell_first_grouping.kp, b_tell_first_grouping⟩
    have C_grouping_count : Cal P w K mg base 5 "grouping_count" p_grouping_count (sp_grouping_count CI) := ⟨f_grouping_count, d_grouping_count, ok_grouping_count F_grouping_count T C_groupings, PySem.W.mg_of X G a_grouping_count, F_grouping_count.kp, b_grouping_count⟩
    have C_get_grouping : Cal P w K mg base 5 "get_grouping" p_get_grouping (sp_get_grouping CI) := ⟨f_get_grouping, d_get_grouping, ok_get_grouping F_get_grouping T C_groupings, PySem.W.mg_of X G a_get_grouping, F_get_grouping.kp, b_get_grouping⟩
    have C_get_household : Cal P w K mg base 7 "get_household" p_get_household (sp_get_household CI) := ⟨f_get_household, d_get_household, ok_get_household F_get_household T C_combined C_of_household C_min_households, PySem.W.mg_of X G a_get_household, F_get_household.kp, b_get_household⟩
    have C_largest_distinct_set : Cal P w K mg base 5 "largest_distinct_set" p_largest_distinct_set (sp_largest_set CI) := ⟨f_largest_distinct_set, d_largest_distinct_set, ok_largest_set F_largest_distinct_set T C_largest_distinct, PySem.W.mg_of X G a_largest_distinct_set, F_largest_distinct_set.kp, b_largest_distinct_set⟩
    have C_tell_sufficient : Cal P w K mg base 3 "tell_sufficient" p_tell_sufficient (sp_tell_sufficient CI) := ⟨f_tell_sufficient, d_tell_sufficient, ok_tell_sufficient F_tell_sufficient T C_weights C_members C_is_sufficient, PySem.W.mg_of X G a_tell_sufficient, F_tell_sufficient.kp, b_tell_sufficient⟩
    have C_smallest_sufficient_set : Cal P w K mg base 4 "smallest_sufficient_set" p_smallest_sufficient_set (sp_smallest_set CI) := ⟨f_smallest_sufficient_set, d_smallest_sufficient_set, ok_smallest_set F_smallest_sufficient_set T C_smallest_sufficient, PySem.W.mg_of X G a_smallest_sufficient_set, F_smallest_sufficient_set.kp, b_smallest_sufficient_set⟩
    have C_essential_attributes : Cal P w K mg base 4 "essential_attributes" p_essential_attributes (sp_essential_attributes CI) := ⟨f_essential_attributes, d_essential_attributes, ok_essential_attributes F_essential_attributes T C_essential, PySem.W.mg_of X G a_essential_attributes, F_essential_attributes.kp, b_essential_attributes⟩
    have C_undecided_pairs : Cal P w K mg base 4 "undecided_pairs" p_undecided_pairs (sp_undecided_pairs CI) := ⟨f_undecided_pairs, d_undecided_pairs, ok_undecided_pairs F_undecided_pairs T C_undecided, PySem.W.mg_of X G a_undecided_pairs, F_undecided_pairs.kp, b_undecided_pairs⟩
    have C_possible_duplicates : Cal P w K mg base 3 "possible_duplicates" p_possible_duplicates (sp_possible_duplicates CI) := ⟨f_possible_duplicates, d_possible_duplicates, ok_possible_duplicates F_possible_duplicates T C_Instance_has C_are_unlike, PySem.W.mg_of X G a_possible_duplicates, F_possible_duplicates.kp, b_possible_duplicates⟩
    have C_min_households_if : Cal P w K mg base 7 "min_households_if" p_min_households_if (sp_min_households_if CI) := ⟨f_min_households_if, d_min_households_if, ok_min_households_if F_min_households_if T C_Instance_has_part C_changed C_min_households C_undecided, PySem.W.mg_of X G a_min_households_if, F_min_households_if.kp, b_min_households_if⟩
    have C_worst_undecided_if_asked : Cal P w K mg base 4 "worst_undecided_if_asked" p_worst_undecided_if_asked (sp_worst CI) := ⟨f_worst_undecided_if_asked, d_worst_undecided_if_asked, ok_worst F_worst_undecided_if_asked T C_Instance_has_part C_changed C_undecided, PySem.W.mg_of X G a_worst_undecided_if_asked, F_worst_undecided_if_asked.kp, b_worst_undecided_if_asked⟩
    have C_summary : Cal P w K mg base 1 "summary" p_summary (sp_summary CI) := ⟨f_summary, d_summary, ok_summary F_summary T, PySem.W.mg_of X G a_summary, F_summary.kp, b_summary⟩
    have C_Instance_add_report : Met P w K mg base 1 CI "add_report" p_Instance_add_report (sp_add_report CI) := ⟨f_Instance_add_report, d_Instance_add_report, ok_add_report F_Instance_add_report T, ⟨a_Instance_add_report, i_Instance_add_report, F_Instance_add_report.kp⟩, b_Instance_add_report⟩
    have C_Instance_remove_report : Met P w K mg base 2 CI "remove_report" p_Instance_remove_report (sp_remove_report CI) := ⟨f_Instance_remove_report, d_Instance_remove_report, ok_remove_report F_Instance_remove_report T C_Instance_has, ⟨a_Instance_remove_report, i_Instance_remove_report, F_Instance_remove_report.kp⟩, b_Instance_remove_report⟩
    have C_Instance_set_attribute : Met P w K mg base 3 CI "set_attribute" p_Instance_set_attribute (sp_set_attribute CI) := ⟨f_Instance_set_attribute, d_Instance_set_attribute, ok_set_attribute F_Instance_set_attribute T C_Instance_has_part, ⟨a_Instance_set_attribute, i_Instance_set_attribute, F_Instance_set_attribute.kp⟩, b_Instance_set_attribute⟩
    have C_Instance_clear_attribute : Met P w K mg base 3 CI "clear_attribute" p_Instance_clear_attribute (sp_clear_attribute CI) := ⟨f_Instance_clear_attribute, d_Instance_clear_attribute, ok_clear_attribute F_Instance_clear_attribute T C_Instance_has_part, ⟨a_Instance_clear_attribute, i_Instance_clear_attribute, F_Instance_clear_attribute.kp⟩, b_Instance_clear_attribute⟩
    have C_Instance_merge_reports : Met P w K mg base 3 CI "merge_reports" p_Instance_merge_reports (sp_merge_reports CI) := ⟨f_Instance_merge_reports, d_Instance_merge_reports, ok_merge_reports F_Instance_merge_reports T C_Instance_has C_are_unlike C_combined, ⟨a_Instance_merge_reports, i_Instance_merge_reports, F_Instance_merge_reports.kp⟩, b_Instance_merge_reports⟩
    have C_change : Cal P w K mg base 4 "change" p_change (sp_change CI) := ⟨f_change, d_change, ok_change F_change T C_Instance_add_report C_Instance_remove_report C_Instance_set_attribute C_Instance_clear_attribute C_Instance_merge_reports, PySem.W.mg_of X G a_change, F_change.kp, b_change⟩
    have C_ask_reports : Cal P w K mg base 4 "ask_reports" p_ask_reports (sp_ask_reports CI) := ⟨f_ask_reports, d_ask_reports, ok_ask_reports F_ask_reports T C_get_attribute C_get_report C_are_different C_conflicting_attributes, PySem.W.mg_of X G a_ask_reports, F_ask_reports.kp, b_ask_reports⟩
    have C_ask_groupings : Cal P w K mg base 8 "ask_groupings" p_ask_groupings (sp_ask_groupings CI) := ⟨f_ask_groupings, d_ask_groupings, ok_ask_groupings F_ask_groupings T C_household_numbers C_tell_first_grouping C_grouping_count C_get_grouping C_get_household C_largest_distinct_set C_tell_sufficient C_smallest_sufficient_set, PySem.W.mg_of X G a_ask_groupings, F_ask_groupings.kp, b_ask_groupings⟩
    have C_ask_more : Cal P w K mg base 8 "ask_more" p_ask_more (sp_ask_more CI) := ⟨f_ask_more, d_ask_more, ok_ask_more F_ask_more T C_essential_attributes C_undecided_pairs C_possible_duplicates C_min_households_if C_worst_undecided_if_asked C_summary, PySem.W.mg_of X G a_ask_more, F_ask_more.kp, b_ask_more⟩
    have C_Instance___init__ : Mkd P w K mg base 1 CI "Instance" p_Instance___init__ (sp_Instance_init CI) := ⟨f_Instance___init__, d_Instance___init__, ok_Instance_init F_Instance___init__ T, ⟨kI.mki, a_Instance___init__, i_Instance___init__, kI.kc⟩, b_Instance___init__, PySem.W.mg_of X G aI⟩
    have C_Desk___init__ : Mkd P w K mg base 1 CD "Desk" p_Desk___init__ (sp_Desk_init CD) := ⟨f_Desk___init__, d_Desk___init__, ok_Desk_init F_Desk___init__ T, ⟨kD.mki, a_Desk___init__, i_Desk___init__, kD.kc⟩, b_Desk___init__, PySem.W.mg_of X G aD⟩
    have C_Desk_create : Met P w K mg base 3 CD "create" p_Desk_create (sp_create CD CI) := ⟨f_Desk_create, d_Desk_create, ok_create F_Desk_create T C_Instance___init__, ⟨a_Desk_create, i_Desk_create, F_Desk_create.kp⟩, b_Desk_create⟩
    have C_answer : Cal P w K mg base 9 "answer" p_answer (sp_answer CD CI) := ⟨f_answer, d_answer, ok_answer F_answer T C_Desk_create C_change C_ask_reports C_ask_groupings C_ask_more, PySem.W.mg_of X G a_answer, F_answer.kp, b_answer⟩
    exact ok_answers F_answers T C_Desk___init__ C_answer
theorem nat_back : ∀ {l : List Int}, (∀ z ∈ l, 0 ≤ z) → (l.map Int.toNat).map Int.ofNat = l
  | [], _ => rfl
  | z :: l, h => by
    rw [List.map_cons, List.map_cons, nat_back fun y hy => h y (List.mem_cons_of_mem _ hy)]
    congr 1
    exact Int.toNat_of_nonneg (h z List.mem_cons_self)
theorem inInt_nonneg {z : Int} {hi : Int} (h : PySem.W.Codec.inInt 0 hi z = true) : 0 ≤ z := by
  unfold PySem.W.Codec.inInt at h
  simp only [Bool.and_eq_true, decide_eq_true_eq] at h
  exact h.1
end Hr
open PySem PySem.W PyProof.Rows
set_option maxRecDepth 100000 in
set_option maxHeartbeats 16000000 in
theorem PySem.Challenge.cw_homereports_s01_answers_holds : PySem.Challenge.rw_homereports_s01_answers.Holds := by
  w_on; k_headS; (case hw => exact ⟨[.list [.int 1]], by decide +kernel, by decide +kernel⟩)
  k_fillS
  refine L2.walk_specK (r := PySem.Challenge.rw_homereports_s01_answers) (k := 10) (CX := L2.CX0) (ps := ["calls"]) (sp := Hr.sp_answers) (by decide +kernel) rfl rfl ⟨rfl, by decide, by decide⟩ (fun w h Y => PySem.W.kIn_of Y) ?F ?S (fun _ _ _ _ z => z)
  case F =>
    intro w mg fa h Y KX G hmg
    refine' Hr.all_mk KX G hmg ?aI ?aD ?aZ ?lZ ?zZ ?vZ ?aH ?aR ?z_len ?z_range ?z_list ?z_max ?z_min ?z_int ?kI ?kD ?nM ?nR ?nI ?D_conflicts ?D_are_unlike ?D_combined ?D_changed ?D_undecided ?D_weights ?D_members ?D_households ?D_can_take ?D_groupings ?D_first_grouping ?D_min_households ?D_of_household ?D_is_distinct ?D_largest_distinct ?D_is_sufficient ?D_smallest_sufficient ?D_essential ?D_Instance_has ?D_Instance_has_part ?D_get_attribute ?D_get_report ?D_are_different ?D_conflicting_attributes ?D_household_numbers ?D_tell_first_grouping ?D_grouping_count ?D_get_grouping ?D_get_household ?D_largest_distinct_set ?D_tell_sufficient ?D_smallest_sufficient_set ?D_essential_attributes ?D_undecided_pairs ?D_possible_duplicates ?D_min_households_if ?D_worst_undecided_if_asked ?D_summary ?D_Instance_add_report ?D_Instance_remove_report ?D_Instance_set_attribute ?D_Instance_clear_attribute ?D_Instance_merge_reports ?D_change ?D_ask_reports ?D_ask_groupings ?D_ask_more ?D_Instance___init__ ?D_Desk___init__ ?D_Desk_create ?D_answer ?D_answers
    (case aI => k_is)
    (case aD => k_is)
    (case aZ => k_is)
    (case lZ => k_is)
    (case zZ => decide)
    (case vZ => rfl)
    (case aH => k_is)
    (case aR => k_is)
    (case z_len => k_is)
    (case z_range => k_is)
    (case z_list => k_is)
    (case z_max => k_is)
    (case z_min => k_is)
    (case z_int => k_is)
    (case kI => refine' ⟨?pg, ?hd, ?po, ?sa, ?mki, ?kc⟩; (case pg => k_is); (case hd => k_is); (case po => k_is); (case sa => k_is); (case mki => k_is); (case kc => k_is))
    (case kD => refine' ⟨?pg, ?hd, ?po, ?sa, ?mki, ?kc⟩; (case pg => k_is); (case hd => k_is); (case po => k_is); (case sa => k_is); (case mki => k_is); (case kc => k_is))
    (case nM => k_is)
    (case nR => k_is)
    (case nI => k_is)
    (case D_conflicts => refine' Hr.topFn_mk ?a ?l ?c ?k; (case a => k_is); (case l => k_is); (case c => k_is); (case k => k_is))
    (case D_are_unlike => refine' Hr.topFn_mk ?a ?l ?c ?k; (case a => k_is); (case l => k_is); (case c => k_is); (case k => k_is))
    (case D_combined => refine' Hr.topFn_mk ?a ?l ?c ?k; (case a => k_is); (case l => k_is); (case c => k_is); (case k => k_is))
    (case D_changed => refine' Hr.topFn_mk ?a ?l ?c ?k; (case a => k_is); (case l => k_is); (case c => k_is); (case k => k_is))
    (case D_undecided => refine' Hr.topFn_mk ?a ?l ?c ?k; (case a => k_is); (case l => k_is); (case c => k_is); (case k => k_is))
    (case D_weights => refine' Hr.topFn_mk ?a ?l ?c ?k; (case a => k_is); (case l => k_is); (case c => k_is); (case k => k_is))
    (case D_members => refine' Hr.topFn_mk ?a ?l ?c ?k; (case a => k_is); (case l => k_is); (case c => k_is); (case k => k_is))
    (case D_households => refine' Hr.topFn_mk ?a ?l ?c ?k; (case a => k_is); (case l => k_is); (case c => k_is); (case k => k_is))
    (case D_can_take => refine' Hr.topFn_mk ?a ?l ?c ?k; (case a => k_is); (case l => k_is); (case c => k_is); (case k => k_is))
    (case D_groupings => refine' Hr.topFn_mk ?a ?l ?c ?k; (case a => k_is); (case l => k_is); (case c => k_is); (case k => k_is))
    (case D_first_grouping => refine' Hr.topFn_mk ?a ?l ?c ?k; (case a => k_is); (case l => k_is); (case c => k_is); (case k => k_is))
    (case D_min_households => refine' Hr.topFn_mk ?a ?l ?c ?k; (case a => k_is); (case l => k_is); (case c => k_is); (case k => k_is))
    (case D_of_household => refine' Hr.topFn_mk ?a ?l ?c ?k; (case a => k_is); (case l => k_is); (case c => k_is); (case k => k_is))
    (case D_is_distinct => refine' Hr.topFn_mk ?a ?l ?c ?k; (case a => k_is); (case l => k_is); (case c => k_is); (case k => k_is))
    (case D_largest_distinct => refine' Hr.topFn_mk ?a ?l ?c ?k; (case a => k_is); (case l => k_is); (case c => k_is); (case k => k_is))
    (case D_is_sufficient => refine' Hr.topFn_mk ?a ?l ?c ?k; (case a => k_is); (case l => k_is); (case c => k_is); (case k => k_is))
    (case D_smallest_sufficient => refine' Hr.topFn_mk ?a ?l ?c ?k; (case a => k_is); (case l => k_is); (case c => k_is); (case k => k_is))
    (case D_essential => refine' Hr.topFn_mk ?a ?l ?c ?k; (case a => k_is); (case l => k_is); (case c => k_is); (case k => k_is))
    (case D_Instance_has => refine' Hr.metFn_mk ?a ?i ?l ?c ?k; (case a => k_is); (case i => k_is); (case l => k_is); (case c => k_is); (case k => k_is))
    (case D_Instance_has_part => refine' Hr.metFn_mk ?a ?i ?l ?c ?k; (case a => k_is); (case i => k_is); (case l => k_is); (case c => k_is); (case k => k_is))
    (case D_get_attribute => refine' Hr.topFn_mk ?a ?l ?c ?k; (case a => k_is); (case l => k_is); (case c => k_is); (case k => k_is))
    (case D_get_report => refine' Hr.topFn_mk ?a ?l ?c ?k; (case a => k_is); (case l => k_is); (case c => k_is); (case k => k_is))
    (case D_are_different => refine' Hr.topFn_mk ?a ?l ?c ?k; (case a => k_is); (case l => k_is); (case c => k_is); (case k => k_is))
    (case D_conflicting_attributes => refine' Hr.topFn_mk ?a ?l ?c ?k; (case a => k_is); (case l => k_is); (case c => k_is); (case k => k_is))
    (case D_household_numbers => refine' Hr.topFn_mk ?a ?l ?c ?k; (case a => k_is); (case l => k_is); (case c => k_is); (case k => k_is))
    (case D_tell_first_grouping => refine' Hr.topFn_mk ?a ?l ?c ?k; (case a => k_is); (case l => k_is); (case c => k_is); (case k => k_is))
    (case D_grouping_count => refine' Hr.topFn_mk ?a ?l ?c ?k; (case a => k_is); (case l => k_is); (case c => k_is); (case k => k_is))
    (case D_get_grouping => refine' Hr.topFn_mk ?a ?l ?c ?k; (case a => k_is); (case l => k_is); (case c => k_is); (case k => k_is))
    (case D_get_household => refine' Hr.topFn_mk ?a ?l ?c ?k; (case a => k_is); (case l => k_is); (case c => k_is); (case k => k_is))
    (case D_largest_distinct_set => refine' Hr.topFn_mk ?a ?l ?c ?k; (case a => k_is); (case l => k_is); (case c => k_is); (case k => k_is))
    (case D_tell_sufficient => refine' Hr.topFn_mk ?a ?l ?c ?k; (case a => k_is); (case l => k_is); (case c => k_is); (case k => k_is))
    (case D_smallest_sufficient_set => refine' Hr.topFn_mk ?a ?l ?c ?k; (case a => k_is); (case l => k_is); (case c => k_is); (case k => k_is))
    (case D_essential_attributes => refine' Hr.topFn_mk ?a ?l ?c ?k; (case a => k_is); (case l => k_is); (case c => k_is); (case k => k_is))
    (case D_undecided_pairs => refine' Hr.topFn_mk ?a ?l ?c ?k; (case a => k_is); (case l => k_is); (case c => k_is); (case k => k_is))
    (case D_possible_duplicates => refine' Hr.topFn_mk ?a ?l ?c ?k; (case a => k_is); (case l => k_is); (case c => k_is); (case k => k_is))
    (case D_min_households_if => refine' Hr.topFn_mk ?a ?l ?c ?k; (case a => k_is); (case l => k_is); (case c => k_is); (case k => k_is))
    (case D_worst_undecided_if_asked => refine' Hr.topFn_mk ?a ?l ?c ?k; (case a => k_is); (case l => k_is); (case c => k_is); (case k => k_is))
    (case D_summary => refine' Hr.topFn_mk ?a ?l ?c ?k; (case a => k_is); (case l => k_is); (case c => k_is); (case k => k_is))
    (case D_Instance_add_report => refine' Hr.metFn_mk ?a ?i ?l ?c ?k; (case a => k_is); (case i => k_is); (case l => k_is); (case c => k_is); (case k => k_is))
    (case D_Instance_remove_report => refine' Hr.metFn_mk ?a ?i ?l ?c ?k; (case a => k_is); (case i => k_is); (case l => k_is); (case c => k_is); (case k => k_is))
    (case D_Instance_set_attribute => refine' Hr.metFn_mk ?a ?i ?l ?c ?k; (case a => k_is); (case i => k_is); (case l => k_is); (case c => k_is); (case k => k_is))
    (case D_Instance_clear_attribute => refine' Hr.metFn_mk ?a ?i ?l ?c ?k; (case a => k_is); (case i => k_is); (case l => k_is); (case c => k_is); (case k => k_is))
    (case D_Instance_merge_reports => refine' Hr.metFn_mk ?a ?i ?l ?c ?k; (case a => k_is); (case i => k_is); (case l => k_is); (case c => k_is); (case k => k_is))
    (case D_change => refine' Hr.topFn_mk ?a ?l ?c ?k; (case a => k_is); (case l => k_is); (case c => k_is); (case k => k_is))
    (case D_ask_reports => refine' Hr.topFn_mk ?a ?l ?c ?k; (case a => k_is); (case l => k_is); (case c => k_is); (case k => k_is))
    (case D_ask_groupings => refine' Hr.topFn_mk ?a ?l ?c ?k; (case a => k_is); (case l => k_is); (case c => k_is); (case k => k_is))
    (case D_ask_more => refine' Hr.topFn_mk ?a ?l ?c ?k; (case a => k_is); (case l => k_is); (case c => k_is); (case k => k_is))
    (case D_Instance___init__ => refine' Hr.metFn_mk ?a ?i ?l ?c ?k; (case a => k_is); (case i => k_is); (case l => k_is); (case c => k_is); (case k => k_is))
    (case D_Desk___init__ => refine' Hr.metFn_mk ?a ?i ?l ?c ?k; (case a => k_is); (case i => k_is); (case l => k_is); (case c => k_is); (case k => k_is))
    (case D_Desk_create => refine' Hr.metFn_mk ?a ?i ?l ?c ?k; (case a => k_is); (case i => k_is); (case l => k_is); (case c => k_is); (case k => k_is))
    (case D_answer => refine' Hr.topFn_mk ?a ?l ?c ?k; (case a => k_is); (case l => k_is); (case c => k_is); (case k => k_is))
    (case D_answers => refine' Hr.topFn_mk ?a ?l ?c ?k; (case a => k_is); (case l => k_is); (case c => k_is); (case k => k_is))
  case S =>
    intro K H xs a hO hwi hask hx
    cases hx with
    | cons h1 h2 =>
      cases h2
      cases h1 with
      | lst hs ha =>
        have e := L2.ints_dw a.1 _ ha
        subst e
        have q : ((Codec.inLen 0 200 a.1 && a.1.all (Codec.inInt 0 4294967295)) && true) = true := hwi
        rw [Bool.and_eq_true, Bool.and_eq_true] at q
        have en : (a.1.map Int.toNat).map Int.ofNat = a.1 := Hr.nat_back fun z hz => Hr.inInt_nonneg (List.all_eq_true.mp q.1.2 z hz)
        refine ⟨_, a.1.map Int.toNat, rfl, ?_, ?_, fun H' p hp => .lst (L2.SqL.of hp) ?_⟩
        · rw [Hr.nsV_map, en]
          exact hs
        · rw [en]
          exact hask
        · rw [en]
          exact L2.dw_ints _
#print axioms PySem.Challenge.cw_homereports_s01_answers_holds
