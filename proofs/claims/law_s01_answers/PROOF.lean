import PyProof.Rows.All
import Wide.All
import OpenK.AllK
import Wide.FinOn
import PyProof.EqAt
import PyProof.EqKinds
import PyProof.TupleCall
import Open.SpecLaws
import KE.OsGo
import PySem.Challenge.RW_convoytimes_s01_answers
import HandS.ForSpec
import HandS.Comp
import HandS.Dict
import HandS.ExcInit
import HandS.ExcField
import HandS.Strs
import HandS.SetFor
import HandS.CallLocal
import HandS.Iter
import HandS.Walk
import HandS.Codes
import KE.DatumOrd
set_option Elab.async false
set_option linter.all false
set_option maxRecDepth 100000
set_option maxHeartbeats 2000000
namespace Cv
open Km561

/-! ## Departures -/
/-- the first departure at or after an hour -/
def depFrom (ds : List Nat) (h : Nat) : Option Nat := ds.find? fun d => decide (h ≤ d)
def servedBy (ships : List Ship) (ds : List Nat) : Bool := ships.all fun s => (depFrom ds s.arrival).isSome
def waits (ds : List Nat) (s : Ship) : Nat := s.weight * ((depFrom ds s.arrival).getD s.arrival - s.arrival)
def totalOf (ships : List Ship) (ds : List Nat) : Nat := (ships.map (waits ds)).sum

theorem depFrom_nil (h : Nat) : depFrom [] h = none := rfl
theorem depFrom_cons (d : Nat) (ds : List Nat) (h : Nat) : depFrom (d :: ds) h = if h ≤ d then some d else depFrom ds h := by
  unfold depFrom
  rw [List.find?_cons]
  by_cases q : h ≤ d
  · simp [q]
  · simp [q]
theorem depFrom_none {ds : List Nat} {h : Nat} : depFrom ds h = none ↔ ∀ d ∈ ds, d < h := by
  unfold depFrom
  rw [List.find?_eq_none]
  constructor
  · intro q d hd
    have := q d hd
    simp at this
    exact this
  · intro q d hd
    have := q d hd
    simp
    exact this
theorem depFrom_some {ds : List Nat} (hs : ds.Pairwise (· ≤ ·)) {h d : Nat} : depFrom ds h = some d ↔ d ∈ ds ∧ h ≤ d ∧ ∀ e ∈ ds, h ≤ e → d ≤ e := by
  induction ds with
  | nil => simp [depFrom_nil]
  | cons x xs ih =>
    rw [List.pairwise_cons] at hs
    obtain ⟨h1, h2⟩ := hs
    rw [depFrom_cons]
    by_cases q : h ≤ x
    · rw [if_pos q]
      constructor
      · intro e
        cases e
        refine ⟨List.mem_cons_self, q, fun e he _ => ?_⟩
        rcases List.mem_cons.mp he with rfl | he
        · exact Nat.le_refl _
        · exact h1 e he
      · rintro ⟨hm, hh, hl⟩
        have a1 := hl x List.mem_cons_self q
        rcases List.mem_cons.mp hm with rfl | hm
        · rfl
        · have a2 := h1 d hm
          rw [Nat.le_antisymm a1 a2]
    · rw [if_neg q, ih h2]
      constructor
      · rintro ⟨hm, hh, hl⟩
        refine ⟨List.mem_cons_of_mem _ hm, hh, fun e he hq => ?_⟩
        rcases List.mem_cons.mp he with rfl | he
        · exact absurd hq q
        · exact hl e he hq
      · rintro ⟨hm, hh, hl⟩
        rcases List.mem_cons.mp hm with rfl | hm
        · exact absurd hh q
        · exact ⟨hm, hh, fun e he hq => hl e (List.mem_cons_of_mem _ he) hq⟩
/-- of a sorted list the departure depends on its members alone -/
theorem depFrom_congr {ds es : List Nat} (h1 : ds.Pairwise (· ≤ ·)) (h2 : es.Pairwise (· ≤ ·)) (hm : ∀ x, x ∈ ds ↔ x ∈ es) (h : Nat) : depFrom ds h = depFrom es h := by
  cases e : depFrom ds h with
  | none =>
    symm
    rw [depFrom_none] at e ⊢
    exact fun d hd => e d ((hm d).mpr hd)
  | some d =>
    symm
    rw [depFrom_some h1] at e
    rw [depFrom_some h2]
    obtain ⟨a, b, c⟩ := e
    exact ⟨(hm d).mp a, b, fun x hx hq => c x ((hm x).mpr hx) hq⟩
theorem servedBy_congr {ships : List Ship} {ds es : List Nat} (h : ∀ x, depFrom ds x = depFrom es x) : servedBy ships ds = servedBy ships es := by
  unfold servedBy
  congr 1
  funext s
  rw [h]
theorem totalOf_congr {ships : List Ship} {ds es : List Nat} (h : ∀ x, depFrom ds x = depFrom es x) : totalOf ships ds = totalOf ships es := by
  unfold totalOf waits
  congr 2
  funext s
  rw [h]

theorem lt_le {l : List Nat} (h : l.Pairwise (· < ·)) : l.Pairwise (· ≤ ·) := h.imp Nat.le_of_lt

theorem next_fold_some (h b : Nat) : ∀ ds : List Nat, (∀ d ∈ ds, b ≤ d) → ds.foldl (fun (best : Option Nat) (departure : Nat) => if departure < h then best else match best with
  | none => some departure
  | some other => some (min other departure)) (some b) = some b
  | [], _ => rfl
  | d :: ds, q => by
    rw [List.foldl_cons]
    have e : (if d < h then some b else some (min b d)) = some b := by
      rw [Nat.min_eq_left (q d List.mem_cons_self)]
      split <;> rfl
    show List.foldl _ (if d < h then some b else some (min b d)) ds = some b
    rw [e]
    exact next_fold_some h b ds fun x hx => q x (List.mem_cons_of_mem _ hx)
/-- the specification's next departure, of a sorted list -/
theorem next_is {h : Nat} : ∀ {ds : List Nat}, ds.Pairwise (· ≤ ·) → nextDeparture ds h = depFrom ds h
  | [], _ => rfl
  | d :: ds, hs => by
    rw [List.pairwise_cons] at hs
    rw [depFrom_cons]
    unfold nextDeparture
    rw [List.foldl_cons]
    by_cases q : h ≤ d
    · rw [if_pos q]
      show List.foldl _ (if d < h then none else some d) ds = some d
      rw [if_neg (Nat.not_lt.mpr q)]
      exact next_fold_some h d ds hs.1
    · rw [if_neg q]
      show List.foldl _ (if d < h then none else some d) ds = _
      rw [if_pos (Nat.not_le.mp q)]
      exact next_is hs.2

theorem sum_fold : ∀ (l : List Nat) (a : Nat), l.foldl (fun (a b : Nat) => a + b) a = a + l.sum
  | [], a => by simp
  | x :: l, a => by
    rw [List.foldl_cons, sum_fold l, List.sum_cons, Nat.add_assoc]
theorem sum_is (l : List Nat) : Km561.sum l = l.sum := by
  unfold Km561.sum
  rw [sum_fold, Nat.zero_add]
theorem allServed_is {tt : Timetable} {ds : List Nat} (hs : ds.Pairwise (· ≤ ·)) : Km561.allServed tt ds = servedBy tt.ships ds := by
  unfold Km561.allServed servedBy
  congr 1
  funext s
  rw [next_is hs]
theorem totalWaiting_is {tt : Timetable} {ds : List Nat} (hs : ds.Pairwise (· ≤ ·)) : Km561.totalWaiting tt ds = totalOf tt.ships ds := by
  unfold Km561.totalWaiting totalOf waits
  rw [sum_is]
  congr 2
  funext s
  rw [next_is hs]

/-! ## Sorted lists without repetition -/
theorem mem_insertHour {x y : Nat} : ∀ {l : List Nat}, y ∈ insertHour x l ↔ y = x ∨ y ∈ l
  | [] => by simp [insertHour]
  | z :: r => by
    unfold insertHour
    by_cases h : x = z
    · rw [if_pos h]
      subst h
      simp
    · rw [if_neg h]
      by_cases h2 : x < z
      · rw [if_pos h2]
        simp
      · rw [if_neg h2, List.mem_cons, mem_insertHour, List.mem_cons]
        constructor
        · rintro (a | a | a)
          · exact .inr (.inl a)
          · exact .inl a
          · exact .inr (.inr a)
        · rintro (a | a | a)
          · exact .inr (.inl a)
          · exact .inl a
          · exact .inr (.inr a)
theorem sorted_insertHour {x : Nat} : ∀ {l : List Nat}, l.Pairwise (· < ·) → (insertHour x l).Pairwise (· < ·)
  | [], _ => by simp [insertHour]
  | z :: r, hs => by
    have hs' := hs
    rw [List.pairwise_cons] at hs
    unfold insertHour
    by_cases h : x = z
    · rw [if_pos h]
      exact hs'
    · rw [if_neg h]
      by_cases h2 : x < z
      · rw [if_pos h2]
        refine List.pairwise_cons.mpr ⟨fun y hy => ?_, hs'⟩
        rcases List.mem_cons.mp hy with rfl | hy
        · exact h2
        · exact Nat.lt_trans h2 (hs.1 y hy)
      · rw [if_neg h2]
        refine List.pairwise_cons.mpr ⟨fun y hy => ?_, sorted_insertHour hs.2⟩
        rcases mem_insertHour.mp hy with rfl | hy
        · omega
        · exact hs.1 y hy
theorem length_insertHour {x : Nat} : ∀ {l : List Nat}, x ∉ l → (insertHour x l).length = l.length + 1
  | [], _ => rfl
  | z :: r, h => by
    unfold insertHour
    rw [if_neg (fun e : x = z => h (by rw [e]; exact List.mem_cons_self))]
    by_cases h2 : x < z
    · rw [if_pos h2]
      rfl
    · rw [if_neg h2, List.length_cons, length_insertHour (fun e => h (List.mem_cons_of_mem _ e)), List.length_cons]
theorem length_insertHour_le {x : Nat} : ∀ {l : List Nat}, (insertHour x l).length ≤ l.length + 1
  | [] => Nat.le_refl _
  | z :: r => by
    unfold insertHour
    by_cases h : x = z
    · rw [if_pos h]
      simp
    · rw [if_neg h]
      by_cases h2 : x < z
      · rw [if_pos h2]
        exact Nat.le_refl _
      · rw [if_neg h2, List.length_cons, List.length_cons]
        exact Nat.succ_le_succ length_insertHour_le
/-- two sorted lists without repetition and with the same members are one -/
theorem sorted_unique : ∀ {l m : List Nat}, l.Pairwise (· < ·) → m.Pairwise (· < ·) → (∀ x, x ∈ l ↔ x ∈ m) → l = m
  | [], [], _, _, _ => rfl
  | [], y :: m, _, _, h => by
    have := (h y).mpr List.mem_cons_self
    cases this
  | x :: l, [], _, _, h => by
    have := (h x).mp List.mem_cons_self
    cases this
  | x :: l, y :: m, h1, h2, h => by
    rw [List.pairwise_cons] at h1 h2
    have e : x = y := by
      have a := (h x).mp List.mem_cons_self
      have b := (h y).mpr List.mem_cons_self
      rcases List.mem_cons.mp a with e | a
      · exact e
      · rcases List.mem_cons.mp b with e | b
        · exact e.symm
        · have c := h1.1 y b
          have d := h2.1 x a
          omega
    subst e
    refine congrArg (x :: ·) (sorted_unique h1.2 h2.2 fun z => ?_)
    constructor
    · intro hz
      rcases List.mem_cons.mp ((h z).mp (List.mem_cons_of_mem _ hz)) with e | hz'
      · have := h1.1 z hz
        omega
      · exact hz'
    · intro hz
      rcases List.mem_cons.mp ((h z).mpr (List.mem_cons_of_mem _ hz)) with e | hz'
      · have := h2.1 z hz
        omega
      · exact hz'

/-! ## Arrival hours -/
def hoursOf (ships : List Ship) : List Nat := ships.foldl (fun (hours : List Nat) (ship : Ship) => insertHour ship.arrival hours) []
theorem hours_fold : ∀ (ships : List Ship) (acc : List Nat), acc.Pairwise (· < ·) → (ships.foldl (fun (hours : List Nat) (ship : Ship) => insertHour ship.arrival hours) acc).Pairwise (· < ·) ∧
    (∀ x, x ∈ ships.foldl (fun (hours : List Nat) (ship : Ship) => insertHour ship.arrival hours) acc ↔ x ∈ acc ∨ ∃ s ∈ ships, s.arrival = x) ∧
    (ships.foldl (fun (hours : List Nat) (ship : Ship) => insertHour ship.arrival hours) acc).length ≤ acc.length + ships.length
  | [], acc, h => ⟨h, fun x => by simp, Nat.le_refl _⟩
  | s :: r, acc, h => by
    rw [List.foldl_cons]
    obtain ⟨a, b, c⟩ := hours_fold r (insertHour s.arrival acc) (sorted_insertHour h)
    refine ⟨a, fun x => ?_, ?_⟩
    · rw [b x, mem_insertHour]
      constructor
      · rintro ((q | q) | ⟨t, ht, q⟩)
        · exact .inr ⟨s, List.mem_cons_self, q.symm⟩
        · exact .inl q
        · exact .inr ⟨t, List.mem_cons_of_mem _ ht, q⟩
      · rintro (q | ⟨t, ht, q⟩)
        · exact .inl (.inr q)
        · rcases List.mem_cons.mp ht with rfl | ht
          · exact .inl (.inl q.symm)
          · exact .inr ⟨t, ht, q⟩
    · have := length_insertHour_le (x := s.arrival) (l := acc)
      rw [List.length_cons]
      omega
theorem hours_sorted (ships : List Ship) : (hoursOf ships).Pairwise (· < ·) := (hours_fold ships [] .nil).1
theorem mem_hours {ships : List Ship} {x : Nat} : x ∈ hoursOf ships ↔ ∃ s ∈ ships, s.arrival = x := by
  have := (hours_fold ships [] .nil).2.1 x
  refine Iff.trans this ?_
  simp
theorem hours_length (ships : List Ship) : (hoursOf ships).length ≤ ships.length := by
  have := (hours_fold ships [] .nil).2.2
  rw [List.length_nil, Nat.zero_add] at this
  exact this
theorem arrivalHours_is (tt : Timetable) : arrivalHours tt = hoursOf tt.ships := rfl

theorem rev_ind {α : Type} {P : List α → Prop} (h0 : P []) (h1 : ∀ l a, P l → P (l ++ [a])) (l : List α) : P l := by
  have key : ∀ m : List α, P m.reverse := by
    intro m
    induction m with
    | nil => exact h0
    | cons a m ih =>
      rw [List.reverse_cons]
      exact h1 _ _ ih
  have := key l.reverse
  rw [List.reverse_reverse] at this
  exact this
theorem sub_single {α : Type} {a : α} : ∀ {l : List α}, List.Sublist l [a] → l = [] ∨ l = [a]
  | [], _ => .inl rfl
  | b :: l, h => by
    cases h with
    | cons _ h => cases h
    | cons_cons _ h =>
      rw [List.sublist_nil] at h
      rw [h]
      exact .inr rfl
/-! ## Lists of hours -/
/-- one hour more -/
def rowsTurn (most : Nat) (found : List (List Nat)) (hour : Nat) : List (List Nat) := found ++ (found.filter fun row => decide (row.length < most)).map fun row => row ++ [hour]
def rowsOf (most : Nat) (hours : List Nat) : List (List Nat) := hours.foldl (rowsTurn most) [[]]
theorem rows_more (most : Nat) (hs : List Nat) (h : Nat) : rowsOf most (hs ++ [h]) = rowsTurn most (rowsOf most hs) h := by
  unfold rowsOf
  rw [List.foldl_append]
  rfl
/-- what a row of the lists is -/
theorem mem_rows (most : Nat) (hs : List Nat) : ∀ r, r ∈ rowsOf most hs ↔ List.Sublist r hs ∧ r.length ≤ most := by
  refine rev_ind (P := fun hs => ∀ r, r ∈ rowsOf most hs ↔ List.Sublist r hs ∧ r.length ≤ most) ?_ (fun hs h ih => ?_) hs
  · intro r
    show r ∈ [[]] ↔ _
    rw [List.mem_singleton, List.sublist_nil]
    constructor
    · rintro rfl
      exact ⟨rfl, Nat.zero_le _⟩
    · exact fun h => h.1
  · intro r
    rw [rows_more]
    unfold rowsTurn
    rw [List.mem_append, List.mem_map]
    constructor
    · rintro (q | ⟨t, ht, rfl⟩)
      · obtain ⟨a, b⟩ := (ih r).mp q
        exact ⟨a.trans (List.sublist_append_left _ _), b⟩
      · rw [List.mem_filter, ih] at ht
        obtain ⟨⟨a, b⟩, c⟩ := ht
        refine ⟨a.append (List.Sublist.refl _), ?_⟩
        rw [List.length_append]
        have := of_decide_eq_true c
        show t.length + 1 ≤ most
        omega
    · rintro ⟨a, b⟩
      obtain ⟨l1, l2, e, s1, s2⟩ := List.sublist_append_iff.mp a
      rcases sub_single s2 with e2 | e2
      · subst e2
        rw [List.append_nil] at e
        subst e
        exact .inl ((ih _).mpr ⟨s1, b⟩)
      · subst e2
        subst e
        rw [List.length_append] at b
        have b' : l1.length + 1 ≤ most := b
        refine .inr ⟨l1, ?_, rfl⟩
        rw [List.mem_filter, ih]
        exact ⟨⟨s1, by omega⟩, decide_eq_true (by omega)⟩
theorem rows_length (most : Nat) (hs : List Nat) : (rowsOf most hs).length ≤ 2 ^ hs.length := by
  refine rev_ind (P := fun hs => (rowsOf most hs).length ≤ 2 ^ hs.length) (Nat.le_refl _) (fun hs h ih => ?_) hs
  · rw [rows_more]
    unfold rowsTurn
    rw [List.length_append, List.length_map]
    have := List.length_filter_le (fun row => decide (row.length < most)) (rowsOf most hs)
    rw [List.length_append]
    show _ ≤ 2 ^ (hs.length + 1)
    rw [Nat.pow_succ]
    omega
end Cv

namespace Cv
open Km561

/-! ## The best of a list of candidates, the first of equals -/
/-- the first difference decides, else the shorter is the less -/
def lexLt : List Nat → List Nat → Bool
  | [], [] => false
  | [], _ :: _ => true
  | _ :: _, [] => false
  | x :: xs, y :: ys => if x = y then lexLt xs ys else decide (x < y)
def pairLt (p q : Nat × List Nat) : Bool := if p.1 = q.1 then lexLt p.2 q.2 else decide (p.1 < q.1)
theorem lexLt_irrefl : ∀ l : List Nat, lexLt l l = false
  | [] => rfl
  | x :: l => by
    unfold lexLt
    rw [if_pos rfl, lexLt_irrefl l]
theorem lexLt_asymm : ∀ {l m : List Nat}, lexLt l m = true → lexLt m l = false
  | [], [], _ => rfl
  | [], _ :: _, _ => rfl
  | _ :: _, [], h => by cases h
  | x :: l, y :: m, h => by
    unfold lexLt at h ⊢
    by_cases e : x = y
    · rw [if_pos e] at h
      rw [if_pos e.symm]
      exact lexLt_asymm h
    · rw [if_neg e] at h
      rw [if_neg (Ne.symm e)]
      have := of_decide_eq_true h
      exact decide_eq_false (by omega)
theorem pairLt_irrefl (p : Nat × List Nat) : pairLt p p = false := by
  unfold pairLt
  rw [if_pos rfl, lexLt_irrefl]
theorem pairLt_asymm {p q : Nat × List Nat} (h : pairLt p q = true) : pairLt q p = false := by
  unfold pairLt at h ⊢
  by_cases e : p.1 = q.1
  · rw [if_pos e] at h
    rw [if_pos e.symm]
    exact lexLt_asymm h
  · rw [if_neg e] at h
    rw [if_neg (Ne.symm e)]
    have := of_decide_eq_true h
    exact decide_eq_false (by omega)

/-- the better one of what was found and a candidate, the earlier one if they are equal -/
def pick (best cand : Option (Nat × List Nat)) : Option (Nat × List Nat) := match cand with
  | none => best
  | some c => match best with
    | none => some c
    | some o => if c.1 < o.1 then some c else some o
theorem pick_none (b : Option (Nat × List Nat)) : pick b none = b := rfl
theorem pick_first (c : Nat × List Nat) : pick none (some c) = some c := rfl
theorem pick_two (o c : Nat × List Nat) : pick (some o) (some c) = if c.1 < o.1 then some c else some o := rfl
def pickAll (cand : Nat → Option (Nat × List Nat)) (n : Nat) : Option (Nat × List Nat) := (List.range n).foldl (fun b j => pick b (cand j)) none
theorem pickAll_more (cand : Nat → Option (Nat × List Nat)) (n : Nat) : pickAll cand (n + 1) = pick (pickAll cand n) (cand n) := by
  unfold pickAll
  rw [List.range_succ, List.foldl_append]
  rfl
theorem pickAll_none (cand : Nat → Option (Nat × List Nat)) : ∀ n, pickAll cand n = none → ∀ j, j < n → cand j = none
  | 0, _, j, hj => absurd hj (Nat.not_lt_zero _)
  | n + 1, h, j, hj => by
    rw [pickAll_more] at h
    cases e : cand n with
    | none =>
      rw [e, pick_none] at h
      by_cases q : j = n
      · rw [q, e]
      · exact pickAll_none cand n h j (by omega)
    | some c =>
      rw [e] at h
      cases e2 : pickAll cand n with
      | none => rw [e2, pick_first] at h; cases h
      | some o =>
        rw [e2, pick_two] at h
        split at h <;> cases h
theorem pickAll_some (cand : Nat → Option (Nat × List Nat)) : ∀ n b, pickAll cand n = some b → ∃ j, j < n ∧ cand j = some b ∧ ∀ j', j' < n → ∀ c, cand j' = some c → b.1 ≤ c.1 ∧ (j' < j → b.1 < c.1)
  | 0, b, h => by cases h
  | n + 1, b, h => by
    rw [pickAll_more] at h
    cases e : cand n with
    | none =>
      rw [e, pick_none] at h
      obtain ⟨j, hj, hc, hb⟩ := pickAll_some cand n b h
      refine ⟨j, by omega, hc, fun j' hj' c hc' => ?_⟩
      by_cases q : j' = n
      · rw [q, e] at hc'
        cases hc'
      · exact hb j' (by omega) c hc'
    | some c =>
      rw [e] at h
      cases e2 : pickAll cand n with
      | none =>
        rw [e2, pick_first] at h
        cases h
        refine ⟨n, by omega, e, fun j' hj' c' hc' => ?_⟩
        by_cases q : j' = n
        · rw [q, e] at hc'
          cases hc'
          exact ⟨Nat.le_refl _, fun h => by omega⟩
        · rw [pickAll_none cand n e2 j' (by omega)] at hc'
          cases hc'
      | some o =>
        rw [e2, pick_two] at h
        obtain ⟨j, hj, hc, hb⟩ := pickAll_some cand n o e2
        by_cases q : c.1 < o.1
        · rw [if_pos q] at h
          cases h
          refine ⟨n, by omega, e, fun j' hj' c' hc' => ?_⟩
          by_cases q' : j' = n
          · rw [q', e] at hc'
            cases hc'
            exact ⟨Nat.le_refl _, fun h => by omega⟩
          · have := (hb j' (by omega) c' hc').1
            exact ⟨by omega, fun _ => by omega⟩
        · rw [if_neg q] at h
          cases h
          refine ⟨j, by omega, hc, fun j' hj' c' hc' => ?_⟩
          by_cases q' : j' = n
          · rw [q', e] at hc'
            cases hc'
            exact ⟨by omega, fun h => by omega⟩
          · exact hb j' (by omega) c' hc'

/-! ## The rows of departures from an arrival hour on -/
inductive Row (tt : Timetable) (hours : List Nat) : Nat → List Nat → Nat → Prop
  | done {i : Nat} : hours.length ≤ i → Row tt hours i [] 0
  | step {i j : Nat} {r : List Nat} {c : Nat} : i < hours.length → j < hours.length - i → Row tt hours (i + j + 1) r c →
      Row tt hours i (hours.getD (i + j) 0 :: r) (waitingUntil tt (hours.getD i 0) (hours.getD (i + j) 0) + c)

def cand (tt : Timetable) (hours : List Nat) (k i j : Nat) : Option (Nat × List Nat) := match optimalFrom tt hours k (i + j + 1) with
  | none => none
  | some rest => some (waitingUntil tt (hours.getD i 0) (hours.getD (i + j) 0) + rest.1, hours.getD (i + j) 0 :: rest.2)
theorem from_zero (tt : Timetable) (hours : List Nat) (i : Nat) : optimalFrom tt hours 0 i = if hours.length ≤ i then some (0, []) else none := by
  rw [optimalFrom]
theorem from_more (tt : Timetable) (hours : List Nat) (k i : Nat) : optimalFrom tt hours (k + 1) i = if hours.length ≤ i then some (0, []) else pickAll (cand tt hours k i) (hours.length - i) := by
  rw [optimalFrom]
  by_cases h : hours.length ≤ i
  · rw [if_pos h, if_pos h]
  · rw [if_neg h, if_neg h]
    unfold pickAll
    congr 1
    funext best j
    unfold cand
    cases optimalFrom tt hours k (i + j + 1) with
    | none => rfl
    | some rest => rfl

theorem getD_lt {l : List Nat} (hs : l.Pairwise (· < ·)) {i j : Nat} (hij : i < j) (hj : j < l.length) : l.getD i 0 < l.getD j 0 := by
  have hi : i < l.length := by omega
  rw [List.getD_eq_getElem?_getD, List.getD_eq_getElem?_getD, List.getElem?_eq_getElem hi, List.getElem?_eq_getElem hj]
  exact (List.pairwise_iff_getElem.mp hs) i j hi hj hij

/-- (w, r) is not after (w', r') -/
def NotAfter (p q : Nat × List Nat) : Prop := p = q ∨ pairLt p q = true

theorem dp {tt : Timetable} {hours : List Nat} (hs : hours.Pairwise (· < ·)) : ∀ k i,
    (optimalFrom tt hours k i = none → ∀ r c, Row tt hours i r c → ¬ r.length ≤ k) ∧
    ∀ b, optimalFrom tt hours k i = some b → Row tt hours i b.2 b.1 ∧ b.2.length ≤ k ∧ ∀ r c, Row tt hours i r c → r.length ≤ k → NotAfter b (c, r)
  | 0, i => by
    rw [from_zero]
    by_cases h : hours.length ≤ i
    · rw [if_pos h]
      refine ⟨fun e => by (cases e), fun b e => ?_⟩
      cases e
      refine ⟨.done h, Nat.le_refl _, fun r c hr hl => ?_⟩
      cases hr with
      | done _ => exact .inl rfl
      | step h' _ _ => omega
    · rw [if_neg h]
      refine ⟨fun _ r c hr hl => ?_, fun b e => by (cases e)⟩
      cases hr with
      | done h' => exact h h'
      | step _ _ _ => simp at hl
  | k + 1, i => by
    rw [from_more]
    by_cases h : hours.length ≤ i
    · rw [if_pos h]
      refine ⟨fun e => by (cases e), fun b e => ?_⟩
      cases e
      refine ⟨.done h, Nat.zero_le _, fun r c hr hl => ?_⟩
      cases hr with
      | done _ => exact .inl rfl
      | step h' _ _ => omega
    · rw [if_neg h]
      constructor
      · intro e r c hr hl
        cases hr with
        | done h' => exact h h'
        | @step _ j r c _ hj hr =>
          have q := pickAll_none _ _ e j hj
          unfold cand at q
          cases e2 : optimalFrom tt hours k (i + j + 1) with
          | none =>
            refine (dp hs k (i + j + 1)).1 e2 _ _ hr ?_
            rw [List.length_cons] at hl
            omega
          | some rest =>
            rw [e2] at q
            cases q
      · intro b e
        obtain ⟨j, hj, hc, hb⟩ := pickAll_some _ _ _ e
        unfold cand at hc
        cases e2 : optimalFrom tt hours k (i + j + 1) with
        | none =>
          rw [e2] at hc
          cases hc
        | some rest =>
          rw [e2] at hc
          cases hc
          obtain ⟨r1, r2, r3⟩ := (dp hs k (i + j + 1)).2 rest e2
          refine ⟨.step (by omega) hj r1, by rw [List.length_cons]; omega, fun r c hr hl => ?_⟩
          cases hr with
          | done h' => exact absurd h' h
          | @step _ j' r c _ hj' hr =>
            rw [List.length_cons] at hl
            have hl' : r.length ≤ k := by omega
            cases e3 : optimalFrom tt hours k (i + j' + 1) with
            | none => exact absurd hl' ((dp hs k (i + j' + 1)).1 e3 _ _ hr)
            | some rest' =>
              obtain ⟨_, _, s3⟩ := (dp hs k (i + j' + 1)).2 rest' e3
              have t := hb j' hj' _ (by unfold cand; rw [e3])
              have u := s3 r c hr hl'
              have lec : rest'.1 ≤ c := by
                rcases u with e | u
                · rw [e]
                  exact Nat.le_refl _
                · unfold pairLt at u
                  by_cases q : rest'.1 = c
                  · exact Nat.le_of_eq q
                  · rw [if_neg q] at u
                    exact Nat.le_of_lt (of_decide_eq_true u)
              have t1 := t.1
              dsimp only at t1
              have t2 := t.2
              dsimp only at t2
              rcases Nat.lt_trichotomy j' j with q | q | q
              · have t3 := t2 q
                right
                unfold pairLt
                dsimp only
                rw [if_neg (by omega)]
                exact decide_eq_true (by omega)
              · subst q
                rw [e2] at e3
                cases e3
                rcases u with e | u
                · left
                  rw [e]
                · right
                  unfold pairLt at u ⊢
                  dsimp only at u ⊢
                  by_cases q : rest.1 = c
                  · rw [if_pos q] at u
                    rw [if_pos (by rw [q])]
                    unfold lexLt
                    rw [if_pos rfl]
                    exact u
                  · rw [if_neg q] at u
                    rw [if_neg (by omega)]
                    exact decide_eq_true (by have := of_decide_eq_true u; omega)
              · right
                unfold pairLt
                dsimp only
                have lt := getD_lt hs (show i + j < i + j' by omega) (by omega)
                by_cases z : waitingUntil tt (hours.getD i 0) (hours.getD (i + j) 0) + rest.1 = waitingUntil tt (hours.getD i 0) (hours.getD (i + j') 0) + c
                · rw [if_pos z]
                  unfold lexLt
                  rw [if_neg (by omega)]
                  exact decide_eq_true lt
                · rw [if_neg z]
                  exact decide_eq_true (by omega)
end Cv

namespace Cv
open Km561

/-! ## What a row of departures serves, and its waiting -/
/-- the waiting of the ships whose arrival hour stands in a list -/
def totIn (ships : List Ship) (hs r : List Nat) : Nat := (ships.map fun s => if s.arrival ∈ hs then waits r s else 0).sum
theorem sum_map_add {α : Type} (f g h : α → Nat) : ∀ l : List α, (∀ x ∈ l, f x = g x + h x) → (l.map f).sum = (l.map g).sum + (l.map h).sum
  | [], _ => rfl
  | x :: l, q => by
    rw [List.map_cons, List.map_cons, List.map_cons, List.sum_cons, List.sum_cons, List.sum_cons, sum_map_add f g h l fun y hy => q y (List.mem_cons_of_mem _ hy), q x List.mem_cons_self]
    omega
theorem sum_map_congr {α : Type} (f g : α → Nat) : ∀ l : List α, (∀ x ∈ l, f x = g x) → (l.map f).sum = (l.map g).sum
  | [], _ => rfl
  | x :: l, q => by
    rw [List.map_cons, List.map_cons, List.sum_cons, List.sum_cons, sum_map_congr f g l fun y hy => q y (List.mem_cons_of_mem _ hy), q x List.mem_cons_self]
theorem sum_map_le {α : Type} (f g : α → Nat) : ∀ l : List α, (∀ x ∈ l, f x ≤ g x) → (l.map f).sum ≤ (l.map g).sum
  | [], _ => Nat.le_refl _
  | x :: l, q => by
    rw [List.map_cons, List.map_cons, List.sum_cons, List.sum_cons]
    exact Nat.add_le_add (q x List.mem_cons_self) (sum_map_le f g l fun y hy => q y (List.mem_cons_of_mem _ hy))
theorem sum_map_zero {α : Type} (f : α → Nat) : ∀ l : List α, (∀ x ∈ l, f x = 0) → (l.map f).sum = 0
  | [], _ => rfl
  | x :: l, q => by
    rw [List.map_cons, List.sum_cons, q x List.mem_cons_self, sum_map_zero f l fun y hy => q y (List.mem_cons_of_mem _ hy)]

theorem getD_eq {l : List Nat} {i : Nat} (h : i < l.length) : l.getD i 0 = l[i] := by
  rw [List.getD_eq_getElem?_getD, List.getElem?_eq_getElem h]
  rfl
/-- x stands at or behind the place i of a sorted list -/
theorem mem_drop_iff {l : List Nat} (hs : l.Pairwise (· < ·)) {i : Nat} (hi : i < l.length) {x : Nat} : x ∈ l.drop i ↔ x ∈ l ∧ l.getD i 0 ≤ x := by
  constructor
  · intro h
    refine ⟨List.mem_of_mem_drop h, ?_⟩
    obtain ⟨k, hk, e⟩ := List.mem_iff_getElem.mp h
    rw [List.length_drop] at hk
    rw [List.getElem_drop] at e
    rw [← e, getD_eq hi]
    by_cases q : k = 0
    · subst q
      exact Nat.le_refl _
    · exact Nat.le_of_lt ((List.pairwise_iff_getElem.mp hs) i (i + k) hi (by omega) (by omega))
  · rintro ⟨h, hle⟩
    obtain ⟨k, hk, e⟩ := List.mem_iff_getElem.mp h
    by_cases q : i ≤ k
    · refine List.mem_iff_getElem.mpr ⟨k - i, by rw [List.length_drop]; omega, ?_⟩
      rw [List.getElem_drop, ← e]
      congr 1
      omega
    · exfalso
      have := (List.pairwise_iff_getElem.mp hs) k i hk hi (by omega)
      rw [getD_eq hi] at hle
      omega
theorem mem_drop_succ {l : List Nat} (hs : l.Pairwise (· < ·)) {i : Nat} (hi : i < l.length) {x : Nat} : x ∈ l.drop (i + 1) ↔ x ∈ l ∧ l.getD i 0 < x := by
  by_cases h : i + 1 < l.length
  · rw [mem_drop_iff hs h]
    constructor
    · rintro ⟨a, b⟩
      have := getD_lt hs (show i < i + 1 by omega) h
      exact ⟨a, by omega⟩
    · rintro ⟨a, b⟩
      refine ⟨a, ?_⟩
      obtain ⟨k, hk, e⟩ := List.mem_iff_getElem.mp a
      have c : i < k := by
        rcases Nat.lt_trichotomy i k with q | q | q
        · exact q
        · subst q
          rw [getD_eq hi] at b
          omega
        · have := (List.pairwise_iff_getElem.mp hs) k i hk hi q
          rw [getD_eq hi] at b
          omega
      rw [getD_eq h, ← e]
      by_cases q : i + 1 = k
      · subst q
        exact Nat.le_refl _
      · exact Nat.le_of_lt ((List.pairwise_iff_getElem.mp hs) (i + 1) k h hk (by omega))
  · rw [List.drop_eq_nil_of_le (by omega)]
    constructor
    · intro h
      cases h
    · rintro ⟨a, b⟩
      obtain ⟨k, hk, e⟩ := List.mem_iff_getElem.mp a
      exfalso
      rw [getD_eq hi] at b
      by_cases q : k = i
      · subst q
        omega
      · have := (List.pairwise_iff_getElem.mp hs) k i hk hi (by omega)
        omega

/-- all the ships whose arrival hour stands at or behind i are served, and the cost is their waiting -/
theorem row_tells {tt : Timetable} {hours : List Nat} (hs : hours.Pairwise (· < ·)) (ha : ∀ s ∈ tt.ships, s.arrival ∈ hours) {i : Nat} {r : List Nat} {c : Nat} (h : Row tt hours i r c) :
    List.Sublist r (hours.drop i) ∧ (∀ s ∈ tt.ships, s.arrival ∈ hours.drop i → (depFrom r s.arrival).isSome = true) ∧ c = totIn tt.ships (hours.drop i) r := by
  induction h with
  | done h =>
    rw [List.drop_eq_nil_of_le h]
    refine ⟨.slnil, fun s _ hm => by (cases hm), ?_⟩
    unfold totIn
    rw [sum_map_zero]
    intro s _
    rw [if_neg (by simp)]
  | @step i j r c hi hj _ ih =>
    obtain ⟨a1, a2, a3⟩ := ih
    have hij : i + j < hours.length := by omega
    have e0 : hours.drop (i + j) = hours.getD (i + j) 0 :: hours.drop (i + j + 1) := by
      rw [getD_eq hij]
      exact List.drop_eq_getElem_cons hij
    have e1 : List.Sublist (hours.drop (i + j)) (hours.drop i) := by
      rw [← List.drop_drop]
      exact List.drop_sublist _ _
    refine ⟨?_, fun s hsm hm => ?_, ?_⟩
    · refine List.Sublist.trans ?_ e1
      rw [e0]
      exact a1.cons_cons _
    · rw [depFrom_cons]
      by_cases q : s.arrival ≤ hours.getD (i + j) 0
      · rw [if_pos q]
        rfl
      · rw [if_neg q]
        exact a2 s hsm ((mem_drop_succ hs hij).mpr ⟨ha s hsm, by omega⟩)
    · rw [a3]
      unfold totIn waitingUntil
      rw [sum_is]
      symm
      refine sum_map_add _ _ _ _ fun s hsm => ?_
      have hx := ha s hsm
      unfold waits
      rw [depFrom_cons]
      by_cases q1 : hours.getD i 0 ≤ s.arrival
      · rw [if_pos ((mem_drop_iff hs hi).mpr ⟨hx, q1⟩)]
        by_cases q2 : s.arrival ≤ hours.getD (i + j) 0
        · rw [if_pos q2, if_pos ⟨q1, q2⟩, if_neg (fun z => by have := ((mem_drop_succ hs hij).mp z).2; omega), Nat.add_zero]
          rfl
        · rw [if_neg q2, if_neg (fun z => q2 z.2), if_pos ((mem_drop_succ hs hij).mpr ⟨hx, by omega⟩), Nat.zero_add]
      · have q3 : ¬ s.arrival ∈ hours.drop i := fun z => q1 ((mem_drop_iff hs hi).mp z).2
        have q4 : ¬ s.arrival ∈ hours.drop (i + j + 1) := fun z => by
          have := ((mem_drop_succ hs hij).mp z).2
          by_cases w : j = 0
          · subst w
            exact q1 (by rw [Nat.add_zero] at this; omega)
          · have := getD_lt hs (show i < i + j by omega) hij
            omega
        rw [if_neg q3, if_neg (fun z => q1 z.1), if_neg q4]
/-- a list of later arrival hours that serves these ships is such a row -/
theorem row_of {tt : Timetable} {hours : List Nat} (hs : hours.Pairwise (· < ·)) (hb : ∀ x ∈ hours, ∃ s ∈ tt.ships, s.arrival = x) :
    ∀ (r : List Nat) (i : Nat), List.Sublist r (hours.drop i) → (∀ s ∈ tt.ships, s.arrival ∈ hours.drop i → (depFrom r s.arrival).isSome = true) → ∃ c, Row tt hours i r c
  | [], i, _, hv => by
    by_cases q : hours.length ≤ i
    · exact ⟨0, .done q⟩
    · exfalso
      have hm : hours.getD i 0 ∈ hours.drop i := (mem_drop_iff hs (by omega)).mpr ⟨by rw [getD_eq (by omega)]; exact List.getElem_mem _, Nat.le_refl _⟩
      obtain ⟨s, hsm, e⟩ := hb _ (List.mem_of_mem_drop hm)
      rw [← e] at hm
      have := hv s hsm hm
      cases this
  | d :: r, i, hsub, hv => by
    have hi : i < hours.length := by
      by_cases q : i < hours.length
      · exact q
      · rw [List.drop_eq_nil_of_le (by omega)] at hsub
        cases hsub
    obtain ⟨r1, r2, e, hd, hr⟩ := List.cons_sublist_iff.mp hsub
    obtain ⟨j, hj, ej⟩ := List.mem_iff_getElem.mp hd
    have hlen : hours.length - i = r1.length + r2.length := by
      rw [← List.length_drop, e, List.length_append]
    have hij : i + j < hours.length := by omega
    have ed : hours.getD (i + j) 0 = d := by
      rw [getD_eq hij, ← ej]
      have z : (hours.drop i)[j]'(by rw [List.length_drop]; omega) = r1[j] := by
        simp only [e]
        rw [List.getElem_append_left hj]
      rw [List.getElem_drop] at z
      exact z
    have e2 : hours.drop (i + j + 1) = r1.drop (j + 1) ++ r2 := by
      rw [Nat.add_assoc, ← List.drop_drop, e, List.drop_append_of_le_length (by omega)]
    have hsub2 : List.Sublist r (hours.drop (i + j + 1)) := by
      rw [e2]
      exact hr.trans (List.sublist_append_right _ _)
    obtain ⟨c, hc⟩ := row_of hs hb r (i + j + 1) hsub2 fun s hsm hm => by
      have lt := ((mem_drop_succ hs hij).mp hm)
      have le : hours.getD i 0 ≤ hours.getD (i + j) 0 := by
        by_cases w : j = 0
        · subst w
          exact Nat.le_refl _
        · exact Nat.le_of_lt (getD_lt hs (by omega) hij)
      have := hv s hsm ((mem_drop_iff hs hi).mpr ⟨lt.1, by omega⟩)
      rw [depFrom_cons, if_neg (by rw [← ed]; omega)] at this
      exact this
    rw [← ed]
    exact ⟨_, .step hi (by omega) hc⟩

theorem totIn_all {tt : Timetable} {hours : List Nat} (ha : ∀ s ∈ tt.ships, s.arrival ∈ hours) (r : List Nat) : totIn tt.ships hours r = totalOf tt.ships r := by
  unfold totIn totalOf
  refine sum_map_congr _ _ _ fun s hs => ?_
  rw [if_pos (ha s hs)]

/-! ## The optimal departures -/
/-- the lists of at most so many arrival hours that serve all ships, as the program goes through them -/
def servingOf (ships : List Ship) (most : Nat) : List (List Nat) := (rowsOf most (hoursOf ships)).filter (servedBy ships)
theorem mem_serving {ships : List Ship} {most : Nat} {r : List Nat} : r ∈ servingOf ships most ↔ List.Sublist r (hoursOf ships) ∧ r.length ≤ most ∧ servedBy ships r = true := by
  unfold servingOf
  rw [List.mem_filter, mem_rows]
  constructor
  · rintro ⟨⟨a, b⟩, c⟩
    exact ⟨a, b, c⟩
  · rintro ⟨a, b, c⟩
    exact ⟨⟨a, b⟩, c⟩
theorem served_iff {ships : List Ship} {r : List Nat} : servedBy ships r = true ↔ ∀ s ∈ ships, (depFrom r s.arrival).isSome = true := by
  unfold servedBy
  exact List.all_eq_true
theorem row_iff {tt : Timetable} {r : List Nat} {c : Nat} : Row tt (hoursOf tt.ships) 0 r c ↔ List.Sublist r (hoursOf tt.ships) ∧ servedBy tt.ships r = true ∧ c = totalOf tt.ships r := by
  have ha : ∀ s ∈ tt.ships, s.arrival ∈ hoursOf tt.ships := fun s hs => mem_hours.mpr ⟨s, hs, rfl⟩
  constructor
  · intro h
    obtain ⟨a, b, e⟩ := row_tells (hours_sorted _) ha h
    rw [List.drop_zero] at a b e
    exact ⟨a, served_iff.mpr fun s hs => b s hs (ha s hs), by rw [e, totIn_all ha]⟩
  · rintro ⟨a, b, rfl⟩
    obtain ⟨c, hc⟩ := row_of (tt := tt) (hours_sorted tt.ships) (fun x hx => mem_hours.mp hx) r 0 (by rw [List.drop_zero]; exact a) fun s hs _ => served_iff.mp b s hs
    obtain ⟨_, _, e⟩ := row_tells (hours_sorted _) ha hc
    rw [List.drop_zero, totIn_all ha] at e
    rw [← e]
    exact hc
/-- the last arrival hour alone, or no hour, serves all -/
theorem serving_some (ships : List Ship) {most : Nat} (hm : 1 ≤ most) : ∃ r, r ∈ servingOf ships most := by
  cases e : (hoursOf ships).getLast? with
  | none =>
    rw [List.getLast?_eq_none_iff] at e
    refine ⟨[], mem_serving.mpr ⟨List.nil_sublist _, Nat.zero_le _, served_iff.mpr fun s hs => ?_⟩⟩
    have := mem_hours.mpr ⟨s, hs, rfl⟩
    rw [e] at this
    cases this
  | some x =>
    have hx : x ∈ hoursOf ships := List.mem_of_getLast? e
    refine ⟨[x], mem_serving.mpr ⟨List.singleton_sublist.mpr hx, hm, served_iff.mpr fun s hs => ?_⟩⟩
    have hm2 := mem_hours.mpr ⟨s, hs, rfl⟩
    rw [depFrom_cons, if_pos]
    · rfl
    · obtain ⟨l, e2⟩ := List.getLast?_eq_some_iff.mp e
      have hp := hours_sorted ships
      rw [e2] at hp hm2
      rcases List.mem_append.mp hm2 with q | q
      · exact Nat.le_of_lt ((List.pairwise_append.mp hp).2.2 _ q _ (List.mem_singleton.mpr rfl))
      · rw [List.mem_singleton] at q
        exact Nat.le_of_eq q
/-- the specification's optimal departures are the first of the program's lists, by total and then by hours -/
theorem optimal_is (tt : Timetable) {most : Nat} (hm : 1 ≤ most) : ∃ r, Km561.optimal tt most = some (totalOf tt.ships r, r) ∧ r ∈ servingOf tt.ships most ∧
    ∀ r' ∈ servingOf tt.ships most, NotAfter (totalOf tt.ships r, r) (totalOf tt.ships r', r') := by
  have D := dp (tt := tt) (hours_sorted tt.ships) most 0
  have e0 : Km561.optimal tt most = optimalFrom tt (hoursOf tt.ships) most 0 := rfl
  rw [e0]
  cases e : optimalFrom tt (hoursOf tt.ships) most 0 with
  | none =>
    exfalso
    obtain ⟨r, hr⟩ := serving_some tt.ships hm
    obtain ⟨a, b, c⟩ := mem_serving.mp hr
    exact D.1 e r _ (row_iff.mpr ⟨a, c, rfl⟩) b
  | some b =>
    obtain ⟨a1, a2, a3⟩ := D.2 b e
    obtain ⟨b1, b2, b3⟩ := row_iff.mp a1
    refine ⟨b.2, ?_, mem_serving.mpr ⟨b1, a2, b2⟩, fun r' hr' => ?_⟩
    · rw [← b3]
    · obtain ⟨c1, c2, c3⟩ := mem_serving.mp hr'
      rw [← b3]
      exact a3 r' _ (row_iff.mpr ⟨c1, c3, rfl⟩) c2
end Cv

namespace Cv
open Km561

theorem optimalWaiting_eq (tt : Timetable) {most : Nat} {w : Nat} {r : List Nat} (h : Km561.optimal tt most = some (w, r)) : optimalWaiting tt most = w := by
  unfold optimalWaiting
  rw [h]
  rfl
theorem notAfter_le {p q : Nat × List Nat} (h : NotAfter p q) : p.1 ≤ q.1 := by
  rcases h with e | h
  · rw [e]
    exact Nat.le_refl _
  · unfold pairLt at h
    by_cases e : p.1 = q.1
    · exact Nat.le_of_eq e
    · rw [if_neg e] at h
      exact Nat.le_of_lt (of_decide_eq_true h)
/-- the optimal waiting is the total of one of the lists, and no list has a smaller one -/
theorem opt_is (tt : Timetable) {most : Nat} (hm : 1 ≤ most) : ∃ r ∈ servingOf tt.ships most, optimalWaiting tt most = totalOf tt.ships r ∧ ∀ r' ∈ servingOf tt.ships most, totalOf tt.ships r ≤ totalOf tt.ships r' := by
  obtain ⟨r, e, hr, hb⟩ := optimal_is tt hm
  exact ⟨r, hr, optimalWaiting_eq tt e, fun r' hr' => notAfter_le (hb r' hr')⟩
theorem opt_le {tt : Timetable} {most : Nat} (hm : 1 ≤ most) {r : List Nat} (hr : r ∈ servingOf tt.ships most) : optimalWaiting tt most ≤ totalOf tt.ships r := by
  obtain ⟨r0, _, e, hb⟩ := opt_is tt hm
  rw [e]
  exact hb r hr
/-- one departure more never waits longer -/
theorem opt_mono (tt : Timetable) {k : Nat} (hk : 1 ≤ k) : optimalWaiting tt (k + 1) ≤ optimalWaiting tt k := by
  obtain ⟨r, hr, e, _⟩ := opt_is tt hk
  rw [e]
  refine opt_le (by omega) ?_
  obtain ⟨a, b, c⟩ := mem_serving.mp hr
  exact mem_serving.mpr ⟨a, by omega, c⟩
theorem depFrom_self {l : List Nat} (hs : l.Pairwise (· < ·)) {x : Nat} (hx : x ∈ l) : depFrom l x = some x := by
  rw [depFrom_some (lt_le hs)]
  exact ⟨hx, Nat.le_refl _, fun e _ h => h⟩
/-- with as many departures as ships nobody waits -/
theorem opt_zero {tt : Timetable} {k : Nat} (hk : 1 ≤ k) (hl : tt.ships.length ≤ k) : optimalWaiting tt k = 0 := by
  have h : hoursOf tt.ships ∈ servingOf tt.ships k := mem_serving.mpr ⟨List.Sublist.refl _, Nat.le_trans (hours_length _) hl, served_iff.mpr fun s hs => by
    rw [depFrom_self (hours_sorted _) (mem_hours.mpr ⟨s, hs, rfl⟩)]
    rfl⟩
  have e : totalOf tt.ships (hoursOf tt.ships) = 0 := by
    unfold totalOf
    refine sum_map_zero _ _ fun s hs => ?_
    unfold waits
    rw [depFrom_self (hours_sorted _) (mem_hours.mpr ⟨s, hs, rfl⟩)]
    show s.weight * (s.arrival - s.arrival) = 0
    rw [Nat.sub_self, Nat.mul_zero]
  have := opt_le hk h
  omega

/-! ## No departures at whatever hours wait less -/
theorem sorted_sublist {l hs : List Nat} (h1 : l.Pairwise (· < ·)) (h2 : hs.Pairwise (· < ·)) (h : ∀ x ∈ l, x ∈ hs) : List.Sublist l hs := by
  have e : l = hs.filter fun x => decide (x ∈ l) := by
    refine sorted_unique h1 (h2.sublist List.filter_sublist) fun x => ?_
    rw [List.mem_filter]
    constructor
    · intro q
      exact ⟨h x q, decide_eq_true q⟩
    · intro q
      exact of_decide_eq_true q.2
  rw [e]
  exact List.filter_sublist
/-- the latest of some hours up to d -/
def floorOf (hs : List Nat) (d : Nat) : Option Nat := (hs.filter fun x => decide (x ≤ d)).getLast?
theorem floor_tells {hs : List Nat} (h2 : hs.Pairwise (· < ·)) {d x : Nat} (h : floorOf hs d = some x) : x ∈ hs ∧ x ≤ d ∧ ∀ y ∈ hs, y ≤ d → y ≤ x := by
  have hx : x ∈ hs.filter fun x => decide (x ≤ d) := List.mem_of_getLast? h
  rw [List.mem_filter] at hx
  refine ⟨hx.1, of_decide_eq_true hx.2, fun y hy hd => ?_⟩
  have hy2 : y ∈ hs.filter fun x => decide (x ≤ d) := List.mem_filter.mpr ⟨hy, decide_eq_true hd⟩
  obtain ⟨l, e⟩ := List.getLast?_eq_some_iff.mp h
  have hp : (hs.filter fun x => decide (x ≤ d)).Pairwise (· < ·) := h2.sublist List.filter_sublist
  rw [e] at hp hy2
  rcases List.mem_append.mp hy2 with q | q
  · exact Nat.le_of_lt ((List.pairwise_append.mp hp).2.2 _ q _ (List.mem_singleton.mpr rfl))
  · rw [List.mem_singleton] at q
    exact Nat.le_of_eq q
theorem floor_some {hs : List Nat} {d y : Nat} (hy : y ∈ hs) (hd : y ≤ d) : ∃ x, floorOf hs d = some x := by
  cases e : floorOf hs d with
  | some x => exact ⟨x, rfl⟩
  | none =>
    unfold floorOf at e
    rw [List.getLast?_eq_none_iff] at e
    have : y ∈ hs.filter fun x => decide (x ≤ d) := List.mem_filter.mpr ⟨hy, decide_eq_true hd⟩
    rw [e] at this
    cases this
def floors (hs ds : List Nat) : List Nat := hoursOf ((ds.filterMap (floorOf hs)).map fun x => ⟨x, 1⟩)
theorem mem_floors {hs ds : List Nat} {x : Nat} : x ∈ floors hs ds ↔ ∃ d ∈ ds, floorOf hs d = some x := by
  unfold floors
  rw [mem_hours]
  constructor
  · rintro ⟨s, hsm, e⟩
    obtain ⟨y, hy, e2⟩ := List.mem_map.mp hsm
    obtain ⟨d, hd, e3⟩ := List.mem_filterMap.mp hy
    rw [← e2] at e
    rw [← e]
    exact ⟨d, hd, e3⟩
  · rintro ⟨d, hd, e⟩
    exact ⟨⟨x, 1⟩, List.mem_map.mpr ⟨x, List.mem_filterMap.mpr ⟨d, hd, e⟩, rfl⟩, rfl⟩
theorem opt_least {tt : Timetable} {ds : List Nat} (hd : ds.Pairwise (· < ·)) (hv : servedBy tt.ships ds = true) {k : Nat} (hk : 1 ≤ k) (hl : ds.length ≤ k) : optimalWaiting tt k ≤ totalOf tt.ships ds := by
  have H2 := hours_sorted tt.ships
  have key : ∀ s ∈ tt.ships, ∃ d x y, depFrom ds s.arrival = some d ∧ depFrom (floors (hoursOf tt.ships) ds) s.arrival = some x ∧ s.arrival ≤ x ∧ x ≤ y ∧ y ≤ d := fun s hs => by
    have q := served_iff.mp hv s hs
    cases e : depFrom ds s.arrival with
    | none =>
      rw [e] at q
      cases q
    | some d =>
      obtain ⟨d1, d2, d3⟩ := (depFrom_some (lt_le hd)).mp e
      have hm := mem_hours.mpr ⟨s, hs, rfl⟩
      obtain ⟨y, ey⟩ := floor_some hm d2
      obtain ⟨y1, y2, y3⟩ := floor_tells H2 ey
      have hy : y ∈ floors (hoursOf tt.ships) ds := mem_floors.mpr ⟨d, d1, ey⟩
      have hsy := y3 _ hm d2
      cases e2 : depFrom (floors (hoursOf tt.ships) ds) s.arrival with
      | none =>
        have := depFrom_none.mp e2 y hy
        omega
      | some x =>
        obtain ⟨x1, x2, x3⟩ := (depFrom_some (lt_le (hours_sorted _))).mp e2
        exact ⟨d, x, y, rfl, rfl, x2, x3 y hy hsy, y2⟩
  have hr : floors (hoursOf tt.ships) ds ∈ servingOf tt.ships k := by
    refine mem_serving.mpr ⟨sorted_sublist (hours_sorted _) H2 fun x hx => ?_, ?_, served_iff.mpr fun s hs => ?_⟩
    · obtain ⟨d, _, e⟩ := mem_floors.mp hx
      exact (floor_tells H2 e).1
    · refine Nat.le_trans (hours_length _) ?_
      rw [List.length_map]
      exact Nat.le_trans (List.length_filterMap_le _ _) hl
    · obtain ⟨d, x, y, _, e, _⟩ := key s hs
      rw [e]
      rfl
  refine Nat.le_trans (opt_le hk hr) ?_
  unfold totalOf
  refine sum_map_le _ _ _ fun s hs => ?_
  obtain ⟨d, x, y, e1, e2, a, b, c⟩ := key s hs
  unfold waits
  rw [e1, e2]
  exact Nat.mul_le_mul_left _ (by show x - s.arrival ≤ d - s.arrival; omega)

/-! ## min_departures and cheapest_count -/
theorem find_range {p : Nat → Bool} : ∀ n, (∃ i, i < n ∧ p i = true) → ∃ i, (List.range n).find? p = some i ∧ i < n ∧ p i = true ∧ ∀ j, j < i → p j = false := by
  intro n h
  cases e : (List.range n).find? p with
  | none =>
    rw [List.find?_eq_none] at e
    obtain ⟨i, hi, hp⟩ := h
    exact absurd hp (e i (List.mem_range.mpr hi))
  | some i =>
    have hp := List.find?_some e
    have hm := List.mem_of_find?_eq_some e
    refine ⟨i, rfl, List.mem_range.mp hm, hp, fun j hj => ?_⟩
    obtain ⟨_, as, bs, e2, hb⟩ := List.find?_eq_some_iff_append.mp e
    have hjm : j ∈ as := by
      have hlen : as.length = i := by
        have z : (List.range n)[as.length]? = some i := by
          rw [e2, List.getElem?_append_right (Nat.le_refl _), Nat.sub_self]
          rfl
        rw [List.getElem?_range] at z
        · exact Option.some.inj z
        · have : (List.range n).length = as.length + (bs.length + 1) := by rw [e2, List.length_append, List.length_cons]
          rw [List.length_range] at this
          omega
      have hin : i < n := List.mem_range.mp hm
      have z : (List.range n)[j]? = some j := by rw [List.getElem?_range (by omega)]
      rw [e2, List.getElem?_append_left (by omega)] at z
      exact List.mem_of_getElem? z
    have := hb j hjm
    simpa using this
/-- the first k from 1 to 8 that is within the limit -/
theorem fewest_is {tt : Timetable} (hl : tt.ships.length ≤ 8) (limit : Nat) : ∃ i, (List.range maxShips).find? (fun i => decide (optimalWaiting tt (i + 1) ≤ limit)) = some i ∧ i < 8 ∧ optimalWaiting tt (i + 1) ≤ limit ∧ ∀ j, j < i → ¬ optimalWaiting tt (j + 1) ≤ limit := by
  obtain ⟨i, e, h1, h2, h3⟩ := find_range (p := fun i => decide (optimalWaiting tt (i + 1) ≤ limit)) 8 ⟨7, by omega, decide_eq_true (by rw [opt_zero (by omega) (by omega)]; exact Nat.zero_le _)⟩
  exact ⟨i, e, h1, of_decide_eq_true h2, fun j hj => of_decide_eq_false (h3 j hj)⟩

def costOf (tt : Timetable) (price k : Nat) : Nat := optimalWaiting tt k + price * k
theorem cheapest_fold (tt : Timetable) (price : Nat) (h0 : shipCount tt ≠ 0) : ∀ n, ∃ k, 1 ≤ k ∧ k ≤ max 1 n ∧
    (List.range n).foldl (fun (best : Nat × Nat) (i : Nat) =>
      if shipCount tt = 0 then (0, 0)
      else if optimalWaiting tt (i + 1) + price * (i + 1) < best.2
      then (i + 1, optimalWaiting tt (i + 1) + price * (i + 1)) else best)
      (if shipCount tt = 0 then (0, 0) else (1, optimalWaiting tt 1 + price)) = (k, costOf tt price k) ∧
    ∀ j, 1 ≤ j → j ≤ n → costOf tt price k ≤ costOf tt price j ∧ (j < k → costOf tt price k < costOf tt price j)
  | 0 => by
    refine ⟨1, Nat.le_refl _, Nat.le_max_left _ _, ?_, fun j h1 h2 => by omega⟩
    rw [List.range_zero, List.foldl_nil, if_neg h0]
    unfold costOf
    rw [Nat.mul_one]
  | n + 1 => by
    obtain ⟨k, k1, k2, e, hb⟩ := cheapest_fold tt price h0 n
    rw [List.range_succ, List.foldl_append, e]
    show ∃ k', 1 ≤ k' ∧ k' ≤ max 1 (n + 1) ∧ (if shipCount tt = 0 then (0, 0) else if costOf tt price (n + 1) < costOf tt price k then (n + 1, costOf tt price (n + 1)) else (k, costOf tt price k)) = (k', costOf tt price k') ∧ _
    rw [if_neg h0]
    by_cases q : costOf tt price (n + 1) < costOf tt price k
    · rw [if_pos q]
      refine ⟨n + 1, by omega, by omega, rfl, fun j h1 h2 => ?_⟩
      by_cases w : j = n + 1
      · subst w
        exact ⟨Nat.le_refl _, fun z => by omega⟩
      · have := (hb j h1 (by omega)).1
        exact ⟨by omega, fun _ => by omega⟩
    · rw [if_neg q]
      refine ⟨k, k1, by omega, rfl, fun j h1 h2 => ?_⟩
      by_cases w : j = n + 1
      · subst w
        refine ⟨by omega, fun z => ?_⟩
        rcases Nat.lt_or_ge 1 n with a | a
        · omega
        · omega
      · exact hb j h1 (by omega)
/-- the first of the cheapest numbers from 1 to 8 -/
theorem cheapest_is {tt : Timetable} (price : Nat) (h0 : shipCount tt ≠ 0) : ∃ k, 1 ≤ k ∧ k ≤ 8 ∧ Km561.cheapestCount tt price = (k, costOf tt price k) ∧
    ∀ j, 1 ≤ j → j ≤ 8 → costOf tt price k ≤ costOf tt price j ∧ (j < k → costOf tt price k < costOf tt price j) := by
  obtain ⟨k, k1, k2, e, hb⟩ := cheapest_fold tt price h0 8
  exact ⟨k, k1, k2, e, hb⟩
theorem cheapest_none {tt : Timetable} (price : Nat) (h0 : shipCount tt = 0) : Km561.cheapestCount tt price = (0, 0) := by
  have key : ∀ n, (List.range n).foldl (fun (best : Nat × Nat) (i : Nat) =>
      if shipCount tt = 0 then (0, 0)
      else if optimalWaiting tt (i + 1) + price * (i + 1) < best.2
      then (i + 1, optimalWaiting tt (i + 1) + price * (i + 1)) else best)
      (if shipCount tt = 0 then (0, 0) else (1, optimalWaiting tt 1 + price)) = (0, 0) := by
    intro n
    induction n with
    | zero => rw [List.range_zero, List.foldl_nil, if_pos h0]
    | succ n ih =>
      rw [List.range_succ, List.foldl_append, ih]
      show (if shipCount tt = 0 then (0, 0) else _) = _
      rw [if_pos h0]
  exact key 8

/-! ## The state -/
structure Valid (tt : Timetable) : Prop where
  few : tt.ships.length ≤ 8
  ok : ∀ s ∈ tt.ships, s.arrival ≤ 48 ∧ 1 ≤ s.weight ∧ s.weight ≤ 9
  sorted : tt.departures.Pairwise (· < ·)
  deps : tt.departures.length ≤ 8
  hours : ∀ d ∈ tt.departures, d ≤ 48
theorem valid_new : Valid ⟨[], []⟩ := ⟨Nat.zero_le _, fun s h => by (cases h), .nil, Nat.zero_le _, fun d h => by (cases h)⟩
theorem valid_ships {tt : Timetable} (h : Valid tt) {ships : List Ship} (hl : ships.length ≤ 8) (ho : ∀ s ∈ ships, s.arrival ≤ 48 ∧ 1 ≤ s.weight ∧ s.weight ≤ 9) : Valid { tt with ships := ships } := ⟨hl, ho, h.sorted, h.deps, h.hours⟩
theorem valid_deps {tt : Timetable} (h : Valid tt) {ds : List Nat} (hs : ds.Pairwise (· < ·)) (hl : ds.length ≤ 8) (ho : ∀ d ∈ ds, d ≤ 48) : Valid { tt with departures := ds } := ⟨h.few, h.ok, hs, hl, ho⟩
theorem hours_le {tt : Timetable} (h : Valid tt) : ∀ d ∈ hoursOf tt.ships, d ≤ 48 := fun d hd => by
  obtain ⟨s, hs, e⟩ := mem_hours.mp hd
  rw [← e]
  exact (h.ok s hs).1
end Cv

namespace Cv
open Km561

/-! ## What each operation is to answer, in the program's words -/
section
variable {tt : Timetable}
abbrev fine (x y : Nat) : Prop := x ≤ 48 ∧ 1 ≤ y ∧ y ≤ 9
theorem valid_true {x y : Nat} (h : fine x y) : isValidShip x y = true := decide_eq_true h
theorem valid_false {x y : Nat} (h : ¬ fine x y) : isValidShip x y = false := decide_eq_false h
theorem st_add_bad {x y : Nat} (h : ¬ fine x y) : step (some tt) (.addShip x y) = (some tt, error (-22)) := by
  show (if isValidShip x y = false then _ else _) = _
  rw [if_pos (valid_false h)]
theorem st_add_full {x y : Nat} (h : fine x y) (h8 : 8 ≤ tt.ships.length) : step (some tt) (.addShip x y) = (some tt, error (-28)) := by
  show (if isValidShip x y = false then _ else if 8 ≤ tt.ships.length then _ else _) = _
  rw [if_neg (by rw [valid_true h]; decide), if_pos h8]
theorem st_add {x y : Nat} (h : fine x y) (h8 : ¬ 8 ≤ tt.ships.length) : step (some tt) (.addShip x y) = (some { tt with ships := tt.ships ++ [⟨x, y⟩] }, ⟨(tt.ships.length : Nat), []⟩) := by
  show (if isValidShip x y = false then _ else if 8 ≤ tt.ships.length then _ else _) = _
  rw [if_neg (by rw [valid_true h]; decide), if_neg h8]
  rfl
theorem st_rem_bad {i : Nat} (h : tt.ships.length ≤ i) : step (some tt) (.removeShip i) = (some tt, error (-2)) := by
  show (if tt.ships.length ≤ i then _ else _) = _
  rw [if_pos h]
theorem st_rem {i : Nat} (h : ¬ tt.ships.length ≤ i) : step (some tt) (.removeShip i) = (some { tt with ships := tt.ships.eraseIdx i }, ⟨(tt.ships.length - 1 : Nat), []⟩) := by
  show (if tt.ships.length ≤ i then _ else _) = _
  rw [if_neg h]
  rfl
theorem getShip_at {i : Nat} {s : Ship} (h : tt.ships[i]? = some s) : getShip tt i = s := by
  unfold getShip
  rw [List.getD_eq_getElem?_getD, h]
  rfl
theorem st_arr_bad {i x : Nat} (h : tt.ships.length ≤ i) : step (some tt) (.setArrival i x) = (some tt, error (-2)) := by
  show (if tt.ships.length ≤ i then _ else _) = _
  rw [if_pos h]
theorem st_arr_late {i x : Nat} (h : ¬ tt.ships.length ≤ i) (h2 : 48 < x) : step (some tt) (.setArrival i x) = (some tt, error (-22)) := by
  show (if tt.ships.length ≤ i then _ else if 48 < x then _ else _) = _
  rw [if_neg h, if_pos h2]
theorem st_arr {i x : Nat} {s : Ship} (h : ¬ tt.ships.length ≤ i) (h2 : ¬ 48 < x) (hs : tt.ships[i]? = some s) : step (some tt) (.setArrival i x) = (some { tt with ships := tt.ships.set i ⟨x, s.weight⟩ }, ⟨(s.arrival : Nat), []⟩) := by
  show (if tt.ships.length ≤ i then _ else if 48 < x then _ else _) = _
  rw [if_neg h, if_neg h2, getShip_at hs]
  rfl
theorem st_wgt_bad {i x : Nat} (h : tt.ships.length ≤ i) : step (some tt) (.setWeight i x) = (some tt, error (-2)) := by
  show (if tt.ships.length ≤ i then _ else _) = _
  rw [if_pos h]
theorem st_wgt_off {i x : Nat} (h : ¬ tt.ships.length ≤ i) (h2 : ¬ (1 ≤ x ∧ x ≤ 9)) : step (some tt) (.setWeight i x) = (some tt, error (-22)) := by
  show (if tt.ships.length ≤ i then _ else if x = 0 ∨ 9 < x then _ else _) = _
  rw [if_neg h, if_pos (by omega)]
theorem st_wgt {i x : Nat} {s : Ship} (h : ¬ tt.ships.length ≤ i) (h2 : 1 ≤ x ∧ x ≤ 9) (hs : tt.ships[i]? = some s) : step (some tt) (.setWeight i x) = (some { tt with ships := tt.ships.set i ⟨s.arrival, x⟩ }, ⟨(s.weight : Nat), []⟩) := by
  show (if tt.ships.length ≤ i then _ else if x = 0 ∨ 9 < x then _ else _) = _
  rw [if_neg h, if_neg (by omega), getShip_at hs]
  rfl
theorem st_list : step (some tt) .listShips = (some tt, ⟨(tt.ships.length : Nat), tt.ships.flatMap fun s => [(s.arrival : Int), (s.weight : Int)]⟩) := rfl
theorem has_iff {x : Nat} {l : List Nat} : l.contains x = true ↔ x ∈ l := List.contains_iff_mem
theorem st_dep_late {h : Nat} (h1 : 48 < h) : step (some tt) (.addDeparture h) = (some tt, error (-22)) := by
  show (if 48 < h then _ else _) = _
  rw [if_pos h1]
theorem st_dep_taken {h : Nat} (h1 : ¬ 48 < h) (h2 : h ∈ tt.departures) : step (some tt) (.addDeparture h) = (some tt, error (-17)) := by
  show (if 48 < h then _ else if tt.departures.contains h = true then _ else _) = _
  rw [if_neg h1, if_pos (has_iff.mpr h2)]
theorem st_dep_full {h : Nat} (h1 : ¬ 48 < h) (h2 : ¬ h ∈ tt.departures) (h3 : 8 ≤ tt.departures.length) : step (some tt) (.addDeparture h) = (some tt, error (-28)) := by
  show (if 48 < h then _ else if tt.departures.contains h = true then _ else if 8 ≤ tt.departures.length then _ else _) = _
  rw [if_neg h1, if_neg (fun z => h2 (has_iff.mp z)), if_pos h3]
theorem st_dep {h : Nat} (h1 : ¬ 48 < h) (h2 : ¬ h ∈ tt.departures) (h3 : ¬ 8 ≤ tt.departures.length) : step (some tt) (.addDeparture h) = (some { tt with departures := insertHour h tt.departures }, ⟨(tt.departures.length + 1 : Nat), []⟩) := by
  show (if 48 < h then _ else if tt.departures.contains h = true then _ else if 8 ≤ tt.departures.length then _ else _) = _
  rw [if_neg h1, if_neg (fun z => h2 (has_iff.mp z)), if_neg h3]
  rfl
theorem st_can_bad {h : Nat} (h1 : ¬ h ∈ tt.departures) : step (some tt) (.cancelDeparture h) = (some tt, error (-2)) := by
  show (if tt.departures.contains h = false then _ else _) = _
  rw [if_pos (by rw [← Bool.not_eq_true]; exact fun z => h1 (has_iff.mp z))]
theorem st_can {h : Nat} (h1 : h ∈ tt.departures) : step (some tt) (.cancelDeparture h) = (some { tt with departures := tt.departures.filter fun x => x != h }, ⟨(tt.departures.length - 1 : Nat), []⟩) := by
  show (if tt.departures.contains h = false then _ else _) = _
  rw [if_neg (by rw [has_iff.mpr h1]; decide)]
  rfl
/-- one of different hours taken away -/
theorem filter_one {h : Nat} : ∀ {l : List Nat}, l.Pairwise (· < ·) → h ∈ l → (l.filter fun x => x != h).length = l.length - 1
  | [], _, hm => by cases hm
  | x :: l, hs, hm => by
    rw [List.pairwise_cons] at hs
    by_cases e : x = h
    · subst e
      have : (l.filter fun y => y != x) = l := List.filter_eq_self.mpr fun y hy => by
        have := hs.1 y hy
        simp
        omega
      rw [List.filter_cons_of_neg (by simp), this]
      rfl
    · have hm' : h ∈ l := by
        rcases List.mem_cons.mp hm with e2 | q
        · exact absurd e2.symm e
        · exact q
      rw [List.filter_cons_of_pos (by simpa using e), List.length_cons, filter_one hs.2 hm', List.length_cons]
      have : 0 < l.length := List.length_pos_of_mem hm'
      omega
theorem st_ldep : step (some tt) .listDepartures = (some tt, ⟨(tt.departures.length : Nat), toInts tt.departures⟩) := rfl
theorem st_all (hV : Valid tt) : step (some tt) .allServed = (some tt, ⟨(if servedBy tt.ships tt.departures = true then 1 else 0 : Int), []⟩) := by
  show (some tt, boolean (Km561.allServed tt tt.departures)) = _
  rw [allServed_is (lt_le hV.sorted)]
  rfl
theorem st_tot_bad (hV : Valid tt) (h : servedBy tt.ships tt.departures = false) : step (some tt) .totalWaiting = (some tt, error (-33)) := by
  show (some tt, if Km561.allServed tt tt.departures = false then _ else _) = _
  rw [allServed_is (lt_le hV.sorted), if_pos h]
theorem st_tot (hV : Valid tt) (h : servedBy tt.ships tt.departures = true) : step (some tt) .totalWaiting = (some tt, ⟨(totalOf tt.ships tt.departures : Nat), []⟩) := by
  show (some tt, if Km561.allServed tt tt.departures = false then _ else _) = _
  rw [allServed_is (lt_le hV.sorted), if_neg (by rw [h]; decide), totalWaiting_is (lt_le hV.sorted)]
  rfl
theorem st_wt_bad {i : Nat} (h : tt.ships.length ≤ i) : step (some tt) (.waitingTime i) = (some tt, error (-2)) := by
  show (some tt, if tt.ships.length ≤ i then _ else _) = _
  rw [if_pos h]
theorem st_wt_no {i : Nat} {s : Ship} (hV : Valid tt) (h : ¬ tt.ships.length ≤ i) (hs : tt.ships[i]? = some s) (hd : depFrom tt.departures s.arrival = none) : step (some tt) (.waitingTime i) = (some tt, error (-33)) := by
  show (some tt, if tt.ships.length ≤ i then _ else match Km561.nextDeparture tt.departures (getShip tt i).arrival with
          | none => error (-33)
          | some departure => ⟨(departure - (getShip tt i).arrival : Nat), [(departure : Int)]⟩) = _
  rw [if_neg h, getShip_at hs, next_is (lt_le hV.sorted), hd]
theorem st_wt {i : Nat} {s : Ship} {d : Nat} (hV : Valid tt) (h : ¬ tt.ships.length ≤ i) (hs : tt.ships[i]? = some s) (hd : depFrom tt.departures s.arrival = some d) : step (some tt) (.waitingTime i) = (some tt, ⟨(d - s.arrival : Nat), [(d : Int)]⟩) := by
  show (some tt, if tt.ships.length ≤ i then _ else match Km561.nextDeparture tt.departures (getShip tt i).arrival with
          | none => error (-33)
          | some departure => ⟨(departure - (getShip tt i).arrival : Nat), [(departure : Int)]⟩) = _
  rw [if_neg h, getShip_at hs, next_is (lt_le hV.sorted), hd]
/-- the longest waiting of the first so many ships -/
def longTurn (ships : List Ship) (ds : List Nat) (best : Option (Nat × Nat)) (i : Nat) : Option (Nat × Nat) := match depFrom ds (ships.getD i ⟨0, 1⟩).arrival with
  | none => best
  | some d => match best with
    | none => some (i, d - (ships.getD i ⟨0, 1⟩).arrival)
    | some o => if o.2 < d - (ships.getD i ⟨0, 1⟩).arrival then some (i, d - (ships.getD i ⟨0, 1⟩).arrival) else some o
def longOf (ships : List Ship) (ds : List Nat) (n : Nat) : Option (Nat × Nat) := (List.range n).foldl (longTurn ships ds) none
theorem long_more (ships : List Ship) (ds : List Nat) (n : Nat) : longOf ships ds (n + 1) = longTurn ships ds (longOf ships ds n) n := by
  unfold longOf
  rw [List.range_succ, List.foldl_append]
  rfl
theorem long_is (hV : Valid tt) : Km561.longestWaiting tt = longOf tt.ships tt.departures tt.ships.length := by
  unfold Km561.longestWaiting longOf
  show List.foldl _ none (List.range tt.ships.length) = _
  congr 1
  funext best i
  unfold longTurn getShip
  rw [next_is (lt_le hV.sorted)]
  cases depFrom tt.departures (tt.ships.getD i ⟨0, 1⟩).arrival with
  | none => rfl
  | some d => rfl
theorem st_long_no (hV : Valid tt) (h : longOf tt.ships tt.departures tt.ships.length = none) : step (some tt) .longestWaiting = (some tt, error (-33)) := by
  show (some tt, match Km561.longestWaiting tt with
        | none => error (-33)
        | some longest => ⟨(longest.1 : Int), [(longest.2 : Int)]⟩) = _
  rw [long_is hV, h]
theorem st_long (hV : Valid tt) {b : Nat × Nat} (h : longOf tt.ships tt.departures tt.ships.length = some b) : step (some tt) .longestWaiting = (some tt, ⟨(b.1 : Nat), [(b.2 : Int)]⟩) := by
  show (some tt, match Km561.longestWaiting tt with
        | none => error (-33)
        | some longest => ⟨(longest.1 : Int), [(longest.2 : Int)]⟩) = _
  rw [long_is hV, h]
theorem st_opt_off {k : Nat} (h : ¬ (1 ≤ k ∧ k ≤ 8)) : step (some tt) (.optimalDepartures k) = (some tt, error (-22)) := by
  show (some tt, if k = 0 ∨ 8 < k then _ else _) = _
  rw [if_pos (by omega)]
theorem st_opt {k w : Nat} {r : List Nat} (h : 1 ≤ k ∧ k ≤ 8) (e : Km561.optimal tt k = some (w, r)) : step (some tt) (.optimalDepartures k) = (some tt, ⟨(w : Nat), toInts r⟩) := by
  show (some tt, if k = 0 ∨ 8 < k then _ else match Km561.optimal tt k with
        | none => error (-33)
        | some best => ⟨(best.1 : Int), toInts best.2⟩) = _
  rw [if_neg (by omega), e]
theorem st_use_off {k : Nat} (h : ¬ (1 ≤ k ∧ k ≤ 8)) : step (some tt) (.useOptimalDepartures k) = (some tt, error (-22)) := by
  show (if k = 0 ∨ 8 < k then _ else _) = _
  rw [if_pos (by omega)]
theorem st_use {k w : Nat} {r : List Nat} (h : 1 ≤ k ∧ k ≤ 8) (e : Km561.optimal tt k = some (w, r)) : step (some tt) (.useOptimalDepartures k) = (some { tt with departures := r }, ⟨(w : Nat), []⟩) := by
  show (if k = 0 ∨ 8 < k then _ else match Km561.optimal tt k with
        | none => (some tt, error (-33))
        | some best => (some { tt with departures := best.2 }, number (best.1 : Nat))) = _
  rw [if_neg (by omega), e]
  rfl
theorem st_exc_bad (hV : Valid tt) (h : servedBy tt.ships tt.departures = false) : step (some tt) .excessWaiting = (some tt, error (-33)) := by
  show (some tt, if Km561.allServed tt tt.departures = false then _ else _) = _
  rw [allServed_is (lt_le hV.sorted), if_pos h]
theorem st_exc_none (hV : Valid tt) (h : servedBy tt.ships tt.departures = true) (h2 : tt.departures = []) : step (some tt) .excessWaiting = (some tt, ⟨0, []⟩) := by
  show (some tt, if Km561.allServed tt tt.departures = false then _ else if tt.departures = [] then _ else _) = _
  rw [allServed_is (lt_le hV.sorted), if_neg (by rw [h]; decide), if_pos h2]
  rfl
theorem st_exc (hV : Valid tt) (h : servedBy tt.ships tt.departures = true) (h2 : ¬ tt.departures = []) : step (some tt) .excessWaiting = (some tt, ⟨(totalOf tt.ships tt.departures : Int) - (optimalWaiting tt tt.departures.length : Int), []⟩) := by
  show (some tt, if Km561.allServed tt tt.departures = false then _ else if tt.departures = [] then _ else _) = _
  rw [allServed_is (lt_le hV.sorted), if_neg (by rw [h]; decide), if_neg h2, totalWaiting_is (lt_le hV.sorted)]
  have hl : 1 ≤ tt.departures.length := List.length_pos_iff.mpr h2
  have := opt_least hV.sorted h hl (Nat.le_refl _)
  show (some tt, (⟨((totalOf tt.ships tt.departures - optimalWaiting tt tt.departures.length : Nat) : Int), []⟩ : Result)) = _
  rw [Int.ofNat_sub this]
theorem st_sav_off {k : Nat} (h : ¬ (2 ≤ k ∧ k ≤ 8)) : step (some tt) (.savingOfDeparture k) = (some tt, error (-22)) := by
  show (some tt, if k < 2 ∨ 8 < k then _ else _) = _
  rw [if_pos (by omega)]
theorem st_sav {k : Nat} (h : 2 ≤ k ∧ k ≤ 8) : step (some tt) (.savingOfDeparture k) = (some tt, ⟨(optimalWaiting tt (k - 1) : Int) - (optimalWaiting tt k : Int), []⟩) := by
  show (some tt, if k < 2 ∨ 8 < k then _ else _) = _
  rw [if_neg (by omega)]
  have := opt_mono tt (k := k - 1) (by omega)
  rw [show k - 1 + 1 = k by omega] at this
  show (some tt, (⟨((optimalWaiting tt (k - 1) - optimalWaiting tt k : Nat) : Int), []⟩ : Result)) = _
  rw [Int.ofNat_sub this]
theorem st_min_none {x : Nat} (h : tt.ships = []) : step (some tt) (.minDepartures x) = (some tt, ⟨0, []⟩) := by
  show (some tt, if tt.ships.length = 0 then _ else _) = _
  rw [if_pos (by rw [h]; rfl)]
  rfl
theorem st_min (hV : Valid tt) {x : Nat} (h : ¬ tt.ships = []) : ∃ i, step (some tt) (.minDepartures x) = (some tt, ⟨(i + 1 : Nat), []⟩) ∧ i < 8 ∧ optimalWaiting tt (i + 1) ≤ x ∧ ∀ j, j < i → ¬ optimalWaiting tt (j + 1) ≤ x := by
  obtain ⟨i, e, h1, h2, h3⟩ := fewest_is hV.few x
  refine ⟨i, ?_, h1, h2, h3⟩
  show (some tt, if tt.ships.length = 0 then _ else match (List.range maxShips).find? fun i => decide (optimalWaiting tt (i + 1) ≤ x) with
          | none => error (-33)
          | some i => number (i + 1 : Nat)) = _
  rw [if_neg (fun z => h (List.length_eq_zero_iff.mp z)), e]
  rfl
theorem st_che_off {x : Nat} (h : 999 < x) : step (some tt) (.cheapestCount x) = (some tt, error (-22)) := by
  show (some tt, if 999 < x then _ else _) = _
  rw [if_pos h]
theorem st_che_none {x : Nat} (h : ¬ 999 < x) (h2 : tt.ships = []) : step (some tt) (.cheapestCount x) = (some tt, ⟨0, [0]⟩) := by
  show (some tt, if 999 < x then _ else _) = _
  rw [if_neg h, cheapest_none x (by unfold shipCount; rw [h2]; rfl)]
  rfl
theorem st_che {x : Nat} (h : ¬ 999 < x) (h2 : ¬ tt.ships = []) : ∃ k, step (some tt) (.cheapestCount x) = (some tt, ⟨(k : Nat), [(costOf tt x k : Int)]⟩) ∧ 1 ≤ k ∧ k ≤ 8 ∧
    ∀ j, 1 ≤ j → j ≤ 8 → costOf tt x k ≤ costOf tt x j ∧ (j < k → costOf tt x k < costOf tt x j) := by
  obtain ⟨k, k1, k2, e, hb⟩ := cheapest_is (tt := tt) x (fun z => h2 (List.length_eq_zero_iff.mp z))
  refine ⟨k, ?_, k1, k2, hb⟩
  show (some tt, if 999 < x then _ else (⟨((Km561.cheapestCount tt x).1 : Int), [((Km561.cheapestCount tt x).2 : Int)]⟩ : Result)) = _
  rw [if_neg h, e]
/-- with an hour more, wherever it stands -/
theorem with_hour {h : Nat} {ds : List Nat} (hV : Valid tt) (hs : ds.Pairwise (· ≤ ·)) (hm : ∀ x, x ∈ ds ↔ x ∈ tt.departures ∨ x = h) : ∀ x, depFrom ds x = depFrom (insertHour h tt.departures) x :=
  depFrom_congr hs (lt_le (sorted_insertHour hV.sorted)) fun x => by
    rw [hm, mem_insertHour]
    exact Or.comm
theorem st_tw_late {h : Nat} (h1 : 48 < h) : step (some tt) (.totalWaitingWith h) = (some tt, error (-22)) := by
  show (some tt, if 48 < h then _ else _) = _
  rw [if_pos h1]
theorem st_tw_bad {h : Nat} {ds : List Nat} (hV : Valid tt) (h1 : ¬ 48 < h) (hs : ds.Pairwise (· ≤ ·)) (hm : ∀ x, x ∈ ds ↔ x ∈ tt.departures ∨ x = h) (hb : servedBy tt.ships ds = false) : step (some tt) (.totalWaitingWith h) = (some tt, error (-33)) := by
  show (some tt, if 48 < h then _ else if Km561.allServed tt (insertHour h tt.departures) = false then _ else _) = _
  rw [if_neg h1, allServed_is (lt_le (sorted_insertHour hV.sorted)), ← servedBy_congr (with_hour hV hs hm), if_pos hb]
theorem st_tw {h : Nat} {ds : List Nat} (hV : Valid tt) (h1 : ¬ 48 < h) (hs : ds.Pairwise (· ≤ ·)) (hm : ∀ x, x ∈ ds ↔ x ∈ tt.departures ∨ x = h) (hb : servedBy tt.ships ds = true) : step (some tt) (.totalWaitingWith h) = (some tt, ⟨(totalOf tt.ships ds : Nat), []⟩) := by
  show (some tt, if 48 < h then _ else if Km561.allServed tt (insertHour h tt.departures) = false then _ else _) = _
  rw [if_neg h1, allServed_is (lt_le (sorted_insertHour hV.sorted)), ← servedBy_congr (with_hour hV hs hm), if_neg (by rw [hb]; decide), totalWaiting_is (lt_le (sorted_insertHour hV.sorted)), ← totalOf_congr (with_hour hV hs hm)]
  rfl
theorem st_nd_no {h : Nat} (hV : Valid tt) (hd : depFrom tt.departures h = none) : step (some tt) (.nextDeparture h) = (some tt, error (-33)) := by
  show (some tt, match Km561.nextDeparture tt.departures h with
        | none => error (-33)
        | some departure => number (departure : Nat)) = _
  rw [next_is (lt_le hV.sorted), hd]
theorem st_nd {h d : Nat} (hV : Valid tt) (hd : depFrom tt.departures h = some d) : step (some tt) (.nextDeparture h) = (some tt, ⟨(d : Nat), []⟩) := by
  show (some tt, match Km561.nextDeparture tt.departures h with
        | none => error (-33)
        | some departure => number (departure : Nat)) = _
  rw [next_is (lt_le hV.sorted), hd]
  rfl
/-- how many ships leave at an hour -/
def leavingOf (ships : List Ship) (ds : List Nat) (d : Nat) : Nat := (ships.filter fun s => decide (depFrom ds s.arrival = some d)).length
theorem st_spd (hV : Valid tt) : step (some tt) .shipsPerDeparture = (some tt, ⟨(tt.departures.length : Nat), toInts (tt.departures.map (leavingOf tt.ships tt.departures))⟩) := by
  show (some tt, listResult ((List.range tt.departures.length).map fun j => (tt.ships.filter fun ship => Km561.nextDeparture tt.departures ship.arrival == tt.departures[j]?).length)) = _
  have e : ((List.range tt.departures.length).map fun j => (tt.ships.filter fun ship => Km561.nextDeparture tt.departures ship.arrival == tt.departures[j]?).length) = tt.departures.map (leavingOf tt.ships tt.departures) := by
    refine List.ext_getElem (by simp) fun j h1 h2 => ?_
    rw [List.length_map, List.length_range] at h1
    rw [List.getElem_map, List.getElem_map, List.getElem_range, List.getElem?_eq_getElem h1]
    unfold leavingOf
    congr 2
    funext s
    rw [next_is (lt_le hV.sorted)]
    by_cases q : depFrom tt.departures s.arrival = some tt.departures[j]
    · rw [decide_eq_true q]
      exact beq_iff_eq.mpr q
    · rw [decide_eq_false q]
      exact beq_eq_false_iff_ne.mpr q
  rw [e]
  unfold listResult
  rw [List.length_map]
theorem st_ows_bad {x y : Nat} (h : ¬ fine x y) : step (some tt) (.optimalWaitingWithShip x y) = (some tt, error (-22)) := by
  show (some tt, if isValidShip x y = false then _ else _) = _
  rw [if_pos (valid_false h)]
theorem st_ows_full {x y : Nat} (h : fine x y) (h8 : 8 ≤ tt.ships.length) : step (some tt) (.optimalWaitingWithShip x y) = (some tt, error (-28)) := by
  show (some tt, if isValidShip x y = false then _ else if 8 ≤ tt.ships.length then _ else _) = _
  rw [if_neg (by rw [valid_true h]; decide), if_pos h8]
theorem st_ows {x y : Nat} (h : fine x y) (h8 : ¬ 8 ≤ tt.ships.length) : step (some tt) (.optimalWaitingWithShip x y) = (some tt, ⟨(optimalWaiting { tt with ships := tt.ships ++ [⟨x, y⟩] } (max 1 tt.departures.length) : Nat), []⟩) := by
  show (some tt, if isValidShip x y = false then _ else if 8 ≤ tt.ships.length then _ else _) = _
  rw [if_neg (by rw [valid_true h]; decide), if_neg h8]
  rfl
theorem st_owo_bad {i : Nat} (h : tt.ships.length ≤ i) : step (some tt) (.optimalWaitingWithoutShip i) = (some tt, error (-2)) := by
  show (some tt, if tt.ships.length ≤ i then _ else _) = _
  rw [if_pos h]
theorem st_owo {i : Nat} (h : ¬ tt.ships.length ≤ i) : step (some tt) (.optimalWaitingWithoutShip i) = (some tt, ⟨(optimalWaiting { tt with ships := tt.ships.eraseIdx i } (max 1 tt.departures.length) : Nat), []⟩) := by
  show (some tt, if tt.ships.length ≤ i then _ else _) = _
  rw [if_neg h]
  rfl
theorem st_sum : step (some tt) .summary = (some tt, ⟨(tt.ships.length : Nat), [((hoursOf tt.ships).length : Int), (tt.departures.length : Int)]⟩) := rfl
end
end Cv

namespace Cv
open Km561

/-! ## Sorted lists of whole numbers -/
theorem toInts_toNat : ∀ l : List Nat, (toInts l).map Int.toNat = l
  | [] => rfl
  | x :: l => by
    show Int.toNat (x : Int) :: (toInts l).map Int.toNat = x :: l
    rw [toInts_toNat l]
    rfl
theorem toInts_of : ∀ {ns : List Int}, (∀ z ∈ ns, 0 ≤ z) → ns = toInts (ns.map Int.toNat)
  | [], _ => rfl
  | z :: ns, h => by
    have e := toInts_of (ns := ns) fun y hy => h y (List.mem_cons_of_mem _ hy)
    have e2 : z = (z.toNat : Int) := by
      have := h z List.mem_cons_self
      omega
    show z :: ns = (z.toNat : Int) :: toInts (ns.map Int.toNat)
    rw [← e, ← e2]
theorem mem_toInts {z : Int} {l : List Nat} : z ∈ toInts l ↔ ∃ x ∈ l, (x : Int) = z := List.mem_map
/-- what sorted hands back of natural numbers -/
theorem sort_nats {ns : List Int} {l : List Nat} (hp : ns.Perm (toInts l)) (hs : ns.Pairwise (· ≤ ·)) : ∃ m : List Nat, ns = toInts m ∧ m.Perm l ∧ m.Pairwise (· ≤ ·) := by
  have h0 : ∀ z ∈ ns, 0 ≤ z := fun z hz => by
    obtain ⟨x, _, e⟩ := mem_toInts.mp (hp.mem_iff.mp hz)
    omega
  refine ⟨ns.map Int.toNat, toInts_of h0, ?_, ?_⟩
  · have := hp.map Int.toNat
    rw [toInts_toNat] at this
    exact this
  · rw [List.pairwise_map]
    exact hs.imp fun h => Int.toNat_le_toNat h
theorem sort_insert {m ds : List Nat} {x : Nat} (hp : m.Perm (ds ++ [x])) (hs : m.Pairwise (· ≤ ·)) (hd : ds.Pairwise (· < ·)) (hx : ¬ x ∈ ds) : m = insertHour x ds := by
  have nd : (ds ++ [x]).Nodup := by
    refine List.pairwise_append.mpr ⟨hd.imp fun h => Nat.ne_of_lt h, List.pairwise_singleton _ _, fun a ha b hb => ?_⟩
    rw [List.mem_singleton] at hb
    subst hb
    exact fun e => hx (e ▸ ha)
  have nm : m.Nodup := hp.nodup_iff.mpr nd
  have lt : m.Pairwise (· < ·) := by
    have := hs.and nm
    exact this.imp fun h => Nat.lt_of_le_of_ne h.1 h.2
  refine sorted_unique lt (sorted_insertHour hd) fun y => ?_
  rw [hp.mem_iff, mem_insertHour, List.mem_append, List.mem_singleton]
  exact Or.comm
/-- of a strictly rising list with the members of a list of natural numbers -/
theorem set_nats {ns : List Int} {m l : List Nat} (hs : ns.Pairwise (· < ·)) (hm : ∀ z, z ∈ ns ↔ z ∈ toInts l) (h2 : m.Pairwise (· < ·)) (h3 : ∀ x, x ∈ m ↔ x ∈ l) : ns = toInts m := by
  have h0 : ∀ z ∈ ns, 0 ≤ z := fun z hz => by
    obtain ⟨x, _, e⟩ := mem_toInts.mp ((hm z).mp hz)
    omega
  have e := toInts_of h0
  have key : ns.map Int.toNat = m := by
    refine sorted_unique ?_ h2 fun x => ?_
    · rw [List.pairwise_map]
      refine List.Pairwise.imp_of_mem (fun {a b} ha hb h => ?_) hs
      have := h0 a ha
      have := h0 b hb
      omega
    · rw [h3, List.mem_map]
      constructor
      · rintro ⟨z, hz, rfl⟩
        obtain ⟨y, hy, e2⟩ := mem_toInts.mp ((hm z).mp hz)
        rw [← e2]
        exact hy
      · intro hx
        exact ⟨(x : Int), (hm _).mpr (mem_toInts.mpr ⟨x, hx, rfl⟩), rfl⟩
  rw [e, key]
end Cv

namespace Cv
open Km561

/-! ## The calls, one behind another -/
/-- how many numbers each call has behind its own -/
def cnt : List Nat := [0, 2, 1, 2, 2, 0, 1, 1, 0, 0, 0, 1, 0, 1, 1, 0, 1, 1, 1, 1, 1, 0, 2, 1, 0]
/-- the operation with this number and these parameters, other than create -/
def callAt : Nat → List Nat → Option Km561.Call
  | 1, [a, b] => some (.addShip a b)
  | 2, [a] => some (.removeShip a)
  | 3, [a, b] => some (.setArrival a b)
  | 4, [a, b] => some (.setWeight a b)
  | 5, [] => some (.listShips)
  | 6, [a] => some (.addDeparture a)
  | 7, [a] => some (.cancelDeparture a)
  | 8, [] => some (.listDepartures)
  | 9, [] => some (.allServed)
  | 10, [] => some (.totalWaiting)
  | 11, [a] => some (.waitingTime a)
  | 12, [] => some (.longestWaiting)
  | 13, [a] => some (.optimalDepartures a)
  | 14, [a] => some (.useOptimalDepartures a)
  | 15, [] => some (.excessWaiting)
  | 16, [a] => some (.savingOfDeparture a)
  | 17, [a] => some (.minDepartures a)
  | 18, [a] => some (.cheapestCount a)
  | 19, [a] => some (.totalWaitingWith a)
  | 20, [a] => some (.nextDeparture a)
  | 21, [] => some (.shipsPerDeparture)
  | 22, [a, b] => some (.optimalWaitingWithShip a b)
  | 23, [a] => some (.optimalWaitingWithoutShip a)
  | 24, [] => some (.summary)
  | _, _ => none
theorem shape_tells {p : Int} {n k : Nat} (h : PyKm561.shape p = some (n, k)) : ∃ op : Nat, op ≤ 24 ∧ p = (op : Nat) ∧ k = 0 ∧ cnt[op]? = some n := by
  unfold PyKm561.shape at h
  by_cases h0 : p = 0
  · rw [if_pos h0] at h
    cases h
    exact ⟨0, by decide, h0, rfl, rfl⟩
  rw [if_neg h0] at h
  by_cases h1 : p = 1
  · rw [if_pos h1] at h
    cases h
    exact ⟨1, by decide, h1, rfl, rfl⟩
  rw [if_neg h1] at h
  by_cases h2 : p = 2
  · rw [if_pos h2] at h
    cases h
    exact ⟨2, by decide, h2, rfl, rfl⟩
  rw [if_neg h2] at h
  by_cases h3 : p = 3
  · rw [if_pos h3] at h
    cases h
    exact ⟨3, by decide, h3, rfl, rfl⟩
  rw [if_neg h3] at h
  by_cases h4 : p = 4
  · rw [if_pos h4] at h
    cases h
    exact ⟨4, by decide, h4, rfl, rfl⟩
  rw [if_neg h4] at h
  by_cases h5 : p = 5
  · rw [if_pos h5] at h
    cases h
    exact ⟨5, by decide, h5, rfl, rfl⟩
  rw [if_neg h5] at h
  by_cases h6 : p = 6
  · rw [if_pos h6] at h
    cases h
    exact ⟨6, by decide, h6, rfl, rfl⟩
  rw [if_neg h6] at h
  by_cases h7 : p = 7
  · rw [if_pos h7] at h
    cases h
    exact ⟨7, by decide, h7, rfl, rfl⟩
  rw [if_neg h7] at h
  by_cases h8 : p = 8
  · rw [if_pos h8] at h
    cases h
    exact ⟨8, by decide, h8, rfl, rfl⟩
  rw [if_neg h8] at h
  by_cases h9 : p = 9
  · rw [if_pos h9] at h
    cases h
    exact ⟨9, by decide, h9, rfl, rfl⟩
  rw [if_neg h9] at h
  by_cases h10 : p = 10
  · rw [if_pos h10] at h
    cases h
    exact ⟨10, by decide, h10, rfl, rfl⟩
  rw [if_neg h10] at h
  by_cases h11 : p = 11
  · rw [if_pos h11] at h
    cases h
    exact ⟨11, by decide, h11, rfl, rfl⟩
  rw [if_neg h11] at h
  by_cases h12 : p = 12
  · rw [if_pos h12] at h
    cases h
    exact ⟨12, by decide, h12, rfl, rfl⟩
  rw [if_neg h12] at h
  by_cases h13 : p = 13
  · rw [if_pos h13] at h
    cases h
    exact ⟨13, by decide, h13, rfl, rfl⟩
  rw [if_neg h13] at h
  by_cases h14 : p = 14
  · rw [if_pos h14] at h
    cases h
    exact ⟨14, by decide, h14, rfl, rfl⟩
  rw [if_neg h14] at h
  by_cases h15 : p = 15
  · rw [if_pos h15] at h
    cases h
    exact ⟨15, by decide, h15, rfl, rfl⟩
  rw [if_neg h15] at h
  by_cases h16 : p = 16
  · rw [if_pos h16] at h
    cases h
    exact ⟨16, by decide, h16, rfl, rfl⟩
  rw [if_neg h16] at h
  by_cases h17 : p = 17
  · rw [if_pos h17] at h
    cases h
    exact ⟨17, by decide, h17, rfl, rfl⟩
  rw [if_neg h17] at h
  by_cases h18 : p = 18
  · rw [if_pos h18] at h
    cases h
    exact ⟨18, by decide, h18, rfl, rfl⟩
  rw [if_neg h18] at h
  by_cases h19 : p = 19
  · rw [if_pos h19] at h
    cases h
    exact ⟨19, by decide, h19, rfl, rfl⟩
  rw [if_neg h19] at h
  by_cases h20 : p = 20
  · rw [if_pos h20] at h
    cases h
    exact ⟨20, by decide, h20, rfl, rfl⟩
  rw [if_neg h20] at h
  by_cases h21 : p = 21
  · rw [if_pos h21] at h
    cases h
    exact ⟨21, by decide, h21, rfl, rfl⟩
  rw [if_neg h21] at h
  by_cases h22 : p = 22
  · rw [if_pos h22] at h
    cases h
    exact ⟨22, by decide, h22, rfl, rfl⟩
  rw [if_neg h22] at h
  by_cases h23 : p = 23
  · rw [if_pos h23] at h
    cases h
    exact ⟨23, by decide, h23, rfl, rfl⟩
  rw [if_neg h23] at h
  by_cases h24 : p = 24
  · rw [if_pos h24] at h
    cases h
    exact ⟨24, by decide, h24, rfl, rfl⟩
  rw [if_neg h24] at h
  cases h
/-- one of the numbers from 0 to 24 -/
theorem upto {P : Nat → Prop} (h0 : P 0) (h1 : P 1) (h2 : P 2) (h3 : P 3) (h4 : P 4) (h5 : P 5) (h6 : P 6) (h7 : P 7) (h8 : P 8) (h9 : P 9) (h10 : P 10) (h11 : P 11) (h12 : P 12) (h13 : P 13) (h14 : P 14) (h15 : P 15) (h16 : P 16) (h17 : P 17) (h18 : P 18) (h19 : P 19) (h20 : P 20) (h21 : P 21) (h22 : P 22) (h23 : P 23) (h24 : P 24) : ∀ op, op ≤ 24 → P op := fun op ho => by
  match op, ho with
  | 0, _ => exact h0
  | 1, _ => exact h1
  | 2, _ => exact h2
  | 3, _ => exact h3
  | 4, _ => exact h4
  | 5, _ => exact h5
  | 6, _ => exact h6
  | 7, _ => exact h7
  | 8, _ => exact h8
  | 9, _ => exact h9
  | 10, _ => exact h10
  | 11, _ => exact h11
  | 12, _ => exact h12
  | 13, _ => exact h13
  | 14, _ => exact h14
  | 15, _ => exact h15
  | 16, _ => exact h16
  | 17, _ => exact h17
  | 18, _ => exact h18
  | 19, _ => exact h19
  | 20, _ => exact h20
  | 21, _ => exact h21
  | 22, _ => exact h22
  | 23, _ => exact h23
  | 24, _ => exact h24
  | op + 25, ho => omega
theorem len0 {α : Type} {l : List α} (h : l.length = 0) : l = [] := List.length_eq_zero_iff.mp h
theorem len1 {α : Type} {l : List α} (h : l.length = 1) : ∃ a, l = [a] := List.length_eq_one_iff.mp h
theorem len2 {α : Type} {l : List α} (h : l.length = 2) : ∃ a b, l = [a, b] := by
  match l, h with
  | [a, b], _ => exact ⟨a, b, rfl⟩
abbrev ParseAt (op : Nat) : Prop := ∀ (n : Nat) (xs : List Int), cnt[op]? = some n → xs.length = n → Km561Neutral.parseCall (PyKm561.whole [(op : Int) :: xs]) = if op = 0 then some .create else callAt op (xs.map Int.toNat)
theorem parse_0 : ParseAt 0 := fun n xs hn hx => by
  cases hn
  rw [len0 hx]
  rfl
theorem parse_1 : ParseAt 1 := fun n xs hn hx => by
  cases hn
  obtain ⟨a, b, rfl⟩ := len2 hx
  rfl
theorem parse_2 : ParseAt 2 := fun n xs hn hx => by
  cases hn
  obtain ⟨a, rfl⟩ := len1 hx
  rfl
theorem parse_3 : ParseAt 3 := fun n xs hn hx => by
  cases hn
  obtain ⟨a, b, rfl⟩ := len2 hx
  rfl
theorem parse_4 : ParseAt 4 := fun n xs hn hx => by
  cases hn
  obtain ⟨a, b, rfl⟩ := len2 hx
  rfl
theorem parse_5 : ParseAt 5 := fun n xs hn hx => by
  cases hn
  rw [len0 hx]
  rfl
theorem parse_6 : ParseAt 6 := fun n xs hn hx => by
  cases hn
  obtain ⟨a, rfl⟩ := len1 hx
  rfl
theorem parse_7 : ParseAt 7 := fun n xs hn hx => by
  cases hn
  obtain ⟨a, rfl⟩ := len1 hx
  rfl
theorem parse_8 : ParseAt 8 := fun n xs hn hx => by
  cases hn
  rw [len0 hx]
  rfl
theorem parse_9 : ParseAt 9 := fun n xs hn hx => by
  cases hn
  rw [len0 hx]
  rfl
theorem parse_10 : ParseAt 10 := fun n xs hn hx => by
  cases hn
  rw [len0 hx]
  rfl
theorem parse_11 : ParseAt 11 := fun n xs hn hx => by
  cases hn
  obtain ⟨a, rfl⟩ := len1 hx
  rfl
theorem parse_12 : ParseAt 12 := fun n xs hn hx => by
  cases hn
  rw [len0 hx]
  rfl
theorem parse_13 : ParseAt 13 := fun n xs hn hx => by
  cases hn
  obtain ⟨a, rfl⟩ := len1 hx
  rfl
theorem parse_14 : ParseAt 14 := fun n xs hn hx => by
  cases hn
  obtain ⟨a, rfl⟩ := len1 hx
  rfl
theorem parse_15 : ParseAt 15 := fun n xs hn hx => by
  cases hn
  rw [len0 hx]
  rfl
theorem parse_16 : ParseAt 16 := fun n xs hn hx => by
  cases hn
  obtain ⟨a, rfl⟩ := len1 hx
  rfl
theorem parse_17 : ParseAt 17 := fun n xs hn hx => by
  cases hn
  obtain ⟨a, rfl⟩ := len1 hx
  rfl
theorem parse_18 : ParseAt 18 := fun n xs hn hx => by
  cases hn
  obtain ⟨a, rfl⟩ := len1 hx
  rfl
theorem parse_19 : ParseAt 19 := fun n xs hn hx => by
  cases hn
  obtain ⟨a, rfl⟩ := len1 hx
  rfl
theorem parse_20 : ParseAt 20 := fun n xs hn hx => by
  cases hn
  obtain ⟨a, rfl⟩ := len1 hx
  rfl
theorem parse_21 : ParseAt 21 := fun n xs hn hx => by
  cases hn
  rw [len0 hx]
  rfl
theorem parse_22 : ParseAt 22 := fun n xs hn hx => by
  cases hn
  obtain ⟨a, b, rfl⟩ := len2 hx
  rfl
theorem parse_23 : ParseAt 23 := fun n xs hn hx => by
  cases hn
  obtain ⟨a, rfl⟩ := len1 hx
  rfl
theorem parse_24 : ParseAt 24 := fun n xs hn hx => by
  cases hn
  rw [len0 hx]
  rfl
theorem parse_at : ∀ op, op ≤ 24 → ParseAt op := upto parse_0 parse_1 parse_2 parse_3 parse_4 parse_5 parse_6 parse_7 parse_8 parse_9 parse_10 parse_11 parse_12 parse_13 parse_14 parse_15 parse_16 parse_17 parse_18 parse_19 parse_20 parse_21 parse_22 parse_23 parse_24
theorem some_at {op : Nat} (ho : op ≤ 24) (h0 : op ≠ 0) {n : Nat} {xs : List Nat} (hn : cnt[op]? = some n) (hx : xs.length = n) : ∃ c, callAt op xs = some c := by
  have key : ∀ op, op ≤ 24 → op ≠ 0 → ∀ (n : Nat) (xs : List Nat), cnt[op]? = some n → xs.length = n → ∃ c, callAt op xs = some c := by
    refine upto ?_ ?_ ?_ ?_ ?_ ?_ ?_ ?_ ?_ ?_ ?_ ?_ ?_ ?_ ?_ ?_ ?_ ?_ ?_ ?_ ?_ ?_ ?_ ?_ ?_
    · exact fun h => absurd rfl h
    · intro _ n xs hn hx
      cases hn
      obtain ⟨a, b, rfl⟩ := len2 hx
      exact ⟨_, rfl⟩
    · intro _ n xs hn hx
      cases hn
      obtain ⟨a, rfl⟩ := len1 hx
      exact ⟨_, rfl⟩
    · intro _ n xs hn hx
      cases hn
      obtain ⟨a, b, rfl⟩ := len2 hx
      exact ⟨_, rfl⟩
    · intro _ n xs hn hx
      cases hn
      obtain ⟨a, b, rfl⟩ := len2 hx
      exact ⟨_, rfl⟩
    · intro _ n xs hn hx
      cases hn
      rw [len0 hx]
      exact ⟨_, rfl⟩
    · intro _ n xs hn hx
      cases hn
      obtain ⟨a, rfl⟩ := len1 hx
      exact ⟨_, rfl⟩
    · intro _ n xs hn hx
      cases hn
      obtain ⟨a, rfl⟩ := len1 hx
      exact ⟨_, rfl⟩
    · intro _ n xs hn hx
      cases hn
      rw [len0 hx]
      exact ⟨_, rfl⟩
    · intro _ n xs hn hx
      cases hn
      rw [len0 hx]
      exact ⟨_, rfl⟩
    · intro _ n xs hn hx
      cases hn
      rw [len0 hx]
      exact ⟨_, rfl⟩
    · intro _ n xs hn hx
      cases hn
      obtain ⟨a, rfl⟩ := len1 hx
      exact ⟨_, rfl⟩
    · intro _ n xs hn hx
      cases hn
      rw [len0 hx]
      exact ⟨_, rfl⟩
    · intro _ n xs hn hx
      cases hn
      obtain ⟨a, rfl⟩ := len1 hx
      exact ⟨_, rfl⟩
    · intro _ n xs hn hx
      cases hn
      obtain ⟨a, rfl⟩ := len1 hx
      exact ⟨_, rfl⟩
    · intro _ n xs hn hx
      cases hn
      rw [len0 hx]
      exact ⟨_, rfl⟩
    · intro _ n xs hn hx
      cases hn
      obtain ⟨a, rfl⟩ := len1 hx
      exact ⟨_, rfl⟩
    · intro _ n xs hn hx
      cases hn
      obtain ⟨a, rfl⟩ := len1 hx
      exact ⟨_, rfl⟩
    · intro _ n xs hn hx
      cases hn
      obtain ⟨a, rfl⟩ := len1 hx
      exact ⟨_, rfl⟩
    · intro _ n xs hn hx
      cases hn
      obtain ⟨a, rfl⟩ := len1 hx
      exact ⟨_, rfl⟩
    · intro _ n xs hn hx
      cases hn
      obtain ⟨a, rfl⟩ := len1 hx
      exact ⟨_, rfl⟩
    · intro _ n xs hn hx
      cases hn
      rw [len0 hx]
      exact ⟨_, rfl⟩
    · intro _ n xs hn hx
      cases hn
      obtain ⟨a, b, rfl⟩ := len2 hx
      exact ⟨_, rfl⟩
    · intro _ n xs hn hx
      cases hn
      obtain ⟨a, rfl⟩ := len1 hx
      exact ⟨_, rfl⟩
    · intro _ n xs hn hx
      cases hn
      rw [len0 hx]
      exact ⟨_, rfl⟩
  exact key op ho h0 n xs hn hx
abbrev BoundAt (op : Nat) : Prop := ∀ n, cnt[op]? = some n → (PyKm561.bound (op : Int)).1 = List.replicate n (0, 4294967295)
theorem bound_at : ∀ op, op ≤ 24 → BoundAt op := upto (fun n hn => by cases hn; decide) (fun n hn => by cases hn; decide) (fun n hn => by cases hn; decide) (fun n hn => by cases hn; decide) (fun n hn => by cases hn; decide) (fun n hn => by cases hn; decide) (fun n hn => by cases hn; decide) (fun n hn => by cases hn; decide) (fun n hn => by cases hn; decide) (fun n hn => by cases hn; decide) (fun n hn => by cases hn; decide) (fun n hn => by cases hn; decide) (fun n hn => by cases hn; decide) (fun n hn => by cases hn; decide) (fun n hn => by cases hn; decide) (fun n hn => by cases hn; decide) (fun n hn => by cases hn; decide) (fun n hn => by cases hn; decide) (fun n hn => by cases hn; decide) (fun n hn => by cases hn; decide) (fun n hn => by cases hn; decide) (fun n hn => by cases hn; decide) (fun n hn => by cases hn; decide) (fun n hn => by cases hn; decide) (fun n hn => by cases hn; decide)
theorem each_low : ∀ (n : Nat) (xs : List Int), xs.length = n → PyInside.each (List.replicate n (0, 4294967295)) xs = true → ∀ x ∈ xs, 0 ≤ x
  | 0, [], _, _, x, hx => by cases hx
  | n + 1, y :: ys, hl, h, x, hx => by
    rw [List.replicate_succ] at h
    have h' : (PyInside.within 0 4294967295 y && PyInside.each (List.replicate n (0, 4294967295)) ys) = true := h
    rw [Bool.and_eq_true] at h'
    rcases List.mem_cons.mp hx with e | hx
    · subst e
      have h1 : (decide (0 ≤ x) && decide (x ≤ 4294967295)) = true := h'.1
      rw [Bool.and_eq_true] at h1
      exact of_decide_eq_true h1.1
    · exact each_low n ys (by simpa using hl) h'.2 x hx
  | 0, _ :: _, hl, _, _, _ => by simp at hl
  | _ + 1, [], hl, _, _, _ => by simp at hl
theorem calls_cons {f : Nat} {p : Int} {r : List Int} {raw : List (List (List Int))} (h : PyFlat.calls PyKm561.shape f (p :: r) = some raw) :
    ∃ (f' n op : Nat) (cs : List (List (List Int))), op ≤ 24 ∧ p = (op : Nat) ∧ cnt[op]? = some n ∧ n ≤ r.length ∧ PyFlat.calls PyKm561.shape f' (r.drop n) = some cs ∧ raw = [p :: r.take n] :: cs := by
  cases f with
  | zero => cases h
  | succ f =>
    have h1 : (match PyFlat.call PyKm561.shape (p :: r) with
      | none => none
      | some (c, t) => match PyFlat.calls PyKm561.shape f t with
        | none => none
        | some cs => some (c :: cs)) = some raw := h
    cases e : PyFlat.call PyKm561.shape (p :: r) with
    | none =>
      rw [e] at h1
      cases h1
    | some ct =>
      obtain ⟨c, t⟩ := ct
      rw [e] at h1
      have e1 : (match PyKm561.shape p with
        | none => none
        | some (n, k) => if r.length < n then none else match PyFlat.rows k (r.drop n) with
          | none => none
          | some (xs, t) => some ((p :: r.take n) :: xs, t)) = some (c, t) := e
      cases es : PyKm561.shape p with
      | none =>
        rw [es] at e1
        cases e1
      | some nk =>
        obtain ⟨n, k⟩ := nk
        obtain ⟨op, ho, hp, hk, hn⟩ := shape_tells es
        rw [es] at e1
        subst hk
        have e2 : (if r.length < n then none else some ([p :: r.take n], r.drop n)) = some (c, t) := e1
        by_cases hlen : r.length < n
        · rw [if_pos hlen] at e2
          cases e2
        · rw [if_neg hlen] at e2
          cases e2
          have h2 : (match PyFlat.calls PyKm561.shape f (r.drop n) with
            | none => none
            | some cs => some ([p :: r.take n] :: cs)) = some raw := h1
          cases ec : PyFlat.calls PyKm561.shape f (r.drop n) with
          | none =>
            rw [ec] at h2
            cases h2
          | some cs =>
            rw [ec] at h2
            cases h2
            exact ⟨f, n, op, cs, ho, hp, hn, Nat.not_lt.mp hlen, ec, rfl⟩
theorem calls_nil {f : Nat} {raw : List (List (List Int))} (h : PyFlat.calls PyKm561.shape f [] = some raw) : raw = [] := by
  cases f with
  | zero => exact (Option.some.inj h).symm
  | succ f => exact (Option.some.inj h).symm
/-- the calls from the place j on, upon the state st, complete what is answered so far -/
def Rest (ns : List Int) (j : Nat) (st : Km561.State) (done : List Int) : Prop := ∃ (f : Nat) (raw : List (List (List Int))), PyFlat.calls PyKm561.shape f (ns.drop j) = some raw ∧ PyInside.calls PyKm561.bound raw = true ∧
  done ++ PyFlat.told (PyFlat.played Km561Neutral.step st (raw.map PyKm561.whole)) = PyKm561.answers ns
theorem rest_start {ns : List Int} (h : PyKm561.answers_asked ns = true) : Rest ns 0 Km561.start [] ∧ (PyKm561.answers ns).length ≤ 10000000 := by
  unfold PyKm561.answers_asked at h
  cases e : PyFlat.calls PyKm561.shape ns.length ns with
  | none =>
    rw [e] at h
    cases h
  | some raw =>
    rw [e] at h
    have h' : (!raw.isEmpty && PyFlat.atMost 50 raw && PyInside.calls PyKm561.bound raw && Km561Neutral.asked (raw.map PyKm561.whole) && PyFlat.short 10000000 (PyKm561.answers ns)) = true := h
    rw [Bool.and_eq_true, Bool.and_eq_true, Bool.and_eq_true] at h'
    refine ⟨⟨ns.length, raw, by rw [List.drop_zero]; exact e, h'.1.1.2, ?_⟩, of_decide_eq_true h'.2⟩
    rw [List.nil_append]
    unfold PyKm561.answers PyKm561.calls
    rw [e]
    rfl
theorem rest_len {ns : List Int} {j : Nat} {st : Km561.State} {done : List Int} (h : Rest ns j st done) : done.length ≤ (PyKm561.answers ns).length := by
  obtain ⟨f, raw, _, _, e⟩ := h
  rw [← e, List.length_append]
  omega
theorem rest_end {ns : List Int} {j : Nat} {st : Km561.State} {done : List Int} (hj : ns.length ≤ j) (h : Rest ns j st done) : done = PyKm561.answers ns := by
  obtain ⟨f, raw, h1, _, e⟩ := h
  rw [List.drop_eq_nil_of_le hj] at h1
  rw [calls_nil h1] at e
  have e2 : done ++ [] = PyKm561.answers ns := e
  rw [List.append_nil] at e2
  exact e2
theorem rest_turn {ns : List Int} {j : Nat} {st : Km561.State} {done : List Int} (hj : j < ns.length) (h : Rest ns j st done) :
    ∃ (op n : Nat) (xs : List Nat), ns[j]? = some ((op : Nat) : Int) ∧ op ≤ 24 ∧ cnt[op]? = some n ∧ j + 1 + n ≤ ns.length ∧ (ns.drop (j + 1)).take n = toInts xs ∧
      (op = 0 → Rest ns (j + 1 + n) (some ⟨[], []⟩) (done ++ [1, 0])) ∧
      (op ≠ 0 → ∃ c, callAt op xs = some c ∧ ∀ (st' : Km561.State) (num : Int) (nums : List Int), Km561.step st c = (st', ⟨num, nums⟩) → Rest ns (j + 1 + n) st' (done ++ (((num :: nums).length : Int) :: num :: nums))) := by
  obtain ⟨f, raw, h1, h2, e⟩ := h
  obtain ⟨p, hp⟩ : ∃ p, ns[j]? = some p := ⟨_, List.getElem?_eq_getElem hj⟩
  have hd : ns.drop j = p :: ns.drop (j + 1) := by
    obtain ⟨hi, e⟩ := List.getElem?_eq_some_iff.mp hp
    rw [← e]
    exact List.drop_eq_getElem_cons hi
  rw [hd] at h1
  obtain ⟨f', n, op, cs, ho, hop, hn, hlen, hc, rfl⟩ := calls_cons h1
  have hdl : (ns.drop (j + 1)).length = ns.length - (j + 1) := List.length_drop
  have hxl : ((ns.drop (j + 1)).take n).length = n := by
    rw [List.length_take]
    omega
  have h2' : (PyInside.call PyKm561.bound [p :: (ns.drop (j + 1)).take n] && PyInside.calls PyKm561.bound cs) = true := h2
  rw [Bool.and_eq_true] at h2'
  have h3 : (PyInside.each (PyKm561.bound p).1 ((ns.drop (j + 1)).take n) && PyInside.lists (PyKm561.bound p).2 []) = true := h2'.1
  rw [Bool.and_eq_true, hop, bound_at op ho n hn] at h3
  have low := each_low n _ hxl h3.1
  have hx := toInts_of low
  have hparse := parse_at op ho n _ hn hxl
  have hdrop : (ns.drop (j + 1)).drop n = ns.drop (j + 1 + n) := by rw [List.drop_drop]
  rw [hdrop] at hc
  have e' : done ++ PyFlat.told ((Km561Neutral.step st (PyKm561.whole [p :: (ns.drop (j + 1)).take n])).2 :: PyFlat.played Km561Neutral.step (Km561Neutral.step st (PyKm561.whole [p :: (ns.drop (j + 1)).take n])).1 (cs.map PyKm561.whole)) = PyKm561.answers ns := e
  rw [hop] at e'
  refine ⟨op, n, _, by rw [hp, hop], ho, hn, by omega, hx, fun h0 => ?_, fun h0 => ?_⟩
  · refine ⟨f', cs, hc, h2'.2, ?_⟩
    rw [if_pos h0] at hparse
    have es : Km561Neutral.step st (PyKm561.whole [((op : Nat) : Int) :: (ns.drop (j + 1)).take n]) = (some ⟨[], []⟩, [0]) := by
      unfold Km561Neutral.step
      rw [hparse]
      rfl
    rw [es] at e'
    rw [List.append_assoc]
    exact e'
  · rw [if_neg h0] at hparse
    obtain ⟨c, hcall⟩ := some_at ho h0 (xs := ((ns.drop (j + 1)).take n).map Int.toNat) hn (by rw [List.length_map]; exact hxl)
    refine ⟨c, hcall, fun st' num nums hst => ⟨f', cs, hc, h2'.2, ?_⟩⟩
    rw [hcall] at hparse
    have es : Km561Neutral.step st (PyKm561.whole [((op : Nat) : Int) :: (ns.drop (j + 1)).take n]) = (st', num :: nums) := by
      unfold Km561Neutral.step
      rw [hparse]
      show ((Km561.step st c).1, (Km561.step st c).2.num :: (Km561.step st c).2.nums) = _
      rw [hst]
    rw [es] at e'
    rw [List.append_assoc]
    exact e'
theorem step_none {c : Km561.Call} (h : c ≠ .create) : Km561.step none c = (none, ⟨-11, []⟩) := by
  cases c <;> first | rfl | exact absurd rfl h
theorem call_not_create {op : Nat} {xs : List Nat} {c : Km561.Call} (h : callAt op xs = some c) : c ≠ .create := by
  unfold callAt at h
  split at h <;> cases h <;> intro z <;> cases z
end Cv

namespace Cv
open Km561

/-! ## Each operation ends, and leaves a valid timetable -/
theorem fine_of {tt : Timetable} (h : Valid tt) {ships : List Ship} (hs : ∀ s ∈ ships, s ∈ tt.ships ∨ fine s.arrival s.weight) : ∀ s ∈ ships, s.arrival ≤ 48 ∧ 1 ≤ s.weight ∧ s.weight ≤ 9 := fun s hm => by
  rcases hs s hm with q | q
  · exact h.ok s q
  · exact q
theorem step_ok {tt : Timetable} (hV : Valid tt) (c : Km561.Call) : ∃ (tt' : Timetable) (num : Int) (nums : List Int), Km561.step (some tt) c = (some tt', ⟨num, nums⟩) ∧ Valid tt' := by
  cases c with
  | create => exact ⟨_, _, _, rfl, valid_new⟩
  | addShip x y =>
    by_cases c : fine x y
    · by_cases c8 : 8 ≤ tt.ships.length
      · exact ⟨_, _, _, st_add_full c c8, hV⟩
      · refine ⟨_, _, _, st_add c c8, valid_ships hV ?_ (fine_of hV fun s hs => ?_)⟩
        · rw [List.length_append]
          show _ + 1 ≤ 8
          omega
        · rcases List.mem_append.mp hs with q | q
          · exact .inl q
          · rw [List.mem_singleton] at q
            rw [q]
            exact .inr c
    · exact ⟨_, _, _, st_add_bad c, hV⟩
  | removeShip i =>
    by_cases c : tt.ships.length ≤ i
    · exact ⟨_, _, _, st_rem_bad c, hV⟩
    · exact ⟨_, _, _, st_rem c, valid_ships hV (Nat.le_trans (List.eraseIdx_sublist tt.ships i).length_le hV.few) (fine_of hV fun s hs => .inl ((List.eraseIdx_sublist tt.ships i).subset hs))⟩
  | setArrival i x =>
    by_cases c : tt.ships.length ≤ i
    · exact ⟨_, _, _, st_arr_bad c, hV⟩
    · by_cases c2 : 48 < x
      · exact ⟨_, _, _, st_arr_late c c2, hV⟩
      · have hs : tt.ships[i]? = some tt.ships[i] := List.getElem?_eq_getElem (by omega)
        refine ⟨_, _, _, st_arr c c2 hs, valid_ships hV (by rw [List.length_set]; exact hV.few) (fine_of hV fun s hm => ?_)⟩
        rcases List.mem_or_eq_of_mem_set hm with q | q
        · exact .inl q
        · have := hV.ok tt.ships[i] (List.getElem_mem _)
          rw [q]
          exact .inr ⟨by show x ≤ 48; omega, this.2⟩
  | setWeight i x =>
    by_cases c : tt.ships.length ≤ i
    · exact ⟨_, _, _, st_wgt_bad c, hV⟩
    · by_cases c2 : 1 ≤ x ∧ x ≤ 9
      · have hs : tt.ships[i]? = some tt.ships[i] := List.getElem?_eq_getElem (by omega)
        refine ⟨_, _, _, st_wgt c c2 hs, valid_ships hV (by rw [List.length_set]; exact hV.few) (fine_of hV fun s hm => ?_)⟩
        rcases List.mem_or_eq_of_mem_set hm with q | q
        · exact .inl q
        · have := hV.ok tt.ships[i] (List.getElem_mem _)
          rw [q]
          exact .inr ⟨this.1, c2⟩
      · exact ⟨_, _, _, st_wgt_off c c2, hV⟩
  | addDeparture h =>
    by_cases c1 : 48 < h
    · exact ⟨_, _, _, st_dep_late c1, hV⟩
    · by_cases c2 : h ∈ tt.departures
      · exact ⟨_, _, _, st_dep_taken c1 c2, hV⟩
      · by_cases c3 : 8 ≤ tt.departures.length
        · exact ⟨_, _, _, st_dep_full c1 c2 c3, hV⟩
        · refine ⟨_, _, _, st_dep c1 c2 c3, valid_deps hV (sorted_insertHour hV.sorted) (by rw [length_insertHour c2]; omega) fun d hd => ?_⟩
          rcases mem_insertHour.mp hd with q | q
          · omega
          · exact hV.hours d q
  | cancelDeparture h =>
    by_cases c1 : h ∈ tt.departures
    · exact ⟨_, _, _, st_can c1, valid_deps hV (hV.sorted.sublist List.filter_sublist) (Nat.le_trans (List.length_filter_le _ _) hV.deps) fun d hd => hV.hours d (List.mem_filter.mp hd).1⟩
    · exact ⟨_, _, _, st_can_bad c1, hV⟩
  | useOptimalDepartures k =>
    by_cases c : 1 ≤ k ∧ k ≤ 8
    · obtain ⟨r, e, hr, _⟩ := optimal_is tt c.1
      obtain ⟨a1, a2, _⟩ := mem_serving.mp hr
      exact ⟨_, _, _, st_use c e, valid_deps hV ((hours_sorted _).sublist a1) (Nat.le_trans a2 c.2) fun d hd => hours_le hV d (a1.subset hd)⟩
    · exact ⟨_, _, _, st_use_off c, hV⟩
  | _ => exact ⟨_, _, _, rfl, hV⟩
end Cv
/-! # Rules for what the layer has no row for: min of a list of pairs, set of a list, a written dict by whole numbers, a call of a local in a try -/
namespace Cv
open PySem PySem.Spec PyProof.Rows L2

/-! ### min of a list whose items are data -/
section
variable {α : Type} [DecidableEq α] [PySem.W.Datum α]
/-- a value holds one datum -/
theorem holds_one {h : Heap} {v : Value} {x y : α} (a : PySem.W.Holds h v x) (b : PySem.W.Holds h v y) : x = y := by
  obtain ⟨as, ra⟩ := a
  obtain ⟨bs, rb⟩ := b
  have e := PySem.SeqAt.plain_unique _ _ _ _ _ (PySem.W.Datum.plain x) ra rb
  have q : decide (x = y) = true := by
    rw [← PySem.W.Datum.eqv x y, ← e, PySem.W.Datum.eqv x x]
    exact decide_eq_true rfl
  exact of_decide_eq_true q
end
/-- the datum that a tracked value stands for -/
structure Says (X : Cx) (α : Type) [DecidableEq α] [PySem.W.Datum α] (At : Hp → V → α → Prop) : Prop where
  holds : ∀ {pins : List (Addr × Obj)} {σ : L2.St} {H : Hp} {s : Shared} {v : V} {u : Value} {x : α}, Inv X pins σ H s → RelV v u → At H v x → PySem.W.Holds s.heap u x
section
variable {X : Cx} {α : Type} [DecidableEq α] [PySem.W.DatumOrd α] {At : Hp → V → α → Prop}
theorem says_all (S : Says X α At) {pins : List (Addr × Obj)} {σ : L2.St} {H : Hp} {s : Shared} (I : Inv X pins σ H s) : ∀ {vs : List V} {us : List Value} {xs : List α}, Vals vs us → Paired (At H) vs xs → PySem.W.HoldAll s.heap us xs
  | _, _, _, .nil, .nil => PySem.W.HoldAll.nil
  | _, _, _, .cons r rs, .cons q qs => PySem.W.HoldAll.cons (S.holds I r q) (says_all S I rs qs)
theorem paired_at {A B : Type} {F : A → B → Prop} : ∀ {l : List A} {m : List B}, Paired F l m → ∀ {i : Nat} {a : A}, l[i]? = some a → ∃ b, m[i]? = some b ∧ F a b
  | _, _, .nil, i, a, h => by simp at h
  | _, _, .cons q _, 0, a, h => by
    simp at h
    subst h
    exact ⟨_, rfl, q⟩
  | _, _, .cons _ t, i + 1, a, h => by
    obtain ⟨b, h1, h2⟩ := paired_at t (i := i) (a := a) (by simpa using h)
    exact ⟨b, by simpa using h1, h2⟩
theorem vals_back {vs : List V} {us : List Value} (r : Vals vs us) {i : Nat} {u : Value} (h : us[i]? = some u) : ∃ v, vs[i]? = some v ∧ RelV v u := by
  have hi : i < vs.length := by
    rw [r.length]
    exact (List.getElem?_eq_some_iff.mp h).1
  obtain ⟨u', h1, h2⟩ := r.get (List.getElem?_eq_getElem hi)
  rw [h] at h1
  cases h1
  exact ⟨vs[i], List.getElem?_eq_getElem hi, h2⟩
/-- min(xs): one of the items, and its datum is the first of the least -/
def rMinD (At : Hp → V → α → Prop) (K : PySem.W.Frag) : List V → Hp → VK → Prop := fun vs H Q => ∃ (a : Addr) (xs : List V) (d : α) (ds : List α), vs = [V.ref a] ∧ SqL K H a xs ∧ Paired (At H) xs (d :: ds) ∧
  ∀ v, At H v (PySem.W.minOf d ds) → Q v H
theorem cr_minD (S : Says X α At) (hc : X.calm = true) (hu : X.A.units + 1 + PySem.W.Datum.depth α < cLine) : CallR X (.builtin "min") (rMinD At X.K) := by
  intro pins s σ H vs us Q I r h
  obtain ⟨a, xs, d, ds, rfl, hs, hp, q⟩ := h
  obtain ⟨its, rv, hl, _⟩ := I.list hs
  rw [Vals.ref1 r]
  have HA : PySem.W.HoldAll s.heap its.toArray.toList (d :: ds) := by simpa using says_all S I rv hp
  refine PySem.W.min_list_datum (I.ok.hd hc) hl.isList HA hu fun i u h' tk hi hm hk => ?_
  obtain ⟨v, hv, ru⟩ := vals_back rv (i := i) (u := u) (by simpa using hi)
  obtain ⟨x, _, hx⟩ := paired_at hp hv
  have e : x = PySem.W.minOf d ds := holds_one ((S.holds I ru hx).keeps hk) hm
  rw [e] at hx
  exact ⟨v, H, I.kept hk, ru, q v hx⟩
end
/-- v is a tuple (a whole number, a list of whole numbers) -/
def AtIL (G : Addr → Prop) : Hp → V → Int × List Int → Prop := fun H v x => ∃ t q : Addr, v = .ref t ∧ H t = some (.tup [.int x.1, .ref q]) ∧ H q = some (.lst (x.2.map V.int)) ∧ G q
/-- v is a tuple of two whole numbers -/
def AtII : Hp → V → Int × Int → Prop := fun H v x => ∃ t : Addr, v = .ref t ∧ H t = some (.tup [.int x.1, .int x.2])
theorem isTuple_of {h : Heap} {a : Addr} {its : Array Value} (p : IsTup h a its) : h.IsTuple a its := p
theorem says_il {X : Cx} {G : Addr → Prop} : Says X (Int × List Int) (AtIL G) := ⟨fun {pins σ H s v u x} I r h => by
  obtain ⟨t, q, rfl, h1, h2, _⟩ := h
  cases r
  obtain ⟨its, rv, hl, _⟩ := I.tuple (SqT.of h1)
  obtain ⟨its2, rv2, hl2, _⟩ := I.list (SqL.of h2)
  cases rv with
  | cons r1 rr =>
    cases rr with
    | cons r2 rr =>
      cases rr
      obtain ⟨t1, rfl⟩ := r1
      cases r2
      exact PySem.W.holds_pair (x := x.1) (y := x.2) (isTuple_of hl) (PySem.W.holds_int _ _) (PySem.W.holds_list hl2.isList (by simpa using PySem.W.HoldAll.of_ints rv2.ints))⟩
theorem says_ii {X : Cx} : Says X (Int × Int) AtII := ⟨fun {pins σ H s v u x} I r h => by
  obtain ⟨t, rfl, h1⟩ := h
  cases r
  obtain ⟨its, rv, hl, _⟩ := I.tuple (SqT.of h1)
  cases rv with
  | cons r1 rr =>
    cases rr with
    | cons r2 rr =>
      cases rr
      obtain ⟨t1, rfl⟩ := r1
      obtain ⟨t2, rfl⟩ := r2
      exact PySem.W.holds_pair (x := x.1) (y := x.2) (isTuple_of hl) (PySem.W.holds_int _ _) (PySem.W.holds_int _ _)⟩

/-! ### which one min finds -/
section
variable {α : Type} [DecidableEq α] [PySem.W.DatumOrd α]
theorem minOf_is {m : α} (hm : PySem.W.DatumOrd.lt m m = false) : ∀ (ds : List α) (d : α), m ∈ d :: ds → (∀ y ∈ d :: ds, y = m ∨ (PySem.W.DatumOrd.lt m y = true ∧ PySem.W.DatumOrd.lt y m = false)) → PySem.W.minOf d ds = m
  | [], d, h, _ => by
    rw [List.mem_singleton] at h
    exact h.symm
  | x :: ds, d, h, hb => by
    show PySem.W.minOf (if PySem.W.DatumOrd.lt x d = true then x else d) ds = m
    refine minOf_is hm ds _ ?_ fun y hy => ?_
    · rcases List.mem_cons.mp h with e | h
      · subst e
        have : PySem.W.DatumOrd.lt x m = false := by
          rcases hb x (List.mem_cons_of_mem _ List.mem_cons_self) with e | z
          · rw [e]
            exact hm
          · exact z.2
        rw [this, if_neg Bool.false_ne_true]
        exact List.mem_cons_self
      · rcases List.mem_cons.mp h with e | h
        · subst e
          rcases hb d List.mem_cons_self with e | z
          · rw [e, hm, if_neg Bool.false_ne_true]
            exact List.mem_cons_self
          · rw [z.1, if_pos rfl]
            exact List.mem_cons_self
        · exact List.mem_cons_of_mem _ h
    · rcases List.mem_cons.mp hy with e | hy
      · rw [e]
        split
        · exact hb x (List.mem_cons_of_mem _ List.mem_cons_self)
        · exact hb d List.mem_cons_self
      · exact hb y (List.mem_cons_of_mem _ (List.mem_cons_of_mem _ hy))
end
/-! ### a dict of the written part whose keys are whole numbers -/
structure IntTab (K : PySem.W.Frag) (a : Addr) (es : Array DictEntry) (n : Nat) : Prop where
  at_ : K.lookup a = some ⟨.type "dict", none, .dict es n, #[]⟩
  keys : ∀ e ∈ es, ∃ (k : Int) (t : Tok), e.key = .int k t ∧ e.hash = hashInt k
/-- the key z has the value v -/
def KInt (K : PySem.W.Frag) (a : Addr) (z : Int) (v : V) : Prop := ∃ (es : Array DictEntry) (n : Nat) (u : Value), IntTab K a es n ∧ findBy Value.isInt es z = some u ∧ RelV v u
def rIxI (K : PySem.W.Frag) : R2 := fun x y H Q => ∃ (p : Addr) (z : Int) (v : V), x = .ref p ∧ y = .int z ∧ KInt K p z v ∧ Q v H
theorem ix_int {X : Cx} : IxR X (rIxI X.K) := by
  intro value slice pins s σ H x y v u Q I rx ry h hs
  obtain ⟨p, z, r, rfl, rfl, ⟨es, n, u0, T, e, ru⟩, q⟩ := h
  obtain rfl : v = Value.ref p := rx
  obtain ⟨t, rfl⟩ := ry
  have hm : s.heap.MapOf (PySem.intKind X.prog X.w) p (fun k => findBy Value.isInt es k) := ⟨_, es, n, I.kIn _ _ T.at_, ⟨rfl, rfl, rfl⟩, rfl, fun d hd => by
    obtain ⟨k, t', e1, e2⟩ := T.keys d hd
    refine ⟨k, ?_, e2⟩
    rw [e1]
    exact intKind_is X.prog X.w k t', fun _ => rfl⟩
  exact tail_any hm.typeIs slot_dict_getitem.lookup (wpAny_getItem_of (intKind_is X.prog X.w z t) hm e ⟨r, H, I.tok _, ru, q⟩) hs

/-! ### f(e, ..) within a try, f a local name that holds a def -/
def tCallLS (i : Nat) (f : Addr) (sp : Sp) (E : L2.St → XK) (t : TA) : TE := fun σ H Q => σ[i]? = some (some (.ref f)) ∧ t σ H fun vs H1 => sp vs H1 Q (E σ)
theorem pe_callLS {X : Cx} {CX : CXT} {k i : Nat} {f : Addr} {fd : FuncData} {ps : List Str} {sp : Sp} {E : L2.St → XK} {x : Str} {p pos : Pos} {e : Expr} {es : List Expr} {t : TA}
    (F : FnOk X.prog X.w X.K X.mg X.base CX k f fd ps sp) (hr : Room k X.A) (hN : X.N[i]? = some x) (hv : Vis X.env.scope x) (hk : PySem.W.keepIn X.K (.ref f) = true) (hb : Binds X.K fd ps []) (hx : ∀ σ, PassesAt CX X σ (E σ)) (ha : PA X (e :: es) t)
    (hdb : (x == ("__debug__" : Str)) = false := by decide) (hcd : (x == ("__classdict__" : Str)) = false := by decide)
    (he : starEach (e :: es) X.env = (false, eval e X.env) :: starEach es X.env := by rfl) (hpl : (backTo pos (starEach es X.env)).any (·.1) = false := by rfl) :
    PE X (.Call (.Name x p) (e :: es) [] pos) (tCallLS i f sp E t) := by
  refine ⟨fun pins s σ H Q I h => ?_⟩
  obtain ⟨hs, ht⟩ := h
  have hname := (pe_var (X := X) (pos := p) hN hv hdb hcd).run pins s σ H (fun v H1 => v = .ref f ∧ H1 = H) I ⟨.ref f, hs, rfl, rfl⟩
  refine wpAny_Call_Name_kw (thn hname fun u s1 z => ?_)
  obtain ⟨v, H1, I1, r1, e1, e2⟩ := z
  subst e1 e2
  cases r1
  refine PySem.W.callWith_K (h₀ := X.base) I.ok.mod.kin hk (thn (ha.run pos pins s1 σ _ _ I1 ht) fun us s2 z => ?_) he hpl
  obtain ⟨vs, H2, I2, r, q⟩ := z
  exact ⟨I2.kIn, run_fnS F hr hb (hx σ) I2 r q⟩
end Cv
/-! # set(xs) of a list of whole numbers, with its order told (over HandS.SetFor's loop) -/
namespace Cv
open PySem PySem.Spec PyProof.Rows L2
/-- what set() makes -/
abbrev bareSet (w : World) : Obj := { cls := .type "set", dict := none, data := .set #[] 0 (.fresh 0 0 (!w.params.followText "set-order")) }
/-- the heap behind it, at its own address the new set -/
abbrev withSet (w : World) (h : Heap) : Heap := h.push (bareSet w)
section
variable {P : Program} {w : World} {A : Around} {E : Value → Shared → Prop} {s : Shared}
/-- the set's members are filled in by set.__init__ -/
theorem fill_set {l : Addr} {items : Array Value} (ns : List Int) (hh : A.handled = none) (hl : s.heap.IsList l items) (hit : IntsAre items.toList ns) (hb : ns.length + 1 < scanBound) {R : Result → Shared → Prop}
    (h : ∀ (h' : Heap) (tk c : Nat), SetR w h' s.heap.objs.size (fun j => decide (j ∈ ns)) c → c ≤ ns.length → (∀ b o, s.heap.get? b = some o → h'.get? b = some o) → R (.ok (.ret .none)) { s with heap := h', toks := tk }) :
    codeAny (model P w) A.in1.in1 (.builtin "set.update.loop" ⟨[.ref s.heap.objs.size, .ref (withSet w s.heap).objs.size], []⟩) R { s with heap := (withSet w s.heap).push { cls := .type "list_iterator", data := .fields #[.ref l, .int 0 0] } } := by
  have hisz : items.size = ns.length := by
    have q := IntsAre.length hit
    rwa [Array.length_toList] at q
  have big : (withSet w s.heap).objs.size = s.heap.objs.size + 1 := Heap.size_push ..
  have hlS : l < s.heap.objs.size := by
    obtain ⟨ol, hol, _⟩ := id hl
    exact Heap.lt_size hol
  have hl1 : (withSet w s.heap).IsList l items := hl.push _
  have hneI : l ≠ (withSet w s.heap).objs.size := by
    rw [big]
    exact Nat.ne_of_lt (Nat.lt_succ_of_lt hlS)
  have hSf : s.heap.objs.size ∉ [(withSet w s.heap).objs.size, l] := by
    rw [big]
    simp only [List.mem_cons, List.not_mem_nil, or_false, not_or]
    exact ⟨Nat.ne_of_lt (Nat.lt_succ_self _), Nat.ne_of_gt hlS⟩
  have hval : ∀ (i : Nat) (v : Value), items[i]? = some v → ∃ k t, ns[i]? = some k ∧ v = .int k t := fun i v hv => by
    have hi : i < ns.length := by
      rw [← hisz]
      exact (Array.getElem?_eq_some_iff.mp hv).1
    obtain ⟨t, e⟩ := PyProof.Rows.IntsAre.int_at hit i v (by rw [Array.getElem?_toList]; exact hv)
    refine ⟨ns[i], t, List.getElem?_eq_getElem hi, ?_⟩
    rw [e, List.getD_eq_getElem?_getD, List.getElem?_eq_getElem hi]
    rfl
  have hh3 : A.in1.in1.in1.handled = none := by simp [hh]
  have W := (Walks.list (prog := P) (w := w) hh3 (withSet w s.heap).objs.size l hneI items).toS
  refine set_update_ints W s.heap.objs.size hSf ns hisz hb hval (items.size - 0) 0 _ (by omega) (Nat.zero_le _) ⟨⟨_, Heap.get?_push_size _ rfl, rfl, rfl⟩, hl1.push _⟩ ⟨0, Nat.le_refl 0, setR_new_at ?_⟩ fun s' c m hc' hS' => ?_
  · exact Heap.get?_push_of_some _ (Heap.get?_push_size _ rfl)
  · obtain ⟨h', g2, d', tk', os'⟩ := s'
    have eg : g2 = s.gens := m.gens
    have ed : d' = s.drawn := m.drawn
    have eo : os' = s.os := m.os
    subst eg ed eo
    rw [hisz] at hc'
    refine h h' tk' c hS' hc' fun b o e => ?_
    have hb0 : b < s.heap.objs.size := Heap.lt_size e
    refine m.heap b o ?_ (Heap.get?_push_of_some _ (Heap.get?_push_of_some _ e))
    rw [big]
    simp only [List.mem_cons, List.not_mem_nil, or_false, not_or]
    exact ⟨Nat.ne_of_lt hb0, Nat.ne_of_lt (Nat.lt_succ_of_lt hb0)⟩
/-- set.__init__ of the new set -/
theorem init_set {l : Addr} {items : Array Value} (ns : List Int) (hh : A.handled = none) (hl : s.heap.IsList l items) (hit : IntsAre items.toList ns) (hb : ns.length + 1 < scanBound) {Q : Value → Shared → Prop}
    (h : ∀ (h' : Heap) (tk c : Nat), SetR w h' s.heap.objs.size (fun j => decide (j ∈ ns)) c → c ≤ ns.length → (∀ b o, s.heap.get? b = some o → h'.get? b = some o) → Q .none { s with heap := h', toks := tk }) :
    codeAny (model P w) A.in1 (.call (.builtin "set.__init__") ⟨[.ref s.heap.objs.size, .ref l], []⟩) (wants Q E) { s with heap := withSet w s.heap } := by
  have hS : (withSet w s.heap).get? s.heap.objs.size = some (bareSet w) := Heap.get?_push_size _ rfl
  have hT : Shared.TypeIs { s with heap := withSet w s.heap } (.ref s.heap.objs.size) "set" := ⟨_, hS, rfl⟩
  refine codeAny_call_builtin F.called_set.init.plain F.entry_set_init (check_set_init_1 hT ?_)
  have hl0 := hl
  obtain ⟨⟨ocls, odict, odata, oslots⟩, hol, hcl, nl, hdl⟩ := hl
  simp only at hcl hdl
  subst hcl hdl
  have hol' : (withSet w s.heap).get? l = some { cls := .type "list", dict := odict, data := .seq items nl, slots := oslots } := Heap.get?_push_of_some _ hol
  have notset := F.sub_list_set
  have notfrozen := F.sub_list_frozenset
  have notdict : (Value.type "list" == Value.type "dict") = false := by decide
  have hl1 : (withSet w s.heap).IsList l items := ⟨_, hol', rfl, nl, rfl⟩
  unfold Builtin.«set.__init__» noKeywords Builtin.Frozenset.updateFrom
  generalize hPI : pyIter = PI
  wp_walk
  subst hPI
  refine wpAny_pyIter_list hl1 (wpAny_bind (wpAny_runValue ?_))
  refine fill_set ns hh hl0 hit hb fun h' tk c r hc k => ?_
  show wpAny _ _ (pure ()) _ _ _
  refine wpAny_pure ?_
  show wpAny _ _ (ret Value.none) _ _ _
  exact wpAny_pure (h h' tk c r hc k)
/-- set(xs) -/
theorem call_set_of {l : Addr} {items : Array Value} (ns : List Int) (hh : A.handled = none) (hl : s.heap.IsList l items) (hit : IntsAre items.toList ns) (hb : ns.length + 1 < scanBound) {Q : Value → Shared → Prop}
    (h : ∀ (h' : Heap) (tk c : Nat), SetR w h' s.heap.objs.size (fun j => decide (j ∈ ns)) c → c ≤ ns.length → (∀ b o, s.heap.get? b = some o → h'.get? b = some o) → Q (.ref s.heap.objs.size) { s with heap := h', toks := tk }) :
    wpAny (model P w) A (call (.type "set") [.ref l]) Q E s := by
  obtain ⟨c, tl, hmro⟩ := F.called_set.mro
  have made := F.called_set.made
  have sub := F.called_set.sub
  have notType := F.called_set.notType
  have create := F.called_set.canCreate
  have args := F.typeCall_set_1 (.ref l)
  refine wpAny_call (codeAny_of_tree ?_)
  show wpAny _ _ (callAny (.type "set") _) _ _ _
  refine wpAny_pure ⟨Code.quiet_builtin _ (by decide +kernel), codeAny_builtin F.entry_type_call ?_⟩
  rw [Around.under_plain (weight_type_call_type "set" [.ref l] []) rfl]
  repeat (any_goals (first | assumption | wp_step))
  refine codeAny_mono (code_set_led1 (.ref l) (E := E) (Q₁ := fun obj s₁ => obj = .ref s.heap.objs.size ∧ s₁ = { s with heap := withSet w s.heap }) ⟨rfl, rfl⟩) fun r s₁ hr => ?_
  cases r with
  | error e => exact hr
  | ok fl =>
    cases fl with
    | ret obj =>
      obtain ⟨rfl, rfl⟩ := hr
      have hS : (withSet w s.heap).get? s.heap.objs.size = some (bareSet w) := Heap.get?_push_size _ rfl
      have hT : Shared.TypeIs { s with heap := withSet w s.heap } (.ref s.heap.objs.size) "set" := ⟨_, hS, rfl⟩
      have found := F.called_set.init.lookup
      have bound := F.called_set.init.bind (.ref s.heap.objs.size)
      repeat (any_goals (first | assumption | wp_step))
      refine codeAny_mono (init_set (A := A) (E := E) (Q := fun r s₂ => r = .none ∧ ∃ (h' : Heap) (tk c : Nat), s₂ = { s with heap := h', toks := tk } ∧ SetR w h' s.heap.objs.size (fun j => decide (j ∈ ns)) c ∧ c ≤ ns.length ∧ ∀ b o, s.heap.get? b = some o → h'.get? b = some o)
        ns hh hl hit hb fun h' tk c r hc k => ⟨rfl, h', tk, c, rfl, r, hc, k⟩) fun r₂ s₂ hr₂ => ?_
      cases r₂ with
      | error e => exact hr₂
      | ok fl₂ =>
        cases fl₂ with
        | ret r =>
          obtain ⟨rfl, h', tk, c', rfl, hS', hc', hk'⟩ := hr₂
          repeat (any_goals (first | assumption | wp_step))
          exact h _ _ _ hS' hc' hk'
        | _ => exact hr₂.elim
    | _ => exact hr.elim
end
/-- set(xs), then all members once -/
def rSetL (K : PySem.W.Frag) (w : World) : List V → Hp → VK → Prop := fun vs H Q => ∃ (l : Addr) (ns : List Int), vs = [V.ref l] ∧ SqL K H l (ns.map V.int) ∧ ns.length < 60 ∧
  ∀ (p : Addr) (c : Nat), H p = none → c ≤ ns.length → Q (.ref p) (upd H p (SetO w p (fun j => decide (j ∈ ns)) c))
theorem cr_setL {X : Cx} (hc : X.calm = true) : CallR X (.type "set") (rSetL X.K X.w) := by
  intro pins s σ H vs us Q I r h
  obtain ⟨l, ns, rfl, hs, hlen, q⟩ := h
  obtain ⟨its, rv, hl, _⟩ := I.list hs
  rw [Vals.ref1 r]
  refine call_set_of ns (I.ok.hd hc) hl.isList (by simpa using rv.ints) (by unfold scanBound; omega) fun h' tk c R hc' k => ?_
  exact ⟨.ref _, upd H s.heap.objs.size (SetO X.w s.heap.objs.size (fun j => decide (j ∈ ns)) c), I.laid (t' := tk) k (Nat.le_refl _) (setO_new R), rfl, q _ c (I.hok.fresh (Nat.le_refl _)) hc'⟩
end Cv
/-! # What the top has written; the heap; calls by name; the refusal -/
namespace Cv
open PySem PySem.Spec PyProof.Rows L2
open Km561 (Ship Timetable toInts)
/-- the i-th statement of the program -/
def top (i : Nat) : Stmt := PySem.Challenge.pw_convoytimes_s01_answers.main.body.getD i (.Pass ⟨0, 0, 0, 0⟩)

/-! ### a def under its name, with its promise -/
structure Has (P : Program) (w : World) (K : PySem.W.Frag) (mg : Str → Option Value) (base : Heap) (CX : CXT) (k : Nat) (x : Str) (sp : Sp) : Prop where
  ex : ∃ (f : Addr) (fd : FuncData) (ps : List Str), FnOk P w K mg base CX k f fd ps sp ∧ mg x = some (.ref f) ∧ PySem.W.keepIn K (.ref f) = true ∧ Binds K fd ps []
/-- a call of such a def -/
def tDo (sp : Sp) (E : XK) (t : TA) : TE := fun σ H Q => t σ H fun vs H1 => sp vs H1 Q E
section
variable {X : Cx} {CX : CXT} {k j : Nat} {x : Str} {sp : Sp} {E : XK} {p pos : Pos} {e : Expr} {es : List Expr} {t : TA}
theorem pe_doAny (c : Has X.prog X.w X.K X.mg X.base CX k x sp) (hr : Room j X.A) (hk : k ≤ j) (hx : Passes CX X E) (hg : Gl X x) (ha : PA X (e :: es) t)
    (hdb : (x == ("__debug__" : Str)) = false) (he : starEach (e :: es) X.env = (false, eval e X.env) :: starEach es X.env) (hpl : (backTo pos (starEach es X.env)).any (·.1) = false) :
    PE X (.Call (.Name x p) (e :: es) [] pos) (tDo sp E t) := by
  obtain ⟨f, fd, ps, F, hm, kp, b⟩ := c.ex
  have h := pe_call (p := p) (pos := pos) (E := E) F (hr.mono hk) hg hm kp b .nil hx ha hdb he hpl
  have e0 : tCall sp [] E t = tDo sp E t := by
    funext σ H Q
    show t σ H (fun vs H1 => sp (vs ++ []) H1 Q E) = t σ H fun vs H1 => sp vs H1 Q E
    congr 1
    funext vs H1
    rw [List.append_nil]
  rw [e0] at h
  exact h
/-- a def that raises nothing -/
theorem pe_do (c : Has X.prog X.w X.K X.mg X.base CX0 k x sp) (hr : Room j X.A) (ha : PA X (e :: es) t) (hk : k ≤ j := by decide) (hg : Gl X x := by rfl)
    (hdb : (x == ("__debug__" : Str)) = false := by decide) (he : starEach (e :: es) X.env = (false, eval e X.env) :: starEach es X.env := by rfl) (hpl : (backTo pos (starEach es X.env)).any (·.1) = false := by rfl) :
    PE X (.Call (.Name x p) (e :: es) [] pos) (tDo sp E0 t) := pe_doAny c hr hk pass0 hg ha hdb he hpl
/-- a def that may raise, called where what it raises leaves -/
theorem pe_doX (c : Has X.prog X.w X.K X.mg X.base (L2.CX X.prog X.w) k x sp) (hr : Room j X.A) (tk : Takes X (fun cls d _ H => E cls d H)) (ha : PA X (e :: es) t) (hk : k ≤ j := by decide) (hg : Gl X x := by rfl)
    (hdb : (x == ("__debug__" : Str)) = false := by decide) (he : starEach (e :: es) X.env = (false, eval e X.env) :: starEach es X.env := by rfl) (hpl : (backTo pos (starEach es X.env)).any (·.1) = false := by rfl) :
    PE X (.Call (.Name x p) (e :: es) [] pos) (tDo sp E t) := pe_doAny c hr hk (passes_call tk fun _ _ _ _ h => h) hg ha hdb he hpl
end

/-! ### values and the heap -/
abbrev nat (n : Nat) : V := .int (n : Int)
/-- a ship: a tuple of its arrival hour and its weight -/
def ShipAt (H : Hp) (v : V) (s : Ship) : Prop := ∃ t : Addr, v = .ref t ∧ H t = some (.tup [nat s.arrival, nat s.weight])
def ShipsAt (H : Hp) (a : Addr) (ships : List Ship) : Prop := ∃ vs : List V, H a = some (.lst vs) ∧ Paired (ShipAt H) vs ships
/-- hours: a list of whole numbers -/
def NatsAt (H : Hp) (a : Addr) (ds : List Nat) : Prop := H a = some (.lst (ds.map nat))
/-- None, or the number -/
def optV : Option Nat → V
  | none => .non
  | some n => nat n
theorem ints_map (ds : List Nat) : ds.map nat = (toInts ds).map V.int := by
  unfold toInts
  rw [List.map_map]
  rfl
theorem ShipAt.same {H H' : Hp} (e : Same H H') {v : V} {s : Ship} (h : ShipAt H v s) : ShipAt H' v s := by
  obtain ⟨t, e1, e2⟩ := h
  exact ⟨t, e1, e _ _ e2⟩
theorem paired_mono {A B : Type} {F G : A → B → Prop} (h : ∀ a b, F a b → G a b) : ∀ {l : List A} {m : List B}, Paired F l m → Paired G l m
  | _, _, .nil => .nil
  | _, _, .cons r t => .cons (h _ _ r) (paired_mono h t)
theorem ShipsAt.same {H H' : Hp} (e : Same H H') {a : Addr} {ships : List Ship} (h : ShipsAt H a ships) : ShipsAt H' a ships := by
  obtain ⟨vs, h1, h2⟩ := h
  exact ⟨vs, e _ _ h1, paired_mono (fun _ _ z => z.same e) h2⟩
theorem NatsAt.same {H H' : Hp} (e : Same H H') {a : Addr} {ds : List Nat} (h : NatsAt H a ds) : NatsAt H' a ds := e _ _ h
theorem same_new {H : Hp} {p : Addr} {o : HO} (hp : H p = none) : Same H (upd H p o) := fun b u q => by
  rw [upd_ne (ne_of_none q hp)]
  exact q
/-- .. behind a heap that keeps all -/
theorem snew {H H1 : Hp} (e : Same H H1) {p : Addr} {o : HO} (hp : H1 p = none) : Same H (upd H1 p o) := e.trans (same_new hp)
/-- .. where a list that is new since then is written -/
theorem snew2 {H H1 : Hp} (e : Same H H1) {p : Addr} {o : HO} (hp : H p = none) : Same H (upd H1 p o) := fun b u q => by
  rw [upd_ne (ne_of_none q hp)]
  exact e b u q
/-- all stands but what stands at i -/
def But (i : Addr) (H H' : Hp) : Prop := ∀ b o, H b = some o → b ≠ i → H' b = some o
theorem But.of_same {i : Addr} {H H' : Hp} (e : Same H H') : But i H H' := fun b o q _ => e b o q
theorem But.trans {i : Addr} {H H1 H2 : Hp} (a : But i H H1) (b : But i H1 H2) : But i H H2 := fun c o h n => b c o (a c o h n) n

/-! ### constants and built-ins of the module -/
/-- the module's name x stands for v -/
def Named (mg : Str → Option Value) (x : Str) (v : V) : Prop := ∃ u, mg x = some u ∧ RelV v u
theorem pe_named {X : Cx} {x : Str} {v : V} {pos : Pos} (h : Named X.mg x v) (hg : Gl X x := by rfl) (hdb : (x == ("__debug__" : Str)) = false := by decide) : PE X (.Name x pos) (tC v) := by
  obtain ⟨u, h1, h2⟩ := h
  exact pe_glob hg h1 h2 hdb

/-! ### rules that name the written part, for a comprehension's block -/
theorem ix_lstK {X : Cx} {K : PySem.W.Frag} (h : X.K = K) : IxR X (rIxL K) := by
  subst h
  exact ix_list
theorem len_seqK {X : Cx} {K : PySem.W.Frag} (h : X.K = K) : CallR X (.builtin "len") (fun xs H Q => ∃ p ys, xs = [.ref p] ∧ (SqL K H p ys ∨ SqT K H p ys) ∧ Q (.int ys.length) H) := by
  subst h
  exact call_len_seq

/-! ### the refusal -/
/-- a refusal with this code leaves -/
def Bad (CR : Addr) (E : XK) (H : Hp) (c : Int) : Prop := ∀ (d : Addr) (H' : Hp), Same H H' → H' d = some (.xd [(("code" : Str), .int c)]) → E (.ref CR) (some d) H'
theorem Bad.same {CR : Addr} {E : XK} {H H1 : Hp} {c : Int} (h : Bad CR E H c) (e : Same H H1) : Bad CR E H1 c := fun d H' s q => h d H' (e.trans s) q
/-- Refusal.__init__ at a fresh exception -/
def spRef (CR : Addr) : Sp := fun vs H Q _ => ∃ (a : Addr) (c : Int), vs = [.ref a, .int c] ∧ H a = some (exo a CR none) ∧
  ∀ dx, H dx = none → dx ≠ a → Q .non (upd (upd H dx (exd dx [(("code" : Str), .int c)])) a (exo a CR (some dx)))
structure Ref (K : PySem.W.Frag) (mg : Str → Option Value) (CR : Addr) : Prop where
  C : OexC K CR
  X : XfC K CR
  g : mg "Refusal" = some (.ref CR)
  nc : PySem.W.findIn K (.ref CR) "code" = some none
  te : PySem.W.exmOne K (.ref CR) (.ref CR) = some true
  ve : mg "ValueError" = none
  vi : PySem.W.findCls K (.type "ValueError") (.type "type") "__init__" = some (.val (.builtin "ValueError.__init__"))
/-- its __init__, as the raise of it wants it -/
structure RefInit (P : Program) (w : World) (K : PySem.W.Frag) (mg : Str → Option Value) (base : Heap) (CR : Addr) : Prop where
  ex : ∃ (fI : Addr) (fd : FuncData), PySem.W.findIn K (.ref CR) "__init__" = some (some (.ref fI)) ∧ PySem.W.typeIn K (.ref fI) = some (.type "function") ∧ FnOk P w K mg base CX0 1 fI fd ["self", "code"] (spRef CR) ∧ Binds K fd ["self", "code"] []
/-- the reading of raise Refusal(NAME) -/
def tRefuse (CR : Addr) (E : XK) (c : Int) : TS := fun _ _ H => Bad CR E H c
theorem refuse_reads {CR : Addr} {E : XK} {c : Int} {σ : L2.St} {H : Hp} (h : Bad CR E H c) : tMkO CR (spRef CR) [] (tCons (tC (.int c)) tNil) σ H fun cls d H' => E cls d H' := by
  refine ⟨by show 1 ≤ 1000; decide, fun a ha => ⟨a, c, rfl, upd_same, fun dx hdx hne => ⟨rfl, dx, [(("code" : Str), .int c)], upd_same, ?_, ?_, ?_⟩⟩⟩
  · rw [upd_ne hne, upd_same]
  · rw [upd_ne hne] at hdx
    exact hdx
  · have hdx' : H dx = none := by
      rw [upd_ne hne] at hdx
      exact hdx
    refine h dx _ (fun b o q => ?_) upd_same
    have n1 := ne_of_none q hdx'
    have n2 := ne_of_none q ha
    rw [upd_ne n1, del_ne n2, upd_ne n2, upd_ne n1, upd_ne n2]
    exact q
theorem ps_refuse {X : Cx} {CR : Addr} {E : XK} {j : Nat} {y : Str} {c : Int} {p pos pos2 py : Pos} (R : Ref X.K X.mg CR) (I : RefInit X.prog X.w X.K X.mg X.base CR) (hc : X.calm = true) (tk : Takes X (fun cls d _ H => E cls d H)) (hr : Room j X.A) (hn : Named X.mg y (.int c)) (hj : 2 ≤ j := by decide) (hg : Gl X "Refusal" := by rfl)
    (hy : Gl X y := by rfl) (hdb : (y == ("__debug__" : Str)) = false := by decide) (he : starEach [(.Name y py : Expr)] X.env = (false, eval (.Name y py) X.env) :: starEach [] X.env := by rfl) (hpl : (backTo pos (starEach [] X.env)).any (·.1) = false := by rfl) :
    PS X (.Raise (some (.Call (.Name "Refusal" p) [.Name y py] [] pos)) none pos2) (tRefuse CR E c) := by
  obtain ⟨fI, fd, iC, tI, F, b⟩ := I.ex
  have h := ps_raise (pos := pos2) (W := fun cls d _ H => E cls d H) hc tk (pmk_oex (p := p) (pos := pos) R.C iC tI F (hr.mono hj) b .nil (fun _ _ _ _ _ _ _ z => z.elim) hg R.g (pa_cons (pe_named (pos := py) hn hy hdb) pa_nil he) (by decide) he hpl)
  exact ⟨fun pins s σ H D J q => h.run pins s σ H D J (refuse_reads q)⟩
end Cv
namespace Cv
open PySem PySem.Spec PyProof.Rows L2
open Km561 (Ship Timetable toInts)
/-! ### items by their places -/
theorem map_at {A B : Type} {f : A → B} {l : List A} {i : Nat} {y : B} (h : (l.map f)[i]? = some y) : ∃ z, l[i]? = some z ∧ y = f z := by
  rw [List.getElem?_map] at h
  cases e : l[i]? with
  | none =>
    rw [e] at h
    cases h
  | some z =>
    rw [e] at h
    exact ⟨z, rfl, (Option.some.inj h).symm⟩
theorem drop_at {A : Type} {l : List A} {i : Nat} {z : A} (h : l[i]? = some z) : l.drop i = z :: l.drop (i + 1) := by
  obtain ⟨hi, e⟩ := List.getElem?_eq_some_iff.mp h
  rw [← e]
  exact List.drop_eq_getElem_cons hi
theorem take_at {A : Type} {l : List A} {i : Nat} {z : A} (h : l[i]? = some z) : l.take (i + 1) = l.take i ++ [z] := by
  rw [List.take_add_one, h]
  rfl
/-- what stands behind the top: classes, constants, that built-ins are still the built-ins -/
structure Txt (K : PySem.W.Frag) (mg : Str → Option Value) (CI CR : Addr) : Prop where
  ref : Ref K mg CR
  cl : Cls K CI
  nS : NoAttr K CI "ships"
  nD : NoAttr K CI "departures"
  gI : mg "Instance" = some (.ref CI)
  lastHour : Named mg "LAST_HOUR" (.int 48)
  leastWeight : Named mg "LEAST_WEIGHT" (.int 1)
  greatestWeight : Named mg "GREATEST_WEIGHT" (.int 9)
  mostShips : Named mg "MOST_SHIPS" (.int 8)
  mostDeps : Named mg "MOST_DEPARTURES" (.int 8)
  noInstance : Named mg "NO_INSTANCE" (.int (-11))
  notThere : Named mg "NOT_THERE" (.int (-2))
  outOfRange : Named mg "OUT_OF_RANGE" (.int (-22))
  taken : Named mg "TAKEN" (.int (-17))
  full : Named mg "FULL" (.int (-28))
  notServed : Named mg "NOT_SERVED" (.int (-33))
  fewest : Named mg "FEWEST" (.int 1)
  most : Named mg "MOST" (.int 8)
  greatestPrice : Named mg "GREATEST_PRICE" (.int 999)
  create : Named mg "CREATE" (.int 0)
  len : mg "len" = none
  all : mg "all" = none
  sum : mg "sum" = none
  enumerate : mg "enumerate" = none
  sorted : mg "sorted" = none
  set : mg "set" = none
  min : mg "min" = none
  max : mg "max" = none
  range : mg "range" = none
  int : mg "int" = none

/-- a def of the text at its place, under its name -/
structure DefAt (K : PySem.W.Frag) (mg : Str → Option Value) (x : Str) (i : Nat) (ps : List Str) : Prop where
  ex : ∃ (f : Addr) (fd : FuncData), Fun K x x (top i) f fd ∧ mg x = some (.ref f) ∧ Binds K fd ps []
section
variable {P : Program} {w : World} {K : PySem.W.Frag} {mg : Str → Option Value} {base : Heap} {CI CR : Addr} {x : Str} {i k : Nat} {ps N : List Str} {sp : Sp}
theorem has_quiet (D : DefAt K mg x i ps) (S : FnScope N ps (defScope (top i))) (len : ∀ vs H Q E, sp vs H Q E → vs.length = ps.length)
    (hbody : ∀ (f : Addr) (cdv : Value) (A : Around) (outer : List Env) (s : Shared) (H : Hp) (vs : List V) (Q : VK) (E : XK), Room k (A.deeper (envOfC x (defScope (top i)) s.heap.objs.size f cdv)) → sp vs H Q E →
      ∃ t, PSs (cxOf CX0 P w K mg base N x (defScope (top i)) f cdv A outer s H E).nox (defBody (top i)) t ∧ t { nx := fun _ H' => Q .non H', rt := Q } (start N vs) H) : Has P w K mg base CX0 (k + 1) x sp := by
  obtain ⟨f, fd, F, g, b⟩ := D.ex
  exact ⟨f, fd, ps, F.ok S len (hbody f), g, F.kp, b⟩
theorem has_loud (D : DefAt K mg x i ps) (S : FnScope N ps (defScope (top i))) (len : ∀ vs H Q E, sp vs H Q E → vs.length = ps.length)
    (hbody : ∀ (f : Addr) (cdv : Value) (A : Around) (outer : List Env) (s : Shared) (H : Hp) (vs : List V) (Q : VK) (E : XK), Room k (A.deeper (envOfC x (defScope (top i)) s.heap.objs.size f cdv)) → sp vs H Q E →
      ∃ t, PSs (cxOf (L2.CX P w) P w K mg base N x (defScope (top i)) f cdv A outer s H E) (defBody (top i)) t ∧ t { nx := fun _ H' => Q .non H', rt := Q } (start N vs) H) : Has P w K mg base (L2.CX P w) (k + 1) x sp := by
  obtain ⟨f, fd, F, g, b⟩ := D.ex
  exact ⟨f, fd, ps, F.okX S len (hbody f), g, F.kp, b⟩
end
end Cv
namespace Cv
open PySem PySem.Spec PyProof.Rows L2
open Km561 (Ship Timetable toInts)
section
variable {P : Program} {w : World} {K : PySem.W.Frag} {mg : Str → Option Value} {base : Heap} {CI CR : Addr}
/-! ### check_hour, check_weight, check_ship -/
def spCheckHour (CR : Addr) : Sp := fun vs H Q E => ∃ h : Nat, vs = [nat h] ∧ (48 < h → Bad CR E H (-22)) ∧ (¬ 48 < h → Q .non H)
theorem has_check_hour (T : Txt K mg CI CR) (RI : RefInit P w K mg base CR) (D : DefAt K mg "check_hour" 15 ["hour"]) : Has P w K mg base (L2.CX P w) 3 "check_hour" (spCheckHour CR) := by
  refine has_loud (N := ["hour"]) D ⟨rfl, rfl, rfl, by decide +kernel, rfl, by decide +kernel, by decide +kernel⟩ (fun vs H Q E h => ?_) ?_
  · obtain ⟨h, rfl, _⟩ := h
    rfl
  · rintro f cdv A outer s H vs Q E hr ⟨h, rfl, hbad, hok⟩
    refine ⟨_, pss_one (ps_if (pt_cmpR op_gt (pv 0) (pe_named T.lastHour) (nomark _)) (pss_one (ps_refuse T.ref RI rfl (takes_of rfl rfl rfl rfl) hr T.outOfRange)) pss_nil), ?_⟩
    refine ⟨_, rfl, _, _, rfl, rfl, _, rfl, ?_⟩
    by_cases c : 48 < h
    · rw [decide_eq_true (by omega)]
      exact iteT (hbad c)
    · rw [decide_eq_false (by omega)]
      exact iteF (hok c)
/-! ### departure_from -/
def spDep (K : PySem.W.Frag) : Sp := fun vs H Q _ => ∃ (a : Addr) (ds : List Nat) (h : Nat), vs = [.ref a, nat h] ∧ NatsAt H a ds ∧ Q (optV (depFrom ds h)) H
theorem has_departure_from (T : Txt K mg CI CR) (D : DefAt K mg "departure_from" 28 ["departures", "hour"]) : Has P w K mg base CX0 1 "departure_from" (spDep K) := by
  have S : FnScope ["departures", "hour", "departure"] ["departures", "hour"] (defScope (top 28)) := ⟨rfl, rfl, rfl, by decide +kernel, rfl, by decide +kernel, by decide +kernel⟩
  refine has_quiet D S (fun vs H Q E h => ?_) ?_
  · obtain ⟨a, ds, h, rfl, _⟩ := h
    rfl
  · rintro f cdv A outer s H vs Q E hr ⟨a, ds, h, rfl, hd, hq⟩
    refine ⟨_, pss_cons (ps_for PassesOwn.never rfl (pi_list (pv 0)) (pg_name (i := 2) S.nd rfl (Or.inl rfl)) (pss_one (ps_if (pt_cmpR op_ge (pv 2) (pv 1) (nomark _)) (pss_one (ps_ret (pv 2))) pss_nil)))
      (pss_one (ps_ret pe_non)), ?_⟩
    refine ⟨_, rfl, a, rfl, ⟨_, SqL.of hd⟩, for_list (K := K) (a := a) (xs := ds.map nat) (fun i σ H' => (∃ v, σ = [some (.ref a), some (nat h), v]) ∧ H' = H ∧ depFrom ds h = depFrom (ds.drop i) h) ⟨⟨none, rfl⟩, rfl, rfl⟩ (fun i σ H' _ z => by rw [z.2.1]; exact SqL.of hd) ?_ ?_⟩
    · rintro i y σ H' hi ⟨⟨v, rfl⟩, rfl, e⟩
      obtain ⟨z, hz, rfl⟩ := map_at hi
      rw [drop_at hz, depFrom_cons] at e
      refine ⟨_, rfl, _, rfl, _, _, rfl, rfl, _, rfl, ?_⟩
      by_cases c : h ≤ z
      · rw [decide_eq_true (by omega)]
        rw [if_pos c] at e
        rw [e] at hq
        exact iteT ⟨_, rfl, hq⟩
      · rw [decide_eq_false (by omega)]
        rw [if_neg c] at e
        exact iteF ⟨⟨_, rfl⟩, rfl, e⟩
    · rintro σ H' ⟨⟨v, rfl⟩, rfl, e⟩
      rw [List.length_map, List.drop_length] at e
      rw [e] at hq
      exact hq
end
end Cv
/-! # The classes; the checks; lists of ships made from others -/
namespace Cv
open PySem PySem.Spec PyProof.Rows L2
open Km561 (Ship Timetable toInts)
/-! ### the instance in the heap -/
def instF (a b : Addr) : List (Str × V) := [(("ships" : Str), .ref a), (("departures" : Str), .ref b)]
theorem ne_name : ¬ (("ships" : Str) = "departures") := by decide +kernel
theorem lk_S (a b : Addr) : (instF a b).lookup ("ships" : Str) = some (.ref a) := by
  unfold instF
  rw [lookup_put, if_pos rfl]
theorem lk_D (a b : Addr) : (instF a b).lookup ("departures" : Str) = some (.ref b) := by
  unfold instF
  rw [lookup_put, if_neg (Ne.symm ne_name), lookup_put, if_pos rfl]
theorem lk_no {a b : Addr} {m : Str} (h1 : ¬ m = "ships") (h2 : ¬ m = "departures") : (instF a b).lookup m = none := by
  unfold instF
  rw [lookup_put, if_neg h1, lookup_put, if_neg h2]
  rfl
theorem put_S (a b x : Addr) : putF "ships" (.ref x) (instF a b) = instF x b := by
  unfold instF putF
  rw [if_pos rfl]
theorem put_D (a b x : Addr) : putF "departures" (.ref x) (instF a b) = instF a x := by
  unfold instF putF
  rw [if_neg ne_name]
  unfold putF
  rw [if_pos rfl]
theorem put_new (a b : Addr) : putF "departures" (.ref b) (putF "ships" (.ref a) []) = instF a b := by
  unfold instF putF putF
  show (if ("ships" : Str) = "departures" then _ else _) = _
  rw [if_neg ne_name]
/-- at i an instance with the timetable tt -/
def InstAt (CI : Addr) (H : Hp) (i : Addr) (tt : Timetable) : Prop := ∃ dx a b : Addr, H i = some (.ins CI dx (instF a b)) ∧ ShipsAt H a tt.ships ∧ NatsAt H b tt.departures
theorem ShipsAt.ne {CI dx i a : Addr} {fs : List (Str × V)} {H : Hp} {ships : List Ship} (hi : H i = some (.ins CI dx fs)) (h : ShipsAt H a ships) : a ≠ i := by
  obtain ⟨vs, h1, _⟩ := h
  exact ne_of h1 hi (by intro z; cases z)
theorem ShipsAt.but {CI dx i a : Addr} {fs : List (Str × V)} {H H' : Hp} {ships : List Ship} (hi : H i = some (.ins CI dx fs)) (e : But i H H') (h : ShipsAt H a ships) : ShipsAt H' a ships := by
  obtain ⟨vs, h1, h2⟩ := h
  refine ⟨vs, e _ _ h1 (ne_of h1 hi (by intro z; cases z)), paired_mono (fun v s z => ?_) h2⟩
  obtain ⟨t, e1, e2⟩ := z
  exact ⟨t, e1, e _ _ e2 (ne_of e2 hi (by intro z; cases z))⟩
theorem NatsAt.but {CI dx i a : Addr} {fs : List (Str × V)} {H H' : Hp} {ds : List Nat} (hi : H i = some (.ins CI dx fs)) (e : But i H H') (h : NatsAt H a ds) : NatsAt H' a ds :=
  e _ _ h (ne_of (show H a = some _ from h) hi (by intro z; cases z))
theorem InstAt.same {CI i : Addr} {H H' : Hp} {tt : Timetable} (e : Same H H') (h : InstAt CI H i tt) : InstAt CI H' i tt := by
  obtain ⟨dx, a, b, h1, h2, h3⟩ := h
  exact ⟨dx, a, b, e _ _ h1, h2.same e, h3.same e⟩
section
variable {P : Program} {w : World} {K : PySem.W.Frag} {mg : Str → Option Value} {base : Heap} {CI CR : Addr}
/-! ### Refusal.__init__ -/
theorem ref_init (R : Ref K mg CR) {fI : Addr} {fd : FuncData} (iC : PySem.W.findIn K (.ref CR) "__init__" = some (some (.ref fI))) (tI : PySem.W.typeIn K (.ref fI) = some (.type "function"))
    (F : Fun K "__init__" "Refusal.__init__" (inClass (top 7) 0) fI fd) (b : Binds K fd ["self", "code"] []) : RefInit P w K mg base CR := by
  refine ⟨fI, fd, iC, tI, ?_, b⟩
  have S : FnScope ["self", "code"] ["self", "code"] (defScope (inClass (top 7) 0)) := ⟨rfl, rfl, rfl, by decide +kernel, rfl, by decide +kernel, by decide +kernel⟩
  refine F.ok S (fun vs H Q E h => ?_) ?_
  · obtain ⟨a, c, rfl, _⟩ := h
    rfl
  · rintro cdv A outer s H vs Q E hr ⟨a, c, rfl, ha, hq⟩
    refine ⟨_, pss_cons (ps_expr (pe_veinit (by rfl) R.ve R.vi (pa_cons (pv 0) (pa_cons pe_str pa_nil)))) (pss_one (ps_ost (pv 0) (pv 1))), ?_⟩
    refine ⟨_, rfl, a, CR, _, rfl, by show 1 ≤ 1000; decide, R.C, ha, ?_⟩
    exact ⟨_, rfl, _, rfl, a, CR, rfl, R.C, R.nc, .inl ⟨ha, fun dx h1 h2 => hq dx h1 h2⟩⟩
/-! ### Instance -/
def spInst (CI : Addr) : Sp := fun vs H Q _ => ∃ i dx : Addr, vs = [.ref i] ∧ H i = some (.ins CI dx []) ∧
  ∀ (H' : Hp) (a b : Addr), But i H H' → H' i = some (.ins CI dx (instF a b)) → H' a = some (.lst []) → H' b = some (.lst []) → H a = none → H b = none → Q .non H'
theorem ok_inst (T : Txt K mg CI CR) {f : Addr} {fd : FuncData} (F : Fun K "__init__" "Instance.__init__" (inClass (top 14) 0) f fd) : FnOk P w K mg base CX0 1 f fd ["self"] (spInst CI) := by
  have S : FnScope ["self"] ["self"] (defScope (inClass (top 14) 0)) := ⟨rfl, rfl, rfl, by decide +kernel, rfl, by decide +kernel, by decide +kernel⟩
  refine F.ok S (fun vs H Q E h => ?_) ?_
  · obtain ⟨i, dx, rfl, _⟩ := h
    rfl
  · rintro cdv A outer s H vs Q E hr ⟨i, dx, rfl, hi, hq⟩
    refine ⟨_, pss_cons (ps_fld (pv 0) (pe_lst pa_nil) rfl) (pss_one (ps_fld (pv 0) (pe_lst pa_nil) rfl)), ?_⟩
    refine ⟨by show 0 ≤ sizeLine; decide, fun a ha => ?_⟩
    have ia : i ≠ a := ne_of_none hi ha
    refine ⟨_, rfl, i, CI, dx, [], rfl, by rw [upd_ne ia]; exact hi, T.cl, T.nS, by show 0 < 1000; decide, ?_⟩
    refine ⟨by show 0 ≤ sizeLine; decide, fun b hb => ?_⟩
    rw [upd_ne (fun z => by rw [z, upd_same] at hb; cases hb)] at hb
    have hab : a ≠ b := fun z => by rw [z, upd_same] at hb; cases hb
    have ib : i ≠ b := fun z => by rw [← z, upd_ne ia, hi] at hb; cases hb
    refine ⟨_, rfl, i, CI, dx, _, rfl, by rw [upd_ne ib, upd_same], T.cl, T.nD, by show 1 < 1000; decide, ?_⟩
    refine hq _ a b (fun c o q n => ?_) ?_ ?_ ?_ ha (by rw [← hb, upd_ne (Ne.symm hab)])
    · rw [upd_ne n, upd_ne (ne_of_none q (by rw [← hb, upd_ne (Ne.symm hab)])), upd_ne n, upd_ne (ne_of_none q ha)]
      exact q
    · rw [upd_same]
      exact congrArg some (congrArg (HO.ins CI dx) (put_new a b))
    · rw [upd_ne (Ne.symm ia), upd_ne hab, upd_ne (Ne.symm ia), upd_same]
    · rw [upd_ne (Ne.symm ib), upd_same]
def spPutS (CI : Addr) : Sp := fun vs H Q _ => ∃ i dx a b x : Addr, vs = [.ref i, .ref x] ∧ H i = some (.ins CI dx (instF a b)) ∧ Q .non (upd H i (.ins CI dx (instF x b)))
def spPutD (CI : Addr) : Sp := fun vs H Q _ => ∃ i dx a b x : Addr, vs = [.ref i, .ref x] ∧ H i = some (.ins CI dx (instF a b)) ∧ Q .non (upd H i (.ins CI dx (instF a x)))
theorem ok_putS (T : Txt K mg CI CR) {f : Addr} {fd : FuncData} (F : Fun K "put_ships" "Instance.put_ships" (inClass (top 14) 1) f fd) : FnOk P w K mg base CX0 1 f fd ["self", "ships"] (spPutS CI) := by
  have S : FnScope ["self", "ships"] ["self", "ships"] (defScope (inClass (top 14) 1)) := ⟨rfl, rfl, rfl, by decide +kernel, rfl, by decide +kernel, by decide +kernel⟩
  refine F.ok S (fun vs H Q E h => ?_) ?_
  · obtain ⟨i, dx, a, b, x, rfl, _⟩ := h
    rfl
  · rintro cdv A outer s H vs Q E hr ⟨i, dx, a, b, x, rfl, hi, hq⟩
    refine ⟨_, pss_one (ps_fld (pv 0) (pv 1) rfl), ?_⟩
    refine ⟨_, rfl, _, rfl, i, CI, dx, _, rfl, hi, T.cl, T.nS, by show 2 < 1000; decide, ?_⟩
    rw [put_S]
    exact hq
theorem ok_putD (T : Txt K mg CI CR) {f : Addr} {fd : FuncData} (F : Fun K "put_departures" "Instance.put_departures" (inClass (top 14) 2) f fd) : FnOk P w K mg base CX0 1 f fd ["self", "departures"] (spPutD CI) := by
  have S : FnScope ["self", "departures"] ["self", "departures"] (defScope (inClass (top 14) 2)) := ⟨rfl, rfl, rfl, by decide +kernel, rfl, by decide +kernel, by decide +kernel⟩
  refine F.ok S (fun vs H Q E h => ?_) ?_
  · obtain ⟨i, dx, a, b, x, rfl, _⟩ := h
    rfl
  · rintro cdv A outer s H vs Q E hr ⟨i, dx, a, b, x, rfl, hi, hq⟩
    refine ⟨_, pss_one (ps_fld (pv 0) (pv 1) rfl), ?_⟩
    refine ⟨_, rfl, _, rfl, i, CI, dx, _, rfl, hi, T.cl, T.nD, by show 2 < 1000; decide, ?_⟩
    rw [put_D]
    exact hq
/-! ### check_weight, check_ship -/
def spCheckWeight (CR : Addr) : Sp := fun vs H Q E => ∃ k : Nat, vs = [nat k] ∧ (¬ (1 ≤ k ∧ k ≤ 9) → Bad CR E H (-22)) ∧ ((1 ≤ k ∧ k ≤ 9) → Q .non H)
theorem has_check_weight (T : Txt K mg CI CR) (RI : RefInit P w K mg base CR) (D : DefAt K mg "check_weight" 16 ["weight"]) : Has P w K mg base (L2.CX P w) 3 "check_weight" (spCheckWeight CR) := by
  refine has_loud (N := ["weight"]) D ⟨rfl, rfl, rfl, by decide +kernel, rfl, by decide +kernel, by decide +kernel⟩ (fun vs H Q E h => ?_) ?_
  · obtain ⟨h, rfl, _⟩ := h
    rfl
  · rintro f cdv A outer s H vs Q E hr ⟨k, rfl, hbad, hok⟩
    refine ⟨_, pss_one (ps_if (pt_not (pt_chain op_le op_le (pe_named T.leastWeight) (pv 0) (pe_named T.greatestWeight))) (pss_one (ps_refuse T.ref RI rfl (takes_of rfl rfl rfl rfl) hr T.outOfRange)) pss_nil), ?_⟩
    refine ⟨_, rfl, _, _, rfl, rfl, _, rfl, ?_⟩
    by_cases c1 : 1 ≤ k
    · rw [decide_eq_true (by omega)]
      refine iteT ⟨_, _, rfl, rfl, _, rfl, ?_⟩
      by_cases c2 : k ≤ 9
      · rw [decide_eq_true (by omega)]
        exact iteF (hok ⟨c1, c2⟩)
      · rw [decide_eq_false (by omega)]
        exact iteT (hbad fun z => c2 z.2)
    · rw [decide_eq_false (by omega)]
      refine iteF ⟨_, rfl, ?_⟩
      exact iteT (hbad fun z => c1 z.1)
def spCheckShip (CI CR : Addr) : Sp := fun vs H Q E => ∃ (i : Addr) (n : Nat) (tt : Timetable), vs = [.ref i, nat n] ∧ InstAt CI H i tt ∧ (tt.ships.length ≤ n → Bad CR E H (-2)) ∧ (¬ tt.ships.length ≤ n → Q .non H)
theorem paired_length {A B : Type} {F : A → B → Prop} : ∀ {l : List A} {m : List B}, Paired F l m → l.length = m.length
  | _, _, .nil => rfl
  | _, _, .cons _ t => by rw [List.length_cons, List.length_cons, paired_length t]
theorem has_check_ship (T : Txt K mg CI CR) (RI : RefInit P w K mg base CR) (D : DefAt K mg "check_ship" 17 ["instance", "ship"]) : Has P w K mg base (L2.CX P w) 3 "check_ship" (spCheckShip CI CR) := by
  refine has_loud (N := ["instance", "ship"]) D ⟨rfl, rfl, rfl, by decide +kernel, rfl, by decide +kernel, by decide +kernel⟩ (fun vs H Q E h => ?_) ?_
  · obtain ⟨i, n, tt, rfl, _⟩ := h
    rfl
  · rintro f cdv A outer s H vs Q E hr ⟨i, n, tt, rfl, ⟨dx, a, b, hi, hS, hD⟩, hbad, hok⟩
    refine ⟨_, pss_one (ps_if (pt_cmpR op_ge (pv 1) (pe_callB call_len_seq (by rfl) T.len PySem.boot_len (pa_cons (pe_fld (pv 0) rfl) pa_nil)) (nomark _)) (pss_one (ps_refuse T.ref RI rfl (takes_of rfl rfl rfl rfl) hr T.notThere)) pss_nil), ?_⟩
    obtain ⟨vs, hvs, hp⟩ := hS
    have hlen := paired_length hp
    refine ⟨_, rfl, _, rfl, i, CI, dx, _, _, rfl, hi, T.cl, T.nS, lk_S a b, a, vs, rfl, .inl (SqL.of hvs), _, _, rfl, rfl, _, rfl, ?_⟩
    by_cases c : tt.ships.length ≤ n
    · rw [decide_eq_true (by omega)]
      exact iteT (hbad c)
    · rw [decide_eq_false (by omega)]
      exact iteF (hok c)
end
end Cv
/-! # Lists of ships made from others; the operations that change the instance -/
namespace Cv
open PySem PySem.Spec PyProof.Rows L2
open Km561 (Ship Timetable toInts)
/-! ### pairs of lists, slices -/
section
variable {A B : Type} {F : A → B → Prop}
theorem paired_app : ∀ {l l2 : List A} {m m2 : List B}, Paired F l m → Paired F l2 m2 → Paired F (l ++ l2) (m ++ m2)
  | _, _, _, _, .nil, h => h
  | _, _, _, _, .cons r t, h => .cons r (paired_app t h)
theorem paired_take : ∀ (n : Nat) {l : List A} {m : List B}, Paired F l m → Paired F (l.take n) (m.take n)
  | 0, _, _, _ => .nil
  | _ + 1, _, _, .nil => .nil
  | n + 1, _, _, .cons r t => .cons r (paired_take n t)
theorem paired_drop : ∀ (n : Nat) {l : List A} {m : List B}, Paired F l m → Paired F (l.drop n) (m.drop n)
  | 0, _, _, h => h
  | _ + 1, _, _, .nil => .nil
  | n + 1, _, _, .cons _ t => paired_drop n t
theorem paired_back : ∀ {l : List A} {m : List B}, Paired F l m → ∀ {i : Nat} {b : B}, m[i]? = some b → ∃ a, l[i]? = some a ∧ F a b
  | _, _, .nil, i, b, h => by simp at h
  | _, _, .cons q _, 0, b, h => by
    simp at h
    subst h
    exact ⟨_, rfl, q⟩
  | _, _, .cons _ t, i + 1, b, h => by
    obtain ⟨a, h1, h2⟩ := paired_back t (i := i) (b := b) (by simpa using h)
    exact ⟨a, by simpa using h1, h2⟩
end
theorem cut_to (xs : List V) (n : Nat) : cutV xs none (some (n : Int)) = xs.take n := by
  unfold cutV
  rw [HT.sIx_none, HT.sIx_nat, List.drop_zero, Nat.sub_zero]
  by_cases h : n ≤ xs.length
  · rw [Nat.min_eq_left h]
  · rw [Nat.min_eq_right (by omega), List.take_length, List.take_of_length_le (by omega)]
theorem cut_from (xs : List V) (n : Nat) : cutV xs (some (n : Int)) none = xs.drop n := by
  unfold cutV
  rw [HT.sIx_none, HT.sIx_nat]
  by_cases h : n ≤ xs.length
  · rw [Nat.min_eq_left h, List.take_of_length_le (by rw [List.length_drop]; omega)]
  · rw [Nat.min_eq_right (by omega), Nat.sub_self, List.take_zero, List.drop_eq_nil_of_le (by omega)]
theorem line8 {n : Nat} (h : n ≤ 1000) : n ≤ sizeLine := by
  rw [sizeLine_eq]
  omega

/-! ### what an operation promises -/
/-- x is one of the two lists of the instance at i -/
def ListOf (CI : Addr) (H : Hp) (i x : Addr) : Prop := ∃ dx a b : Addr, H i = some (.ins CI dx (instF a b)) ∧ (x = a ∨ x = b)
theorem ListOf.back {CI i x : Addr} {H H' : Hp} {o : HO} (s : H' i = some o) (h : H i = some o) (l : ListOf CI H' i x) : ListOf CI H i x := by
  obtain ⟨dx, a, b, e, r⟩ := l
  exact ⟨dx, a, b, by rw [h, ← s, e], r⟩
/-- the operation c, upon the instance at i with the timetable tt, ends as the specification's step says -/
def Goes (CI CR : Addr) (i : Addr) (H : Hp) (tt : Timetable) (c : Km561.Call) (Q : VK) (E : XK) : Prop :=
  (∀ (tt' : Timetable) (num : Int) (nums : List Int), Km561.step (some tt) c = (some tt', ⟨num, nums⟩) → ∀ (H' : Hp) (l : Addr), But i H H' → InstAt CI H' i tt' → (∀ x, ListOf CI H' i x → ListOf CI H i x ∨ H x = none) → H l = none → H' l = some (.lst ((num :: nums).map V.int)) → Q (.ref l) H') ∧
  (∀ code : Int, Km561.step (some tt) c = (some tt, Km561.error code) → Bad CR E H code)
/-- with no, one, two numbers -/
def spDeed0 (CI CR : Addr) (c : Km561.Call) : Sp := fun vs H Q E => ∃ (i p : Addr) (tt : Timetable), vs = [.ref i, .ref p] ∧ InstAt CI H i tt ∧ Valid tt ∧ Goes CI CR i H tt c Q E
def spDeed1 (CI CR : Addr) (c : Nat → Km561.Call) : Sp := fun vs H Q E => ∃ (i p : Addr) (x : Nat) (tt : Timetable), vs = [.ref i, .ref p] ∧ InstAt CI H i tt ∧ Valid tt ∧ H p = some (.lst [nat x]) ∧ Goes CI CR i H tt (c x) Q E
def spDeed2 (CI CR : Addr) (c : Nat → Nat → Km561.Call) : Sp := fun vs H Q E => ∃ (i p : Addr) (x y : Nat) (tt : Timetable), vs = [.ref i, .ref p] ∧ InstAt CI H i tt ∧ Valid tt ∧ H p = some (.lst [nat x, nat y]) ∧ Goes CI CR i H tt (c x y) Q E
/-- an end that leaves the instance as it was -/
theorem Goes.stay {CI CR i : Addr} {H : Hp} {tt : Timetable} {c : Km561.Call} {Q : VK} {E : XK} (g : Goes CI CR i H tt c Q E) (h : InstAt CI H i tt) {num : Int} {nums : List Int} (e : Km561.step (some tt) c = (some tt, ⟨num, nums⟩)) {H' : Hp} (s : Same H H') {l : Addr} (hn : H l = none) (hl : H' l = some (.lst ((num :: nums).map V.int))) : Q (.ref l) H' :=
by
  obtain ⟨dx, a, b, h1, h2, h3⟩ := id h
  exact g.1 tt num nums e H' l (But.of_same s) (h.same s) (fun x hx => .inl (hx.back (s _ _ h1) h1)) hn hl
theorem upd_free {i l : Addr} {H H1 : Hp} {o : HO} (s : Same H H1) (h : upd H1 i o l = none) : H l = none := by
  by_cases e : l = i
  · subst e
    rw [upd_same] at h
    cases h
  · rw [upd_ne e] at h
    exact Same.free s h
section
variable {P : Program} {w : World} {K : PySem.W.Frag} {mg : Str → Option Value} {base : Heap} {CI CR : Addr}
/-! ### ships_with, ships_without, ships_changed -/
def spWith (CI CR : Addr) : Sp := fun vs H Q E => ∃ (i : Addr) (x y : Nat) (tt : Timetable), vs = [.ref i, nat x, nat y] ∧ InstAt CI H i tt ∧ tt.ships.length ≤ 8 ∧
  (¬ fine x y → Bad CR E H (-22)) ∧ (fine x y → 8 ≤ tt.ships.length → Bad CR E H (-28)) ∧
  (fine x y → ¬ 8 ≤ tt.ships.length → ∀ (H' : Hp) (p : Addr), Same H H' → H p = none → ShipsAt H' p (tt.ships ++ [⟨x, y⟩]) → Q (.ref p) H')
theorem has_ships_with (T : Txt K mg CI CR) (RI : RefInit P w K mg base CR) (D : DefAt K mg "ships_with" 18 ["instance", "arrival", "weight"])
    (cH : Has P w K mg base (L2.CX P w) 3 "check_hour" (spCheckHour CR)) (cW : Has P w K mg base (L2.CX P w) 3 "check_weight" (spCheckWeight CR)) : Has P w K mg base (L2.CX P w) 4 "ships_with" (spWith CI CR) := by
  refine has_loud (N := ["instance", "arrival", "weight"]) D ⟨rfl, rfl, rfl, by decide +kernel, rfl, by decide +kernel, by decide +kernel⟩ (fun vs H Q E h => ?_) ?_
  · obtain ⟨i, x, y, tt, rfl, _⟩ := h
    rfl
  · rintro f cdv A outer s H vs Q E hr ⟨i, x, y, tt, rfl, ⟨dx, a, b, hi, hS, hD⟩, hlen, hbad, hfull, hok⟩
    refine ⟨_, pss_cons (ps_expr (pe_doX cH hr (takes_of rfl rfl rfl rfl) (pa_cons (pv 1) pa_nil)))
      (pss_cons (ps_expr (pe_doX cW hr (takes_of rfl rfl rfl rfl) (pa_cons (pv 2) pa_nil)))
      (pss_cons (ps_if (pt_cmpR op_eq (pe_callB call_len_seq (by rfl) T.len PySem.boot_len (pa_cons (pe_fld (pv 0) rfl) pa_nil)) (pe_named T.mostShips) (nomark _)) (pss_one (ps_refuse T.ref RI rfl (takes_of rfl rfl rfl rfl) hr T.full)) pss_nil)
      (pss_one (ps_ret (pe_op op_cat (pe_fld (pv 0) rfl) (pe_lst (pa_cons (pe_tup (pa_cons (pv 1) (pa_cons (pv 2) pa_nil))) pa_nil))))))), ?_⟩
    obtain ⟨vs, hvs, hp⟩ := hS
    have hl := paired_length hp
    refine ⟨_, rfl, x, rfl, fun c => hbad (fun z => by have := z.1; omega), fun c1 => ?_⟩
    refine ⟨_, rfl, y, rfl, fun c => hbad (fun z => c z.2), fun c2 => ?_⟩
    have ok : fine x y := ⟨by omega, c2⟩
    refine ⟨_, rfl, i, CI, dx, _, _, rfl, hi, T.cl, T.nS, lk_S a b, a, vs, rfl, .inl (SqL.of hvs), rfl, _, rfl, ?_⟩
    by_cases c : 8 ≤ tt.ships.length
    · rw [decide_eq_true (by rw [hl]; exact congrArg V.int (by omega))]
      exact iteT (hfull ok c)
    · rw [decide_eq_false (by intro z; have z' := V.int.inj z; omega)]
      refine iteF ?_
      refine ⟨_, rfl, i, CI, dx, _, _, rfl, hi, T.cl, T.nS, lk_S a b, ?_⟩
      refine ⟨_, rfl, _, rfl, by show 2 ≤ sizeLine; decide, fun t ht => ⟨by show 1 ≤ sizeLine; decide, fun l hl2 => ?_⟩⟩
      have s1 : Same H (upd H t (.tup [nat x, nat y])) := same_new ht
      have s2 := snew s1 (o := .lst [.ref t]) hl2
      refine ⟨a, l, vs, [.ref t], rfl, rfl, s2 _ _ hvs, upd_same, line8 (by show vs.length + 1 ≤ 1000; omega), fun p hp2 => ?_⟩
      have s3 := snew s2 (o := .lst (vs ++ [.ref t])) hp2
      refine hok ok c _ p s3 (Same.free s2 hp2) ⟨_, upd_same, paired_app (paired_mono (fun _ _ z => z.same s3) hp) (.cons ⟨t, rfl, ?_⟩ .nil)⟩
      exact same_new hp2 _ _ (same_new hl2 _ _ upd_same)
def spWithout (CI CR : Addr) : Sp := fun vs H Q E => ∃ (i : Addr) (n : Nat) (tt : Timetable), vs = [.ref i, nat n] ∧ InstAt CI H i tt ∧ tt.ships.length ≤ 8 ∧
  (tt.ships.length ≤ n → Bad CR E H (-2)) ∧ (¬ tt.ships.length ≤ n → ∀ (H' : Hp) (p : Addr), Same H H' → H p = none → ShipsAt H' p (tt.ships.eraseIdx n) → Q (.ref p) H')
theorem has_ships_without (T : Txt K mg CI CR) (D : DefAt K mg "ships_without" 19 ["instance", "ship"])
    (cS : Has P w K mg base (L2.CX P w) 3 "check_ship" (spCheckShip CI CR)) : Has P w K mg base (L2.CX P w) 4 "ships_without" (spWithout CI CR) := by
  refine has_loud (N := ["instance", "ship"]) D ⟨rfl, rfl, rfl, by decide +kernel, rfl, by decide +kernel, by decide +kernel⟩ (fun vs H Q E h => ?_) ?_
  · obtain ⟨i, n, tt, rfl, _⟩ := h
    rfl
  · rintro f cdv A outer s H vs Q E hr ⟨i, n, tt, rfl, hI, hlen, hbad, hok⟩
    refine ⟨_, pss_cons (ps_expr (pe_doX cS hr (takes_of rfl rfl rfl rfl) (pa_cons (pv 0) (pa_cons (pv 1) pa_nil))))
      (pss_one (ps_ret (pe_op op_cat (pe_slice sl_list (pe_fld (pv 0) rfl) po_none (po_some (pv 1))) (pe_slice sl_list (pe_fld (pv 0) rfl) (po_some (pe_op op_add (pv 1) pe_int)) po_none)))), ?_⟩
    refine ⟨_, rfl, _, rfl, i, n, tt, rfl, hI, hbad, fun c => ?_⟩
    obtain ⟨dx, a, b, hi, ⟨vs, hvs, hp⟩, hD⟩ := hI
    have hl := paired_length hp
    refine ⟨_, rfl, i, CI, dx, _, _, rfl, hi, T.cl, T.nS, lk_S a b, _, rfl, _, rfl, a, vs, rfl, SqL.of hvs, fun p1 hp1 => ?_⟩
    have s1 : Same H _ := same_new (o := .lst (cutV vs none (some (n : Int)))) hp1
    refine ⟨_, rfl, i, CI, dx, _, _, rfl, s1 _ _ hi, T.cl, T.nS, lk_S a b, _, rfl, _, _, rfl, rfl, _, rfl, a, vs, rfl, SqL.of (s1 _ _ hvs), fun p2 hp2 => ?_⟩
    have s2 := snew s1 (o := .lst (cutV vs (some ((n : Int) + 1)) none)) hp2
    refine ⟨p1, p2, _, _, rfl, rfl, same_new hp2 _ _ upd_same, upd_same, ?_, fun p3 hp3 => ?_⟩
    · rw [cut_to, show ((n : Int) + 1) = ((n + 1 : Nat) : Int) by omega, cut_from, List.length_take, List.length_drop]
      exact line8 (by omega)
    · rw [cut_to, show ((n : Int) + 1) = ((n + 1 : Nat) : Int) by omega, cut_from] at *
      refine hok c _ p3 (snew s2 hp3) (Same.free s2 hp3) ⟨_, upd_same, ?_⟩
      rw [List.eraseIdx_eq_take_drop_succ]
      exact paired_mono (fun _ _ z => z.same (snew s2 hp3)) (paired_app (paired_take n hp) (paired_drop (n + 1) hp))
def spChanged (CI : Addr) : Sp := fun vs H Q _ => ∃ (i : Addr) (n x y : Nat) (tt : Timetable), vs = [.ref i, nat n, nat x, nat y] ∧ InstAt CI H i tt ∧ tt.ships.length ≤ 8 ∧ n < tt.ships.length ∧
  ∀ (H' : Hp) (p : Addr), Same H H' → H p = none → ShipsAt H' p (tt.ships.set n ⟨x, y⟩) → Q (.ref p) H'
theorem has_ships_changed (T : Txt K mg CI CR) (D : DefAt K mg "ships_changed" 20 ["instance", "ship", "arrival", "weight"]) : Has P w K mg base CX0 1 "ships_changed" (spChanged CI) := by
  refine has_quiet (N := ["instance", "ship", "arrival", "weight"]) D ⟨rfl, rfl, rfl, by decide +kernel, rfl, by decide +kernel, by decide +kernel⟩ (fun vs H Q E h => ?_) ?_
  · obtain ⟨i, n, x, y, tt, rfl, _⟩ := h
    rfl
  · rintro f cdv A outer s H vs Q E hr ⟨i, n, x, y, tt, rfl, ⟨dx, a, b, hi, ⟨vs, hvs, hp⟩, hD⟩, hlen, hn, hok⟩
    refine ⟨_, pss_one (ps_ret (pe_op op_cat (pe_op op_cat (pe_slice sl_list (pe_fld (pv 0) rfl) po_none (po_some (pv 1))) (pe_lst (pa_cons (pe_tup (pa_cons (pv 2) (pa_cons (pv 3) pa_nil))) pa_nil)))
      (pe_slice sl_list (pe_fld (pv 0) rfl) (po_some (pe_op op_add (pv 1) pe_int)) po_none))), ?_⟩
    have hl := paired_length hp
    refine ⟨_, rfl, i, CI, dx, _, _, rfl, hi, T.cl, T.nS, lk_S a b, _, rfl, _, rfl, a, vs, rfl, SqL.of hvs, fun p1 hp1 => ?_⟩
    have s1 : Same H _ := same_new (o := .lst (cutV vs none (some (n : Int)))) hp1
    refine ⟨_, rfl, _, rfl, by show 2 ≤ sizeLine; decide, fun t ht => ⟨by show 1 ≤ sizeLine; decide, fun l hl2 => ?_⟩⟩
    have s2 := snew s1 (o := .tup [nat x, nat y]) ht
    have s3 := snew s2 (o := .lst [.ref t]) hl2
    refine ⟨p1, l, _, _, rfl, rfl, same_new hl2 _ _ (same_new ht _ _ upd_same), upd_same, ?_, fun p2 hp2 => ?_⟩
    · rw [cut_to, List.length_take]
      exact line8 (by show min n vs.length + 1 ≤ 1000; omega)
    have s4 := snew s3 (o := .lst (cutV vs none (some (n : Int)) ++ [.ref t])) hp2
    refine ⟨_, rfl, i, CI, dx, _, _, rfl, s4 _ _ hi, T.cl, T.nS, lk_S a b, _, rfl, _, _, rfl, rfl, _, rfl, a, vs, rfl, SqL.of (s4 _ _ hvs), fun p3 hp3 => ?_⟩
    have s5 := snew s4 (o := .lst (cutV vs (some ((n : Int) + 1)) none)) hp3
    refine ⟨p2, p3, _, _, rfl, rfl, same_new hp3 _ _ upd_same, upd_same, ?_, fun p4 hp4 => ?_⟩
    · rw [cut_to, show ((n : Int) + 1) = ((n + 1 : Nat) : Int) by omega, cut_from, List.length_append, List.length_take, List.length_drop]
      exact line8 (by show min n vs.length + 1 + _ ≤ 1000; omega)
    · rw [cut_to, show ((n : Int) + 1) = ((n + 1 : Nat) : Int) by omega, cut_from] at *
      have s6 := snew s5 (o := .lst (vs.take n ++ [.ref t] ++ vs.drop (n + 1))) hp4
      refine hok _ p4 s6 (Same.free s5 hp4) ⟨_, upd_same, ?_⟩
      rw [List.set_eq_take_append_cons_drop, if_pos hn]
      have ht2 : ShipAt (upd (upd (upd (upd (upd (upd H p1 (.lst (vs.take n))) t (.tup [nat x, nat y])) l (.lst [.ref t])) p2 (.lst (vs.take n ++ [.ref t]))) p3 (.lst (vs.drop (n + 1)))) p4 (.lst (vs.take n ++ [.ref t] ++ vs.drop (n + 1)))) (.ref t) ⟨x, y⟩ :=
        ⟨t, rfl, same_new hp4 _ _ (same_new hp3 _ _ (same_new hp2 _ _ (same_new hl2 _ _ upd_same)))⟩
      have := paired_app (paired_app (paired_take n (paired_mono (fun _ _ z => z.same s6) hp)) (.cons ht2 .nil)) (paired_drop (n + 1) (paired_mono (fun _ _ z => ShipAt.same s6 z) hp))
      simp only [List.append_assoc, List.cons_append, List.nil_append] at this ⊢
      exact this
end
end Cv
/-! # add_ship, remove_ship, set_arrival, set_weight, add_departure, cancel_departure -/
namespace Cv
open PySem PySem.Spec PyProof.Rows L2
open Km561 (Ship Timetable toInts)
theorem but_upd {i : Addr} {H H1 : Hp} {o : HO} (s : Same H H1) : But i H (upd H1 i o) := fun b u q n => by
  rw [upd_ne n]
  exact s b u q
theorem But.new {i p : Addr} {H H1 : Hp} {o : HO} (e : But i H H1) (hp : H1 p = none) : But i H (upd H1 p o) := e.trans (But.of_same (same_new hp))
theorem inst_putS {CI i dx a b p : Addr} {H H1 : Hp} {ships : List Ship} {ds : List Nat} (hi : H i = some (.ins CI dx (instF a b))) (s : Same H H1) (hS : ShipsAt H1 p ships) (hD : NatsAt H b ds) :
    InstAt CI (upd H1 i (.ins CI dx (instF p b))) i ⟨ships, ds⟩ ∧ ShipsAt (upd H1 i (.ins CI dx (instF p b))) p ships := by
  have b1 : But i H1 (upd H1 i (.ins CI dx (instF p b))) := but_upd (Same.refl _)
  have h1 : ShipsAt (upd H1 i (.ins CI dx (instF p b))) p ships := hS.but (s _ _ hi) b1
  exact ⟨⟨dx, p, b, upd_same, h1, (hD.same s).but (s _ _ hi) b1⟩, h1⟩
theorem inst_putD {CI i dx a b p : Addr} {H H1 : Hp} {ships : List Ship} {ds : List Nat} (hi : H i = some (.ins CI dx (instF a b))) (s : Same H H1) (hS : ShipsAt H a ships) (hD : NatsAt H1 p ds) :
    InstAt CI (upd H1 i (.ins CI dx (instF a p))) i ⟨ships, ds⟩ ∧ NatsAt (upd H1 i (.ins CI dx (instF a p))) p ds := by
  have b1 : But i H1 (upd H1 i (.ins CI dx (instF a p))) := but_upd (Same.refl _)
  have h1 : NatsAt (upd H1 i (.ins CI dx (instF a p))) p ds := hD.but (s _ _ hi) b1
  exact ⟨⟨dx, a, p, upd_same, (hS.same s).but (s _ _ hi) b1, h1⟩, h1⟩
theorem one_int {a b : Int} (h : a = b) : ([V.int a] : List V) = ([b] : List Int).map V.int := by
  rw [h]
  rfl
/-- the lists behind a change of the ships, of the departures -/
theorem lists_S {CI i dx a b q : Addr} {H H1 : Hp} (hi : H i = some (.ins CI dx (instF a b))) (hq : H q = none) {H2 : Hp} (e : H2 i = some (.ins CI dx (instF q b))) : ∀ x, ListOf CI H2 i x → ListOf CI H i x ∨ H x = none := fun x l => by
  obtain ⟨dx', a', b', e', r⟩ := l
  rw [e] at e'
  have e2 := Option.some.inj e'
  injection e2 with _ _ e3
  unfold instF at e3
  injection e3 with e4 e5
  injection e5 with e6 _
  injection e4 with _ e7
  injection e6 with _ e8
  injection e7 with e7
  injection e8 with e8
  rcases r with r | r
  · right
    rw [r, ← e7]
    exact hq
  · left
    exact ⟨dx, a, b, hi, .inr (by rw [r, e8])⟩
theorem lists_D {CI i dx a b q : Addr} {H H1 : Hp} (hi : H i = some (.ins CI dx (instF a b))) (hq : H q = none) {H2 : Hp} (e : H2 i = some (.ins CI dx (instF a q))) : ∀ x, ListOf CI H2 i x → ListOf CI H i x ∨ H x = none := fun x l => by
  obtain ⟨dx', a', b', e', r⟩ := l
  rw [e] at e'
  have e2 := Option.some.inj e'
  injection e2 with _ _ e3
  unfold instF at e3
  injection e3 with e4 e5
  injection e5 with e6 _
  injection e4 with _ e7
  injection e6 with _ e8
  injection e7 with e7
  injection e8 with e8
  rcases r with r | r
  · left
    exact ⟨dx, a, b, hi, .inl (by rw [r, e7])⟩
  · right
    rw [r, ← e8]
    exact hq
section
variable {P : Program} {w : World} {K : PySem.W.Frag} {mg : Str → Option Value} {base : Heap} {CI CR : Addr}
abbrev MetS (P : Program) (w : World) (K : PySem.W.Frag) (mg : Str → Option Value) (base : Heap) (CI : Addr) : Prop := C8.Met P w K mg base 1 CI "put_ships" (spPutS CI) []
abbrev MetD (P : Program) (w : World) (K : PySem.W.Frag) (mg : Str → Option Value) (base : Heap) (CI : Addr) : Prop := C8.Met P w K mg base 1 CI "put_departures" (spPutD CI) []
theorem no_putS {a b : Addr} : (instF a b).lookup ("put_ships" : Str) = none := lk_no (by decide +kernel) (by decide +kernel)
theorem no_putD {a b : Addr} : (instF a b).lookup ("put_departures" : Str) = none := lk_no (by decide +kernel) (by decide +kernel)
theorem has_add_ship (T : Txt K mg CI CR) (D : DefAt K mg "add_ship" 21 ["instance", "numbers"]) (mS : MetS P w K mg base CI)
    (cWith : Has P w K mg base (L2.CX P w) 4 "ships_with" (spWith CI CR)) : Has P w K mg base (L2.CX P w) 7 "add_ship" (spDeed2 CI CR Km561.Call.addShip) := by
  refine has_loud (N := ["instance", "numbers"]) D ⟨rfl, rfl, rfl, by decide +kernel, rfl, by decide +kernel, by decide +kernel⟩ (fun vs H Q E h => ?_) ?_
  · obtain ⟨i, p, x, y, tt, rfl, _⟩ := h
    rfl
  · rintro f cdv A outer s H vs Q E hr ⟨i, p, x, y, tt, rfl, hI, hV, hp, hgo⟩
    refine ⟨_, pss_cons (ps_expr (C8.pe_mt mS hr (by decide) (pv 0) (pa_cons (pe_doX cWith hr (takes_of rfl rfl rfl rfl) (pa_cons (pv 0) (pa_cons (pe_ix ix_list (pv 1) pe_int (fun _ _ => rfl)) (pa_cons (pe_ix ix_list (pv 1) pe_int (fun _ _ => rfl)) pa_nil)))) pa_nil)))
      (pss_one (ps_ret (pe_lst (pa_cons (pe_op op_sub (pe_callB call_len_seq (by rfl) T.len PySem.boot_len (pa_cons (pe_fld (pv 0) rfl) pa_nil)) pe_int) pa_nil)))), ?_⟩
    have hI0 := hI
    obtain ⟨dx, a, b, hi, hS, hD⟩ := hI
    refine ⟨_, rfl, i, dx, _, rfl, hi, no_putS, _, rfl, _, rfl, p, _, _, _, rfl, rfl, SqL.of hp, at_of (j := 0) rfl rfl, _, rfl, p, _, _, _, rfl, rfl, SqL.of hp, at_of (j := 1) rfl rfl, ?_⟩
    refine ⟨i, x, y, tt, rfl, hI0, hV.few, fun c => hgo.2 _ (st_add_bad c), fun c c8 => hgo.2 _ (st_add_full c c8), fun c c8 H1 q s1 hqn hq => ?_⟩
    obtain ⟨hI2, hS2⟩ := inst_putS hi s1 hq hD
    refine ⟨i, dx, a, b, q, rfl, s1 _ _ hi, ?_⟩
    obtain ⟨ws, hws, hp2⟩ := hS2
    refine ⟨_, rfl, i, CI, dx, _, _, rfl, upd_same, T.cl, T.nS, lk_S q b, q, ws, rfl, .inl (SqL.of hws), _, _, rfl, rfl, by show 1 ≤ sizeLine; decide, fun l hl => ?_⟩
    refine hgo.1 _ _ _ (st_add c c8) _ l ((but_upd s1).new hl) (hI2.same (same_new hl)) (lists_S (H1 := H1) hi hqn (same_new hl _ _ upd_same)) (upd_free s1 hl) ?_
    rw [upd_same]
    refine congrArg (fun z => some (HO.lst z)) (one_int ?_)
    have hl2 := paired_length hp2
    rw [List.length_append] at hl2
    show (ws.length : Int) - 1 = (tt.ships.length : Nat)
    rw [hl2]
    show ((tt.ships.length + 1 : Nat) : Int) - 1 = _
    omega
theorem has_remove_ship (T : Txt K mg CI CR) (D : DefAt K mg "remove_ship" 22 ["instance", "numbers"]) (mS : MetS P w K mg base CI)
    (cW : Has P w K mg base (L2.CX P w) 4 "ships_without" (spWithout CI CR)) : Has P w K mg base (L2.CX P w) 7 "remove_ship" (spDeed1 CI CR Km561.Call.removeShip) := by
  refine has_loud (N := ["instance", "numbers"]) D ⟨rfl, rfl, rfl, by decide +kernel, rfl, by decide +kernel, by decide +kernel⟩ (fun vs H Q E h => ?_) ?_
  · obtain ⟨i, p, x, tt, rfl, _⟩ := h
    rfl
  · rintro f cdv A outer s H vs Q E hr ⟨i, p, x, tt, rfl, hI, hV, hp, hgo⟩
    refine ⟨_, pss_cons (ps_expr (C8.pe_mt mS hr (by decide) (pv 0) (pa_cons (pe_doX cW hr (takes_of rfl rfl rfl rfl) (pa_cons (pv 0) (pa_cons (pe_ix ix_list (pv 1) pe_int (fun _ _ => rfl)) pa_nil))) pa_nil)))
      (pss_one (ps_ret (pe_lst (pa_cons (pe_callB call_len_seq (by rfl) T.len PySem.boot_len (pa_cons (pe_fld (pv 0) rfl) pa_nil)) pa_nil)))), ?_⟩
    have hI0 := hI
    obtain ⟨dx, a, b, hi, hS, hD⟩ := hI
    refine ⟨_, rfl, i, dx, _, rfl, hi, no_putS, _, rfl, _, rfl, p, _, _, _, rfl, rfl, SqL.of hp, at_of (j := 0) rfl rfl, ?_⟩
    refine ⟨i, x, tt, rfl, hI0, hV.few, fun c => hgo.2 _ (st_rem_bad c), fun c H1 q s1 hqn hq => ?_⟩
    obtain ⟨hI2, hS2⟩ := inst_putS hi s1 hq hD
    refine ⟨i, dx, a, b, q, rfl, s1 _ _ hi, ?_⟩
    obtain ⟨ws, hws, hp2⟩ := hS2
    refine ⟨_, rfl, i, CI, dx, _, _, rfl, upd_same, T.cl, T.nS, lk_S q b, q, ws, rfl, .inl (SqL.of hws), by show 1 ≤ sizeLine; decide, fun l hl => ?_⟩
    refine hgo.1 _ _ _ (st_rem c) _ l ((but_upd s1).new hl) (hI2.same (same_new hl)) (lists_S (H1 := H1) hi hqn (same_new hl _ _ upd_same)) (upd_free s1 hl) ?_
    rw [upd_same]
    refine congrArg (fun z => some (HO.lst z)) (one_int ?_)
    rw [paired_length hp2, List.length_eraseIdx, if_pos (by omega)]
theorem has_set_arrival (T : Txt K mg CI CR) (D : DefAt K mg "set_arrival" 23 ["instance", "numbers"]) (mS : MetS P w K mg base CI)
    (cS : Has P w K mg base (L2.CX P w) 3 "check_ship" (spCheckShip CI CR)) (cH : Has P w K mg base (L2.CX P w) 3 "check_hour" (spCheckHour CR)) (cC : Has P w K mg base CX0 1 "ships_changed" (spChanged CI)) :
    Has P w K mg base (L2.CX P w) 7 "set_arrival" (spDeed2 CI CR Km561.Call.setArrival) := by
  have S : FnScope ["instance", "numbers", "arrival", "weight"] ["instance", "numbers"] (defScope (top 23)) := ⟨rfl, rfl, rfl, by decide +kernel, rfl, by decide +kernel, by decide +kernel⟩
  refine has_loud D S (fun vs H Q E h => ?_) ?_
  · obtain ⟨i, p, x, y, tt, rfl, _⟩ := h
    rfl
  · rintro f cdv A outer s H vs Q E hr ⟨i, p, x, y, tt, rfl, hI, hV, hp, hgo⟩
    refine ⟨_, pss_cons (ps_expr (pe_doX cS hr (takes_of rfl rfl rfl rfl) (pa_cons (pv 0) (pa_cons (pe_ix ix_list (pv 1) pe_int (fun _ _ => rfl)) pa_nil))))
      (pss_cons (ps_expr (pe_doX cH hr (takes_of rfl rfl rfl rfl) (pa_cons (pe_ix ix_list (pv 1) pe_int (fun _ _ => rfl)) pa_nil)))
      (pss_cons (ps_asg (pe_ix ix_list (pe_fld (pv 0) rfl) (pe_ix ix_list (pv 1) pe_int (fun _ _ => rfl)) (fun _ _ => rfl)) (pg_tup (by rfl) (pgs_cons (pg_name (i := 2) S.nd rfl (.inl rfl)) (pgs_cons (pg_name (i := 3) S.nd rfl (.inl rfl)) pgs_nil))))
      (pss_cons (ps_expr (C8.pe_mt mS hr (by decide) (pv 0) (pa_cons (pe_do cC hr (pa_cons (pv 0) (pa_cons (pe_ix ix_list (pv 1) pe_int (fun _ _ => rfl)) (pa_cons (pe_ix ix_list (pv 1) pe_int (fun _ _ => rfl)) (pa_cons (pv 3) pa_nil))))) pa_nil)))
      (pss_one (ps_ret (pe_lst (pa_cons (pv 2) pa_nil))))))), ?_⟩
    have hI0 := hI
    obtain ⟨dx, a, b, hi, hS, hD⟩ := hI
    refine ⟨_, rfl, _, rfl, p, _, _, _, rfl, rfl, SqL.of hp, at_of (j := 0) rfl rfl, i, x, tt, rfl, hI0, fun c => hgo.2 _ (st_arr_bad c), fun c => ?_⟩
    refine ⟨_, rfl, p, _, _, _, rfl, rfl, SqL.of hp, at_of (j := 1) rfl rfl, y, rfl, fun c2 => hgo.2 _ (st_arr_late c c2), fun c2 => ?_⟩
    obtain ⟨vs, hvs, hp2⟩ := hS
    obtain ⟨s, hs⟩ : ∃ s, tt.ships[x]? = some s := ⟨_, List.getElem?_eq_getElem (by omega)⟩
    obtain ⟨v, hv, t, rfl, ht⟩ := paired_back hp2 hs
    refine ⟨_, rfl, i, CI, dx, _, _, rfl, hi, T.cl, T.nS, lk_S a b, _, rfl, p, _, _, _, rfl, rfl, SqL.of hp, at_of (j := 0) rfl rfl, a, vs, _, _, rfl, rfl, SqL.of hvs, at_of rfl hv, t, _, rfl, SqT.of ht, rfl, _, _, rfl, _, _, rfl, rfl, ?_⟩
    refine ⟨_, rfl, i, dx, _, rfl, hi, no_putS, _, rfl, _, rfl, p, _, _, _, rfl, rfl, SqL.of hp, at_of (j := 0) rfl rfl, _, rfl, p, _, _, _, rfl, rfl, SqL.of hp, at_of (j := 1) rfl rfl, _, rfl, ?_⟩
    refine ⟨i, x, y, s.weight, tt, rfl, hI0, hV.few, by omega, fun H1 q s1 hqn hq => ?_⟩
    obtain ⟨hI2, hS2⟩ := inst_putS hi s1 hq hD
    refine ⟨i, dx, a, b, q, rfl, s1 _ _ hi, ?_⟩
    refine ⟨_, rfl, by show 1 ≤ sizeLine; decide, fun l hl => ?_⟩
    exact hgo.1 _ _ _ (st_arr c c2 hs) _ l ((but_upd s1).new hl) (hI2.same (same_new hl)) (lists_S (H1 := H1) hi hqn (same_new hl _ _ upd_same)) (upd_free s1 hl) upd_same
theorem has_set_weight (T : Txt K mg CI CR) (D : DefAt K mg "set_weight" 24 ["instance", "numbers"]) (mS : MetS P w K mg base CI)
    (cS : Has P w K mg base (L2.CX P w) 3 "check_ship" (spCheckShip CI CR)) (cW : Has P w K mg base (L2.CX P w) 3 "check_weight" (spCheckWeight CR)) (cC : Has P w K mg base CX0 1 "ships_changed" (spChanged CI)) :
    Has P w K mg base (L2.CX P w) 7 "set_weight" (spDeed2 CI CR Km561.Call.setWeight) := by
  have S : FnScope ["instance", "numbers", "arrival", "weight"] ["instance", "numbers"] (defScope (top 24)) := ⟨rfl, rfl, rfl, by decide +kernel, rfl, by decide +kernel, by decide +kernel⟩
  refine has_loud D S (fun vs H Q E h => ?_) ?_
  · obtain ⟨i, p, x, y, tt, rfl, _⟩ := h
    rfl
  · rintro f cdv A outer s H vs Q E hr ⟨i, p, x, y, tt, rfl, hI, hV, hp, hgo⟩
    refine ⟨_, pss_cons (ps_expr (pe_doX cS hr (takes_of rfl rfl rfl rfl) (pa_cons (pv 0) (pa_cons (pe_ix ix_list (pv 1) pe_int (fun _ _ => rfl)) pa_nil))))
      (pss_cons (ps_expr (pe_doX cW hr (takes_of rfl rfl rfl rfl) (pa_cons (pe_ix ix_list (pv 1) pe_int (fun _ _ => rfl)) pa_nil)))
      (pss_cons (ps_asg (pe_ix ix_list (pe_fld (pv 0) rfl) (pe_ix ix_list (pv 1) pe_int (fun _ _ => rfl)) (fun _ _ => rfl)) (pg_tup (by rfl) (pgs_cons (pg_name (i := 2) S.nd rfl (.inl rfl)) (pgs_cons (pg_name (i := 3) S.nd rfl (.inl rfl)) pgs_nil))))
      (pss_cons (ps_expr (C8.pe_mt mS hr (by decide) (pv 0) (pa_cons (pe_do cC hr (pa_cons (pv 0) (pa_cons (pe_ix ix_list (pv 1) pe_int (fun _ _ => rfl)) (pa_cons (pv 2) (pa_cons (pe_ix ix_list (pv 1) pe_int (fun _ _ => rfl)) pa_nil))))) pa_nil)))
      (pss_one (ps_ret (pe_lst (pa_cons (pv 3) pa_nil))))))), ?_⟩
    have hI0 := hI
    obtain ⟨dx, a, b, hi, hS, hD⟩ := hI
    refine ⟨_, rfl, _, rfl, p, _, _, _, rfl, rfl, SqL.of hp, at_of (j := 0) rfl rfl, i, x, tt, rfl, hI0, fun c => hgo.2 _ (st_wgt_bad c), fun c => ?_⟩
    refine ⟨_, rfl, p, _, _, _, rfl, rfl, SqL.of hp, at_of (j := 1) rfl rfl, y, rfl, fun c2 => hgo.2 _ (st_wgt_off c c2), fun c2 => ?_⟩
    obtain ⟨vs, hvs, hp2⟩ := hS
    obtain ⟨s, hs⟩ : ∃ s, tt.ships[x]? = some s := ⟨_, List.getElem?_eq_getElem (by omega)⟩
    obtain ⟨v, hv, t, rfl, ht⟩ := paired_back hp2 hs
    refine ⟨_, rfl, i, CI, dx, _, _, rfl, hi, T.cl, T.nS, lk_S a b, _, rfl, p, _, _, _, rfl, rfl, SqL.of hp, at_of (j := 0) rfl rfl, a, vs, _, _, rfl, rfl, SqL.of hvs, at_of rfl hv, t, _, rfl, SqT.of ht, rfl, _, _, rfl, _, _, rfl, rfl, ?_⟩
    refine ⟨_, rfl, i, dx, _, rfl, hi, no_putS, _, rfl, _, rfl, p, _, _, _, rfl, rfl, SqL.of hp, at_of (j := 0) rfl rfl, _, rfl, _, rfl, p, _, _, _, rfl, rfl, SqL.of hp, at_of (j := 1) rfl rfl, ?_⟩
    refine ⟨i, x, s.arrival, y, tt, rfl, hI0, hV.few, by omega, fun H1 q s1 hqn hq => ?_⟩
    obtain ⟨hI2, hS2⟩ := inst_putS hi s1 hq hD
    refine ⟨i, dx, a, b, q, rfl, s1 _ _ hi, ?_⟩
    refine ⟨_, rfl, by show 1 ≤ sizeLine; decide, fun l hl => ?_⟩
    exact hgo.1 _ _ _ (st_wgt c c2 hs) _ l ((but_upd s1).new hl) (hI2.same (same_new hl)) (lists_S (H1 := H1) hi hqn (same_new hl _ _ upd_same)) (upd_free s1 hl) upd_same
end
end Cv
/-! # add_departure, cancel_departure -/
namespace Cv
open PySem PySem.Spec PyProof.Rows L2
open Km561 (Ship Timetable toInts insertHour)
theorem inV_nats (h : Nat) : ∀ ds : List Nat, inV (nat h) (ds.map nat) = decide (h ∈ ds)
  | [] => rfl
  | d :: ds => by
    have ih := inV_nats h ds
    unfold inV at ih ⊢
    rw [List.map_cons, List.any_cons, ih]
    have e : eqV (nat d) (nat h) = decide (d = h) := by
      show ((d : Int) == (h : Int)) = decide (d = h)
      by_cases c : d = h
      · rw [decide_eq_true c, c]
        exact beq_self_eq_true _
      · rw [decide_eq_false c]
        exact beq_eq_false_iff_ne.mpr (by omega)
    rw [e, ← Bool.decide_or]
    exact decide_eq_decide.mpr (by rw [List.mem_cons]; exact ⟨fun z => z.imp Eq.symm id, fun z => z.imp Eq.symm id⟩)
theorem flat_nats : ∀ ds : List Nat, (ds.map nat).all flatV = true
  | [] => rfl
  | d :: ds => by
    rw [List.map_cons, List.all_cons, flat_nats ds]
    rfl
theorem ints_list (ds : List Nat) : (ds.map nat : List V) = (toInts ds).map V.int := ints_map ds
section
variable {P : Program} {w : World} {K : PySem.W.Frag} {mg : Str → Option Value} {base : Heap} {CI CR : Addr}
theorem has_add_departure (T : Txt K mg CI CR) (RI : RefInit P w K mg base CR) (D : DefAt K mg "add_departure" 25 ["instance", "numbers"]) (mD : MetD P w K mg base CI)
    (cH : Has P w K mg base (L2.CX P w) 3 "check_hour" (spCheckHour CR)) : Has P w K mg base (L2.CX P w) 7 "add_departure" (spDeed1 CI CR Km561.Call.addDeparture) := by
  refine has_loud (N := ["instance", "numbers"]) D ⟨rfl, rfl, rfl, by decide +kernel, rfl, by decide +kernel, by decide +kernel⟩ (fun vs H Q E h => ?_) ?_
  · obtain ⟨i, p, x, tt, rfl, _⟩ := h
    rfl
  · rintro f cdv A outer s H vs Q E hr ⟨i, p, x, tt, rfl, hI, hV, hp, hgo⟩
    refine ⟨_, pss_cons (ps_expr (pe_doX cH hr (takes_of rfl rfl rfl rfl) (pa_cons (pe_ix ix_list (pv 1) pe_int (fun _ _ => rfl)) pa_nil)))
      (pss_cons (ps_if (pt_cmpR op_in_seq (pe_ix ix_list (pv 1) pe_int (fun _ _ => rfl)) (pe_fld (pv 0) rfl) (by rfl)) (pss_one (ps_refuse T.ref RI rfl (takes_of rfl rfl rfl rfl) hr T.taken)) pss_nil)
      (pss_cons (ps_if (pt_cmpR op_eq (pe_callB call_len_seq (by rfl) T.len PySem.boot_len (pa_cons (pe_fld (pv 0) rfl) pa_nil)) (pe_named T.mostDeps) (nomark _)) (pss_one (ps_refuse T.ref RI rfl (takes_of rfl rfl rfl rfl) hr T.full)) pss_nil)
      (pss_cons (ps_expr (C8.pe_mt mD hr (by decide) (pv 0) (pa_cons (pe_callB cr_sorted (by rfl) T.sorted (by decide +kernel) (pa_cons (pe_op op_cat (pe_fld (pv 0) rfl) (pe_lst (pa_cons (pe_ix ix_list (pv 1) pe_int (fun _ _ => rfl)) pa_nil))) pa_nil)) pa_nil)))
      (pss_one (ps_ret (pe_lst (pa_cons (pe_callB call_len_seq (by rfl) T.len PySem.boot_len (pa_cons (pe_fld (pv 0) rfl) pa_nil)) pa_nil))))))), ?_⟩
    have hI0 := hI
    obtain ⟨dx, a, b, hi, hS, hD⟩ := hI
    refine ⟨_, rfl, p, _, _, _, rfl, rfl, SqL.of hp, at_of (j := 0) rfl rfl, x, rfl, fun c => hgo.2 _ (st_dep_late c), fun c1 => ?_⟩
    refine ⟨_, rfl, p, _, _, _, rfl, rfl, SqL.of hp, at_of (j := 0) rfl rfl, _, rfl, i, CI, dx, _, _, rfl, hi, T.cl, T.nD, lk_D a b, b, _, rfl, .inl (SqL.of hD), rfl, flat_nats _, _, rfl, ?_⟩
    show if inV (nat x) (tt.departures.map nat) = true then _ else _
    rw [inV_nats]
    by_cases c2 : x ∈ tt.departures
    · rw [decide_eq_true c2]
      exact iteT (hgo.2 _ (st_dep_taken c1 c2))
    rw [decide_eq_false c2]
    refine iteF ?_
    refine ⟨_, rfl, i, CI, dx, _, _, rfl, hi, T.cl, T.nD, lk_D a b, b, _, rfl, .inl (SqL.of hD), rfl, _, rfl, ?_⟩
    rw [List.length_map]
    by_cases c3 : 8 ≤ tt.departures.length
    · rw [decide_eq_true (congrArg V.int (by have := hV.deps; omega))]
      exact iteT (hgo.2 _ (st_dep_full c1 c2 c3))
    rw [decide_eq_false (by intro z; have z' := V.int.inj z; omega)]
    refine iteF ?_
    refine ⟨_, rfl, i, dx, _, rfl, hi, no_putD, ?_⟩
    refine ⟨_, rfl, i, CI, dx, _, _, rfl, hi, T.cl, T.nD, lk_D a b, _, rfl, p, _, _, _, rfl, rfl, SqL.of hp, at_of (j := 0) rfl rfl, by show 1 ≤ sizeLine; decide, fun l hl => ?_⟩
    have s1 : Same H _ := same_new (o := .lst [nat x]) hl
    refine ⟨b, l, _, _, rfl, rfl, s1 _ _ hD, upd_same, line8 (by rw [List.length_map]; show _ + 1 ≤ 1000; omega), fun q hq => ?_⟩
    have s2 := snew s1 (o := .lst (tt.departures.map nat ++ [nat x])) hq
    refine ⟨q, toInts (tt.departures ++ [x]), rfl, SqL.of ?_, ?_, fun ns r hperm hrise hr2 => ?_⟩
    · rw [upd_same, ← ints_list, List.map_append]
      rfl
    · show (List.map _ _).length < 64
      rw [List.length_map, List.length_append]
      show _ + 1 < 64
      omega
    obtain ⟨m, rfl, hm1, hm2⟩ := sort_nats hperm hrise
    have em := sort_insert hm1 hm2 hV.sorted c2
    subst em
    rw [← ints_list] at *
    have s3 := snew s2 (o := .lst ((insertHour x tt.departures).map nat)) hr2
    obtain ⟨hI2, hD2⟩ := inst_putD hi s3 hS (show NatsAt _ r (insertHour x tt.departures) from upd_same)
    refine ⟨i, dx, a, b, r, rfl, s3 _ _ hi, ?_⟩
    refine ⟨_, rfl, i, CI, dx, _, _, rfl, upd_same, T.cl, T.nD, lk_D a r, r, _, rfl, .inl (SqL.of hD2), by show 1 ≤ sizeLine; decide, fun z hz => ?_⟩
    refine hgo.1 _ _ _ (st_dep c1 c2 c3) _ z ((but_upd s3).new hz) (hI2.same (same_new hz)) (lists_D (H1 := H) hi (Same.free s2 hr2) (same_new hz _ _ upd_same)) (upd_free s3 hz) ?_
    rw [upd_same]
    refine congrArg (fun z => some (HO.lst z)) (one_int ?_)
    rw [List.length_map, length_insertHour c2]
theorem has_cancel_departure (T : Txt K mg CI CR) (RI : RefInit P w K mg base CR) (D : DefAt K mg "cancel_departure" 26 ["instance", "numbers"]) (mD : MetD P w K mg base CI) :
    Has P w K mg base (L2.CX P w) 7 "cancel_departure" (spDeed1 CI CR Km561.Call.cancelDeparture) := by
  have S : FnScope ["instance", "numbers", "hour"] ["instance", "numbers"] (defScope (top 26)) := ⟨rfl, rfl, rfl, by decide +kernel, rfl, by decide +kernel, by decide +kernel⟩
  refine has_loud D S (fun vs H Q E h => ?_) ?_
  · obtain ⟨i, p, x, tt, rfl, _⟩ := h
    rfl
  · rintro f cdv A outer s H vs Q E hr ⟨i, p, x, tt, rfl, hI, hV, hp, hgo⟩
    refine ⟨_, pss_cons (ps_if (pt_cmpR op_notIn_seq (pe_ix ix_list (pv 1) pe_int (fun _ _ => rfl)) (pe_fld (pv 0) rfl) (by rfl)) (pss_one (ps_refuse T.ref RI rfl (takes_of rfl rfl rfl rfl) hr T.notThere)) pss_nil)
      (pss_cons (ps_expr (C8.pe_mt mD hr (by decide) (pv 0) (pa_cons (pe_lc (own := [("hour", 2)]) (g := gName 2) (by rfl) S.nd (pi_list (pe_fld (pv 0) rfl)) (blkOk_by (own := [("hour", 2)]) (N := ["instance", "numbers", "hour"]) (sc := defScope (top 26)) (by decide +kernel))
          (fun _ _ _ _ _ => pg_name (i := 2) S.nd rfl (Or.inl rfl)) (fun _ _ _ _ _ => pts_one (by exact (pt_cmpR op_ne (pv 2) (pe_ix (ix_lstK (K := K) rfl) (pv 1) pe_int (fun _ _ => rfl)) (nomark _)))) (fun _ _ _ _ _ => pv 2)) pa_nil)))
      (pss_one (ps_ret (pe_lst (pa_cons (pe_callB call_len_seq (by rfl) T.len PySem.boot_len (pa_cons (pe_fld (pv 0) rfl) pa_nil)) pa_nil))))), ?_⟩
    have hI0 := hI
    obtain ⟨dx, a, b, hi, hS, hD⟩ := hI
    refine ⟨_, rfl, p, _, _, _, rfl, rfl, SqL.of hp, at_of (j := 0) rfl rfl, _, rfl, i, CI, dx, _, _, rfl, hi, T.cl, T.nD, lk_D a b, b, _, rfl, .inl (SqL.of hD), rfl, flat_nats _, _, rfl, ?_⟩
    show if (!inV (nat x) (tt.departures.map nat)) = true then _ else _
    rw [inV_nats]
    by_cases c : x ∈ tt.departures
    · rw [decide_eq_true c]
      refine iteF ?_
      refine ⟨_, rfl, i, dx, _, rfl, hi, no_putD, ?_⟩
      refine ⟨_, rfl, i, CI, dx, _, _, rfl, hi, T.cl, T.nD, lk_D a b, b, rfl, ⟨_, SqL.of hD⟩, fun q hq => ?_⟩
      refine lc_list (K := K) (a := b) (xs := tt.departures.map nat) (fun j H' => Same H H' ∧ H' q = some (.lst (((tt.departures.take j).filter fun y => y != x).map nat))) ⟨same_new hq, upd_same⟩ (fun j H' _ z => SqL.of (z.1 _ _ hD)) ?_ ?_
      · rintro j v H' hj ⟨s1, h1⟩
        obtain ⟨d, hd, rfl⟩ := map_at hj
        refine ⟨rfl, _, rfl, _, rfl, p, _, _, _, rfl, rfl, SqL.of (s1 _ _ hp), at_of (j := 0) rfl rfl, rfl, _, rfl, ?_⟩
        rw [take_at hd, List.filter_append]
        by_cases c2 : d = x
        · subst c2
          rw [decide_eq_true rfl]
          refine iteF ?_
          rw [List.filter_cons_of_neg (by simp), List.filter_nil, List.append_nil]
          exact ⟨s1, h1⟩
        · rw [decide_eq_false (by intro z; have z' := V.int.inj z; omega)]
          refine iteT ⟨_, rfl, _, h1, ?_, ?_⟩
          · rw [List.length_map]
            have q1 := List.length_filter_le (fun y => y != x) (tt.departures.take j)
            rw [List.length_take] at q1
            have := hV.deps
            exact small1000 (by omega)
          · rw [List.filter_cons_of_pos (by simpa using c2), List.filter_nil, List.map_append]
            refine ⟨fun b' o' e' => ?_, upd_same⟩
            rw [upd_ne (ne_of_none e' hq)]
            exact s1 _ _ e'
      · rintro H' ⟨s1, h1⟩
        rw [List.length_map, List.take_length] at h1
        obtain ⟨hI2, hD2⟩ := inst_putD hi s1 hS (show NatsAt _ q (tt.departures.filter fun y => y != x) from h1)
        refine ⟨i, dx, a, b, q, rfl, s1 _ _ hi, ?_⟩
        refine ⟨_, rfl, i, CI, dx, _, _, rfl, upd_same, T.cl, T.nD, lk_D a q, q, _, rfl, .inl (SqL.of hD2), by show 1 ≤ sizeLine; decide, fun z hz => ?_⟩
        refine hgo.1 _ _ _ (st_can c) _ z ((but_upd s1).new hz) (hI2.same (same_new hz)) (lists_D (H1 := H) hi hq (same_new hz _ _ upd_same)) (upd_free s1 hz) ?_
        rw [upd_same]
        refine congrArg (fun z => some (HO.lst z)) (one_int ?_)
        rw [List.length_map, filter_one hV.sorted c]
    · rw [decide_eq_false c]
      exact iteT (hgo.2 _ (st_can_bad c))
end
end Cv
/-! # waiting.py -/
namespace Cv
open PySem PySem.Spec PyProof.Rows L2
open Km561 (Ship Timetable toInts insertHour)
/-- the target (arrival, weight) of a comprehension, in two slots -/
abbrev gShip (K : PySem.W.Frag) (i j : Nat) : TG := gTup K 2 (gCons (gName i) (gCons (gName j) gNil))
theorem sum_nats {A : Type} (f : A → Nat) : ∀ l : List A, (l.map fun x => (f x : Int)).sum = ((l.map f).sum : Nat)
  | [] => rfl
  | x :: l => by
    rw [List.map_cons, List.sum_cons, sum_nats f l, List.map_cons, List.sum_cons]
    omega
theorem all_is (ships : List Ship) (ds : List Nat) : (ships.map fun s => (depFrom ds s.arrival).isSome).all id = servedBy ships ds := by
  unfold servedBy
  rw [List.all_map]
  rfl
theorem optV_non (o : Option Nat) : decide (optV o = .non) = !o.isSome := by
  cases o with
  | none => rfl
  | some d => exact decide_eq_false (by intro z; cases z)
section
variable {P : Program} {w : World} {K : PySem.W.Frag} {mg : Str → Option Value} {base : Heap} {CI CR : Addr}
def spServed : Sp := fun vs H Q _ => ∃ (a b : Addr) (ships : List Ship) (ds : List Nat), vs = [.ref a, .ref b] ∧ ShipsAt H a ships ∧ ships.length ≤ 8 ∧ NatsAt H b ds ∧ ∀ H', Same H H' → Q (.bl (servedBy ships ds)) H'
theorem has_served (T : Txt K mg CI CR) (D : DefAt K mg "are_all_served" 29 ["ships", "departures"]) (cD : Has P w K mg base CX0 1 "departure_from" (spDep K)) : Has P w K mg base CX0 2 "are_all_served" spServed := by
  have S : FnScope ["ships", "departures", "arrival", "weight"] ["ships", "departures"] (defScope (top 29)) := ⟨rfl, rfl, rfl, by decide +kernel, rfl, by decide +kernel, by decide +kernel⟩
  refine has_quiet D S (fun vs H Q E h => ?_) ?_
  · obtain ⟨a, b, ships, ds, rfl, _⟩ := h
    rfl
  · rintro f cdv A outer s H vs Q E hr ⟨a, b, ships, ds, rfl, ⟨vs, hvs, hp⟩, hlen, hd, hq⟩
    refine ⟨_, pss_one (ps_ret (pe_callB (cr_all rfl) (by rfl) T.all (by decide +kernel) (pa_cons (pe_lc (own := [("arrival", 2), ("weight", 3)]) (g := gShip K 2 3) (by rfl) S.nd (pi_list (pv 0)) (blkOk_by (own := [("arrival", 2), ("weight", 3)]) (N := ["ships", "departures", "arrival", "weight"]) (sc := defScope (top 29)) (by decide +kernel))
          (fun _ _ _ _ _ => pg_tup (by rfl) (pgs_cons (pg_name (i := 2) S.nd rfl (Or.inl rfl)) (pgs_cons (pg_name (i := 3) S.nd rfl (Or.inl rfl)) pgs_nil))) (fun _ _ _ _ _ => pts_nil)
          (fun _ _ _ _ _ => pe_cmp (pc_notN (pe_do cD hr (pa_cons (pv 1) (pa_cons (pv 2) pa_nil)))) rfl)) pa_nil))), ?_⟩
    have hl := paired_length hp
    refine ⟨_, rfl, a, rfl, ⟨_, SqL.of hvs⟩, fun L hL => ?_⟩
    refine lc_list (K := K) (a := a) (xs := vs) (fun j H' => Same H H' ∧ H' L = some (.lst (((ships.take j).map fun s => (depFrom ds s.arrival).isSome).map V.bl))) ⟨same_new hL, upd_same⟩ (fun j H' _ z => SqL.of (z.1 _ _ hvs)) ?_ ?_
    · rintro j v H' hj ⟨s1, h1⟩
      obtain ⟨sh, hs, t, rfl, ht⟩ := paired_at hp hj
      refine ⟨t, _, rfl, SqT.of (s1 _ _ ht), rfl, _, _, rfl, _, _, rfl, rfl, rfl, ?_⟩
      refine ⟨_, rfl, _, rfl, b, ds, sh.arrival, rfl, hd.same s1, _, h1, ?_, snew2 s1 hL, ?_⟩
      · rw [List.length_map, List.length_map, List.length_take]
        exact small1000 (by omega)
      · rw [upd_same, take_at hs, List.map_append, List.map_append, optV_non, Bool.not_not]
        rfl
    · rintro H' ⟨s1, h1⟩
      rw [← hl.symm, List.take_length] at h1
      refine ⟨L, _, rfl, SqL.of h1, ?_⟩
      rw [all_is]
      exact hq H' s1
/-! ### sum_of_waiting -/
def spSum : Sp := fun vs H Q _ => ∃ (a b : Addr) (ships : List Ship) (ds : List Nat), vs = [.ref a, .ref b] ∧ ShipsAt H a ships ∧ ships.length ≤ 8 ∧ (∀ s ∈ ships, s.weight ≤ 9) ∧ NatsAt H b ds ∧ servedBy ships ds = true ∧ ∀ H', Same H H' → Q (nat (totalOf ships ds)) H'
theorem waits_int {ds : List Nat} {s : Ship} {d : Nat} (h : depFrom ds s.arrival = some d) : (s.weight : Int) * ((d : Int) - (s.arrival : Int)) = (waits ds s : Nat) := by
  unfold waits
  rw [h]
  have le : s.arrival ≤ d := by
    unfold depFrom at h
    have := List.find?_some h
    exact of_decide_eq_true this
  show _ = ((s.weight * (d - s.arrival) : Nat) : Int)
  rw [Int.natCast_mul, Int.ofNat_sub le]
theorem has_sum (T : Txt K mg CI CR) (D : DefAt K mg "sum_of_waiting" 30 ["ships", "departures"]) (cD : Has P w K mg base CX0 1 "departure_from" (spDep K)) : Has P w K mg base CX0 2 "sum_of_waiting" spSum := by
  have S : FnScope ["ships", "departures", "arrival", "weight"] ["ships", "departures"] (defScope (top 30)) := ⟨rfl, rfl, rfl, by decide +kernel, rfl, by decide +kernel, by decide +kernel⟩
  refine has_quiet D S (fun vs H Q E h => ?_) ?_
  · obtain ⟨a, b, ships, ds, rfl, _⟩ := h
    rfl
  · rintro f cdv A outer s H vs Q E hr ⟨a, b, ships, ds, rfl, ⟨vs, hvs, hp⟩, hlen, hw, hd, hsv, hq⟩
    refine ⟨_, pss_one (ps_ret (pe_callB (cr_sum rfl) (by rfl) T.sum (by decide +kernel) (pa_cons (pe_lc (own := [("arrival", 2), ("weight", 3)]) (g := gShip K 2 3) (by rfl) S.nd (pi_list (pv 0)) (blkOk_by (own := [("arrival", 2), ("weight", 3)]) (N := ["ships", "departures", "arrival", "weight"]) (sc := defScope (top 30)) (by decide +kernel))
          (fun _ _ _ _ _ => pg_tup (by rfl) (pgs_cons (pg_name (i := 2) S.nd rfl (Or.inl rfl)) (pgs_cons (pg_name (i := 3) S.nd rfl (Or.inl rfl)) pgs_nil))) (fun _ _ _ _ _ => pts_nil)
          (fun _ _ _ _ _ => pe_op op_mul (pv 3) (pe_op op_sub (pe_do cD hr (pa_cons (pv 1) (pa_cons (pv 2) pa_nil))) (pv 2)))) pa_nil))), ?_⟩
    have hl := paired_length hp
    refine ⟨_, rfl, a, rfl, ⟨_, SqL.of hvs⟩, fun L hL => ?_⟩
    refine lc_list (K := K) (a := a) (xs := vs) (fun j H' => Same H H' ∧ H' L = some (.lst (((ships.take j).map fun s => (waits ds s : Int)).map V.int))) ⟨same_new hL, upd_same⟩ (fun j H' _ z => SqL.of (z.1 _ _ hvs)) ?_ ?_
    · rintro j v H' hj ⟨s1, h1⟩
      obtain ⟨sh, hs, t, rfl, ht⟩ := paired_at hp hj
      have hmem : sh ∈ ships := List.mem_of_getElem? hs
      refine ⟨t, _, rfl, SqT.of (s1 _ _ ht), rfl, _, _, rfl, _, _, rfl, rfl, rfl, ?_⟩
      refine ⟨_, rfl, _, rfl, _, rfl, b, ds, sh.arrival, rfl, hd.same s1, ?_⟩
      cases e : depFrom ds sh.arrival with
      | none =>
        have := served_iff.mp hsv sh hmem
        rw [e] at this
        cases this
      | some d =>
        refine ⟨_, rfl, _, _, rfl, rfl, _, _, rfl, rfl, .inl ⟨by omega, ?_⟩, _, h1, ?_, snew2 s1 hL, ?_⟩
        · have := hw sh hmem
          omega
        · rw [List.length_map, List.length_map, List.length_take]
          exact small1000 (by omega)
        · rw [upd_same, take_at hs, List.map_append, List.map_append]
          show some (HO.lst (_ ++ [V.int ((sh.weight : Int) * ((d : Int) - (sh.arrival : Int)))])) = _
          rw [waits_int e]
          rfl
    · rintro H' ⟨s1, h1⟩
      rw [← hl.symm, List.take_length] at h1
      refine ⟨L, _, rfl, SqL.of h1, ?_⟩
      rw [sum_nats]
      exact hq H' s1
/-! ### ships_leaving -/
def spLeaving : Sp := fun vs H Q _ => ∃ (a b : Addr) (ships : List Ship) (ds : List Nat) (d : Nat), vs = [.ref a, .ref b, nat d] ∧ ShipsAt H a ships ∧ ships.length ≤ 8 ∧ NatsAt H b ds ∧ ∀ H', Same H H' → Q (nat (leavingOf ships ds d)) H'
theorem optV_eq (o : Option Nat) (d : Nat) : decide (optV o = nat d) = decide (o = some d) := by
  cases o with
  | none => rw [decide_eq_false (by intro z; cases z), decide_eq_false (by intro z; cases z)]
  | some e =>
    refine decide_eq_decide.mpr ⟨fun z => ?_, fun z => by rw [z]; rfl⟩
    have z' := V.int.inj z
    exact congrArg some (by omega)
theorem scal_optV (o : Option Nat) (d : Nat) : scal (optV o) (nat d) = true := by
  cases o <;> rfl
theorem has_leaving (T : Txt K mg CI CR) (D : DefAt K mg "ships_leaving" 31 ["ships", "departures", "departure"]) (cD : Has P w K mg base CX0 1 "departure_from" (spDep K)) : Has P w K mg base CX0 2 "ships_leaving" spLeaving := by
  have S : FnScope ["ships", "departures", "departure", "arrival", "weight"] ["ships", "departures", "departure"] (defScope (top 31)) := ⟨rfl, rfl, rfl, by decide +kernel, rfl, by decide +kernel, by decide +kernel⟩
  refine has_quiet D S (fun vs H Q E h => ?_) ?_
  · obtain ⟨a, b, ships, ds, d, rfl, _⟩ := h
    rfl
  · rintro f cdv A outer s H vs Q E hr ⟨a, b, ships, ds, d, rfl, ⟨vs, hvs, hp⟩, hlen, hd, hq⟩
    refine ⟨_, pss_one (ps_ret (pe_callB call_len_seq (by rfl) T.len PySem.boot_len (pa_cons (pe_lc (own := [("arrival", 3), ("weight", 4)]) (g := gShip K 3 4) (by rfl) S.nd (pi_list (pv 0)) (blkOk_by (own := [("arrival", 3), ("weight", 4)]) (N := ["ships", "departures", "departure", "arrival", "weight"]) (sc := defScope (top 31)) (by decide +kernel))
          (fun _ _ _ _ _ => pg_tup (by rfl) (pgs_cons (pg_name (i := 3) S.nd rfl (Or.inl rfl)) (pgs_cons (pg_name (i := 4) S.nd rfl (Or.inl rfl)) pgs_nil)))
          (fun _ _ _ _ _ => pts_one (pt_cmpR op_eq (pe_do cD hr (pa_cons (pv 1) (pa_cons (pv 3) pa_nil))) (pv 2) (nomark _)))
          (fun _ _ _ _ _ => pv 3)) pa_nil))), ?_⟩
    have hl := paired_length hp
    refine ⟨_, rfl, a, rfl, ⟨_, SqL.of hvs⟩, fun L hL => ?_⟩
    refine lc_list (K := K) (a := a) (xs := vs) (fun j H' => Same H H' ∧ H' L = some (.lst (((ships.take j).filter fun s => decide (depFrom ds s.arrival = some d)).map fun s => nat s.arrival))) ⟨same_new hL, upd_same⟩ (fun j H' _ z => SqL.of (z.1 _ _ hvs)) ?_ ?_
    · rintro j v H' hj ⟨s1, h1⟩
      obtain ⟨sh, hs, t, rfl, ht⟩ := paired_at hp hj
      refine ⟨t, _, rfl, SqT.of (s1 _ _ ht), rfl, _, _, rfl, _, _, rfl, rfl, rfl, ?_⟩
      refine ⟨_, rfl, _, rfl, b, ds, sh.arrival, rfl, hd.same s1, _, rfl, scal_optV _ _, _, rfl, ?_⟩
      rw [optV_eq, take_at hs, List.filter_append]
      by_cases c : depFrom ds sh.arrival = some d
      · rw [decide_eq_true c]
        refine iteT ⟨_, rfl, _, h1, ?_, snew2 s1 hL, ?_⟩
        · rw [List.length_map]
          have q1 := List.length_filter_le (fun s : Ship => decide (depFrom ds s.arrival = some d)) (ships.take j)
          rw [List.length_take] at q1
          exact small1000 (by omega)
        · rw [upd_same, List.filter_cons_of_pos (by exact decide_eq_true c), List.filter_nil, List.map_append]
          rfl
      · rw [decide_eq_false c]
        refine iteF ⟨s1, ?_⟩
        rw [List.filter_cons_of_neg (by rw [decide_eq_false c]; decide), List.filter_nil, List.append_nil]
        exact h1
    · rintro H' ⟨s1, h1⟩
      rw [← hl.symm, List.take_length] at h1
      refine ⟨L, _, rfl, .inl (SqL.of h1), ?_⟩
      rw [List.length_map]
      exact hq H' s1
/-! ### longest_of -/
def longV : Option (Nat × Nat) → V × V
  | none => (.non, .non)
  | some b => (nat b.1, nat b.2)
def spLong (K : PySem.W.Frag) : Sp := fun vs H Q _ => ∃ (a b : Addr) (ships : List Ship) (ds : List Nat), vs = [.ref a, .ref b] ∧ ShipsAt H a ships ∧ NatsAt H b ds ∧
  ∀ (H' : Hp) (t : Addr), Same H H' → H' t = some (.tup [(longV (longOf ships ds ships.length)).1, (longV (longOf ships ds ships.length)).2]) → Q (.ref t) H'
theorem long_fst (o : Option (Nat × Nat)) : decide ((longV o).2 = .non) = !o.isSome := by
  cases o with
  | none => rfl
  | some b => exact decide_eq_false (by intro z; cases z)
theorem dep_le {ds : List Nat} {h d : Nat} (e : depFrom ds h = some d) : h ≤ d := by
  unfold depFrom at e
  have := List.find?_some e
  exact of_decide_eq_true this
theorem has_longest (T : Txt K mg CI CR) (D : DefAt K mg "longest_of" 32 ["ships", "departures"]) (cD : Has P w K mg base CX0 1 "departure_from" (spDep K)) : Has P w K mg base CX0 2 "longest_of" (spLong K) := by
  have S : FnScope ["ships", "departures", "longest", "greatest", "ship", "arrival", "weight", "departure"] ["ships", "departures"] (defScope (top 32)) := ⟨rfl, rfl, rfl, by decide +kernel, rfl, by decide +kernel, by decide +kernel⟩
  refine has_quiet D S (fun vs H Q E h => ?_) ?_
  · obtain ⟨a, b, ships, ds, rfl, _⟩ := h
    rfl
  · rintro f cdv A outer s H vs Q E hr ⟨a, b, ships, ds, rfl, ⟨vs, hvs, hp⟩, hd, hq⟩
    refine ⟨_, pss_cons (ps_set (i := 2) S.nd rfl (.inl rfl) pe_non)
      (pss_cons (ps_set (i := 3) S.nd rfl (.inl rfl) pe_non)
      (pss_cons (ps_for PassesOwn.never rfl (pi_enum (by rfl) T.enumerate (pa_cons (pv 0) pa_nil))
          (pg_tup (by rfl) (pgs_cons (pg_name (i := 4) S.nd rfl (.inl rfl)) (pgs_cons (pg_tup (by rfl) (pgs_cons (pg_name (i := 5) S.nd rfl (.inl rfl)) (pgs_cons (pg_name (i := 6) S.nd rfl (.inl rfl)) pgs_nil))) pgs_nil)))
        (pss_cons (ps_set (i := 7) S.nd rfl (.inl rfl) (pe_do cD hr (pa_cons (pv 1) (pa_cons (pv 5) pa_nil))))
        (pss_one (ps_if (PW.pt (pw_and (pt_cmpR op_notN (pv 7) pe_non (nomark _)) (pw_and1 (PW.pt (pw_or (pt_cmpR op_isN (pv 3) pe_non (nomark _)) (pw_or1 (pt_cmpR op_gt (pe_op op_sub (pv 7) (pv 5)) (pv 3) (nomark _))))))))
          (pss_cons (ps_set (i := 2) S.nd rfl (.inl rfl) (pv 4)) (pss_one (ps_set (i := 3) S.nd rfl (.inl rfl) (pe_op op_sub (pv 7) (pv 5))))) pss_nil))))
      (pss_one (ps_ret (pe_tup (pa_cons (pv 2) (pa_cons (pv 3) pa_nil))))))), ?_⟩
    have hl := paired_length hp
    refine ⟨_, rfl, a, vs, rfl, SqL.of hvs, for_it walk_enum (fun j σ H' => Same H H' ∧ ∃ u1 u2 u3 u4 : Option V, σ = [some (.ref a), some (.ref b), some (longV (longOf ships ds j)).1, some (longV (longOf ships ds j)).2, u1, u2, u3, u4])
      ⟨Same.refl _, none, none, none, none, rfl⟩ (fun j σ H' _ z => SqL.of (z.1 _ _ hvs)) ?_ ?_⟩
    · rintro j x σ H' H2 hj ⟨s1, u1, u2, u3, u4, rfl⟩ ⟨e, y1, y2, rfl, he, rfl, hy1, hy2⟩
      cases hy1
      obtain ⟨sh, hs, t, rfl, ht⟩ := paired_at hp hy2
      have s2 := snew s1 (o := .tup [.int (j : Nat), .ref t]) he
      refine ⟨e, _, rfl, SqT.of upd_same, rfl, _, _, rfl, _, _, rfl, t, _, rfl, SqT.of (s2 _ _ ht), rfl, _, _, rfl, _, _, rfl, rfl, rfl, ?_⟩
      refine ⟨_, rfl, _, rfl, b, ds, sh.arrival, rfl, hd.same s2, _, rfl, rfl, _, rfl, ?_⟩
      have hget : ships.getD j ⟨0, 1⟩ = sh := by
        rw [List.getD_eq_getElem?_getD, hs]
        rfl
      have more := long_more ships ds j
      unfold longTurn at more
      rw [hget] at more
      rw [optV_non, Bool.not_not]
      show if (depFrom ds sh.arrival).isSome = true then _ else _
      cases ed : depFrom ds sh.arrival with
      | none =>
        rw [ed] at more
        refine iteF ?_
        refine iteF ⟨s2, some (.int (j : Nat)), some (nat sh.arrival), some (nat sh.weight), some .non, ?_⟩
        rw [more]
        rfl
      | some d =>
        rw [ed] at more
        have le := dep_le ed
        have sub : ((d : Int) - (sh.arrival : Int)) = ((d - sh.arrival : Nat) : Int) := (Int.ofNat_sub le).symm
        refine iteT ?_
        refine ⟨_, rfl, rfl, _, rfl, ?_⟩
        cases eo : longOf ships ds j with
        | none =>
          rw [eo] at more
          have more' : longOf ships ds (j + 1) = some (j, d - sh.arrival) := more
          refine iteT ?_
          refine iteT ⟨_, rfl, _, rfl, _, rfl, _, _, rfl, rfl, s2, some (.int (j : Nat)), some (nat sh.arrival), some (nat sh.weight), some (nat d), ?_⟩
          rw [more']
          exact congrArg (fun z => [some (.ref a), some (.ref b), some (nat j), some z, some (.int (j : Nat)), some (nat sh.arrival), some (nat sh.weight), some (nat d)]) (congrArg V.int sub)
        | some o =>
          rw [eo] at more
          have more' : longOf ships ds (j + 1) = if o.2 < d - sh.arrival then some (j, d - sh.arrival) else some o := more
          refine iteF ?_
          refine ⟨_, rfl, _, rfl, _, _, rfl, rfl, _, rfl, _, _, rfl, rfl, _, rfl, ?_⟩
          rw [sub]
          by_cases c : o.2 < d - sh.arrival
          · rw [decide_eq_true (Int.ofNat_lt.mpr c)]
            rw [if_pos c] at more'
            refine iteT ⟨_, rfl, _, rfl, _, rfl, _, _, rfl, rfl, s2, some (.int (j : Nat)), some (nat sh.arrival), some (nat sh.weight), some (nat d), ?_⟩
            rw [more']
            exact congrArg (fun z => [some (.ref a), some (.ref b), some (nat j), some z, some (.int (j : Nat)), some (nat sh.arrival), some (nat sh.weight), some (nat d)]) (congrArg V.int sub)
          · rw [decide_eq_false (fun z => c (Int.ofNat_lt.mp z))]
            rw [if_neg c] at more'
            refine iteF ⟨s2, some (.int (j : Nat)), some (nat sh.arrival), some (nat sh.weight), some (nat d), ?_⟩
            rw [more']
            rfl
    · rintro σ H' ⟨s1, u1, u2, u3, u4, rfl⟩
      rw [hl] at *
      refine ⟨_, rfl, _, rfl, by show 2 ≤ sizeLine; decide, fun p hp2 => ?_⟩
      exact hq _ p (snew s1 hp2) upd_same
end
end Cv
/-! # planning.py: arrival_hours, hour_lists -/
namespace Cv
open PySem PySem.Spec PyProof.Rows L2
open Km561 (Ship Timetable toInts insertHour optimalWaiting)
/-- v is a list of these hours -/
def RowAt (G : Addr → Prop) (H : Hp) (v : V) (r : List Nat) : Prop := ∃ q : Addr, v = .ref q ∧ NatsAt H q r ∧ G q
theorem RowAt.same {G : Addr → Prop} {H H' : Hp} (e : Same H H') {v : V} {r : List Nat} (h : RowAt G H v r) : RowAt G H' v r := by
  obtain ⟨q, e1, e2, g⟩ := h
  exact ⟨q, e1, e2.same e, g⟩
def RowsAt (G : Addr → Prop) (H : Hp) (a : Addr) (rows : List (List Nat)) : Prop := ∃ vs : List V, H a = some (.lst vs) ∧ Paired (RowAt G H) vs rows
/-- new since H -/
abbrev NewTo (H : Hp) : Addr → Prop := fun q => H q = none
theorem paired_mem {A B : Type} {F G : A → B → Prop} : ∀ {l : List A} {m : List B}, (∀ a ∈ l, ∀ b, F a b → G a b) → Paired F l m → Paired G l m
  | _, _, _, .nil => .nil
  | _, _, h, .cons r t => .cons (h _ List.mem_cons_self _ r) (paired_mem (fun a ha => h a (List.mem_cons_of_mem _ ha)) t)
/-- a list of rows is none of its rows -/
theorem rows_upd {G : Addr → Prop} {H : Hp} {L : Addr} {us : List V} {rows : List (List Nat)} {o : HO} (hL : H L = some (.lst us)) (h : Paired (RowAt G H) us rows) : Paired (RowAt G (upd H L o)) us rows := by
  refine paired_mem (fun v hv r z => ?_) h
  obtain ⟨q, rfl, hq, g⟩ := z
  refine ⟨q, rfl, ?_, g⟩
  have ne : q ≠ L := fun e => by
    subst e
    have e2 : (HO.lst us) = .lst (r.map nat) := Option.some.inj (hL.symm.trans hq)
    have e3 : us = r.map nat := by
      injection e2
    rw [e3] at hv
    obtain ⟨x, _, e4⟩ := List.mem_map.mp hv
    cases e4
  show upd H L o q = _
  rw [upd_ne ne]
  exact hq
theorem arr_ints (ships : List Ship) : (ships.map fun s => nat s.arrival) = (toInts (ships.map Ship.arrival)).map V.int := by
  unfold toInts
  rw [List.map_map, List.map_map]
  rfl
section
variable {P : Program} {w : World} {K : PySem.W.Frag} {mg : Str → Option Value} {base : Heap} {CI CR : Addr}
def spHours : Sp := fun vs H Q _ => ∃ (a : Addr) (ships : List Ship), vs = [.ref a] ∧ ShipsAt H a ships ∧ ships.length ≤ 8 ∧ ∀ (H' : Hp) (p : Addr), Same H H' → NatsAt H' p (hoursOf ships) → Q (.ref p) H'
theorem has_hours (T : Txt K mg CI CR) (D : DefAt K mg "arrival_hours" 36 ["ships"]) : Has P w K mg base CX0 1 "arrival_hours" spHours := by
  have S : FnScope ["ships", "arrival", "weight"] ["ships"] (defScope (top 36)) := ⟨rfl, rfl, rfl, by decide +kernel, rfl, by decide +kernel, by decide +kernel⟩
  refine has_quiet D S (fun vs H Q E h => ?_) ?_
  · obtain ⟨a, ships, rfl, _⟩ := h
    rfl
  · rintro f cdv A outer s H vs Q E hr ⟨a, ships, rfl, ⟨vs, hvs, hp⟩, hlen, hq⟩
    refine ⟨_, pss_one (ps_ret (pe_callB (cr_sortedSet rfl) (by rfl) T.sorted (by decide +kernel) (pa_cons (pe_callTy (cr_setL rfl) (by rfl) T.set (by decide +kernel) (pa_cons
        (pe_lc (own := [("arrival", 1), ("weight", 2)]) (g := gShip K 1 2) (by rfl) S.nd (pi_list (pv 0)) (blkOk_by (own := [("arrival", 1), ("weight", 2)]) (N := ["ships", "arrival", "weight"]) (sc := defScope (top 36)) (by decide +kernel))
          (fun _ _ _ _ _ => pg_tup (by rfl) (pgs_cons (pg_name (i := 1) S.nd rfl (Or.inl rfl)) (pgs_cons (pg_name (i := 2) S.nd rfl (Or.inl rfl)) pgs_nil))) (fun _ _ _ _ _ => pts_nil)
          (fun _ _ _ _ _ => pv 1)) pa_nil)) pa_nil))), ?_⟩
    have hl := paired_length hp
    refine ⟨_, rfl, a, rfl, ⟨_, SqL.of hvs⟩, fun L hL => ?_⟩
    refine lc_list (K := K) (a := a) (xs := vs) (fun j H' => Same H H' ∧ H' L = some (.lst ((ships.take j).map fun s => nat s.arrival))) ⟨same_new hL, upd_same⟩ (fun j H' _ z => SqL.of (z.1 _ _ hvs)) ?_ ?_
    · rintro j v H' hj ⟨s1, h1⟩
      obtain ⟨sh, hs, t, rfl, ht⟩ := paired_at hp hj
      refine ⟨t, _, rfl, SqT.of (s1 _ _ ht), rfl, _, _, rfl, _, _, rfl, rfl, rfl, ?_⟩
      refine ⟨_, rfl, _, h1, ?_, snew2 s1 hL, ?_⟩
      · rw [List.length_map, List.length_take]
        exact small1000 (by omega)
      · rw [upd_same, take_at hs, List.map_append]
        rfl
    · rintro H' ⟨s1, h1⟩
      rw [← hl.symm, List.take_length, arr_ints] at h1
      refine ⟨L, toInts (ships.map Ship.arrival), rfl, SqL.of h1, ?_, fun p c hp2 hc => ?_⟩
      · show (List.map _ _).length < 60
        rw [List.length_map, List.length_map]
        omega
      · have s2 := snew s1 (o := SetO w p (fun j => decide (j ∈ toInts (ships.map Ship.arrival))) c) hp2
        refine ⟨p, _, c, rfl, upd_same, ?_, fun ns q hs hm hl2 hq2 => ?_⟩
        · have e : (toInts (ships.map Ship.arrival)).length = ships.length := by
            show (List.map _ _).length = _
            rw [List.length_map, List.length_map]
          omega
        · have e : ns = toInts (hoursOf ships) := set_nats (l := ships.map Ship.arrival) hs (fun z => by rw [hm z]; exact decide_eq_true_iff) (hours_sorted ships) fun x => by
            rw [mem_hours, List.mem_map]
          subst e
          refine hq _ q (snew s2 hq2) ?_
          show upd _ q _ q = _
          rw [upd_same, ints_map]
/-! ### hour_lists -/
def spLists : Sp := fun vs H Q _ => ∃ (a : Addr) (hs : List Nat) (most : Nat), vs = [.ref a, nat most] ∧ NatsAt H a hs ∧ hs.length ≤ 8 ∧ ∀ (H' : Hp) (p : Addr), Same H H' → RowsAt (NewTo H) H' p (rowsOf most hs) → Q (.ref p) H'
theorem pow8 {n : Nat} (h : n ≤ 8) : 2 ^ n ≤ 256 := Nat.pow_le_pow_right (by decide) h
theorem has_lists (T : Txt K mg CI CR) (D : DefAt K mg "hour_lists" 37 ["hours", "most"]) : Has P w K mg base CX0 1 "hour_lists" spLists := by
  have S : FnScope ["hours", "most", "found", "hour", "row"] ["hours", "most"] (defScope (top 37)) := ⟨rfl, rfl, rfl, by decide +kernel, rfl, by decide +kernel, by decide +kernel⟩
  refine has_quiet D S (fun vs H Q E h => ?_) ?_
  · obtain ⟨a, hs, most, rfl, _⟩ := h
    rfl
  · rintro f cdv A outer s H vs Q E hr ⟨a, hs, most, rfl, hh, hlen, hq⟩
    refine ⟨_, pss_cons (ps_set (i := 2) S.nd rfl (.inl rfl) (pe_lst (pa_cons (pe_lst pa_nil) pa_nil)))
      (pss_cons (ps_for PassesOwn.never rfl (pi_list (pv 0)) (pg_name (i := 3) S.nd rfl (Or.inr rfl))
        (pss_one (ps_set (i := 2) S.nd rfl (.inl rfl) (pe_op op_cat (pv 2) (pe_lc (own := [("row", 4)]) (g := gName 4) (by rfl) S.nd (pi_list (pv 2)) (blkOk_by (own := [("row", 4)]) (N := ["hours", "most", "found", "hour", "row"]) (sc := defScope (top 37)) (by decide +kernel))
          (fun _ _ _ _ _ => pg_name (i := 4) S.nd rfl (Or.inl rfl)) (fun _ _ _ _ _ => pts_one (pt_cmpR op_lt (pe_callB (len_seqK (K := K) rfl) (by rfl) T.len PySem.boot_len (pa_cons (pv 4) pa_nil)) (pv 1) (nomark _)))
          (fun _ _ _ _ _ => pe_op op_cat (pv 4) (pe_lst (pa_cons (pv 3) pa_nil))))))))
      (pss_one (ps_ret (pv 2)))), ?_⟩
    refine ⟨by show 0 ≤ sizeLine; decide, fun e he => ⟨by show 1 ≤ sizeLine; decide, fun fa hfa => ?_⟩⟩
    have s0 : Same H _ := same_new (o := .lst []) he
    have s00 := snew s0 (o := .lst [.ref e]) hfa
    refine ⟨_, rfl, a, rfl, ⟨_, SqL.of (hh.same s00)⟩, for_list (K := K) (a := a) (xs := hs.map nat) (fun j σ H' => Same H H' ∧ ∃ (fb : Addr) (u : Option V), σ = [some (.ref a), some (nat most), some (.ref fb), u, none] ∧ RowsAt (NewTo H) H' fb (rowsOf most (hs.take j)))
      ⟨s00, fa, none, rfl, [.ref e], upd_same, .cons ⟨e, rfl, same_new hfa _ _ upd_same, he⟩ .nil⟩ (fun j σ H' _ z => SqL.of (hh.same z.1)) ?_ ?_⟩
    · rintro j y σ H1 hj ⟨s1, fb, u, rfl, ws, hws, hp⟩
      obtain ⟨hour, hhour, rfl⟩ := map_at hj
      have hl := paired_length hp
      have hrl : (rowsOf most (hs.take j)).length ≤ 256 := Nat.le_trans (rows_length _ _) (pow8 (by rw [List.length_take]; omega))
      refine ⟨_, rfl, _, rfl, fb, rfl, ⟨_, SqL.of hws⟩, fun L hL => ?_⟩
      refine lc_list (K := K) (a := fb) (xs := ws) (fun i H' => Same H1 H' ∧ RowsAt (NewTo H) H' L ((((rowsOf most (hs.take j)).take i).filter fun row => decide (row.length < most)).map fun row => row ++ [hour]))
        ⟨same_new hL, [], upd_same, .nil⟩ (fun i H' _ z => SqL.of (z.1 _ _ hws)) ?_ ?_
      · rintro i v H' hi ⟨s2, us, hus, hp2⟩
        obtain ⟨row, hrow, q, rfl, hq2, _⟩ := paired_at hp hi
        have hq3 := hq2.same s2
        have hrs : row.length ≤ 8 := by
          have h1 := (mem_rows most (hs.take j) row).mp (List.mem_of_getElem? hrow)
          have h2 := h1.1.length_le
          rw [List.length_take] at h2
          omega
        refine ⟨rfl, _, rfl, q, _, rfl, .inl (SqL.of hq3), _, rfl, _, _, rfl, rfl, _, rfl, ?_⟩
        rw [List.length_map, take_at hrow, List.filter_append, List.map_append]
        by_cases c : row.length < most
        · rw [decide_eq_true (by omega)]
          refine iteT ?_
          refine ⟨_, rfl, _, rfl, by show 1 ≤ sizeLine; decide, fun l hl2 => ?_⟩
          have s3 := snew s2 (o := .lst [nat hour]) hl2
          refine ⟨q, l, _, _, rfl, rfl, hq2.same s3, upd_same, line8 (by rw [List.length_map]; show _ + 1 ≤ 1000; omega), fun p hp3 => ?_⟩
          have s4 := snew s3 (o := .lst (row.map nat ++ [nat hour])) hp3
          have keep : Same H' (upd (upd H' l (.lst [nat hour])) p (.lst (row.map nat ++ [nat hour]))) := snew (same_new hl2) hp3
          refine ⟨us, keep _ _ hus, ?_, ?_, ?_⟩
          · have e1 := paired_length hp2
            rw [List.length_map] at e1
            have e2 := List.length_filter_le (fun row : List Nat => decide (row.length < most)) ((rowsOf most (hs.take j)).take i)
            rw [List.length_take] at e2
            exact small1000 (by omega)
          · exact snew2 s4 hL
          · have nL : L ≠ p := ne_of_none (same_new hl2 _ _ hus) hp3
            refine ⟨_, upd_same, paired_app (rows_upd (keep _ _ hus) (paired_mono (fun _ _ z => z.same keep) hp2)) ?_⟩
            rw [List.filter_cons_of_pos (by exact decide_eq_true c), List.filter_nil]
            refine .cons ⟨p, rfl, ?_, Same.free (s1.trans s3) hp3⟩ .nil
            show upd _ L _ p = _
            rw [upd_ne (Ne.symm nL), upd_same, List.map_append]
            rfl
        · rw [decide_eq_false (by omega)]
          refine iteF ⟨s2, us, hus, ?_⟩
          rw [List.filter_cons_of_neg (by rw [decide_eq_false c]; decide), List.filter_nil, List.map_nil, List.append_nil]
          exact hp2
      · rintro H' ⟨s2, us, hus, hp2⟩
        rw [hl, List.take_length] at hp2
        have e1 := paired_length hp2
        rw [List.length_map] at e1
        have e2 := List.length_filter_le (fun row : List Nat => decide (row.length < most)) (rowsOf most (hs.take j))
        refine ⟨fb, L, ws, us, rfl, rfl, s2 _ _ hws, hus, line8 (by omega), fun p hp3 => ?_⟩
        have s3 : Same H1 _ := snew s2 (o := .lst (ws ++ us)) hp3
        refine ⟨s1.trans s3, p, _, rfl, ws ++ us, upd_same, ?_⟩
        rw [take_at hhour, rows_more]
        exact paired_app (paired_mono (fun _ _ z => z.same s3) hp) (paired_mono (fun _ _ z => RowAt.same (same_new hp3) z) hp2)
    · rintro σ H' ⟨s1, fb, u, rfl, hR⟩
      rw [List.length_map, List.take_length] at hR
      exact ⟨_, rfl, hq H' fb s1 hR⟩
end
end Cv
/-! # planning.py: optimal, optimal_waiting, fewest_within, cheapest -/
namespace Cv
open PySem PySem.Spec PyProof.Rows L2
open Km561 (Ship Timetable toInts insertHour optimalWaiting)
/-! ### the order of pairs in the datum's words -/
theorem list_lt : ∀ l m : List Nat, PySem.W.DatumOrd.lt (toInts l) (toInts m) = lexLt l m
  | [], [] => rfl
  | [], _ :: _ => rfl
  | _ :: _, [] => rfl
  | x :: l, y :: m => by
    have ih := list_lt l m
    show (if (x : Int) = (y : Int) then PySem.W.DatumOrd.lt (toInts l) (toInts m) else decide ((x : Int) < (y : Int))) = if x = y then lexLt l m else decide (x < y)
    rw [ih]
    by_cases c : x = y
    · rw [if_pos c, if_pos (by omega)]
    · rw [if_neg c, if_neg (by omega)]
      exact decide_eq_decide.mpr Int.ofNat_lt
theorem pair_lt (p q : Nat × List Nat) : PySem.W.DatumOrd.lt ((p.1 : Int), toInts p.2) ((q.1 : Int), toInts q.2) = pairLt p q := by
  show (if (p.1 : Int) = (q.1 : Int) then PySem.W.DatumOrd.lt (toInts p.2) (toInts q.2) else decide ((p.1 : Int) < (q.1 : Int))) = if p.1 = q.1 then lexLt p.2 q.2 else decide (p.1 < q.1)
  rw [list_lt]
  by_cases c : p.1 = q.1
  · rw [if_pos c, if_pos (by omega)]
  · rw [if_neg c, if_neg (by omega)]
    exact decide_eq_decide.mpr Int.ofNat_lt
theorem num_lt (p q : Nat × Nat) : PySem.W.DatumOrd.lt ((p.1 : Int), (p.2 : Int)) ((q.1 : Int), (q.2 : Int)) = if p.1 = q.1 then decide (p.2 < q.2) else decide (p.1 < q.1) := by
  show (if (p.1 : Int) = (q.1 : Int) then decide ((p.2 : Int) < (q.2 : Int)) else decide ((p.1 : Int) < (q.1 : Int))) = _
  by_cases c : p.1 = q.1
  · rw [if_pos c, if_pos (by omega)]
    exact decide_eq_decide.mpr Int.ofNat_lt
  · rw [if_neg c, if_neg (by omega)]
    exact decide_eq_decide.mpr Int.ofNat_lt
/-- a list that is not empty, by its head -/
theorem map_head {A B : Type} {f : A → B} {l : List A} {x : A} (h : x ∈ l) : ∃ d ds, l.map f = d :: ds := by
  cases l with
  | nil => cases h
  | cons y l => exact ⟨f y, l.map f, rfl⟩
theorem AtIL.same {G : Addr → Prop} {H H' : Hp} (e : Same H H') {v : V} {x : Int × List Int} (h : AtIL G H v x) : AtIL G H' v x := by
  obtain ⟨t, q, e1, e2, e3, g⟩ := h
  exact ⟨t, q, e1, e _ _ e2, e _ _ e3, g⟩
theorem il_upd {G : Addr → Prop} {H : Hp} {L : Addr} {us : List V} {xs : List (Int × List Int)} {o : HO} (hL : H L = some (.lst us)) (h : Paired (AtIL G H) us xs) : Paired (AtIL G (upd H L o)) us xs := by
  refine paired_mem (fun v hv x z => ?_) h
  obtain ⟨t, q, rfl, ht, hq, g⟩ := z
  refine ⟨t, q, rfl, ?_, ?_, g⟩
  · rw [upd_ne (ne_of ht hL (by intro z; cases z))]
    exact ht
  · have ne : q ≠ L := fun e => by
      subst e
      have e2 : (HO.lst us) = .lst (x.2.map V.int) := Option.some.inj (hL.symm.trans hq)
      have e3 : us = x.2.map V.int := by
        injection e2
      rw [e3] at hv
      obtain ⟨z, _, e4⟩ := List.mem_map.mp hv
      cases e4
    rw [upd_ne ne]
    exact hq
/-- what min goes through, and what it finds -/
def pairOf (ships : List Ship) (r : List Nat) : Int × List Int := (((totalOf ships r : Nat) : Int), toInts r)
theorem min_serving {tt : Timetable} {most wt : Nat} {r : List Nat} (hm : 1 ≤ most) (e : Km561.optimal tt most = some (wt, r)) {d : Int × List Int} {ds : List (Int × List Int)} (h : (servingOf tt.ships most).map (pairOf tt.ships) = d :: ds) :
    PySem.W.minOf d ds = (((wt : Nat) : Int), toInts r) := by
  obtain ⟨r0, e0, hr0, hb⟩ := optimal_is tt hm
  rw [e] at e0
  have e1 := Option.some.inj e0
  have e2 : wt = totalOf tt.ships r0 := congrArg Prod.fst e1
  have e3 : r = r0 := congrArg Prod.snd e1
  subst e2 e3
  refine minOf_is (m := pairOf tt.ships r) ?_ ds d ?_ fun y hy => ?_
  · exact (pair_lt (totalOf tt.ships r, r) (totalOf tt.ships r, r)).trans (pairLt_irrefl _)
  · rw [← h]
    exact List.mem_map.mpr ⟨r, hr0, rfl⟩
  · rw [← h] at hy
    obtain ⟨r', hr', rfl⟩ := List.mem_map.mp hy
    rcases hb r' hr' with e4 | e4
    · left
      have : r' = r := (congrArg Prod.snd e4).symm
      rw [this]
    · right
      exact ⟨(pair_lt (totalOf tt.ships r, r) (totalOf tt.ships r', r')).trans e4, (pair_lt (totalOf tt.ships r', r') (totalOf tt.ships r, r)).trans (pairLt_asymm e4)⟩
section
variable {P : Program} {w : World} {K : PySem.W.Frag} {mg : Str → Option Value} {base : Heap} {CI CR : Addr}
/-- some ships, at a: few, of small weights -/
structure Ok8 (ships : List Ship) : Prop where
  few : ships.length ≤ 8
  light : ∀ s ∈ ships, s.weight ≤ 9
def spOpt : Sp := fun vs H Q _ => ∃ (a : Addr) (most : Nat) (tt : Timetable), vs = [.ref a, nat most] ∧ ShipsAt H a tt.ships ∧ Ok8 tt.ships ∧ 1 ≤ most ∧
  ∀ (wt : Nat) (r : List Nat), Km561.optimal tt most = some (wt, r) → ∀ (H' : Hp) (t q : Addr), Same H H' → H' t = some (.tup [nat wt, .ref q]) → NatsAt H' q r → H q = none → Q (.ref t) H'
theorem hu3 {k : Nat} {A : Around} (hr : Room k A) : A.units + 1 + 2 < cLine := by
  have := hr.un
  omega
theorem has_optimal (T : Txt K mg CI CR) (D : DefAt K mg "optimal" 38 ["ships", "most"]) (cA : Has P w K mg base CX0 1 "arrival_hours" spHours) (cL : Has P w K mg base CX0 1 "hour_lists" spLists)
    (cS : Has P w K mg base CX0 2 "are_all_served" spServed) (cW : Has P w K mg base CX0 2 "sum_of_waiting" spSum) : Has P w K mg base CX0 3 "optimal" spOpt := by
  have S : FnScope ["ships", "most", "serving", "row"] ["ships", "most"] (defScope (top 38)) := ⟨rfl, rfl, rfl, by decide +kernel, rfl, by decide +kernel, by decide +kernel⟩
  refine has_quiet D S (fun vs H Q E h => ?_) ?_
  · obtain ⟨a, most, tt, rfl, _⟩ := h
    rfl
  · rintro f cdv A outer s H vs Q E hr ⟨a, most, tt, rfl, hS, hO, hm, hq⟩
    refine ⟨_, pss_cons (ps_setLc (i := 2) (own := [("row", 3)]) (g := gName 3) (by rfl) S.nd rfl rfl (sw_true rfl rfl rfl (by decide +kernel)) (pi_list (pe_do cL hr (pa_cons (pe_do cA hr (pa_cons (pv 0) pa_nil)) (pa_cons (pv 1) pa_nil))))
          (blkOk_by (own := [("row", 3)]) (N := ["ships", "most", "serving", "row"]) (sc := defScope (top 38)) (by decide +kernel))
          (fun _ _ _ _ _ => pg_name (i := 3) S.nd rfl (Or.inl rfl)) (fun _ _ _ _ _ => pts_one (pt_val (pe_do cS hr (pa_cons (pv 0) (pa_cons (pv 3) pa_nil))))) (fun _ _ _ _ _ => pv 3))
      (pss_one (ps_ret (pe_callB (cr_minD (says_il (G := NewTo H)) rfl (hu3 hr)) (by rfl) T.min (by decide +kernel) (pa_cons
        (pe_lc (own := [("row", 3)]) (g := gName 3) (by rfl) S.nd (pi_list (pv 2)) (blkOk_by (own := [("row", 3)]) (N := ["ships", "most", "serving", "row"]) (sc := defScope (top 38)) (by decide +kernel))
          (fun _ _ _ _ _ => pg_name (i := 3) S.nd rfl (Or.inl rfl)) (fun _ _ _ _ _ => pts_nil) (fun _ _ _ _ _ => pe_tup (pa_cons (pe_do cW hr (pa_cons (pv 0) (pa_cons (pv 3) pa_nil))) (pa_cons (pv 3) pa_nil)))) pa_nil)))), ?_⟩
    refine ⟨_, rfl, a, tt.ships, rfl, hS, hO.few, fun H1 p1 s1 h1 => ⟨_, rfl, p1, hoursOf tt.ships, most, rfl, h1, Nat.le_trans (hours_length _) hO.few, fun H2 fa s2 hR => ?_⟩⟩
    obtain ⟨ws, hws, hp0⟩ := hR
    have hp : Paired (RowAt (NewTo H) H2) ws (rowsOf most (hoursOf tt.ships)) := paired_mono (fun v r z => by
      obtain ⟨q, e1, e2, g⟩ := z
      exact ⟨q, e1, e2, Same.free s1 g⟩) hp0
    have s12 := s1.trans s2
    have hl := paired_length hp
    have hrl : (rowsOf most (hoursOf tt.ships)).length ≤ 256 := Nat.le_trans (rows_length _ _) (pow8 (Nat.le_trans (hours_length _) hO.few))
    refine ⟨fa, rfl, ⟨_, SqL.of hws⟩, fun L hL => ?_⟩
    refine lc_list (K := K) (a := fa) (xs := ws) (fun i H' => Same H2 H' ∧ RowsAt (NewTo H) H' L (((rowsOf most (hoursOf tt.ships)).take i).filter (servedBy tt.ships)))
      ⟨same_new hL, [], upd_same, .nil⟩ (fun i H' _ z => SqL.of (z.1 _ _ hws)) ?_ ?_
    · rintro i v H' hi ⟨s3, us, hus, hp2⟩
      obtain ⟨row, hrow, q, rfl, hq2, gq⟩ := paired_at hp hi
      have e1 := paired_length hp2
      have e2 := List.length_filter_le (servedBy tt.ships) ((rowsOf most (hoursOf tt.ships)).take i)
      rw [List.length_take] at e2
      refine ⟨rfl, _, rfl, _, rfl, a, q, tt.ships, row, rfl, (hS.same s12).same s3, hO.few, hq2.same s3, fun H4 s4 => ⟨_, rfl, ?_⟩⟩
      rw [take_at hrow, List.filter_append]
      cases c : servedBy tt.ships row with
      | true =>
        refine iteT ⟨_, rfl, us, s4 _ _ hus, small1000 (by omega), snew2 (s3.trans s4) hL, _, upd_same, ?_⟩
        rw [List.filter_cons_of_pos c, List.filter_nil]
        refine paired_app (rows_upd (s4 _ _ hus) (paired_mono (fun _ _ z => RowAt.same s4 z) hp2)) (.cons ⟨q, rfl, ?_, gq⟩ .nil)
        show upd H4 L _ q = _
        rw [upd_ne (ne_of_none hq2 hL)]
        exact (hq2.same s3).same s4
      | false =>
        refine iteF ⟨s3.trans s4, us, s4 _ _ hus, ?_⟩
        rw [List.filter_cons_of_neg (by rw [c]; decide), List.filter_nil, List.append_nil]
        exact paired_mono (fun _ _ z => RowAt.same s4 z) hp2
    · rintro H3 ⟨s3, us, hus, hp2⟩
      rw [hl, List.take_length] at hp2
      have hp3 : Paired (RowAt (NewTo H) H3) us (servingOf tt.ships most) := hp2
      have hl3 := paired_length hp3
      have hsl : (servingOf tt.ships most).length ≤ 256 := Nat.le_trans (List.length_filter_le _ _) hrl
      have hS3 := (hS.same s12).same s3
      refine ⟨_, rfl, L, rfl, ⟨_, SqL.of hus⟩, fun M hM => ?_⟩
      refine lc_list (K := K) (a := L) (xs := us) (fun i H' => Same H3 H' ∧ ∃ ys : List V, H' M = some (.lst ys) ∧ Paired (AtIL (NewTo H) H') ys (((servingOf tt.ships most).take i).map (pairOf tt.ships)))
        ⟨same_new hM, [], upd_same, .nil⟩ (fun i H' _ z => SqL.of (z.1 _ _ hus)) ?_ ?_
      · rintro i v H' hi ⟨s5, ys, hys, hp4⟩
        obtain ⟨row, hrow, q, rfl, hq2, gq⟩ := paired_at hp3 hi
        have hmem : row ∈ servingOf tt.ships most := List.mem_of_getElem? hrow
        have e1 := paired_length hp4
        rw [List.length_map, List.length_take] at e1
        refine ⟨rfl, _, rfl, _, rfl, a, q, tt.ships, row, rfl, hS3.same s5, hO.few, hO.light, hq2.same s5, (mem_serving.mp hmem).2.2, fun H4 s4 => ⟨_, rfl, by show 2 ≤ sizeLine; decide, fun t ht => ?_⟩⟩
        have s6 : Same H' (upd H4 t (.tup [nat (totalOf tt.ships row), .ref q])) := snew s4 ht
        refine ⟨ys, s6 _ _ hys, small1000 (by omega), snew2 (s5.trans s6) hM, _, upd_same, ?_⟩
        rw [take_at hrow, List.map_append]
        refine paired_app (il_upd (s6 _ _ hys) (paired_mono (fun _ _ z => AtIL.same s6 z) hp4)) (.cons ⟨t, q, rfl, ?_, ?_, gq⟩ .nil)
        · rw [upd_ne (Ne.symm (ne_of_none (s4 _ _ hys) ht)), upd_same]
          rfl
        · rw [upd_ne (ne_of_none hq2 hM)]
          exact (s6 _ _ ((hq2.same s5))).trans (congrArg (fun z => some (HO.lst z)) (ints_map row))
      · rintro H5 ⟨s5, ys, hys, hp4⟩
        rw [hl3, List.take_length] at hp4
        obtain ⟨r0, hr0⟩ := serving_some tt.ships hm
        obtain ⟨d, ds, e⟩ := map_head (f := pairOf tt.ships) hr0
        rw [e] at hp4
        obtain ⟨rr, hr1, _, _⟩ := optimal_is tt hm
        refine ⟨M, ys, d, ds, rfl, SqL.of hys, hp4, fun v hv => ?_⟩
        rw [min_serving hm hr1 e] at hv
        obtain ⟨t, q, rfl, ht, hq3, gq⟩ := hv
        refine hq _ rr hr1 H5 t q ((s12.trans s3).trans s5) ht ?_ gq
        show H5 q = _
        rw [hq3, ints_map]
end
end Cv
/-! # planning.py: optimal_waiting, fewest_within, cheapest -/
namespace Cv
open PySem PySem.Spec PyProof.Rows L2
open Km561 (Ship Timetable toInts insertHour optimalWaiting)
/-- what cheapest goes through -/
def costPair (tt : Timetable) (price k : Nat) : Int × Int := (((costOf tt price k : Nat) : Int), ((k : Nat) : Int))
theorem min_cost {tt : Timetable} {price k : Nat} (h1 : 1 ≤ k) (h2 : k ≤ 8) (hb : ∀ j, 1 ≤ j → j ≤ 8 → costOf tt price k ≤ costOf tt price j ∧ (j < k → costOf tt price k < costOf tt price j)) {d : Int × Int} {ds : List (Int × Int)}
    (h : ((List.range 8).map fun i => costPair tt price (i + 1)) = d :: ds) : PySem.W.minOf d ds = costPair tt price k := by
  refine minOf_is ?_ ds d ?_ fun y hy => ?_
  · refine (num_lt (costOf tt price k, k) (costOf tt price k, k)).trans ?_
    rw [if_pos rfl]
    exact decide_eq_false (Nat.lt_irrefl _)
  · rw [← h]
    exact List.mem_map.mpr ⟨k - 1, List.mem_range.mpr (by omega), by rw [show k - 1 + 1 = k by omega]⟩
  · rw [← h] at hy
    obtain ⟨i, hi, rfl⟩ := List.mem_map.mp hy
    have hi' := List.mem_range.mp hi
    by_cases c : i + 1 = k
    · left
      rw [c]
    · right
      obtain ⟨b1, b2⟩ := hb (i + 1) (by omega) (by omega)
      have l1 : PySem.W.DatumOrd.lt (costPair tt price k) (costPair tt price (i + 1)) = _ := num_lt (costOf tt price k, k) (costOf tt price (i + 1), i + 1)
      have l2 : PySem.W.DatumOrd.lt (costPair tt price (i + 1)) (costPair tt price k) = _ := num_lt (costOf tt price (i + 1), i + 1) (costOf tt price k, k)
      rw [l1, l2]
      dsimp only
      by_cases q : costOf tt price k = costOf tt price (i + 1)
      · rw [if_pos q, if_pos q.symm]
        have : ¬ i + 1 < k := fun z => by
          have := b2 z
          omega
        exact ⟨decide_eq_true (by omega), decide_eq_false (by omega)⟩
      · rw [if_neg q, if_neg (Ne.symm q)]
        exact ⟨decide_eq_true (by omega), decide_eq_false (by omega)⟩
theorem AtII.same {H H' : Hp} (e : Same H H') {v : V} {x : Int × Int} (h : AtII H v x) : AtII H' v x := by
  obtain ⟨t, e1, e2⟩ := h
  exact ⟨t, e1, e _ _ e2⟩
theorem ii_upd {H : Hp} {L : Addr} {us : List V} {xs : List (Int × Int)} {o : HO} (hL : H L = some (.lst us)) (h : Paired (AtII H) us xs) : Paired (AtII (upd H L o)) us xs := by
  refine paired_mono (fun v x z => ?_) h
  obtain ⟨t, rfl, ht⟩ := z
  refine ⟨t, rfl, ?_⟩
  rw [upd_ne (ne_of ht hL (by intro z; cases z))]
  exact ht
/-- the numbers from 1 on that a test keeps -/
def keptTo (p : Nat → Bool) (n : Nat) : List Nat := ((List.range n).filter fun i => p (i + 1)).map fun i => i + 1
theorem kept_more (p : Nat → Bool) (n : Nat) : keptTo p (n + 1) = if p (n + 1) = true then keptTo p n ++ [n + 1] else keptTo p n := by
  unfold keptTo
  rw [List.range_succ, List.filter_append, List.map_append]
  by_cases c : p (n + 1) = true
  · rw [if_pos c, List.filter_cons_of_pos (p := fun i => p (i + 1)) c, List.filter_nil]
    rfl
  · rw [if_neg c, List.filter_cons_of_neg (p := fun i => p (i + 1)) c, List.filter_nil, List.map_nil, List.append_nil]
theorem kept_len (p : Nat → Bool) (n : Nat) : (keptTo p n).length ≤ n := by
  unfold keptTo
  rw [List.length_map]
  have := List.length_filter_le (fun i => p (i + 1)) (List.range n)
  rw [List.length_range] at this
  exact this
theorem mem_kept {p : Nat → Bool} {n k : Nat} : k ∈ keptTo p n ↔ 1 ≤ k ∧ k ≤ n ∧ p k = true := by
  unfold keptTo
  rw [List.mem_map]
  constructor
  · rintro ⟨i, hi, rfl⟩
    rw [List.mem_filter, List.mem_range] at hi
    exact ⟨by omega, by omega, hi.2⟩
  · rintro ⟨h1, h2, h3⟩
    refine ⟨k - 1, ?_, by omega⟩
    rw [List.mem_filter, List.mem_range, show k - 1 + 1 = k by omega]
    exact ⟨by omega, h3⟩
section
variable {P : Program} {w : World} {K : PySem.W.Frag} {mg : Str → Option Value} {base : Heap} {CI CR : Addr}
def spOptW : Sp := fun vs H Q _ => ∃ (a : Addr) (most : Nat) (tt : Timetable), vs = [.ref a, nat most] ∧ ShipsAt H a tt.ships ∧ Ok8 tt.ships ∧ 1 ≤ most ∧ ∀ H', Same H H' → Q (nat (optimalWaiting tt most)) H'
theorem has_optw (T : Txt K mg CI CR) (D : DefAt K mg "optimal_waiting" 39 ["ships", "most"]) (cO : Has P w K mg base CX0 3 "optimal" spOpt) : Has P w K mg base CX0 4 "optimal_waiting" spOptW := by
  refine has_quiet (N := ["ships", "most"]) D ⟨rfl, rfl, rfl, by decide +kernel, rfl, by decide +kernel, by decide +kernel⟩ (fun vs H Q E h => ?_) ?_
  · obtain ⟨a, most, tt, rfl, _⟩ := h
    rfl
  · rintro f cdv A outer s H vs Q E hr ⟨a, most, tt, rfl, hS, hO, hm, hq⟩
    refine ⟨_, pss_one (ps_ret (pe_ix ix_tup (pe_do cO hr (pa_cons (pv 0) (pa_cons (pv 1) pa_nil))) pe_int (fun _ _ => rfl))), ?_⟩
    refine ⟨_, rfl, _, rfl, a, most, tt, rfl, hS, hO, hm, fun wt r e H' t q s1 ht hq2 _ => ?_⟩
    refine ⟨t, _, _, _, rfl, rfl, SqT.of ht, at_of (j := 0) rfl rfl, ?_⟩
    rw [← optimalWaiting_eq tt e]
    exact hq H' s1
def spFewest : Sp := fun vs H Q _ => ∃ (a : Addr) (limit : Nat) (tt : Timetable), vs = [.ref a, nat limit] ∧ ShipsAt H a tt.ships ∧ Ok8 tt.ships ∧
  ∀ i, i < 8 → optimalWaiting tt (i + 1) ≤ limit → (∀ j, j < i → ¬ optimalWaiting tt (j + 1) ≤ limit) → ∀ H', Same H H' → Q (nat (i + 1)) H'
theorem has_fewest (T : Txt K mg CI CR) (D : DefAt K mg "fewest_within" 40 ["ships", "limit"]) (cO : Has P w K mg base CX0 4 "optimal_waiting" spOptW) : Has P w K mg base CX0 5 "fewest_within" spFewest := by
  have S : FnScope ["ships", "limit", "most"] ["ships", "limit"] (defScope (top 40)) := ⟨rfl, rfl, rfl, by decide +kernel, rfl, by decide +kernel, by decide +kernel⟩
  refine has_quiet D S (fun vs H Q E h => ?_) ?_
  · obtain ⟨a, limit, tt, rfl, _⟩ := h
    rfl
  · rintro f cdv A outer s H vs Q E hr ⟨a, limit, tt, rfl, hS, hO, hq⟩
    refine ⟨_, pss_one (ps_ret (pe_callB (cr_min rfl) (by rfl) T.min (by decide +kernel) (pa_cons
        (pe_lc (own := [("most", 2)]) (g := gName 2) (by rfl) S.nd (pi_range2 (by rfl) T.range (pa_cons (pe_named T.fewest) (pa_cons (pe_op op_add (pe_named T.most) pe_int) pa_nil))) (blkOk_by (own := [("most", 2)]) (N := ["ships", "limit", "most"]) (sc := defScope (top 40)) (by decide +kernel))
          (fun _ _ _ _ _ => pg_name (i := 2) S.nd rfl (Or.inl rfl)) (fun _ _ _ _ _ => pts_one (pt_cmpR op_le (pe_do cO hr (pa_cons (pv 0) (pa_cons (pv 2) pa_nil))) (pv 1) (nomark _))) (fun _ _ _ _ _ => pv 2)) pa_nil))), ?_⟩
    refine ⟨_, _, rfl, rfl, 1, 9, rfl, by decide, fun M hM => ?_⟩
    refine lc_range (lo := 1) (n := 8) (fun i H' => Same H H' ∧ H' M = some (.lst ((toInts (keptTo (fun k => decide (optimalWaiting tt k ≤ limit)) i)).map V.int))) ⟨same_new hM, upd_same⟩ ?_ ?_
    · rintro i H' hi ⟨s1, h1⟩
      refine ⟨rfl, _, rfl, _, rfl, a, i + 1, tt, by rw [show (1 : Int) + (i : Nat) = ((i + 1 : Nat) : Int) by omega], hS.same s1, hO, by omega, fun H2 s2 => ⟨_, rfl, _, _, rfl, rfl, _, rfl, ?_⟩⟩
      rw [kept_more]
      by_cases c : optimalWaiting tt (i + 1) ≤ limit
      · rw [decide_eq_true (Int.ofNat_le.mpr c), if_pos (decide_eq_true c)]
        refine iteT ⟨_, rfl, _, s2 _ _ h1, ?_, snew2 (s1.trans s2) hM, ?_⟩
        · rw [List.length_map]
          show (List.map _ _).length < sizeLine
          rw [List.length_map]
          have := kept_len (fun k => decide (optimalWaiting tt k ≤ limit)) i
          exact small1000 (by omega)
        · rw [upd_same]
          refine congrArg (fun z => some (HO.lst z)) ?_
          show _ ++ [V.int (1 + (i : Nat))] = _
          rw [show (1 : Int) + (i : Nat) = ((i + 1 : Nat) : Int) by omega]
          unfold toInts
          rw [List.map_append, List.map_append]
          rfl
      · rw [decide_eq_false (fun z => c (Int.ofNat_le.mp z)), if_neg (by rw [decide_eq_false c]; decide)]
        exact iteF ⟨s1.trans s2, s2 _ _ h1⟩
    · rintro H' ⟨s1, h1⟩
      obtain ⟨i, _, hi8, hi1, hi2⟩ := fewest_is hO.few limit
      have hmem : i + 1 ∈ keptTo (fun k => decide (optimalWaiting tt k ≤ limit)) 8 := mem_kept.mpr ⟨by omega, by omega, decide_eq_true hi1⟩
      refine ⟨M, _, rfl, SqL.of h1, ?_, fun m hm hle => ?_⟩
      · show 0 < (List.map _ _).length
        rw [List.length_map]
        exact List.length_pos_of_mem hmem
      · have e : m = ((i + 1 : Nat) : Int) := by
          have l1 := hle _ (mem_toInts.mpr ⟨i + 1, hmem, rfl⟩)
          obtain ⟨k, hk, rfl⟩ := mem_toInts.mp hm
          obtain ⟨k1, k2, k3⟩ := mem_kept.mp hk
          have : ¬ k - 1 < i := fun z => hi2 (k - 1) z (by rw [show k - 1 + 1 = k by omega]; exact of_decide_eq_true k3)
          omega
        subst e
        exact hq i hi8 hi1 hi2 H' s1
def spCheapest : Sp := fun vs H Q _ => ∃ (a : Addr) (price : Nat) (tt : Timetable), vs = [.ref a, nat price] ∧ ShipsAt H a tt.ships ∧ Ok8 tt.ships ∧ ¬ tt.ships = [] ∧ price ≤ 999 ∧
  ∀ k, 1 ≤ k → k ≤ 8 → (∀ j, 1 ≤ j → j ≤ 8 → costOf tt price k ≤ costOf tt price j ∧ (j < k → costOf tt price k < costOf tt price j)) → ∀ (H' : Hp) (t : Addr), Same H H' → H' t = some (.tup [nat (costOf tt price k), nat k]) → Q (.ref t) H'
theorem has_cheapest (T : Txt K mg CI CR) (D : DefAt K mg "cheapest" 41 ["ships", "price"]) (cO : Has P w K mg base CX0 4 "optimal_waiting" spOptW) : Has P w K mg base CX0 5 "cheapest" spCheapest := by
  have S : FnScope ["ships", "price", "most"] ["ships", "price"] (defScope (top 41)) := ⟨rfl, rfl, rfl, by decide +kernel, rfl, by decide +kernel, by decide +kernel⟩
  refine has_quiet D S (fun vs H Q E h => ?_) ?_
  · obtain ⟨a, price, tt, rfl, _⟩ := h
    rfl
  · rintro f cdv A outer s H vs Q E hr ⟨a, price, tt, rfl, hS, hO, hne, hpr, hq⟩
    refine ⟨_, pss_one (ps_ret (pe_callB (cr_minD says_ii rfl (by have := hu3 hr; exact Nat.lt_of_le_of_lt (by show _ ≤ _; exact Nat.add_le_add_left (by decide) _) this)) (by rfl) T.min (by decide +kernel) (pa_cons
        (pe_lc (own := [("most", 2)]) (g := gName 2) (by rfl) S.nd (pi_range2 (by rfl) T.range (pa_cons (pe_named T.fewest) (pa_cons (pe_op op_add (pe_named T.most) pe_int) pa_nil))) (blkOk_by (own := [("most", 2)]) (N := ["ships", "price", "most"]) (sc := defScope (top 41)) (by decide +kernel))
          (fun _ _ _ _ _ => pg_name (i := 2) S.nd rfl (Or.inl rfl)) (fun _ _ _ _ _ => pts_nil) (fun _ _ _ _ _ => pe_tup (pa_cons (pe_op op_add (pe_do cO hr (pa_cons (pv 0) (pa_cons (pv 2) pa_nil))) (pe_op op_mul (pv 1) (pv 2))) (pa_cons (pv 2) pa_nil)))) pa_nil))), ?_⟩
    refine ⟨_, _, rfl, rfl, 1, 9, rfl, by decide, fun M hM => ?_⟩
    refine lc_range (lo := 1) (n := 8) (fun i H' => Same H H' ∧ ∃ ys : List V, H' M = some (.lst ys) ∧ Paired (AtII H') ys ((List.range i).map fun i => costPair tt price (i + 1))) ⟨same_new hM, [], upd_same, .nil⟩ ?_ ?_
    · rintro i H' hi ⟨s1, ys, hys, hp⟩
      have e1 := paired_length hp
      rw [List.length_map, List.length_range] at e1
      have ei : (1 : Int) + (i : Nat) = ((i + 1 : Nat) : Int) := by omega
      refine ⟨rfl, _, rfl, _, rfl, a, i + 1, tt, by rw [ei], hS.same s1, hO, by omega, fun H2 s2 => ?_⟩
      refine ⟨_, rfl, _, rfl, _, _, rfl, rfl, .inl ⟨by omega, by omega⟩, _, _, rfl, rfl, _, rfl, by show 2 ≤ sizeLine; decide, fun t ht => ?_⟩
      have s3 := fun o : HO => snew s2 (o := o) ht
      refine ⟨ys, s3 _ _ _ hys, small1000 (by omega), snew2 (s1.trans (s3 _)) hM, _, upd_same, ?_⟩
      rw [List.range_succ, List.map_append]
      refine paired_app (ii_upd (s3 _ _ _ hys) (paired_mono (fun _ _ z => AtII.same (s3 _) z) hp)) (.cons ⟨t, rfl, ?_⟩ .nil)
      have ec : ((optimalWaiting tt (i + 1) : Nat) : Int) + (price : Int) * ((i + 1 : Nat) : Int) = ((costOf tt price (i + 1) : Nat) : Int) := by
        unfold costOf
        rw [Int.natCast_add (optimalWaiting tt (i + 1)), Int.natCast_mul]
      rw [upd_ne (Ne.symm (ne_of_none (s2 _ _ hys) ht)), upd_same, ei]
      exact congrArg (fun z => some (HO.tup [V.int z, V.int ((i + 1 : Nat) : Int)])) ec
    · rintro H' ⟨s1, ys, hys, hp⟩
      obtain ⟨k, k1, k2, _, hb⟩ := cheapest_is (tt := tt) price (fun z => hne (List.length_eq_zero_iff.mp z))
      obtain ⟨d, ds, e⟩ := map_head (f := fun i => costPair tt price (i + 1)) (l := List.range 8) (x := 0) (by decide)
      rw [e] at hp
      refine ⟨M, ys, d, ds, rfl, SqL.of hys, hp, fun v hv => ?_⟩
      rw [min_cost k1 k2 hb e] at hv
      obtain ⟨t, rfl, ht⟩ := hv
      exact hq k k1 k2 hb H' t s1 ht
end
end Cv
/-! # reports.py -/
namespace Cv
open PySem PySem.Spec PyProof.Rows L2
open Km561 (Ship Timetable toInts insertHour optimalWaiting)
theorem ok8 {tt : Timetable} (hV : Valid tt) : Ok8 tt.ships := ⟨hV.few, fun s hs => (hV.ok s hs).2.2⟩
theorem pe_fldK {X : Cx} {K : PySem.W.Frag} {e : Expr} {f : Str} {pos : Pos} {ta : TE} (h : X.K = K) (he : PE X e ta) (hb : attributeBase e f X.env (eval e X.env) = eval e X.env) : PE X (.Attribute e f pos) (tFld K ta f) := by
  subst h
  exact pe_fld he hb
theorem flat_ships (ships : List Ship) : (ships.flatMap fun s => [nat s.arrival, nat s.weight]) = (ships.flatMap fun s => [(s.arrival : Int), (s.weight : Int)]).map V.int := by
  rw [List.map_flatMap]
  rfl
theorem flat_len (ships : List Ship) : (ships.flatMap fun s => [nat s.arrival, nat s.weight]).length = 2 * ships.length := by
  induction ships with
  | nil => rfl
  | cons s r ih =>
    rw [List.flatMap_cons, List.length_append, ih]
    show 2 + 2 * r.length = 2 * (r.length + 1)
    omega
section
variable {P : Program} {w : World} {K : PySem.W.Frag} {mg : Str → Option Value} {base : Heap} {CI CR : Addr}
def spTotal (CR : Addr) : Sp := fun vs H Q E => ∃ (a b : Addr) (ships : List Ship) (ds : List Nat), vs = [.ref a, .ref b] ∧ ShipsAt H a ships ∧ Ok8 ships ∧ NatsAt H b ds ∧
  (servedBy ships ds = false → Bad CR E H (-33)) ∧ (servedBy ships ds = true → ∀ H', Same H H' → Q (nat (totalOf ships ds)) H')
theorem has_total (T : Txt K mg CI CR) (RI : RefInit P w K mg base CR) (D : DefAt K mg "told_total" 43 ["ships", "departures"]) (cS : Has P w K mg base CX0 2 "are_all_served" spServed) (cW : Has P w K mg base CX0 2 "sum_of_waiting" spSum) :
    Has P w K mg base (L2.CX P w) 3 "told_total" (spTotal CR) := by
  refine has_loud (N := ["ships", "departures"]) D ⟨rfl, rfl, rfl, by decide +kernel, rfl, by decide +kernel, by decide +kernel⟩ (fun vs H Q E h => ?_) ?_
  · obtain ⟨a, b, ships, ds, rfl, _⟩ := h
    rfl
  · rintro f cdv A outer s H vs Q E hr ⟨a, b, ships, ds, rfl, hS, hO, hD, hbad, hok⟩
    refine ⟨_, pss_cons (ps_if (pt_not (pt_val (pe_do cS hr (pa_cons (pv 0) (pa_cons (pv 1) pa_nil))))) (pss_one (ps_refuse T.ref RI rfl (takes_of rfl rfl rfl rfl) hr T.notServed)) pss_nil)
      (pss_one (ps_ret (pe_do cW hr (pa_cons (pv 0) (pa_cons (pv 1) pa_nil))))), ?_⟩
    refine ⟨_, rfl, _, rfl, a, b, ships, ds, rfl, hS, hO.few, hD, fun H1 s1 => ⟨_, rfl, ?_⟩⟩
    cases c : servedBy ships ds with
    | false => exact iteT ((hbad c).same s1)
    | true =>
      refine iteF ⟨_, rfl, _, rfl, a, b, ships, ds, rfl, hS.same s1, hO.few, hO.light, hD.same s1, c, fun H2 s2 => ?_⟩
      exact hok c H2 (s1.trans s2)
def spTold (CR : Addr) : Sp := fun vs H Q E => ∃ (b : Addr) (ds : List Nat) (h : Nat), vs = [.ref b, nat h] ∧ NatsAt H b ds ∧ (depFrom ds h = none → Bad CR E H (-33)) ∧ (∀ d, depFrom ds h = some d → Q (nat d) H)
theorem has_told (T : Txt K mg CI CR) (RI : RefInit P w K mg base CR) (D : DefAt K mg "told_departure" 44 ["departures", "hour"]) (cD : Has P w K mg base CX0 1 "departure_from" (spDep K)) :
    Has P w K mg base (L2.CX P w) 3 "told_departure" (spTold CR) := by
  have S : FnScope ["departures", "hour", "departure"] ["departures", "hour"] (defScope (top 44)) := ⟨rfl, rfl, rfl, by decide +kernel, rfl, by decide +kernel, by decide +kernel⟩
  refine has_loud D S (fun vs H Q E h => ?_) ?_
  · obtain ⟨b, ds, h, rfl, _⟩ := h
    rfl
  · rintro f cdv A outer s H vs Q E hr ⟨b, ds, h, rfl, hD, hbad, hok⟩
    refine ⟨_, pss_cons (ps_set (i := 2) S.nd rfl (.inl rfl) (pe_do cD hr (pa_cons (pv 0) (pa_cons (pv 1) pa_nil))))
      (pss_cons (ps_if (pt_cmpR op_isN (pv 2) pe_non (nomark _)) (pss_one (ps_refuse T.ref RI rfl (takes_of rfl rfl rfl rfl) hr T.notServed)) pss_nil)
      (pss_one (ps_ret (pv 2)))), ?_⟩
    refine ⟨_, rfl, _, rfl, b, ds, h, rfl, hD, _, rfl, rfl, _, rfl, ?_⟩
    cases c : depFrom ds h with
    | none => exact iteT (hbad c)
    | some d => exact iteF ⟨_, rfl, hok d c⟩
/-! ### the operations that tell -/
theorem has_list_ships (T : Txt K mg CI CR) (D : DefAt K mg "list_ships" 45 ["instance", "numbers"]) : Has P w K mg base (L2.CX P w) 7 "list_ships" (spDeed0 CI CR .listShips) := by
  have S : FnScope ["instance", "numbers", "found", "arrival", "weight"] ["instance", "numbers"] (defScope (top 45)) := ⟨rfl, rfl, rfl, by decide +kernel, rfl, by decide +kernel, by decide +kernel⟩
  refine has_loud D S (fun vs H Q E h => ?_) ?_
  · obtain ⟨i, p, tt, rfl, _⟩ := h
    rfl
  · rintro f cdv A outer s H vs Q E hr ⟨i, p, tt, rfl, hI, hV, hgo⟩
    refine ⟨_, PSs.nox (pss_cons (ps_set (i := 2) S.nd rfl (.inl rfl) (pe_lst (pa_cons (pe_callB call_len_seq (by rfl) T.len PySem.boot_len (pa_cons (pe_fld (pv 0) rfl) pa_nil)) pa_nil)))
      (pss_cons (ps_for PassesOwn.never rfl (pi_list (pe_fld (pv 0) rfl)) (pg_tup (by rfl) (pgs_cons (pg_name (i := 3) S.nd rfl (.inl rfl)) (pgs_cons (pg_name (i := 4) S.nd rfl (.inl rfl)) pgs_nil)))
        (pss_one (ps_expr (pe_bm PySem.F.plainAttrs_list PySem.F.slot_list_extend PySem.F.type_list_extend mt_extend (pv 2) (pa_cons (pe_lst (pa_cons (pv 3) (pa_cons (pv 4) pa_nil))) pa_nil)))))
      (pss_one (ps_ret (pv 2))))), ?_⟩
    have hI0 := hI
    obtain ⟨dx, a, b, hi, ⟨vs, hvs, hp⟩, hD⟩ := hI
    have hl := paired_length hp
    refine ⟨_, rfl, i, CI, dx, _, _, rfl, hi, T.cl, T.nS, lk_S a b, a, vs, rfl, .inl (SqL.of hvs), by show 1 ≤ sizeLine; decide, fun L hL => ?_⟩
    have s0 : Same H _ := same_new (o := .lst [.int vs.length]) hL
    refine ⟨_, rfl, i, CI, dx, _, _, rfl, s0 _ _ hi, T.cl, T.nS, lk_S a b, a, rfl, ⟨_, SqL.of (s0 _ _ hvs)⟩, for_list (K := K) (a := a) (xs := vs) (fun j σ H' => Same H H' ∧ (∃ u1 u2 : Option V, σ = [some (.ref i), some (.ref p), some (.ref L), u1, u2]) ∧
      H' L = some (.lst (nat tt.ships.length :: (tt.ships.take j).flatMap fun s => [nat s.arrival, nat s.weight]))) ⟨s0, ⟨none, none, rfl⟩, by rw [upd_same, hl]; rfl⟩ (fun j σ H' _ z => SqL.of (z.1 _ _ hvs)) ?_ ?_⟩
    · rintro j v σ H' hj ⟨s1, ⟨u1, u2, rfl⟩, h1⟩
      obtain ⟨sh, hs, t, rfl, ht⟩ := paired_at hp hj
      refine ⟨t, _, rfl, SqT.of (s1 _ _ ht), rfl, _, _, rfl, _, _, rfl, rfl, ?_⟩
      refine ⟨_, rfl, .inl ⟨rfl, _, SqL.of h1⟩, _, rfl, _, rfl, by show 2 ≤ sizeLine; decide, fun l hl2 => ?_⟩
      have s2 := snew s1 (o := .lst [nat sh.arrival, nat sh.weight]) hl2
      refine ⟨L, l, _, _, rfl, rfl, same_new hl2 _ _ h1, upd_same, ?_, snew2 s2 hL, ⟨_, _, rfl⟩, ?_⟩
      · rw [List.length_cons, flat_len, List.length_take]
        have := hV.few
        exact line8 (by show _ + 1 + 2 ≤ 1000; omega)
      · rw [upd_same, take_at hs, List.flatMap_append, List.cons_append]
        rfl
    · rintro σ H' ⟨s1, ⟨u1, u2, rfl⟩, h1⟩
      rw [hl, List.take_length, flat_ships] at h1
      exact ⟨_, rfl, hgo.stay hI0 st_list s1 hL h1⟩
theorem has_list_departures (T : Txt K mg CI CR) (D : DefAt K mg "list_departures" 46 ["instance", "numbers"]) : Has P w K mg base (L2.CX P w) 7 "list_departures" (spDeed0 CI CR .listDepartures) := by
  refine has_loud (N := ["instance", "numbers"]) D ⟨rfl, rfl, rfl, by decide +kernel, rfl, by decide +kernel, by decide +kernel⟩ (fun vs H Q E h => ?_) ?_
  · obtain ⟨i, p, tt, rfl, _⟩ := h
    rfl
  · rintro f cdv A outer s H vs Q E hr ⟨i, p, tt, rfl, hI, hV, hgo⟩
    refine ⟨_, pss_one (ps_ret (pe_op op_cat (pe_lst (pa_cons (pe_callB call_len_seq (by rfl) T.len PySem.boot_len (pa_cons (pe_fld (pv 0) rfl) pa_nil)) pa_nil)) (pe_fld (pv 0) rfl))), ?_⟩
    have hI0 := hI
    obtain ⟨dx, a, b, hi, hS, hD⟩ := hI
    refine ⟨_, rfl, i, CI, dx, _, _, rfl, hi, T.cl, T.nD, lk_D a b, b, _, rfl, .inl (SqL.of hD), by show 1 ≤ sizeLine; decide, fun L hL => ?_⟩
    have s0 : Same H _ := same_new (o := .lst [.int (tt.departures.map nat).length]) hL
    refine ⟨_, rfl, i, CI, dx, _, _, rfl, s0 _ _ hi, T.cl, T.nD, lk_D a b, L, b, _, _, rfl, rfl, upd_same, hD.same s0, ?_, fun q hq => ?_⟩
    · rw [List.length_map]
      have := hV.deps
      exact line8 (by show 1 + _ ≤ 1000; omega)
    · refine hgo.stay hI0 st_ldep (snew s0 hq) (Same.free s0 hq) ?_
      rw [upd_same, List.length_map, ints_map]
      rfl
theorem has_all_served (T : Txt K mg CI CR) (D : DefAt K mg "all_served" 47 ["instance", "numbers"]) (cS : Has P w K mg base CX0 2 "are_all_served" spServed) : Has P w K mg base (L2.CX P w) 7 "all_served" (spDeed0 CI CR .allServed) := by
  refine has_loud (N := ["instance", "numbers"]) D ⟨rfl, rfl, rfl, by decide +kernel, rfl, by decide +kernel, by decide +kernel⟩ (fun vs H Q E h => ?_) ?_
  · obtain ⟨i, p, tt, rfl, _⟩ := h
    rfl
  · rintro f cdv A outer s H vs Q E hr ⟨i, p, tt, rfl, hI, hV, hgo⟩
    refine ⟨_, pss_one (ps_ret (pe_lst (pa_cons (pe_callTy call_int1 (by rfl) T.int (by decide +kernel) (pa_cons (pe_do cS hr (pa_cons (pe_fld (pv 0) rfl) (pa_cons (pe_fld (pv 0) rfl) pa_nil))) pa_nil)) pa_nil))), ?_⟩
    have hI0 := hI
    obtain ⟨dx, a, b, hi, hS, hD⟩ := hI
    refine ⟨_, rfl, i, CI, dx, _, _, rfl, hi, T.cl, T.nS, lk_S a b, _, rfl, i, CI, dx, _, _, rfl, hi, T.cl, T.nD, lk_D a b, a, b, tt.ships, tt.departures, rfl, hS, hV.few, hD, fun H1 s1 => .inr ⟨_, rfl, by show 1 ≤ sizeLine; decide, fun l hl => ?_⟩⟩
    refine hgo.stay hI0 (st_all hV) (snew s1 hl) (Same.free s1 hl) ?_
    rw [upd_same]
    refine congrArg (fun z => some (HO.lst z)) (one_int ?_)
    cases servedBy tt.ships tt.departures <;> rfl
theorem has_total_waiting (T : Txt K mg CI CR) (D : DefAt K mg "total_waiting" 48 ["instance", "numbers"]) (cT : Has P w K mg base (L2.CX P w) 3 "told_total" (spTotal CR)) : Has P w K mg base (L2.CX P w) 7 "total_waiting" (spDeed0 CI CR .totalWaiting) := by
  refine has_loud (N := ["instance", "numbers"]) D ⟨rfl, rfl, rfl, by decide +kernel, rfl, by decide +kernel, by decide +kernel⟩ (fun vs H Q E h => ?_) ?_
  · obtain ⟨i, p, tt, rfl, _⟩ := h
    rfl
  · rintro f cdv A outer s H vs Q E hr ⟨i, p, tt, rfl, hI, hV, hgo⟩
    refine ⟨_, pss_one (ps_ret (pe_lst (pa_cons (pe_doX cT hr (takes_of rfl rfl rfl rfl) (pa_cons (pe_fld (pv 0) rfl) (pa_cons (pe_fld (pv 0) rfl) pa_nil))) pa_nil))), ?_⟩
    have hI0 := hI
    obtain ⟨dx, a, b, hi, hS, hD⟩ := hI
    refine ⟨_, rfl, i, CI, dx, _, _, rfl, hi, T.cl, T.nS, lk_S a b, _, rfl, i, CI, dx, _, _, rfl, hi, T.cl, T.nD, lk_D a b, a, b, tt.ships, tt.departures, rfl, hS, ok8 hV, hD, fun c => hgo.2 _ (st_tot_bad hV c), fun c H1 s1 => ⟨by show 1 ≤ sizeLine; decide, fun l hl => ?_⟩⟩
    exact hgo.stay hI0 (st_tot hV c) (snew s1 hl) (Same.free s1 hl) upd_same
theorem has_waiting_time (T : Txt K mg CI CR) (D : DefAt K mg "waiting_time" 49 ["instance", "numbers"]) (cS : Has P w K mg base (L2.CX P w) 3 "check_ship" (spCheckShip CI CR)) (cT : Has P w K mg base (L2.CX P w) 3 "told_departure" (spTold CR)) :
    Has P w K mg base (L2.CX P w) 7 "waiting_time" (spDeed1 CI CR .waitingTime) := by
  have S : FnScope ["instance", "numbers", "arrival", "weight", "departure"] ["instance", "numbers"] (defScope (top 49)) := ⟨rfl, rfl, rfl, by decide +kernel, rfl, by decide +kernel, by decide +kernel⟩
  refine has_loud D S (fun vs H Q E h => ?_) ?_
  · obtain ⟨i, p, x, tt, rfl, _⟩ := h
    rfl
  · rintro f cdv A outer s H vs Q E hr ⟨i, p, x, tt, rfl, hI, hV, hp, hgo⟩
    refine ⟨_, pss_cons (ps_expr (pe_doX cS hr (takes_of rfl rfl rfl rfl) (pa_cons (pv 0) (pa_cons (pe_ix ix_list (pv 1) pe_int (fun _ _ => rfl)) pa_nil))))
      (pss_cons (ps_asg (pe_ix ix_list (pe_fld (pv 0) rfl) (pe_ix ix_list (pv 1) pe_int (fun _ _ => rfl)) (fun _ _ => rfl)) (pg_tup (by rfl) (pgs_cons (pg_name (i := 2) S.nd rfl (.inl rfl)) (pgs_cons (pg_name (i := 3) S.nd rfl (.inl rfl)) pgs_nil))))
      (pss_cons (ps_set (i := 4) S.nd rfl (.inl rfl) (pe_doX cT hr (takes_of rfl rfl rfl rfl) (pa_cons (pe_fld (pv 0) rfl) (pa_cons (pv 2) pa_nil))))
      (pss_one (ps_ret (pe_lst (pa_cons (pe_op op_sub (pv 4) (pv 2)) (pa_cons (pv 4) pa_nil))))))), ?_⟩
    have hI0 := hI
    obtain ⟨dx, a, b, hi, hS, hD⟩ := hI
    refine ⟨_, rfl, _, rfl, p, _, _, _, rfl, rfl, SqL.of hp, at_of (j := 0) rfl rfl, i, x, tt, rfl, hI0, fun c => hgo.2 _ (st_wt_bad c), fun c => ?_⟩
    obtain ⟨vs, hvs, hp2⟩ := hS
    obtain ⟨s, hs⟩ : ∃ s, tt.ships[x]? = some s := ⟨_, List.getElem?_eq_getElem (by omega)⟩
    obtain ⟨v, hv, t, rfl, ht⟩ := paired_back hp2 hs
    refine ⟨_, rfl, i, CI, dx, _, _, rfl, hi, T.cl, T.nS, lk_S a b, _, rfl, p, _, _, _, rfl, rfl, SqL.of hp, at_of (j := 0) rfl rfl, a, vs, _, _, rfl, rfl, SqL.of hvs, at_of rfl hv, t, _, rfl, SqT.of ht, rfl, _, _, rfl, _, _, rfl, rfl, ?_⟩
    refine ⟨_, rfl, i, CI, dx, _, _, rfl, hi, T.cl, T.nD, lk_D a b, _, rfl, b, tt.departures, s.arrival, rfl, hD, fun e => hgo.2 _ (st_wt_no hV c hs e), fun d e => ?_⟩
    refine ⟨_, rfl, _, rfl, _, _, rfl, rfl, _, rfl, by show 2 ≤ sizeLine; decide, fun l hl => ?_⟩
    refine hgo.stay hI0 (st_wt hV c hs e) (same_new hl) hl ?_
    rw [upd_same]
    exact congrArg (fun z => some (HO.lst [V.int z, V.int (d : Nat)])) (Int.ofNat_sub (dep_le e)).symm
theorem has_longest_waiting (T : Txt K mg CI CR) (RI : RefInit P w K mg base CR) (D : DefAt K mg "longest_waiting" 50 ["instance", "numbers"]) (cL : Has P w K mg base CX0 2 "longest_of" (spLong K)) :
    Has P w K mg base (L2.CX P w) 7 "longest_waiting" (spDeed0 CI CR .longestWaiting) := by
  have S : FnScope ["instance", "numbers", "ship", "greatest"] ["instance", "numbers"] (defScope (top 50)) := ⟨rfl, rfl, rfl, by decide +kernel, rfl, by decide +kernel, by decide +kernel⟩
  refine has_loud D S (fun vs H Q E h => ?_) ?_
  · obtain ⟨i, p, tt, rfl, _⟩ := h
    rfl
  · rintro f cdv A outer s H vs Q E hr ⟨i, p, tt, rfl, hI, hV, hgo⟩
    refine ⟨_, pss_cons (ps_asg (pe_do cL hr (pa_cons (pe_fld (pv 0) rfl) (pa_cons (pe_fld (pv 0) rfl) pa_nil))) (pg_tup (by rfl) (pgs_cons (pg_name (i := 2) S.nd rfl (.inl rfl)) (pgs_cons (pg_name (i := 3) S.nd rfl (.inl rfl)) pgs_nil))))
      (pss_cons (ps_if (pt_cmpR op_isN (pv 2) pe_non (nomark _)) (pss_one (ps_refuse T.ref RI rfl (takes_of rfl rfl rfl rfl) hr T.notServed)) pss_nil)
      (pss_one (ps_ret (pe_lst (pa_cons (pv 2) (pa_cons (pv 3) pa_nil)))))), ?_⟩
    have hI0 := hI
    obtain ⟨dx, a, b, hi, hS, hD⟩ := hI
    refine ⟨_, rfl, i, CI, dx, _, _, rfl, hi, T.cl, T.nS, lk_S a b, _, rfl, i, CI, dx, _, _, rfl, hi, T.cl, T.nD, lk_D a b, a, b, tt.ships, tt.departures, rfl, hS, hD, fun H1 t s1 ht => ?_⟩
    refine ⟨t, _, rfl, SqT.of ht, rfl, _, _, rfl, _, _, rfl, rfl, _, rfl, rfl, _, rfl, ?_⟩
    cases c : longOf tt.ships tt.departures tt.ships.length with
    | none => exact iteT ((hgo.2 _ (st_long_no hV c)).same s1)
    | some o =>
      refine iteF ⟨_, rfl, _, rfl, by show 2 ≤ sizeLine; decide, fun l hl => ?_⟩
      exact hgo.stay hI0 (st_long hV c) (snew s1 hl) (Same.free s1 hl) upd_same
theorem has_total_with (T : Txt K mg CI CR) (D : DefAt K mg "total_waiting_with" 51 ["instance", "numbers"]) (cH : Has P w K mg base (L2.CX P w) 3 "check_hour" (spCheckHour CR)) (cT : Has P w K mg base (L2.CX P w) 3 "told_total" (spTotal CR)) :
    Has P w K mg base (L2.CX P w) 7 "total_waiting_with" (spDeed1 CI CR .totalWaitingWith) := by
  refine has_loud (N := ["instance", "numbers"]) D ⟨rfl, rfl, rfl, by decide +kernel, rfl, by decide +kernel, by decide +kernel⟩ (fun vs H Q E h => ?_) ?_
  · obtain ⟨i, p, x, tt, rfl, _⟩ := h
    rfl
  · rintro f cdv A outer s H vs Q E hr ⟨i, p, x, tt, rfl, hI, hV, hp, hgo⟩
    refine ⟨_, pss_cons (ps_expr (pe_doX cH hr (takes_of rfl rfl rfl rfl) (pa_cons (pe_ix ix_list (pv 1) pe_int (fun _ _ => rfl)) pa_nil)))
      (pss_one (ps_ret (pe_lst (pa_cons (pe_doX cT hr (takes_of rfl rfl rfl rfl) (pa_cons (pe_fld (pv 0) rfl) (pa_cons (pe_callB cr_sorted (by rfl) T.sorted (by decide +kernel) (pa_cons (pe_op op_cat (pe_fld (pv 0) rfl) (pe_lst (pa_cons (pe_ix ix_list (pv 1) pe_int (fun _ _ => rfl)) pa_nil))) pa_nil)) pa_nil))) pa_nil)))), ?_⟩
    have hI0 := hI
    obtain ⟨dx, a, b, hi, hS, hD⟩ := hI
    refine ⟨_, rfl, p, _, _, _, rfl, rfl, SqL.of hp, at_of (j := 0) rfl rfl, x, rfl, fun c => hgo.2 _ (st_tw_late c), fun c1 => ?_⟩
    refine ⟨_, rfl, i, CI, dx, _, _, rfl, hi, T.cl, T.nS, lk_S a b, ?_⟩
    refine ⟨_, rfl, i, CI, dx, _, _, rfl, hi, T.cl, T.nD, lk_D a b, _, rfl, p, _, _, _, rfl, rfl, SqL.of hp, at_of (j := 0) rfl rfl, by show 1 ≤ sizeLine; decide, fun l hl => ?_⟩
    have s1 : Same H _ := same_new (o := .lst [nat x]) hl
    refine ⟨b, l, _, _, rfl, rfl, s1 _ _ hD, upd_same, line8 (by rw [List.length_map]; have := hV.deps; show _ + 1 ≤ 1000; omega), fun q hq => ?_⟩
    have s2 := snew s1 (o := .lst (tt.departures.map nat ++ [nat x])) hq
    refine ⟨q, toInts (tt.departures ++ [x]), rfl, SqL.of ?_, ?_, fun ns r hperm hrise hr2 => ?_⟩
    · rw [upd_same, ← ints_list, List.map_append]
      rfl
    · show (List.map _ _).length < 64
      rw [List.length_map, List.length_append]
      have := hV.deps
      show _ + 1 < 64
      omega
    obtain ⟨m, rfl, hm1, hm2⟩ := sort_nats hperm hrise
    have hmm : ∀ y, y ∈ m ↔ y ∈ tt.departures ∨ y = x := fun y => by rw [hm1.mem_iff, List.mem_append, List.mem_singleton]
    rw [← ints_list] at *
    have s3 := snew s2 (o := .lst (m.map nat)) hr2
    refine ⟨a, r, tt.ships, m, rfl, hS.same s3, ok8 hV, upd_same, fun c => (hgo.2 _ (st_tw_bad hV c1 hm2 hmm c)).same s3, fun c H1 s4 => ⟨by show 1 ≤ sizeLine; decide, fun z hz => ?_⟩⟩
    exact hgo.stay hI0 (st_tw hV c1 hm2 hmm c) (snew (s3.trans s4) hz) (Same.free (s3.trans s4) hz) upd_same
theorem has_next (T : Txt K mg CI CR) (D : DefAt K mg "next_departure" 52 ["instance", "numbers"]) (cT : Has P w K mg base (L2.CX P w) 3 "told_departure" (spTold CR)) : Has P w K mg base (L2.CX P w) 7 "next_departure" (spDeed1 CI CR .nextDeparture) := by
  refine has_loud (N := ["instance", "numbers"]) D ⟨rfl, rfl, rfl, by decide +kernel, rfl, by decide +kernel, by decide +kernel⟩ (fun vs H Q E h => ?_) ?_
  · obtain ⟨i, p, x, tt, rfl, _⟩ := h
    rfl
  · rintro f cdv A outer s H vs Q E hr ⟨i, p, x, tt, rfl, hI, hV, hp, hgo⟩
    refine ⟨_, pss_one (ps_ret (pe_lst (pa_cons (pe_doX cT hr (takes_of rfl rfl rfl rfl) (pa_cons (pe_fld (pv 0) rfl) (pa_cons (pe_ix ix_list (pv 1) pe_int (fun _ _ => rfl)) pa_nil))) pa_nil))), ?_⟩
    have hI0 := hI
    obtain ⟨dx, a, b, hi, hS, hD⟩ := hI
    refine ⟨_, rfl, i, CI, dx, _, _, rfl, hi, T.cl, T.nD, lk_D a b, _, rfl, p, _, _, _, rfl, rfl, SqL.of hp, at_of (j := 0) rfl rfl, b, tt.departures, x, rfl, hD, fun e => hgo.2 _ (st_nd_no hV e), fun d e => ⟨by show 1 ≤ sizeLine; decide, fun l hl => ?_⟩⟩
    exact hgo.stay hI0 (st_nd hV e) (same_new hl) hl upd_same
theorem has_per_departure (T : Txt K mg CI CR) (D : DefAt K mg "ships_per_departure" 53 ["instance", "numbers"]) (cL : Has P w K mg base CX0 2 "ships_leaving" spLeaving) : Has P w K mg base (L2.CX P w) 7 "ships_per_departure" (spDeed0 CI CR .shipsPerDeparture) := by
  have S : FnScope ["instance", "numbers", "departures", "hour"] ["instance", "numbers"] (defScope (top 53)) := ⟨rfl, rfl, rfl, by decide +kernel, rfl, by decide +kernel, by decide +kernel⟩
  refine has_loud D S (fun vs H Q E h => ?_) ?_
  · obtain ⟨i, p, tt, rfl, _⟩ := h
    rfl
  · rintro f cdv A outer s H vs Q E hr ⟨i, p, tt, rfl, hI, hV, hgo⟩
    refine ⟨_, pss_cons (ps_set (i := 2) S.nd rfl (.inr rfl) (pe_fld (pv 0) rfl))
      (pss_one (ps_ret (pe_op op_cat (pe_lst (pa_cons (pe_callB call_len_seq (by rfl) T.len PySem.boot_len (pa_cons (pv 2) pa_nil)) pa_nil))
        (pe_lc (own := [("hour", 3)]) (g := gName 3) (by rfl) S.nd (pi_list (pv 2)) (blkOk_by (own := [("hour", 3)]) (N := ["instance", "numbers", "departures", "hour"]) (sc := defScope (top 53)) (by decide +kernel))
          (fun _ _ _ _ _ => pg_name (i := 3) S.nd rfl (Or.inl rfl)) (fun _ _ _ _ _ => pts_nil) (fun _ _ _ _ _ => pe_do cL hr (pa_cons (pe_fldK (K := K) rfl (pv 0) rfl) (pa_cons (pv 2) (pa_cons (pv 3) pa_nil)))))))), ?_⟩
    have hI0 := hI
    obtain ⟨dx, a, b, hi, hS, hD⟩ := hI
    refine ⟨_, rfl, i, CI, dx, _, _, rfl, hi, T.cl, T.nD, lk_D a b, _, rfl, b, _, rfl, .inl (SqL.of hD), by show 1 ≤ sizeLine; decide, fun l hl => ?_⟩
    have s0 : Same H _ := same_new (o := .lst [.int (tt.departures.map nat).length]) hl
    refine ⟨_, rfl, b, rfl, ⟨_, SqL.of (hD.same s0)⟩, fun L hL => ?_⟩
    refine lc_list (K := K) (a := b) (xs := tt.departures.map nat) (fun j H' => Same (upd H l (.lst [.int (tt.departures.map nat).length])) H' ∧ H' L = some (.lst (((tt.departures.take j).map (leavingOf tt.ships tt.departures)).map nat))) ⟨same_new hL, upd_same⟩ (fun j H' _ z => SqL.of (z.1 _ _ (hD.same s0))) ?_ ?_
    · rintro j v H' hj ⟨s1, h1⟩
      obtain ⟨d, hd, rfl⟩ := map_at hj
      have s01 := s0.trans s1
      refine ⟨rfl, _, rfl, i, CI, dx, _, _, rfl, s01 _ _ hi, T.cl, T.nS, lk_S a b, _, rfl, _, rfl, a, b, tt.ships, tt.departures, d, rfl, hS.same s01, hV.few, hD.same s01, fun H2 s2 => ⟨_, s2 _ _ h1, ?_, snew2 (s1.trans s2) hL, ?_⟩⟩
      · rw [List.length_map, List.length_map, List.length_take]
        have := hV.deps
        exact small1000 (by omega)
      · rw [upd_same, take_at hd, List.map_append, List.map_append]
        rfl
    · rintro H' ⟨s1, h1⟩
      rw [List.length_map, List.take_length] at h1
      refine ⟨l, L, _, _, rfl, rfl, s1 _ _ upd_same, h1, ?_, fun q hq => ?_⟩
      · show 1 + (List.map _ _).length ≤ sizeLine
        rw [List.length_map, List.length_map]
        have := hV.deps
        exact line8 (by omega)
      · refine hgo.stay hI0 (st_spd hV) (snew (s0.trans s1) hq) (Same.free (s0.trans s1) hq) ?_
        rw [upd_same, List.length_map, ints_map]
        rfl
theorem has_summary (T : Txt K mg CI CR) (D : DefAt K mg "summary" 54 ["instance", "numbers"]) (cA : Has P w K mg base CX0 1 "arrival_hours" spHours) : Has P w K mg base (L2.CX P w) 7 "summary" (spDeed0 CI CR .summary) := by
  refine has_loud (N := ["instance", "numbers"]) D ⟨rfl, rfl, rfl, by decide +kernel, rfl, by decide +kernel, by decide +kernel⟩ (fun vs H Q E h => ?_) ?_
  · obtain ⟨i, p, tt, rfl, _⟩ := h
    rfl
  · rintro f cdv A outer s H vs Q E hr ⟨i, p, tt, rfl, hI, hV, hgo⟩
    refine ⟨_, pss_one (ps_ret (pe_lst (pa_cons (pe_callB call_len_seq (by rfl) T.len PySem.boot_len (pa_cons (pe_fld (pv 0) rfl) pa_nil)) (pa_cons (pe_callB call_len_seq (by rfl) T.len PySem.boot_len (pa_cons (pe_do cA hr (pa_cons (pe_fld (pv 0) rfl) pa_nil)) pa_nil))
      (pa_cons (pe_callB call_len_seq (by rfl) T.len PySem.boot_len (pa_cons (pe_fld (pv 0) rfl) pa_nil)) pa_nil))))), ?_⟩
    have hI0 := hI
    obtain ⟨dx, a, b, hi, hS, hD⟩ := hI
    have hS0 := hS
    obtain ⟨vs, hvs, hp⟩ := hS
    have hl := paired_length hp
    refine ⟨_, rfl, i, CI, dx, _, _, rfl, hi, T.cl, T.nS, lk_S a b, a, vs, rfl, .inl (SqL.of hvs), ?_⟩
    refine ⟨_, rfl, i, CI, dx, _, _, rfl, hi, T.cl, T.nS, lk_S a b, a, tt.ships, rfl, hS0, hV.few, fun H1 q s1 hq => ⟨q, _, rfl, .inl (SqL.of hq), ?_⟩⟩
    refine ⟨_, rfl, i, CI, dx, _, _, rfl, s1 _ _ hi, T.cl, T.nD, lk_D a b, b, _, rfl, .inl (SqL.of (hD.same s1)), by show 3 ≤ sizeLine; decide, fun l hl2 => ?_⟩
    refine hgo.stay hI0 st_sum (snew s1 hl2) (Same.free s1 hl2) ?_
    rw [upd_same, hl, List.length_map, List.length_map]
    rfl
end
end Cv
/-! # advice.py -/
namespace Cv
open PySem PySem.Spec PyProof.Rows L2
open Km561 (Ship Timetable toInts insertHour optimalWaiting)
/-! ### == of two lists of data -/
def rEqList {α : Type} [DecidableEq α] (At : Hp → V → α → Prop) : R2 := fun x y H Q => ∃ (a b : Addr) (xs ys : List V) (ds es : List α), x = .ref a ∧ y = .ref b ∧ H a = some (.lst xs) ∧ H b = some (.lst ys) ∧ Paired (At H) xs ds ∧ Paired (At H) ys es ∧ Q (.bl (decide (ds = es))) H
theorem op_eqList {X : Cx} {α : Type} [DecidableEq α] [PySem.W.DatumOrd α] {At : Hp → V → α → Prop} (S : Says X α At) (hu : X.A.units + (PySem.W.Datum.depth α + 1) < cLine) : OpR X (compareOp .Eq) (rEqList At) := by
  intro pins s σ H x y v u Q I rx ry h
  obtain ⟨a, b, xs, ys, ds, es, rfl, rfl, ha, hb, hp, hp2, q⟩ := h
  cases rx
  cases ry
  obtain ⟨i1, r1, l1, _⟩ := I.list (SqL.of ha)
  obtain ⟨i2, r2, l2, _⟩ := I.list (SqL.of hb)
  have A1 : PySem.W.HoldAll s.heap i1.toArray.toList ds := by simpa using says_all S I r1 hp
  have A2 : PySem.W.HoldAll s.heap i2.toArray.toList es := by simpa using says_all S I r2 hp2
  exact PySem.W.eq_datum (PySem.W.holds_list l1.isList A1) (PySem.W.holds_list l2.isList A2) hu ⟨.bl _, H, I, rfl, q⟩
def AtI : Hp → V → Int → Prop := fun _ v n => v = .int n
theorem says_i {X : Cx} : Says X Int AtI := ⟨fun {pins σ H s v u x} I r h => by
  cases h
  obtain ⟨t, rfl⟩ := r
  exact PySem.W.holds_int _ _⟩
theorem nats_paired (H : Hp) : ∀ ds : List Nat, Paired (AtI H) (ds.map nat) (toInts ds)
  | [] => .nil
  | d :: ds => .cons rfl (nats_paired H ds)
def duo (s : Ship) : Int × Int := ((s.arrival : Int), (s.weight : Int))
theorem ships_paired {H : Hp} : ∀ {vs : List V} {ships : List Ship}, Paired (ShipAt H) vs ships → Paired (AtII H) vs (ships.map duo)
  | _, _, .nil => .nil
  | _, _, .cons r t => .cons r (ships_paired t)
theorem map_nil_dec {A B : Type} [DecidableEq A] [DecidableEq B] (f : A → B) (l : List A) : decide (l.map f = []) = decide (l = []) := by
  cases l with
  | nil => rfl
  | cons a l => rw [decide_eq_false (by intro z; cases z), decide_eq_false (by intro z; cases z)]
theorem hu4 {k : Nat} {A : Around} (hr : Room k A) {n : Nat} (hn : n ≤ 64) : A.units + n < cLine := by
  have := hr.un
  omega
section
variable {P : Program} {w : World} {K : PySem.W.Frag} {mg : Str → Option Value} {base : Heap} {CI CR : Addr}
def spCount (CR : Addr) : Sp := fun vs H Q E => ∃ c l : Nat, vs = [nat c, nat l] ∧ (¬ (l ≤ c ∧ c ≤ 8) → Bad CR E H (-22)) ∧ ((l ≤ c ∧ c ≤ 8) → Q .non H)
theorem has_count (T : Txt K mg CI CR) (RI : RefInit P w K mg base CR) (D : DefAt K mg "check_count" 57 ["count", "least"]) : Has P w K mg base (L2.CX P w) 3 "check_count" (spCount CR) := by
  refine has_loud (N := ["count", "least"]) D ⟨rfl, rfl, rfl, by decide +kernel, rfl, by decide +kernel, by decide +kernel⟩ (fun vs H Q E h => ?_) ?_
  · obtain ⟨c, l, rfl, _⟩ := h
    rfl
  · rintro f cdv A outer s H vs Q E hr ⟨c, l, rfl, hbad, hok⟩
    refine ⟨_, pss_one (ps_if (pt_not (pt_chain op_le op_le (pv 1) (pv 0) (pe_named T.most))) (pss_one (ps_refuse T.ref RI rfl (takes_of rfl rfl rfl rfl) hr T.outOfRange)) pss_nil), ?_⟩
    refine ⟨_, rfl, _, rfl, _, _, rfl, rfl, _, rfl, ?_⟩
    by_cases c1 : l ≤ c
    · rw [decide_eq_true (by omega)]
      refine iteT ⟨_, _, rfl, rfl, _, rfl, ?_⟩
      by_cases c2 : c ≤ 8
      · rw [decide_eq_true (by omega)]
        exact iteF (hok ⟨c1, c2⟩)
      · rw [decide_eq_false (by omega)]
        exact iteT (hbad fun z => c2 z.2)
    · rw [decide_eq_false (by omega)]
      refine iteF ⟨_, rfl, ?_⟩
      exact iteT (hbad fun z => c1 z.1)
def spPresent (CI : Addr) : Sp := fun vs H Q _ => ∃ (i : Addr) (tt : Timetable), vs = [.ref i] ∧ InstAt CI H i tt ∧ Q (nat (max 1 tt.departures.length)) H
theorem has_present (T : Txt K mg CI CR) (D : DefAt K mg "present_count" 58 ["instance"]) : Has P w K mg base CX0 1 "present_count" (spPresent CI) := by
  refine has_quiet (N := ["instance"]) D ⟨rfl, rfl, rfl, by decide +kernel, rfl, by decide +kernel, by decide +kernel⟩ (fun vs H Q E h => ?_) ?_
  · obtain ⟨i, tt, rfl, _⟩ := h
    rfl
  · rintro f cdv A outer s H vs Q E hr ⟨i, tt, rfl, ⟨dx, a, b, hi, hS, hD⟩, hq⟩
    refine ⟨_, pss_one (ps_ret (pe_callB (call_max2 rfl) (by rfl) T.max (by decide +kernel) (pa_cons (pe_named T.fewest) (pa_cons (pe_callB call_len_seq (by rfl) T.len PySem.boot_len (pa_cons (pe_fld (pv 0) rfl) pa_nil)) pa_nil)))), ?_⟩
    refine ⟨_, rfl, i, CI, dx, _, _, rfl, hi, T.cl, T.nD, lk_D a b, b, _, rfl, .inl (SqL.of hD), _, _, rfl, ?_⟩
    rw [List.length_map]
    have e : (if ((tt.departures.length : Nat) : Int) > 1 then ((tt.departures.length : Nat) : Int) else 1) = ((max 1 tt.departures.length : Nat) : Int) := by
      split <;> omega
    rw [e]
    exact hq
theorem has_optimal_departures (T : Txt K mg CI CR) (D : DefAt K mg "optimal_departures" 59 ["instance", "numbers"]) (cC : Has P w K mg base (L2.CX P w) 3 "check_count" (spCount CR)) (cO : Has P w K mg base CX0 3 "optimal" spOpt) :
    Has P w K mg base (L2.CX P w) 7 "optimal_departures" (spDeed1 CI CR .optimalDepartures) := by
  have S : FnScope ["instance", "numbers", "total", "hours"] ["instance", "numbers"] (defScope (top 59)) := ⟨rfl, rfl, rfl, by decide +kernel, rfl, by decide +kernel, by decide +kernel⟩
  refine has_loud D S (fun vs H Q E h => ?_) ?_
  · obtain ⟨i, p, x, tt, rfl, _⟩ := h
    rfl
  · rintro f cdv A outer s H vs Q E hr ⟨i, p, x, tt, rfl, hI, hV, hp, hgo⟩
    refine ⟨_, pss_cons (ps_expr (pe_doX cC hr (takes_of rfl rfl rfl rfl) (pa_cons (pe_ix ix_list (pv 1) pe_int (fun _ _ => rfl)) (pa_cons (pe_named T.fewest) pa_nil))))
      (pss_cons (ps_asg (pe_do cO hr (pa_cons (pe_fld (pv 0) rfl) (pa_cons (pe_ix ix_list (pv 1) pe_int (fun _ _ => rfl)) pa_nil))) (pg_tup (by rfl) (pgs_cons (pg_name (i := 2) S.nd rfl (.inl rfl)) (pgs_cons (pg_name (i := 3) S.nd rfl (.inl rfl)) pgs_nil))))
      (pss_one (ps_ret (pe_op op_cat (pe_lst (pa_cons (pv 2) pa_nil)) (pv 3))))), ?_⟩
    have hI0 := hI
    obtain ⟨dx, a, b, hi, hS, hD⟩ := hI
    refine ⟨_, rfl, p, _, _, _, rfl, rfl, SqL.of hp, at_of (j := 0) rfl rfl, x, 1, rfl, fun c => hgo.2 _ (st_opt_off c), fun c => ?_⟩
    refine ⟨_, rfl, i, CI, dx, _, _, rfl, hi, T.cl, T.nS, lk_S a b, _, rfl, p, _, _, _, rfl, rfl, SqL.of hp, at_of (j := 0) rfl rfl, a, x, tt, rfl, hS, ok8 hV, c.1, fun wt r e H1 t q s1 ht hq _ => ?_⟩
    refine ⟨t, _, rfl, SqT.of ht, rfl, _, _, rfl, _, _, rfl, rfl, ?_⟩
    refine ⟨_, rfl, by show 1 ≤ sizeLine; decide, fun l hl => ?_⟩
    have s2 := snew s1 (o := .lst [nat wt]) hl
    refine ⟨_, rfl, l, q, _, _, rfl, rfl, upd_same, same_new hl _ _ hq, ?_, fun z hz => ?_⟩
    · obtain ⟨r0, e0, hr0, _⟩ := optimal_is tt c.1
      rw [e] at e0
      have e1 : r = r0 := congrArg Prod.snd (Option.some.inj e0)
      subst e1
      have h1 := (mem_serving.mp hr0).2.1
      show 1 + (List.map _ _).length ≤ sizeLine
      rw [List.length_map]
      have := c.2
      exact line8 (by omega)
    · refine hgo.stay hI0 (st_opt c e) (snew s2 hz) (Same.free s2 hz) ?_
      rw [upd_same, ints_map]
      rfl
theorem has_use_optimal (T : Txt K mg CI CR) (D : DefAt K mg "use_optimal_departures" 60 ["instance", "numbers"]) (mD : MetD P w K mg base CI) (cC : Has P w K mg base (L2.CX P w) 3 "check_count" (spCount CR)) (cO : Has P w K mg base CX0 3 "optimal" spOpt) :
    Has P w K mg base (L2.CX P w) 7 "use_optimal_departures" (spDeed1 CI CR .useOptimalDepartures) := by
  have S : FnScope ["instance", "numbers", "total", "hours"] ["instance", "numbers"] (defScope (top 60)) := ⟨rfl, rfl, rfl, by decide +kernel, rfl, by decide +kernel, by decide +kernel⟩
  refine has_loud D S (fun vs H Q E h => ?_) ?_
  · obtain ⟨i, p, x, tt, rfl, _⟩ := h
    rfl
  · rintro f cdv A outer s H vs Q E hr ⟨i, p, x, tt, rfl, hI, hV, hp, hgo⟩
    refine ⟨_, pss_cons (ps_expr (pe_doX cC hr (takes_of rfl rfl rfl rfl) (pa_cons (pe_ix ix_list (pv 1) pe_int (fun _ _ => rfl)) (pa_cons (pe_named T.fewest) pa_nil))))
      (pss_cons (ps_asg (pe_do cO hr (pa_cons (pe_fld (pv 0) rfl) (pa_cons (pe_ix ix_list (pv 1) pe_int (fun _ _ => rfl)) pa_nil))) (pg_tup (by rfl) (pgs_cons (pg_name (i := 2) S.nd rfl (.inl rfl)) (pgs_cons (pg_name (i := 3) S.nd rfl (.inl rfl)) pgs_nil))))
      (pss_cons (ps_expr (C8.pe_mt mD hr (by decide) (pv 0) (pa_cons (pv 3) pa_nil)))
      (pss_one (ps_ret (pe_lst (pa_cons (pv 2) pa_nil)))))), ?_⟩
    have hI0 := hI
    obtain ⟨dx, a, b, hi, hS, hD⟩ := hI
    refine ⟨_, rfl, p, _, _, _, rfl, rfl, SqL.of hp, at_of (j := 0) rfl rfl, x, 1, rfl, fun c => hgo.2 _ (st_use_off c), fun c => ?_⟩
    refine ⟨_, rfl, i, CI, dx, _, _, rfl, hi, T.cl, T.nS, lk_S a b, _, rfl, p, _, _, _, rfl, rfl, SqL.of hp, at_of (j := 0) rfl rfl, a, x, tt, rfl, hS, ok8 hV, c.1, fun wt r e H1 t q s1 ht hq hqn => ?_⟩
    refine ⟨t, _, rfl, SqT.of ht, rfl, _, _, rfl, _, _, rfl, rfl, ?_⟩
    obtain ⟨hI2, hD2⟩ := inst_putD hi s1 hS hq
    refine ⟨_, rfl, i, dx, _, rfl, s1 _ _ hi, no_putD, _, rfl, i, dx, a, b, q, rfl, s1 _ _ hi, ?_⟩
    refine ⟨_, rfl, by show 1 ≤ sizeLine; decide, fun l hl => ?_⟩
    exact hgo.1 _ _ _ (st_use c e) _ l ((but_upd s1).new hl) (hI2.same (same_new hl)) (lists_D (H1 := H) hi hqn (same_new hl _ _ upd_same)) (upd_free s1 hl) upd_same
theorem has_excess (T : Txt K mg CI CR) (D : DefAt K mg "excess_waiting" 61 ["instance", "numbers"]) (cT : Has P w K mg base (L2.CX P w) 3 "told_total" (spTotal CR)) (cO : Has P w K mg base CX0 4 "optimal_waiting" spOptW) :
    Has P w K mg base (L2.CX P w) 7 "excess_waiting" (spDeed0 CI CR .excessWaiting) := by
  have S : FnScope ["instance", "numbers", "total"] ["instance", "numbers"] (defScope (top 61)) := ⟨rfl, rfl, rfl, by decide +kernel, rfl, by decide +kernel, by decide +kernel⟩
  refine has_loud D S (fun vs H Q E h => ?_) ?_
  · obtain ⟨i, p, tt, rfl, _⟩ := h
    rfl
  · rintro f cdv A outer s H vs Q E hr ⟨i, p, tt, rfl, hI, hV, hgo⟩
    refine ⟨_, pss_cons (ps_set (i := 2) S.nd rfl (.inl rfl) (pe_doX cT hr (takes_of rfl rfl rfl rfl) (pa_cons (pe_fld (pv 0) rfl) (pa_cons (pe_fld (pv 0) rfl) pa_nil))))
      (pss_cons (ps_if (pt_cmpR (op_eqList says_i (hu4 hr (by decide))) (pe_fld (pv 0) rfl) (pe_lst pa_nil) (nomark _)) (pss_one (ps_ret (pe_lst (pa_cons pe_int pa_nil)))) pss_nil)
      (pss_one (ps_ret (pe_lst (pa_cons (pe_op op_sub (pv 2) (pe_do cO hr (pa_cons (pe_fld (pv 0) rfl) (pa_cons (pe_callB call_len_seq (by rfl) T.len PySem.boot_len (pa_cons (pe_fld (pv 0) rfl) pa_nil)) pa_nil)))) pa_nil))))), ?_⟩
    have hI0 := hI
    obtain ⟨dx, a, b, hi, hS, hD⟩ := hI
    refine ⟨_, rfl, i, CI, dx, _, _, rfl, hi, T.cl, T.nS, lk_S a b, _, rfl, i, CI, dx, _, _, rfl, hi, T.cl, T.nD, lk_D a b, a, b, tt.ships, tt.departures, rfl, hS, ok8 hV, hD, fun c => hgo.2 _ (st_exc_bad hV c), fun c H1 s1 => ?_⟩
    refine ⟨_, rfl, i, CI, dx, _, _, rfl, s1 _ _ hi, T.cl, T.nD, lk_D a b, by show 0 ≤ sizeLine; decide, fun l hl => ?_⟩
    have s2 := snew s1 (o := .lst []) hl
    refine ⟨b, l, _, _, toInts tt.departures, [], rfl, rfl, hD.same s2, upd_same, nats_paired _ _, .nil, _, rfl, ?_⟩
    rw [show decide (toInts tt.departures = []) = decide (tt.departures = []) from map_nil_dec _ _]
    by_cases c2 : tt.departures = []
    · rw [decide_eq_true c2]
      refine iteT ⟨by show 1 ≤ sizeLine; decide, fun z hz => ?_⟩
      exact hgo.stay hI0 (st_exc_none hV c c2) (snew s2 hz) (Same.free s2 hz) upd_same
    · rw [decide_eq_false c2]
      refine iteF ⟨_, rfl, ?_⟩
      refine ⟨_, rfl, i, CI, dx, _, _, rfl, s2 _ _ hi, T.cl, T.nS, lk_S a b, _, rfl, i, CI, dx, _, _, rfl, s2 _ _ hi, T.cl, T.nD, lk_D a b, b, _, rfl, .inl (SqL.of (hD.same s2)), a, tt.departures.length, tt, by rw [List.length_map], hS.same s2, ok8 hV, List.length_pos_iff.mpr c2, fun H3 s3 => ?_⟩
      refine ⟨_, _, rfl, rfl, by show 1 ≤ sizeLine; decide, fun z hz => ?_⟩
      exact hgo.stay hI0 (st_exc hV c c2) (snew (s2.trans s3) hz) (Same.free (s2.trans s3) hz) upd_same
theorem has_saving (T : Txt K mg CI CR) (D : DefAt K mg "saving_of_departure" 62 ["instance", "numbers"]) (cC : Has P w K mg base (L2.CX P w) 3 "check_count" (spCount CR)) (cO : Has P w K mg base CX0 4 "optimal_waiting" spOptW) :
    Has P w K mg base (L2.CX P w) 7 "saving_of_departure" (spDeed1 CI CR .savingOfDeparture) := by
  refine has_loud (N := ["instance", "numbers"]) D ⟨rfl, rfl, rfl, by decide +kernel, rfl, by decide +kernel, by decide +kernel⟩ (fun vs H Q E h => ?_) ?_
  · obtain ⟨i, p, x, tt, rfl, _⟩ := h
    rfl
  · rintro f cdv A outer s H vs Q E hr ⟨i, p, x, tt, rfl, hI, hV, hp, hgo⟩
    refine ⟨_, pss_cons (ps_expr (pe_doX cC hr (takes_of rfl rfl rfl rfl) (pa_cons (pe_ix ix_list (pv 1) pe_int (fun _ _ => rfl)) (pa_cons (pe_op op_add (pe_named T.fewest) pe_int) pa_nil))))
      (pss_one (ps_ret (pe_lst (pa_cons (pe_op op_sub (pe_do cO hr (pa_cons (pe_fld (pv 0) rfl) (pa_cons (pe_op op_sub (pe_ix ix_list (pv 1) pe_int (fun _ _ => rfl)) pe_int) pa_nil)))
        (pe_do cO hr (pa_cons (pe_fld (pv 0) rfl) (pa_cons (pe_ix ix_list (pv 1) pe_int (fun _ _ => rfl)) pa_nil)))) pa_nil)))), ?_⟩
    have hI0 := hI
    obtain ⟨dx, a, b, hi, hS, hD⟩ := hI
    refine ⟨_, rfl, p, _, _, _, rfl, rfl, SqL.of hp, at_of (j := 0) rfl rfl, _, _, rfl, rfl, x, 2, rfl, fun c => hgo.2 _ (st_sav_off c), fun c => ?_⟩
    have ex : V.int ((x : Int) - 1) = nat (x - 1) := congrArg V.int (by have := c.1; omega)
    refine ⟨_, rfl, i, CI, dx, _, _, rfl, hi, T.cl, T.nS, lk_S a b, _, rfl, p, _, _, _, rfl, rfl, SqL.of hp, at_of (j := 0) rfl rfl, _, _, rfl, rfl, a, x - 1, tt, congrArg (fun z => [V.ref a, z]) ex, hS, ok8 hV, by have := c.1; omega, fun H1 s1 => ?_⟩
    refine ⟨_, rfl, i, CI, dx, _, _, rfl, s1 _ _ hi, T.cl, T.nS, lk_S a b, _, rfl, p, _, _, _, rfl, rfl, SqL.of (s1 _ _ hp), at_of (j := 0) rfl rfl, a, x, tt, rfl, hS.same s1, ok8 hV, by have := c.1; omega, fun H2 s2 => ?_⟩
    refine ⟨_, _, rfl, rfl, by show 1 ≤ sizeLine; decide, fun z hz => ?_⟩
    exact hgo.stay hI0 (st_sav c) (snew (s1.trans s2) hz) (Same.free (s1.trans s2) hz) upd_same
theorem has_min_departures (T : Txt K mg CI CR) (D : DefAt K mg "min_departures" 63 ["instance", "numbers"]) (cF : Has P w K mg base CX0 5 "fewest_within" spFewest) : Has P w K mg base (L2.CX P w) 7 "min_departures" (spDeed1 CI CR .minDepartures) := by
  refine has_loud (N := ["instance", "numbers"]) D ⟨rfl, rfl, rfl, by decide +kernel, rfl, by decide +kernel, by decide +kernel⟩ (fun vs H Q E h => ?_) ?_
  · obtain ⟨i, p, x, tt, rfl, _⟩ := h
    rfl
  · rintro f cdv A outer s H vs Q E hr ⟨i, p, x, tt, rfl, hI, hV, hp, hgo⟩
    refine ⟨_, pss_cons (ps_if (pt_cmpR (op_eqList says_ii (hu4 hr (by decide))) (pe_fld (pv 0) rfl) (pe_lst pa_nil) (nomark _)) (pss_one (ps_ret (pe_lst (pa_cons pe_int pa_nil)))) pss_nil)
      (pss_one (ps_ret (pe_lst (pa_cons (pe_do cF hr (pa_cons (pe_fld (pv 0) rfl) (pa_cons (pe_ix ix_list (pv 1) pe_int (fun _ _ => rfl)) pa_nil))) pa_nil)))), ?_⟩
    have hI0 := hI
    obtain ⟨dx, a, b, hi, hS, hD⟩ := hI
    have hS0 := hS
    obtain ⟨vs, hvs, hp2⟩ := hS
    refine ⟨_, rfl, i, CI, dx, _, _, rfl, hi, T.cl, T.nS, lk_S a b, by show 0 ≤ sizeLine; decide, fun l hl => ?_⟩
    have s1 : Same H _ := same_new (o := .lst []) hl
    refine ⟨a, l, _, _, tt.ships.map duo, [], rfl, rfl, s1 _ _ hvs, upd_same, ships_paired (paired_mono (fun _ _ z => z.same s1) hp2), .nil, _, rfl, ?_⟩
    rw [map_nil_dec]
    by_cases c : tt.ships = []
    · rw [decide_eq_true c]
      refine iteT ⟨by show 1 ≤ sizeLine; decide, fun z hz => ?_⟩
      exact hgo.stay hI0 (st_min_none c) (snew s1 hz) (Same.free s1 hz) upd_same
    · rw [decide_eq_false c]
      obtain ⟨k, e, h1, h2, h3⟩ := st_min hV (x := x) c
      refine iteF ⟨_, rfl, i, CI, dx, _, _, rfl, s1 _ _ hi, T.cl, T.nS, lk_S a b, _, rfl, p, _, _, _, rfl, rfl, SqL.of (s1 _ _ hp), at_of (j := 0) rfl rfl, a, x, tt, rfl, hS0.same s1, ok8 hV, fun j j1 j2 j3 H2 s2 => ⟨by show 1 ≤ sizeLine; decide, fun z hz => ?_⟩⟩
      have ej : j = k := by
        have q1 : ¬ j < k := fun z => h3 j z j2
        have q2 : ¬ k < j := fun z => j3 k z h2
        omega
      subst ej
      exact hgo.stay hI0 e (snew (s1.trans s2) hz) (Same.free (s1.trans s2) hz) upd_same
theorem has_cheapest_count (T : Txt K mg CI CR) (RI : RefInit P w K mg base CR) (D : DefAt K mg "cheapest_count" 64 ["instance", "numbers"]) (cF : Has P w K mg base CX0 5 "cheapest" spCheapest) : Has P w K mg base (L2.CX P w) 7 "cheapest_count" (spDeed1 CI CR .cheapestCount) := by
  have S : FnScope ["instance", "numbers", "cost", "count"] ["instance", "numbers"] (defScope (top 64)) := ⟨rfl, rfl, rfl, by decide +kernel, rfl, by decide +kernel, by decide +kernel⟩
  refine has_loud D S (fun vs H Q E h => ?_) ?_
  · obtain ⟨i, p, x, tt, rfl, _⟩ := h
    rfl
  · rintro f cdv A outer s H vs Q E hr ⟨i, p, x, tt, rfl, hI, hV, hp, hgo⟩
    refine ⟨_, pss_cons (ps_if (pt_cmpR op_gt (pe_ix ix_list (pv 1) pe_int (fun _ _ => rfl)) (pe_named T.greatestPrice) (nomark _)) (pss_one (ps_refuse T.ref RI rfl (takes_of rfl rfl rfl rfl) hr T.outOfRange)) pss_nil)
      (pss_cons (ps_if (pt_cmpR (op_eqList says_ii (hu4 hr (by decide))) (pe_fld (pv 0) rfl) (pe_lst pa_nil) (nomark _)) (pss_one (ps_ret (pe_lst (pa_cons pe_int (pa_cons pe_int pa_nil))))) pss_nil)
      (pss_cons (ps_asg (pe_do cF hr (pa_cons (pe_fld (pv 0) rfl) (pa_cons (pe_ix ix_list (pv 1) pe_int (fun _ _ => rfl)) pa_nil))) (pg_tup (by rfl) (pgs_cons (pg_name (i := 2) S.nd rfl (.inl rfl)) (pgs_cons (pg_name (i := 3) S.nd rfl (.inl rfl)) pgs_nil))))
      (pss_one (ps_ret (pe_lst (pa_cons (pv 3) (pa_cons (pv 2) pa_nil))))))), ?_⟩
    have hI0 := hI
    obtain ⟨dx, a, b, hi, hS, hD⟩ := hI
    have hS0 := hS
    obtain ⟨vs, hvs, hp2⟩ := hS
    refine ⟨_, rfl, p, _, _, _, rfl, rfl, SqL.of hp, at_of (j := 0) rfl rfl, _, _, rfl, rfl, _, rfl, ?_⟩
    by_cases c1 : 999 < x
    · rw [decide_eq_true (by omega)]
      exact iteT (hgo.2 _ (st_che_off c1))
    rw [decide_eq_false (by omega)]
    refine iteF ⟨_, rfl, i, CI, dx, _, _, rfl, hi, T.cl, T.nS, lk_S a b, by show 0 ≤ sizeLine; decide, fun l hl => ?_⟩
    have s1 : Same H _ := same_new (o := .lst []) hl
    refine ⟨a, l, _, _, tt.ships.map duo, [], rfl, rfl, s1 _ _ hvs, upd_same, ships_paired (paired_mono (fun _ _ z => z.same s1) hp2), .nil, _, rfl, ?_⟩
    rw [map_nil_dec]
    by_cases c : tt.ships = []
    · rw [decide_eq_true c]
      refine iteT ⟨by show 2 ≤ sizeLine; decide, fun z hz => ?_⟩
      exact hgo.stay hI0 (st_che_none c1 c) (snew s1 hz) (Same.free s1 hz) upd_same
    · rw [decide_eq_false c]
      obtain ⟨k, e, k1, k2, hb⟩ := st_che (tt := tt) c1 c
      refine iteF ⟨_, rfl, i, CI, dx, _, _, rfl, s1 _ _ hi, T.cl, T.nS, lk_S a b, _, rfl, p, _, _, _, rfl, rfl, SqL.of (s1 _ _ hp), at_of (j := 0) rfl rfl, a, x, tt, rfl, hS0.same s1, ok8 hV, c, by omega, fun j j1 j2 hj H2 t s2 ht => ?_⟩
      have ej : j = k := by
        have q1 := hj k k1 k2
        have q2 := hb j j1 j2
        have q3 : ¬ k < j := fun z => by
          have := q1.2 z
          omega
        have q4 : ¬ j < k := fun z => by
          have := q2.2 z
          omega
        omega
      subst ej
      refine ⟨t, _, rfl, SqT.of ht, rfl, _, _, rfl, _, _, rfl, rfl, ?_⟩
      refine ⟨_, rfl, _, rfl, by show 2 ≤ sizeLine; decide, fun z hz => ?_⟩
      exact hgo.stay hI0 e (snew (s1.trans s2) hz) (Same.free (s1.trans s2) hz) upd_same
theorem has_with_ship (T : Txt K mg CI CR) (D : DefAt K mg "optimal_waiting_with_ship" 65 ["instance", "numbers"]) (cW : Has P w K mg base (L2.CX P w) 4 "ships_with" (spWith CI CR)) (cO : Has P w K mg base CX0 4 "optimal_waiting" spOptW) (cP : Has P w K mg base CX0 1 "present_count" (spPresent CI)) :
    Has P w K mg base (L2.CX P w) 7 "optimal_waiting_with_ship" (spDeed2 CI CR .optimalWaitingWithShip) := by
  refine has_loud (N := ["instance", "numbers"]) D ⟨rfl, rfl, rfl, by decide +kernel, rfl, by decide +kernel, by decide +kernel⟩ (fun vs H Q E h => ?_) ?_
  · obtain ⟨i, p, x, y, tt, rfl, _⟩ := h
    rfl
  · rintro f cdv A outer s H vs Q E hr ⟨i, p, x, y, tt, rfl, hI, hV, hp, hgo⟩
    refine ⟨_, pss_one (ps_ret (pe_lst (pa_cons (pe_do cO hr (pa_cons (pe_doX cW hr (takes_of rfl rfl rfl rfl) (pa_cons (pv 0) (pa_cons (pe_ix ix_list (pv 1) pe_int (fun _ _ => rfl)) (pa_cons (pe_ix ix_list (pv 1) pe_int (fun _ _ => rfl)) pa_nil)))) (pa_cons (pe_do cP hr (pa_cons (pv 0) pa_nil)) pa_nil))) pa_nil))), ?_⟩
    refine ⟨_, rfl, _, rfl, p, _, _, _, rfl, rfl, SqL.of hp, at_of (j := 0) rfl rfl, _, rfl, p, _, _, _, rfl, rfl, SqL.of hp, at_of (j := 1) rfl rfl, i, x, y, tt, rfl, hI, hV.few, fun c => hgo.2 _ (st_ows_bad c), fun c c8 => hgo.2 _ (st_ows_full c c8), fun c c8 H1 q s1 _ hq => ?_⟩
    refine ⟨_, rfl, i, tt, rfl, hI.same s1, q, max 1 tt.departures.length, { tt with ships := tt.ships ++ [⟨x, y⟩] }, rfl, hq, ⟨?_, ?_⟩, Nat.le_max_left _ _, fun H2 s2 => ⟨by show 1 ≤ sizeLine; decide, fun z hz => ?_⟩⟩
    · show (tt.ships ++ [_]).length ≤ 8
      rw [List.length_append]
      show _ + 1 ≤ 8
      omega
    · intro s hs
      rcases List.mem_append.mp hs with hs | hs
      · exact (ok8 hV).light s hs
      · rw [List.mem_singleton] at hs
        rw [hs]
        exact c.2.2
    · exact hgo.stay hI (st_ows c c8) (snew (s1.trans s2) hz) (Same.free (s1.trans s2) hz) upd_same
theorem has_without_ship (T : Txt K mg CI CR) (D : DefAt K mg "optimal_waiting_without_ship" 66 ["instance", "numbers"]) (cW : Has P w K mg base (L2.CX P w) 4 "ships_without" (spWithout CI CR)) (cO : Has P w K mg base CX0 4 "optimal_waiting" spOptW) (cP : Has P w K mg base CX0 1 "present_count" (spPresent CI)) :
    Has P w K mg base (L2.CX P w) 7 "optimal_waiting_without_ship" (spDeed1 CI CR .optimalWaitingWithoutShip) := by
  refine has_loud (N := ["instance", "numbers"]) D ⟨rfl, rfl, rfl, by decide +kernel, rfl, by decide +kernel, by decide +kernel⟩ (fun vs H Q E h => ?_) ?_
  · obtain ⟨i, p, x, tt, rfl, _⟩ := h
    rfl
  · rintro f cdv A outer s H vs Q E hr ⟨i, p, x, tt, rfl, hI, hV, hp, hgo⟩
    refine ⟨_, pss_one (ps_ret (pe_lst (pa_cons (pe_do cO hr (pa_cons (pe_doX cW hr (takes_of rfl rfl rfl rfl) (pa_cons (pv 0) (pa_cons (pe_ix ix_list (pv 1) pe_int (fun _ _ => rfl)) pa_nil))) (pa_cons (pe_do cP hr (pa_cons (pv 0) pa_nil)) pa_nil))) pa_nil))), ?_⟩
    refine ⟨_, rfl, _, rfl, p, _, _, _, rfl, rfl, SqL.of hp, at_of (j := 0) rfl rfl, i, x, tt, rfl, hI, hV.few, fun c => hgo.2 _ (st_owo_bad c), fun c H1 q s1 _ hq => ?_⟩
    refine ⟨_, rfl, i, tt, rfl, hI.same s1, q, max 1 tt.departures.length, { tt with ships := tt.ships.eraseIdx x }, rfl, hq, ⟨?_, ?_⟩, Nat.le_max_left _ _, fun H2 s2 => ⟨by show 1 ≤ sizeLine; decide, fun z hz => ?_⟩⟩
    · have := (List.eraseIdx_sublist tt.ships x).length_le
      exact Nat.le_trans this hV.few
    · intro s hs
      exact (ok8 hV).light s ((List.eraseIdx_sublist tt.ships x).subset hs)
    · exact hgo.stay hI (st_owo c) (snew (s1.trans s2) hz) (Same.free (s1.trans s2) hz) upd_same
end
end Cv
/-! # timetable.py: answer -/
namespace Cv
open PySem PySem.Spec PyProof.Rows L2
open Km561 (Ship Timetable toInts insertHour optimalWaiting)
section
variable {P : Program} {w : World} {K : PySem.W.Frag} {mg : Str → Option Value} {base : Heap} {CI CR : Addr}
/-- an operation that DEEDS, at aD, holds under its number -/
structure Deed (P : Program) (w : World) (K : PySem.W.Frag) (mg : Str → Option Value) (base : Heap) (aD : Addr) (op : Nat) (sp : Sp) : Prop where
  ex : ∃ (f : Addr) (fd : FuncData) (ps : List Str), FnOk P w K mg base (L2.CX P w) 7 f fd ps sp ∧ PySem.W.keepIn K (.ref f) = true ∧ Binds K fd ps [] ∧ KInt K aD (op : Nat) (.ref f)
theorem deed_of {x : Str} {aD : Addr} {op : Nat} {sp : Sp} (c : Has P w K mg base (L2.CX P w) 7 x sp) (h : ∀ f, mg x = some (.ref f) → KInt K aD (op : Nat) (.ref f)) : Deed P w K mg base aD op sp := by
  obtain ⟨f, fd, ps, F, g, k, b⟩ := c.ex
  exact ⟨f, fd, ps, F, k, b, h f g⟩
/-- what each call of the instance promises: the answer that is due -/
def spAnswer (CI : Addr) : Sp := fun vs H Q _ =>
  (∃ (op : Nat) (p : Addr), vs = [.non, nat op, .ref p] ∧ ∀ (H' : Hp) (l : Addr), Same H H' → H l = none → H' l = some (.lst [.int (-11)]) → Q (.ref l) H') ∨
  (∃ (i p : Addr) (op : Nat) (ns : List Nat) (tt : Timetable) (c : Km561.Call), vs = [.ref i, nat op, .ref p] ∧ InstAt CI H i tt ∧ Valid tt ∧ H p = some (.lst (ns.map nat)) ∧ callAt op ns = some c ∧
    ∀ (tt' : Timetable) (num : Int) (nums : List Int), Km561.step (some tt) c = (some tt', ⟨num, nums⟩) → ∀ (H' : Hp) (l : Addr), But i H H' → InstAt CI H' i tt' → (∀ x, ListOf CI H' i x → ListOf CI H i x ∨ H x = none) → H l = none → H' l = some (.lst ((num :: nums).map V.int)) → Q (.ref l) H')
abbrev ansN : List Str := ["instance", "call", "numbers", "deed", "found", "e"]
theorem scAns : FnScope ansN ["instance", "call", "numbers"] (defScope (top 71)) := ⟨rfl, rfl, rfl, by decide +kernel, rfl, by decide +kernel, by decide +kernel⟩
theorem ans_run (T : Txt K mg CI CR) {aD : Addr} (gD : Named mg "DEEDS" (.ref aD)) {op : Nat} {sp : Sp} (d : Deed P w K mg base aD op sp) {f : Addr} {cdv : Value} {A : Around} {outer : List Env} {s : Shared} {H : Hp} {vs : List V} {Q : VK} {E : XK}
    (hr : Room 7 (A.deeper (envOfC "answer" (defScope (top 71)) s.heap.objs.size f cdv)))
    (h : (∃ (op' : Nat) (p : Addr), vs = [.non, nat op', .ref p] ∧ ∀ (H' : Hp) (l : Addr), Same H H' → H l = none → H' l = some (.lst [.int (-11)]) → Q (.ref l) H') ∨
      (∃ (i p : Addr), vs = [.ref i, nat op, .ref p] ∧ ∀ Q' E', (∀ v H', Q v H' → Q' v H') → (∀ (code : Int) (dd : Addr) (H' : Hp), H' dd = some (.xd [(("code" : Str), .int code)]) → (∀ l, H' l = none → Q (.ref l) (upd H' l (.lst [.int code]))) → E' (.ref CR) (some dd) H') → sp [.ref i, .ref p] H Q' E')) :
    ∃ t, PSs (cxOf CX0 P w K mg base ansN "answer" (defScope (top 71)) f cdv A outer s H E).nox (defBody (top 71)) t ∧ t { nx := fun _ H' => Q .non H', rt := Q } (start ansN vs) H := by
  obtain ⟨fD, fdD, psD, F, kp, b, kI⟩ := d.ex
  refine ⟨_, pss_cons (ps_if (pt_cmpR op_isN (pv 0) pe_non (nomark _)) (pss_one (ps_ret (pe_lst (pa_cons (pe_named T.noInstance) pa_nil)))) pss_nil)
    (pss_cons (ps_set (i := 3) scAns.nd rfl (.inl rfl) (pe_ix ix_int (pe_named gD) (pv 1) (fun _ _ => rfl)))
    (pss_cons (ps_try_as (i := 5) (tb := fun W => tAsg (tCallLS 3 fD sp (WE W) (tCons (tVar 0) (tCons (tVar 2) tNil))) (gName 4)) (ts := fun a cls d => tAsg (tLst (tCons (tXf a cls d CR "code" (tVar 5)) tNil)) (gName 4)) (Wout := fun _ _ _ _ => False) rfl rfl scAns.nd rfl rfl ⟨rfl, by decide, .inl T.ref.g⟩ takes0
        (fun W pn xe tk _ => pss_one (ps_set (i := 4) scAns.nd rfl (.inl rfl) (by exact (pe_callLS (i := 3) F hr rfl (.inl rfl) kp b (fun σ => passAt tk σ) (by exact (pa_cons (pv 0) (pa_cons (pv 2) pa_nil)))))))
        (fun a oe cls d pn hz hf => pss_one (ps_set (i := 4) scAns.nd rfl (.inl rfl) (by exact (pe_lst (pa_cons (pe_xf T.ref.X T.ref.nc hz hf (pv 5)) pa_nil))))))
    (pss_one (ps_ret (pv 4))))), ?_⟩
  rcases h with ⟨op', p, rfl, hq⟩ | ⟨i, p, rfl, hq⟩
  · refine ⟨_, rfl, rfl, _, rfl, ?_⟩
    refine iteT ⟨by show 1 ≤ sizeLine; decide, fun l hl => hq _ l (same_new hl) hl upd_same⟩
  · refine ⟨_, rfl, rfl, _, rfl, ?_⟩
    refine iteF ⟨_, rfl, aD, (op : Nat), .ref fD, rfl, rfl, kI, ?_⟩
    refine ⟨rfl, _, rfl, _, rfl, ?_⟩
    refine hq _ _ (fun v H' hv => ?_) (fun code dd H' hdd hl => ?_)
    · exact ⟨_, rfl, hv⟩
    · refine ⟨true, T.ref.te, fun _ a0 _ => ?_, fun q => Bool.noConfusion q⟩
      refine ⟨_, rfl, rfl, rfl, dd, [(("code" : Str), .int code)], .int code, rfl, hdd, ?_, by show 1 ≤ sizeLine; decide, fun l hl2 => ?_⟩
      · rw [lookup_put, if_pos rfl]
      · exact ⟨_, rfl, hl l hl2⟩
/-- all operations of the table -/
structure Deeds (P : Program) (w : World) (K : PySem.W.Frag) (mg : Str → Option Value) (base : Heap) (CI CR aD : Addr) : Prop where
  d1 : Deed P w K mg base aD 1 (spDeed2 CI CR .addShip)
  d2 : Deed P w K mg base aD 2 (spDeed1 CI CR .removeShip)
  d3 : Deed P w K mg base aD 3 (spDeed2 CI CR .setArrival)
  d4 : Deed P w K mg base aD 4 (spDeed2 CI CR .setWeight)
  d5 : Deed P w K mg base aD 5 (spDeed0 CI CR .listShips)
  d6 : Deed P w K mg base aD 6 (spDeed1 CI CR .addDeparture)
  d7 : Deed P w K mg base aD 7 (spDeed1 CI CR .cancelDeparture)
  d8 : Deed P w K mg base aD 8 (spDeed0 CI CR .listDepartures)
  d9 : Deed P w K mg base aD 9 (spDeed0 CI CR .allServed)
  d10 : Deed P w K mg base aD 10 (spDeed0 CI CR .totalWaiting)
  d11 : Deed P w K mg base aD 11 (spDeed1 CI CR .waitingTime)
  d12 : Deed P w K mg base aD 12 (spDeed0 CI CR .longestWaiting)
  d13 : Deed P w K mg base aD 13 (spDeed1 CI CR .optimalDepartures)
  d14 : Deed P w K mg base aD 14 (spDeed1 CI CR .useOptimalDepartures)
  d15 : Deed P w K mg base aD 15 (spDeed0 CI CR .excessWaiting)
  d16 : Deed P w K mg base aD 16 (spDeed1 CI CR .savingOfDeparture)
  d17 : Deed P w K mg base aD 17 (spDeed1 CI CR .minDepartures)
  d18 : Deed P w K mg base aD 18 (spDeed1 CI CR .cheapestCount)
  d19 : Deed P w K mg base aD 19 (spDeed1 CI CR .totalWaitingWith)
  d20 : Deed P w K mg base aD 20 (spDeed1 CI CR .nextDeparture)
  d21 : Deed P w K mg base aD 21 (spDeed0 CI CR .shipsPerDeparture)
  d22 : Deed P w K mg base aD 22 (spDeed2 CI CR .optimalWaitingWithShip)
  d23 : Deed P w K mg base aD 23 (spDeed1 CI CR .optimalWaitingWithoutShip)
  d24 : Deed P w K mg base aD 24 (spDeed0 CI CR .summary)
theorem goes_of {i : Addr} {H : Hp} {tt : Timetable} {c : Km561.Call} {Q Q' : VK} {E' : XK} (hI : InstAt CI H i tt) (hQ : ∀ v H', Q v H' → Q' v H')
    (hE : ∀ (code : Int) (dd : Addr) (H' : Hp), H' dd = some (.xd [(("code" : Str), .int code)]) → (∀ l, H' l = none → Q (.ref l) (upd H' l (.lst [.int code]))) → E' (.ref CR) (some dd) H')
    (hq : ∀ (tt' : Timetable) (num : Int) (nums : List Int), Km561.step (some tt) c = (some tt', ⟨num, nums⟩) → ∀ (H' : Hp) (l : Addr), But i H H' → InstAt CI H' i tt' → (∀ x, ListOf CI H' i x → ListOf CI H i x ∨ H x = none) → H l = none → H' l = some (.lst ((num :: nums).map V.int)) → Q (.ref l) H') : Goes CI CR i H tt c Q' E' :=
  ⟨fun tt' num nums e H' l b hI' hL hn hl => hQ _ _ (hq tt' num nums e H' l b hI' hL hn hl), fun code e dd H' s hdd => hE code dd H' hdd fun l hl => by
    obtain ⟨dx, a, b, h1, h2, h3⟩ := id hI
    exact hq tt code [] e _ l (But.of_same (snew s hl)) ((hI.same s).same (same_new hl)) (fun x hx => .inl (hx.back (same_new hl _ _ (s _ _ h1)) h1)) (Same.free s hl) upd_same⟩
theorem has_answer (T : Txt K mg CI CR) {aD : Addr} (gD : Named mg "DEEDS" (.ref aD)) (D : DefAt K mg "answer" 71 ["instance", "call", "numbers"]) (L : Deeds P w K mg base CI CR aD) : Has P w K mg base CX0 8 "answer" (spAnswer CI) := by
  refine has_quiet D scAns (fun vs H Q E h => ?_) ?_
  · rcases h with ⟨op, p, rfl, _⟩ | ⟨i, p, op, ns, tt, c, rfl, _⟩
    · rfl
    · rfl
  · rintro f cdv A outer s H vs Q E hr (⟨op, p, rfl, hq⟩ | ⟨i, p, op, ns, tt, c, rfl, hI, hV, hp, hc, hq⟩)
    · exact ans_run T gD L.d1 hr (.inl ⟨op, p, rfl, hq⟩)
    · unfold callAt at hc
      split at hc
      · cases hc
        exact ans_run T gD L.d1 hr (.inr ⟨i, p, rfl, fun Q' E' hQ hE => ⟨i, p, _, _, tt, rfl, hI, hV, hp, goes_of hI hQ hE hq⟩⟩)
      · cases hc
        exact ans_run T gD L.d2 hr (.inr ⟨i, p, rfl, fun Q' E' hQ hE => ⟨i, p, _, tt, rfl, hI, hV, hp, goes_of hI hQ hE hq⟩⟩)
      · cases hc
        exact ans_run T gD L.d3 hr (.inr ⟨i, p, rfl, fun Q' E' hQ hE => ⟨i, p, _, _, tt, rfl, hI, hV, hp, goes_of hI hQ hE hq⟩⟩)
      · cases hc
        exact ans_run T gD L.d4 hr (.inr ⟨i, p, rfl, fun Q' E' hQ hE => ⟨i, p, _, _, tt, rfl, hI, hV, hp, goes_of hI hQ hE hq⟩⟩)
      · cases hc
        exact ans_run T gD L.d5 hr (.inr ⟨i, p, rfl, fun Q' E' hQ hE => ⟨i, p, tt, rfl, hI, hV, goes_of hI hQ hE hq⟩⟩)
      · cases hc
        exact ans_run T gD L.d6 hr (.inr ⟨i, p, rfl, fun Q' E' hQ hE => ⟨i, p, _, tt, rfl, hI, hV, hp, goes_of hI hQ hE hq⟩⟩)
      · cases hc
        exact ans_run T gD L.d7 hr (.inr ⟨i, p, rfl, fun Q' E' hQ hE => ⟨i, p, _, tt, rfl, hI, hV, hp, goes_of hI hQ hE hq⟩⟩)
      · cases hc
        exact ans_run T gD L.d8 hr (.inr ⟨i, p, rfl, fun Q' E' hQ hE => ⟨i, p, tt, rfl, hI, hV, goes_of hI hQ hE hq⟩⟩)
      · cases hc
        exact ans_run T gD L.d9 hr (.inr ⟨i, p, rfl, fun Q' E' hQ hE => ⟨i, p, tt, rfl, hI, hV, goes_of hI hQ hE hq⟩⟩)
      · cases hc
        exact ans_run T gD L.d10 hr (.inr ⟨i, p, rfl, fun Q' E' hQ hE => ⟨i, p, tt, rfl, hI, hV, goes_of hI hQ hE hq⟩⟩)
      · cases hc
        exact ans_run T gD L.d11 hr (.inr ⟨i, p, rfl, fun Q' E' hQ hE => ⟨i, p, _, tt, rfl, hI, hV, hp, goes_of hI hQ hE hq⟩⟩)
      · cases hc
        exact ans_run T gD L.d12 hr (.inr ⟨i, p, rfl, fun Q' E' hQ hE => ⟨i, p, tt, rfl, hI, hV, goes_of hI hQ hE hq⟩⟩)
      · cases hc
        exact ans_run T gD L.d13 hr (.inr ⟨i, p, rfl, fun Q' E' hQ hE => ⟨i, p, _, tt, rfl, hI, hV, hp, goes_of hI hQ hE hq⟩⟩)
      · cases hc
        exact ans_run T gD L.d14 hr (.inr ⟨i, p, rfl, fun Q' E' hQ hE => ⟨i, p, _, tt, rfl, hI, hV, hp, goes_of hI hQ hE hq⟩⟩)
      · cases hc
        exact ans_run T gD L.d15 hr (.inr ⟨i, p, rfl, fun Q' E' hQ hE => ⟨i, p, tt, rfl, hI, hV, goes_of hI hQ hE hq⟩⟩)
      · cases hc
        exact ans_run T gD L.d16 hr (.inr ⟨i, p, rfl, fun Q' E' hQ hE => ⟨i, p, _, tt, rfl, hI, hV, hp, goes_of hI hQ hE hq⟩⟩)
      · cases hc
        exact ans_run T gD L.d17 hr (.inr ⟨i, p, rfl, fun Q' E' hQ hE => ⟨i, p, _, tt, rfl, hI, hV, hp, goes_of hI hQ hE hq⟩⟩)
      · cases hc
        exact ans_run T gD L.d18 hr (.inr ⟨i, p, rfl, fun Q' E' hQ hE => ⟨i, p, _, tt, rfl, hI, hV, hp, goes_of hI hQ hE hq⟩⟩)
      · cases hc
        exact ans_run T gD L.d19 hr (.inr ⟨i, p, rfl, fun Q' E' hQ hE => ⟨i, p, _, tt, rfl, hI, hV, hp, goes_of hI hQ hE hq⟩⟩)
      · cases hc
        exact ans_run T gD L.d20 hr (.inr ⟨i, p, rfl, fun Q' E' hQ hE => ⟨i, p, _, tt, rfl, hI, hV, hp, goes_of hI hQ hE hq⟩⟩)
      · cases hc
        exact ans_run T gD L.d21 hr (.inr ⟨i, p, rfl, fun Q' E' hQ hE => ⟨i, p, tt, rfl, hI, hV, goes_of hI hQ hE hq⟩⟩)
      · cases hc
        exact ans_run T gD L.d22 hr (.inr ⟨i, p, rfl, fun Q' E' hQ hE => ⟨i, p, _, _, tt, rfl, hI, hV, hp, goes_of hI hQ hE hq⟩⟩)
      · cases hc
        exact ans_run T gD L.d23 hr (.inr ⟨i, p, rfl, fun Q' E' hQ hE => ⟨i, p, _, tt, rfl, hI, hV, hp, goes_of hI hQ hE hq⟩⟩)
      · cases hc
        exact ans_run T gD L.d24 hr (.inr ⟨i, p, rfl, fun Q' E' hQ hE => ⟨i, p, tt, rfl, hI, hV, goes_of hI hQ hE hq⟩⟩)
      · cases hc
end
end Cv
/-! # timetable.py: answers -/
namespace Cv
open PySem PySem.Spec PyProof.Rows L2
open Km561 (Ship Timetable toInts insertHour optimalWaiting)
/-- what stands behind the top of the table of counts -/
def Counts (K : PySem.W.Frag) (a : Addr) : Prop := ∀ H : Hp, SqT K H a (cnt.map nat)
/-- the name instance: None, or an instance of the timetable, made since H0, with no list at L -/
def StAt (CI L : Addr) (H0 H : Hp) (iv : V) : Km561.State → Prop
  | none => iv = .non
  | some tt => ∃ i : Addr, iv = .ref i ∧ H0 i = none ∧ InstAt CI H i tt ∧ Valid tt ∧ ∀ x, ListOf CI H i x → x ≠ L
theorem InstAt.put {CI L i : Addr} {H : Hp} {tt : Timetable} {us : List V} {o : HO} (hL : H L = some (.lst us)) (n : ∀ x, ListOf CI H i x → x ≠ L) (h : InstAt CI H i tt) : InstAt CI (upd H L o) i tt := by
  obtain ⟨dx, a, b, h1, ⟨vs, h2, h3⟩, h4⟩ := h
  refine ⟨dx, a, b, ?_, ⟨vs, ?_, paired_mono (fun v s z => ?_) h3⟩, ?_⟩
  · rw [upd_ne (ne_of h1 hL (by intro z; cases z))]
    exact h1
  · rw [upd_ne (n a ⟨dx, a, b, h1, .inl rfl⟩)]
    exact h2
  · obtain ⟨t, e1, e2⟩ := z
    refine ⟨t, e1, ?_⟩
    rw [upd_ne (ne_of e2 hL (by intro z; cases z))]
    exact e2
  · show upd H L o b = _
    rw [upd_ne (n b ⟨dx, a, b, h1, .inr rfl⟩)]
    exact h4
theorem StAt.put {CI L : Addr} {H0 H : Hp} {iv : V} {st : Km561.State} {us : List V} {o : HO} (hL : H L = some (.lst us)) (h : StAt CI L H0 H iv st) : StAt CI L H0 (upd H L o) iv st := by
  cases st with
  | none => exact h
  | some tt =>
    obtain ⟨i, e, h0, hI, hV, n⟩ := h
    refine ⟨i, e, h0, hI.put hL n, hV, fun x l => n x ?_⟩
    obtain ⟨dx, a, b, h1, _⟩ := id hI
    exact l.back (by rw [upd_ne (ne_of h1 hL (by intro z; cases z))]; exact h1) h1
theorem cut_is {l : List V} {i n : Nat} (h : i + n ≤ l.length) : cutV l (some (i : Int)) (some ((i + n : Nat) : Int)) = (l.drop i).take n := by
  unfold cutV
  rw [HT.sIx_nat, HT.sIx_nat, Nat.min_eq_left (show i ≤ l.length by omega), Nat.min_eq_left h, Nat.add_sub_cancel_left]
def spAnswers (K : PySem.W.Frag) : Sp := fun vs H Q _ => ∃ (a : Addr) (ns : List Int), vs = [.ref a] ∧ SqL K H a (ns.map V.int) ∧ ns.length ≤ 150 ∧ PyKm561.answers_asked ns = true ∧
  ∀ (H' : Hp) (p : Addr), H' p = some (.lst ((PyKm561.answers ns).map V.int)) → Q (.ref p) H'
abbrev allN : List Str := ["calls", "instance", "found", "at", "call", "end", "told"]
theorem scAll : FnScope allN ["calls"] (defScope (top 72)) := ⟨rfl, rfl, rfl, by decide +kernel, rfl, by decide +kernel, by decide +kernel⟩
/-- how much is left -/
def left (n : Nat) (σ : List (Option V)) : Nat := match σ.getD 3 none with
  | some (V.int z) => n - z.toNat
  | _ => 0
section
variable {P : Program} {w : World} {K : PySem.W.Frag} {mg : Str → Option Value} {base : Heap} {CI CR : Addr}
/-- Instance, to be made -/
structure Maker (P : Program) (w : World) (K : PySem.W.Frag) (mg : Str → Option Value) (base : Heap) (CI : Addr) : Prop where
  ex : ∃ (f : Addr) (fd : FuncData), Mk K CI f ∧ FnOk P w K mg base CX0 1 f fd ["self"] (spInst CI) ∧ Binds K fd ["self"] []
theorem has_answers (T : Txt K mg CI CR) {aC : Addr} (gC : Named mg "COUNTS" (.ref aC)) (hC : Counts K aC) (M : Maker P w K mg base CI) {f : Addr} {fd : FuncData} (F : Fun K "answers" "answers" (top 72) f fd) (cA : Has P w K mg base CX0 8 "answer" (spAnswer CI)) :
    FnOk P w K mg base CX0 9 f fd ["calls"] (spAnswers K) := by
  obtain ⟨fI, fdI, mk, GI, bI⟩ := M.ex
  refine F.ok scAll (fun vs H Q E h => ?_) ?_
  · obtain ⟨a, ns, rfl, _⟩ := h
    rfl
  · rintro cdv A outer s H vs Q E hr ⟨a, ns, rfl, hS, hn, hask, hq⟩
    refine ⟨_, pss_cons (ps_set (i := 1) scAll.nd rfl (.inl rfl) pe_non)
      (pss_cons (ps_set (i := 2) scAll.nd rfl (.inl rfl) (pe_lst pa_nil))
      (pss_cons (ps_set (i := 3) scAll.nd rfl (.inl rfl) pe_int)
      (pss_cons (ps_while PassesOwn.never (pt_cmpR op_lt (pv 3) (pe_callB call_len_seq (by rfl) T.len PySem.boot_len (pa_cons (pv 0) pa_nil)) (nomark _))
        (pss_cons (ps_set (i := 4) scAll.nd rfl (.inl rfl) (pe_ix ix_list (pv 0) (pv 3) (fun _ _ => rfl)))
        (pss_cons (ps_set (i := 5) scAll.nd rfl (.inl rfl) (pe_op op_add (pe_op op_add (pv 3) pe_int) (pe_ix ix_tup (pe_named gC) (pv 4) (fun _ _ => rfl))))
        (C8.pss_cut (ps_if (pt_cmpR op_eq (pv 4) (pe_named T.create) (nomark _))
          (pss_cons (ps_set (i := 1) scAll.nd rfl (.inl rfl) (pe_make0 mk GI (hr.mono (by decide)) rfl T.gI bI .nil pass0)) (pss_one (ps_set (i := 6) scAll.nd rfl (.inl rfl) (pe_lst (pa_cons pe_int pa_nil)))))
          (pss_one (ps_set (i := 6) scAll.nd rfl (.inl rfl) (pe_do cA hr (pa_cons (pv 1) (pa_cons (pv 4) (pa_cons (pe_slice sl_list (pv 0) (po_some (pe_op op_add (pv 3) pe_int)) (po_some (pv 5))) pa_nil)))))))
        (pss_cons (ps_expr (pe_bm PySem.F.plainAttrs_list PySem.F.slot_list_append PySem.F.type_list_append mt_append (pv 2) (pa_cons (pe_callB call_len_seq (by rfl) T.len PySem.boot_len (pa_cons (pv 6) pa_nil)) pa_nil)))
        (pss_cons (ps_expr (pe_bm PySem.F.plainAttrs_list PySem.F.slot_list_extend PySem.F.type_list_extend mt_extend (pv 2) (pa_cons (pv 6) pa_nil)))
        (pss_one (ps_set (i := 3) scAll.nd rfl (.inl rfl) (pv 5)))))))))
      (pss_one (ps_ret (pv 2)))))), ?_⟩
    obtain ⟨hstart, htot⟩ := rest_start hask
    refine ⟨by show 0 ≤ sizeLine; decide, fun L hL => ?_⟩
    refine while_by (fun σ H' => ∃ (st : Km561.State) (j : Nat) (done : List Int) (iv : V) (u4 u5 u6 : Option V), σ = [some (.ref a), some iv, some (.ref L), some (nat j), u4, u5, u6] ∧ Rest ns j st done ∧ j ≤ ns.length ∧ Same H H' ∧
      H' L = some (.lst (done.map V.int)) ∧ StAt CI L H H' iv st) (fun σ _ => left ns.length σ) ⟨none, 0, [], .non, none, none, none, rfl, hstart, Nat.zero_le _, same_new hL, upd_same, rfl⟩ ?_ ?_
    · rintro σ H1 ⟨st, j, done, iv, u4, u5, u6, rfl, hR, hj, s1, h1, hst⟩
      have hS1 := s1.seq hS
      refine ⟨_, rfl, _, rfl, a, _, rfl, .inl hS1, _, _, rfl, rfl, _, rfl, ?_⟩
      rw [List.length_map]
      by_cases c : j < ns.length
      · rw [decide_eq_true (Int.ofNat_lt.mpr c)]
        obtain ⟨op, n, xs, hp, ho, hcnt, hend, hxs, hz, hnz⟩ := rest_turn c hR
        refine iteT ?_
        have hat : (ns.map V.int)[j]? = some (nat op) := by
          rw [List.getElem?_map, hp]
          rfl
        have hcn : (cnt.map nat)[op]? = some (nat n) := by
          rw [List.getElem?_map, hcnt]
          rfl
        refine ⟨_, rfl, _, rfl, a, _, _, _, rfl, rfl, hS1, at_of rfl hat, ?_⟩
        refine ⟨_, rfl, _, _, rfl, rfl, _, rfl, aC, _, _, _, rfl, rfl, hC H1, at_of rfl hcn, _, _, rfl, rfl, ?_⟩
        refine ⟨fun σ' H2 => ∃ (st' : Km561.State) (iv' : V) (tl : Addr) (num : Int) (nums : List Int), σ' = [some (.ref a), some iv', some (.ref L), some (nat j), some (nat op), some (nat (j + 1 + n)), some (.ref tl)] ∧
          Rest ns (j + 1 + n) st' (done ++ (((num :: nums).length : Int) :: num :: nums)) ∧ Same H H2 ∧ H2 L = some (.lst (done.map V.int)) ∧ H2 tl = some (.lst ((num :: nums).map V.int)) ∧ tl ≠ L ∧ StAt CI L H H2 iv' st', ?_, ?_⟩
        · refine ⟨_, rfl, rfl, _, rfl, ?_⟩
          by_cases c0 : op = 0
          · subst c0
            refine iteT ?_
            refine fun x dx nx ndx nex => ⟨x, dx, rfl, upd_same, fun H3 a0 b0 bt hi ha hb na nb => ⟨rfl, ?_⟩⟩
            refine ⟨by show 1 ≤ sizeLine; decide, fun tl htl => ?_⟩
            have s3 : Same H1 H3 := Same.made nx ndx bt
            have s4 : Same H1 (upd H3 tl (.lst [.int 0])) := snew s3 htl
            have sm : Same H1 (upd (upd H1 dx (.own x)) x (.ins CI dx [])) := fun b o e => by
              rw [upd_ne (ne_of_none e nx), upd_ne (ne_of_none e ndx)]
              exact e
            refine ⟨some ⟨[], []⟩, .ref x, tl, 0, [], rfl, hz rfl, s1.trans s4, s4 _ _ h1, upd_same, Ne.symm (ne_of_none (s3 _ _ h1) htl), x, rfl, Same.free s1 nx, ⟨dx, a0, b0, same_new htl _ _ hi, ⟨[], same_new htl _ _ ha, .nil⟩, same_new htl _ _ hb⟩, valid_new, ?_⟩
            rintro y ⟨dx', a', b', e1, e2⟩
            have e3 : some (HO.ins CI dx (instF a0 b0)) = some (HO.ins CI dx' (instF a' b')) := (same_new (o := .lst [.int 0]) htl _ _ hi).symm.trans e1
            injection e3 with e3
            injection e3 with _ _ e3
            injection e3 with e4 e5
            injection e4 with _ e4
            injection e4 with e4
            injection e5 with e5 _
            injection e5 with _ e5
            injection e5 with e5
            subst e4 e5
            rcases e2 with e2 | e2
            · subst e2
              exact Ne.symm (ne_of_none h1 (Same.free sm na))
            · subst e2
              exact Ne.symm (ne_of_none h1 (Same.free sm nb))
          · rw [show decide (nat op = V.int 0) = false from decide_eq_false (fun e => c0 (by injection e with e; omega))]
            refine iteF ?_
            obtain ⟨c, hc, hnz⟩ := hnz c0
            refine ⟨_, rfl, _, rfl, _, rfl, ⟨_, rfl, _, _, rfl, rfl, _, rfl, _, rfl, _, rfl, a, _, rfl, hS1, fun p hpn => ?_⟩⟩
            have sp : Same H1 (upd H1 p (.lst (xs.map nat))) := same_new hpn
            have ecut : cutV (ns.map V.int) (some ((j : Int) + 1)) (some ((j : Int) + 1 + (n : Int))) = xs.map nat := by
              have e := cut_is (l := ns.map V.int) (i := j + 1) (n := n) (by rw [List.length_map]; exact hend)
              rw [ints_map, ← hxs, List.map_take, List.map_drop]
              exact e
            rw [ecut]
            cases st with
            | none =>
              have e : iv = .non := hst
              subst e
              refine .inl ⟨op, p, rfl, fun H3 l s3 hl h3 => ?_⟩
              have s4 := sp.trans s3
              exact ⟨none, .non, l, -11, [], rfl, hnz none (-11) [] (step_none (call_not_create hc)), s1.trans s4, s4 _ _ h1, h3, Ne.symm (ne_of_none (sp _ _ h1) hl), rfl⟩
            | some tt =>
              obtain ⟨i, e, h0, hI, hV, hno⟩ := hst
              subst e
              refine .inr ⟨i, p, op, xs, tt, c, rfl, hI.same sp, hV, upd_same, hc, fun tt' num nums es H3 l bt hI3 hL3 hl h3 => ?_⟩
              obtain ⟨dx, ia, ib, hi, _⟩ := id hI
              have nL : L ≠ i := ne_of h1 hi (by intro z; cases z)
              have hVt : Valid tt' := by
                obtain ⟨t2, n2, ns2, e2, v2⟩ := step_ok hV c
                have e3 := congrArg Prod.fst (es.symm.trans e2)
                have e4 : tt' = t2 := Option.some.inj e3
                rw [e4]
                exact v2
              refine ⟨some tt', .ref i, l, num, nums, rfl, hnz (some tt') num nums es, fun b o q => bt b o (sp b o (s1 b o q)) (ne_of_none q h0), bt _ _ (sp _ _ h1) nL, h3, Ne.symm (ne_of_none (sp _ _ h1) hl), i, rfl, h0, hI3, hVt, fun x hx => ?_⟩
              rcases hL3 x hx with q | q
              · exact hno x (q.back (sp _ _ hi) hi)
              · exact Ne.symm (ne_of_none (sp _ _ h1) q)
        · rintro σ' H2 ⟨st', iv', tl, num, nums, rfl, hR2, s2, h2, ht, hne, hst2⟩
          have z1 := rest_len hR
          have z2 := rest_len hR2
          rw [List.length_append, List.length_cons] at z2
          have big : 10000000 < sizeLine := by decide
          refine ⟨_, rfl, .inl ⟨rfl, _, SqL.of h2⟩, _, rfl, ⟨tl, _, rfl, .inl (SqL.of ht), L, _, _, rfl, rfl, h2, by rw [List.length_map]; omega, ?_⟩⟩
          have nL : H L = none := hL
          have s3 : Same H (upd H2 L (.lst (done.map V.int ++ [V.int ((((num :: nums).map V.int).length : Nat) : Int)]))) := snew2 s2 hL
          refine ⟨_, rfl, .inl ⟨rfl, _, SqL.of upd_same⟩, _, rfl, L, tl, _, _, rfl, rfl, upd_same, by rw [upd_ne hne]; exact ht, by rw [List.length_append, List.length_map, List.length_map, List.length_singleton]; omega, ?_⟩
          refine ⟨_, rfl, ⟨st', j + 1 + n, _, iv', _, _, _, rfl, hR2, hend, snew2 s3 hL, ?_, (hst2.put h2).put upd_same⟩, ?_⟩
          · rw [upd_same, List.length_map, List.append_assoc, List.map_append]
            rfl
          · show ns.length - (j + 1 + n) < ns.length - j
            omega
      · rw [decide_eq_false (fun z => c (Int.ofNat_lt.mp z))]
        have e := rest_end (Nat.not_lt.mp c) hR
        subst e
        exact iteF ⟨_, rfl, hq H1 L h1⟩
    · rintro σ H1 Q1 Q2 hq12 ⟨v, h2, v2, h3, p, ys, h4, h5, i1, j1, h6, h7, k, h8, h9⟩
      exact ⟨v, h2, v2, h3, p, ys, h4, h5, i1, j1, h6, h7, k, h8, hq12 _ _ h9⟩
end
end Cv
/-! # The end: what the written part holds, and the promise of answers -/
namespace Cv
open PySem PySem.Spec PyProof.Rows L2
open Km561 (Ship Timetable toInts)
/-- one value for each parameter, and nothing else -/
def BindOk (x q : Str) (st : Stmt) (ps : List Str) : Prop := ∀ (kV doc pm : Value) (an : Option Addr) (cdv ct : Value) (us : List Value), us.length = ps.length → bindArgs (PySem.W.fnOf x q (defArgs st) (defBody st) (defScope st) .none kV doc pm an cdv ct) ⟨us, []⟩ = pure (ps.zip us)
section
variable {P : Program} {w : World} {K : PySem.W.Frag} {h : Heap} {mg : Str → Option Value} {base : Heap} {CI CR : Addr}
theorem defAt_mk {x : Str} {i : Nat} {ps : List Str} (b : BindOk x x (top i) ps) (X : K.In h) (G : h.Ns mainGlobals mg) {f : Addr} {oc : Value} {od an : Option Addr} {sl : Array (Option Value)} {kV dc pm cd ct : Value} (a : PySem.W.nsIn K mainGlobals x = some (some (.ref f)))
    (l : K.lookup f = some ⟨oc, od, .func (PySem.W.fnOf x x (defArgs (top i)) (defBody (top i)) (defScope (top i)) .none kV dc pm an cd ct), sl⟩) (c : PySem.W.codeIn K cd x = true) (k : PySem.W.keepIn K (.ref f) = true) : DefAt K mg x i ps :=
  ⟨f, _, fun_mk l c k, PySem.W.mg_of X G a, (fun_mk l c k).binds b⟩
theorem named_mk {x : Str} {z : Int} {t : Tok} (X : K.In h) (G : h.Ns mainGlobals mg) (a : PySem.W.nsIn K mainGlobals x = some (some (.int z t))) : Named mg x (.int z) := ⟨_, PySem.W.mg_of X G a, t, rfl⟩
theorem namedR_mk {x : Str} {p : Addr} (X : K.In h) (G : h.Ns mainGlobals mg) (a : PySem.W.nsIn K mainGlobals x = some (some (.ref p))) : Named mg x (.ref p) := ⟨_, PySem.W.mg_of X G a, rfl⟩
/-- a method of the text -/
structure MethAt (K : PySem.W.Frag) (CI : Addr) (x q : Str) (st : Stmt) (ps : List Str) : Prop where
  ex : ∃ (f : Addr) (fd : FuncData), Fun K x q st f fd ∧ PySem.W.findIn K (.ref CI) x = some (some (.ref f)) ∧ PySem.W.isFn K (.ref f) = true ∧ Binds K fd ps []
theorem methAt_mk {x q : Str} {st : Stmt} {ps : List Str} (b : BindOk x q st ps) {f : Addr} {oc : Value} {od an : Option Addr} {sl : Array (Option Value)} {kV dc pm cd ct : Value} (a : PySem.W.findIn K (.ref CI) x = some (some (.ref f))) (i : PySem.W.isFn K (.ref f) = true)
    (l : K.lookup f = some ⟨oc, od, .func (PySem.W.fnOf x q (defArgs st) (defBody st) (defScope st) .none kV dc pm an cd ct), sl⟩) (c : PySem.W.codeIn K cd q = true) (k : PySem.W.keepIn K (.ref f) = true) : MethAt K CI x q st ps :=
  ⟨f, _, fun_mk l c k, a, i, (fun_mk l c k).binds b⟩
/-- an error of the class at S is what «except S» names -/
theorem exm_self {S : Addr} (h1 : PySem.W.subIn K (.ref S) (.type "BaseException") = some true) (h2 : PySem.W.isClsIn K S = true) (h3 : PySem.W.typeIn K (.ref S) = some (.type "type")) (h4 : PySem.W.subIn K (.ref S) (.ref S) = some true) :
    PySem.W.exmOne K (.ref S) (.ref S) = some true := by
  have e1 : (PySem.W.subIn K (.ref S) (.type "BaseException") == some true) = true := by rw [h1] <;> rfl
  have e2 : ((PySem.W.clsIn K S).isSome && PySem.W.typeIn K (.ref S) == some (.type "type")) = true := by
    have h2' : (PySem.W.clsIn K S).isSome = true := h2
    rw [h2', h3] <;> rfl
  show (if (PySem.W.subIn K (.ref S) (.type "BaseException") == some true) = true then (if ((PySem.W.clsIn K S).isSome && PySem.W.typeIn K (.ref S) == some (.type "type")) = true then PySem.W.subIn K (.ref S) (.ref S) else none) else none) = some true
  rw [if_pos e1, if_pos e2]
  exact h4
theorem ref_mk (X : K.In h) (G : h.Ns mainGlobals mg) {nm q : Str} {N : Addr} {bs : List Value} {sn : List Str} {sub : List Value} {ab : Bool} {col : Option Bool} {dd : Option Addr} {m0 m1 m2 m3 m5 : Option Value}
    (aC : PySem.W.nsIn K mainGlobals "Refusal" = some (some (.ref CR)))
    (xL : K.lookup CR = some (excClassObj nm q CR N bs [.type "ValueError", .type "Exception", .type "BaseException", .type "object"] true sn sub ab col dd m0 m1 m2 m3 m5 "ValueError.__new__"))
    (sa : PySem.W.findIn K (.ref CR) "__setattr__" = some (some (.builtin "object.__setattr__"))) (ga : PySem.W.findIn K (.ref CR) "__getattribute__" = some (some (.builtin "BaseException.__getattribute__"))) (gg : PySem.W.findIn K (.ref CR) "__getattr__" = some none) (nc : PySem.W.findIn K (.ref CR) "code" = some none)
    (kC : PySem.W.keepIn K (.ref CR) = true) (eC : PySem.W.subIn K (.ref CR) (.type "BaseException") = some true) (tC : PySem.W.typeIn K (.ref CR) = some (.type "type")) (hC : PySem.W.hasDictIn K CR = true) (iC : PySem.W.isClsIn K CR = true) (sC : PySem.W.subIn K (.ref CR) (.ref CR) = some true)
    (nv : PySem.W.nsIn K mainGlobals "ValueError" = some none) (vi : PySem.W.findCls K (.type "ValueError") (.type "type") "__init__" = some (.val (.builtin "ValueError.__init__"))) : Ref K mg CR :=
  { C := ⟨⟨nm, q, N, bs, _, sn, sub, ab, col, dd, m0, m1, m2, m3, m5, xL, by decide +kernel⟩, sa, eC, tC, kC⟩, X := ⟨ga, gg, eC, hC⟩, g := PySem.W.mg_of X G aC, nc := nc, te := exm_self eC iC tC sC, ve := PySem.W.mg_none_of X G nv, vi := vi }
/-- the keys of the table of deeds -/
def keysB : List DictEntry → Bool
  | [] => true
  | e :: es => (match e.key with
    | .int k _ => e.hash == hashInt k
    | _ => false) && keysB es
theorem keysB_ok : ∀ {l : List DictEntry}, keysB l = true → ∀ e ∈ l, ∃ (k : Int) (t : Tok), e.key = .int k t ∧ e.hash = hashInt k
  | [], _, e, he => by cases he
  | d :: l, hb, e, he => by
    have h1 : ((match d.key with
      | .int k _ => d.hash == hashInt k
      | _ => false) && keysB l) = true := hb
    rw [Bool.and_eq_true] at h1
    rcases List.mem_cons.mp he with q | q
    · subst q
      have h2 := h1.1
      split at h2
      · rename_i k t e1
        exact ⟨k, t, e1, eq_of_beq h2⟩
      · cases h2
    · exact keysB_ok h1.2 e q
theorem tab_mk {aD : Addr} {es : List DictEntry} {n : Nat} (l : K.lookup aD = some ⟨.type "dict", none, .dict ⟨es⟩ n, #[]⟩) (hb : keysB es = true) : IntTab K aD ⟨es⟩ n := ⟨l, fun e he => keysB_ok hb e (Array.mem_toList_iff.mpr he)⟩
/-- what the table holds under a number -/
def findI (z : Int) : List DictEntry → Option Value
  | [] => none
  | e :: es => if Value.isInt z e.key = true then some e.val else findI z es
theorem findI_is {z : Int} : ∀ {l : List DictEntry}, findBy Value.isInt ⟨l⟩ z = findI z l
  | [] => rfl
  | e :: l => by
    have ih := findI_is (z := z) (l := l)
    unfold findBy at ih ⊢
    rw [List.find?_toArray] at ih ⊢
    rw [List.find?_cons]
    unfold findI
    by_cases c : Value.isInt z e.key = true
    · rw [if_pos c]
      simp only [c]
      rfl
    · rw [if_neg c]
      have c' : Value.isInt z e.key = false := by
        cases q : Value.isInt z e.key with
        | true => exact absurd q c
        | false => rfl
      simp only [c']
      exact ih
theorem kint_mk {aD f0 : Addr} {x : Str} {es : List DictEntry} {n : Nat} {z : Int} (T : IntTab K aD ⟨es⟩ n) (m : mg x = some (.ref f0)) (e : findI z es = some (.ref f0)) : ∀ f, mg x = some (.ref f) → KInt K aD z (.ref f) := fun f g => by
  rw [m] at g
  cases g
  exact ⟨_, n, _, T, findI_is.trans e, rfl⟩
theorem tyR_mk {C fR : Addr} (a : PySem.W.findIn K (.ref C) "__init__" = some (some (.ref fR))) (t : PySem.W.typeIn K (.ref fR) = some (.type "function")) : ∀ f, PySem.W.findIn K (.ref C) "__init__" = some (some (.ref f)) → PySem.W.typeIn K (.ref f) = some (.type "function") := fun f e => by
  rw [a] at e
  cases e
  exact t
theorem counts_mk {aC : Addr} {its : Array Value} {n : Nat} (l : K.lookup aC = some ⟨.type "tuple", none, .seq its n, #[]⟩) (hs : its.size ≤ sizeLine) (hv : Vals (cnt.map nat) its.toList) : Counts K aC := fun _ => .inr ⟨_, its, n, l, rfl, rfl, hs, hv⟩
end
theorem bok_15 : BindOk "check_hour" "check_hour" (top 15) ["hour"] := fun _ _ _ _ _ _ us hl => match us, hl with | [_], _ => rfl
theorem bok_16 : BindOk "check_weight" "check_weight" (top 16) ["weight"] := fun _ _ _ _ _ _ us hl => match us, hl with | [_], _ => rfl
theorem bok_17 : BindOk "check_ship" "check_ship" (top 17) ["instance", "ship"] := fun _ _ _ _ _ _ us hl => match us, hl with | [_, _], _ => rfl
theorem bok_18 : BindOk "ships_with" "ships_with" (top 18) ["instance", "arrival", "weight"] := fun _ _ _ _ _ _ us hl => match us, hl with | [_, _, _], _ => rfl
theorem bok_19 : BindOk "ships_without" "ships_without" (top 19) ["instance", "ship"] := fun _ _ _ _ _ _ us hl => match us, hl with | [_, _], _ => rfl
theorem bok_20 : BindOk "ships_changed" "ships_changed" (top 20) ["instance", "ship", "arrival", "weight"] := fun _ _ _ _ _ _ us hl => match us, hl with | [_, _, _, _], _ => rfl
theorem bok_21 : BindOk "add_ship" "add_ship" (top 21) ["instance", "numbers"] := fun _ _ _ _ _ _ us hl => match us, hl with | [_, _], _ => rfl
theorem bok_22 : BindOk "remove_ship" "remove_ship" (top 22) ["instance", "numbers"] := fun _ _ _ _ _ _ us hl => match us, hl with | [_, _], _ => rfl
theorem bok_23 : BindOk "set_arrival" "set_arrival" (top 23) ["instance", "numbers"] := fun _ _ _ _ _ _ us hl => match us, hl with | [_, _], _ => rfl
theorem bok_24 : BindOk "set_weight" "set_weight" (top 24) ["instance", "numbers"] := fun _ _ _ _ _ _ us hl => match us, hl with | [_, _], _ => rfl
theorem bok_25 : BindOk "add_departure" "add_departure" (top 25) ["instance", "numbers"] := fun _ _ _ _ _ _ us hl => match us, hl with | [_, _], _ => rfl
theorem bok_26 : BindOk "cancel_departure" "cancel_departure" (top 26) ["instance", "numbers"] := fun _ _ _ _ _ _ us hl => match us, hl with | [_, _], _ => rfl
theorem bok_28 : BindOk "departure_from" "departure_from" (top 28) ["departures", "hour"] := fun _ _ _ _ _ _ us hl => match us, hl with | [_, _], _ => rfl
theorem bok_29 : BindOk "are_all_served" "are_all_served" (top 29) ["ships", "departures"] := fun _ _ _ _ _ _ us hl => match us, hl with | [_, _], _ => rfl
theorem bok_30 : BindOk "sum_of_waiting" "sum_of_waiting" (top 30) ["ships", "departures"] := fun _ _ _ _ _ _ us hl => match us, hl with | [_, _], _ => rfl
theorem bok_31 : BindOk "ships_leaving" "ships_leaving" (top 31) ["ships", "departures", "departure"] := fun _ _ _ _ _ _ us hl => match us, hl with | [_, _, _], _ => rfl
theorem bok_32 : BindOk "longest_of" "longest_of" (top 32) ["ships", "departures"] := fun _ _ _ _ _ _ us hl => match us, hl with | [_, _], _ => rfl
theorem bok_36 : BindOk "arrival_hours" "arrival_hours" (top 36) ["ships"] := fun _ _ _ _ _ _ us hl => match us, hl with | [_], _ => rfl
theorem bok_37 : BindOk "hour_lists" "hour_lists" (top 37) ["hours", "most"] := fun _ _ _ _ _ _ us hl => match us, hl with | [_, _], _ => rfl
theorem bok_38 : BindOk "optimal" "optimal" (top 38) ["ships", "most"] := fun _ _ _ _ _ _ us hl => match us, hl with | [_, _], _ => rfl
theorem bok_39 : BindOk "optimal_waiting" "optimal_waiting" (top 39) ["ships", "most"] := fun _ _ _ _ _ _ us hl => match us, hl with | [_, _], _ => rfl
theorem bok_40 : BindOk "fewest_within" "fewest_within" (top 40) ["ships", "limit"] := fun _ _ _ _ _ _ us hl => match us, hl with | [_, _], _ => rfl
theorem bok_41 : BindOk "cheapest" "cheapest" (top 41) ["ships", "price"] := fun _ _ _ _ _ _ us hl => match us, hl with | [_, _], _ => rfl
theorem bok_43 : BindOk "told_total" "told_total" (top 43) ["ships", "departures"] := fun _ _ _ _ _ _ us hl => match us, hl with | [_, _], _ => rfl
theorem bok_44 : BindOk "told_departure" "told_departure" (top 44) ["departures", "hour"] := fun _ _ _ _ _ _ us hl => match us, hl with | [_, _], _ => rfl
theorem bok_45 : BindOk "list_ships" "list_ships" (top 45) ["instance", "numbers"] := fun _ _ _ _ _ _ us hl => match us, hl with | [_, _], _ => rfl
theorem bok_46 : BindOk "list_departures" "list_departures" (top 46) ["instance", "numbers"] := fun _ _ _ _ _ _ us hl => match us, hl with | [_, _], _ => rfl
theorem bok_47 : BindOk "all_served" "all_served" (top 47) ["instance", "numbers"] := fun _ _ _ _ _ _ us hl => match us, hl with | [_, _], _ => rfl
theorem bok_48 : BindOk "total_waiting" "total_waiting" (top 48) ["instance", "numbers"] := fun _ _ _ _ _ _ us hl => match us, hl with | [_, _], _ => rfl
theorem bok_49 : BindOk "waiting_time" "waiting_time" (top 49) ["instance", "numbers"] := fun _ _ _ _ _ _ us hl => match us, hl with | [_, _], _ => rfl
theorem bok_50 : BindOk "longest_waiting" "longest_waiting" (top 50) ["instance", "numbers"] := fun _ _ _ _ _ _ us hl => match us, hl with | [_, _], _ => rfl
theorem bok_51 : BindOk "total_waiting_with" "total_waiting_with" (top 51) ["instance", "numbers"] := fun _ _ _ _ _ _ us hl => match us, hl with | [_, _], _ => rfl
theorem bok_52 : BindOk "next_departure" "next_departure" (top 52) ["instance", "numbers"] := fun _ _ _ _ _ _ us hl => match us, hl with | [_, _], _ => rfl
theorem bok_53 : BindOk "ships_per_departure" "ships_per_departure" (top 53) ["instance", "numbers"] := fun _ _ _ _ _ _ us hl => match us, hl with | [_, _], _ => rfl
theorem bok_54 : BindOk "summary" "summary" (top 54) ["instance", "numbers"] := fun _ _ _ _ _ _ us hl => match us, hl with | [_, _], _ => rfl
theorem bok_57 : BindOk "check_count" "check_count" (top 57) ["count", "least"] := fun _ _ _ _ _ _ us hl => match us, hl with | [_, _], _ => rfl
theorem bok_58 : BindOk "present_count" "present_count" (top 58) ["instance"] := fun _ _ _ _ _ _ us hl => match us, hl with | [_], _ => rfl
theorem bok_59 : BindOk "optimal_departures" "optimal_departures" (top 59) ["instance", "numbers"] := fun _ _ _ _ _ _ us hl => match us, hl with | [_, _], _ => rfl
theorem bok_60 : BindOk "use_optimal_departures" "use_optimal_departures" (top 60) ["instance", "numbers"] := fun _ _ _ _ _ _ us hl => match us, hl with | [_, _], _ => rfl
theorem bok_61 : BindOk "excess_waiting" "excess_waiting" (top 61) ["instance", "numbers"] := fun _ _ _ _ _ _ us hl => match us, hl with | [_, _], _ => rfl
theorem bok_62 : BindOk "saving_of_departure" "saving_of_departure" (top 62) ["instance", "numbers"] := fun _ _ _ _ _ _ us hl => match us, hl with | [_, _], _ => rfl
theorem bok_63 : BindOk "min_departures" "min_departures" (top 63) ["instance", "numbers"] := fun _ _ _ _ _ _ us hl => match us, hl with | [_, _], _ => rfl
theorem bok_64 : BindOk "cheapest_count" "cheapest_count" (top 64) ["instance", "numbers"] := fun _ _ _ _ _ _ us hl => match us, hl with | [_, _], _ => rfl
theorem bok_65 : BindOk "optimal_waiting_with_ship" "optimal_waiting_with_ship" (top 65) ["instance", "numbers"] := fun _ _ _ _ _ _ us hl => match us, hl with | [_, _], _ => rfl
theorem bok_66 : BindOk "optimal_waiting_without_ship" "optimal_waiting_without_ship" (top 66) ["instance", "numbers"] := fun _ _ _ _ _ _ us hl => match us, hl with | [_, _], _ => rfl
theorem bok_71 : BindOk "answer" "answer" (top 71) ["instance", "call", "numbers"] := fun _ _ _ _ _ _ us hl => match us, hl with | [_, _, _], _ => rfl
theorem bok_72 : BindOk "answers" "answers" (top 72) ["calls"] := fun _ _ _ _ _ _ us hl => match us, hl with | [_], _ => rfl
theorem bok_R : BindOk "__init__" "Refusal.__init__" (inClass (top 7) 0) ["self", "code"] := fun _ _ _ _ _ _ us hl => match us, hl with | [_, _], _ => rfl
theorem bok_I : BindOk "__init__" "Instance.__init__" (inClass (top 14) 0) ["self"] := fun _ _ _ _ _ _ us hl => match us, hl with | [_], _ => rfl
theorem bok_S : BindOk "put_ships" "Instance.put_ships" (inClass (top 14) 1) ["self", "ships"] := fun _ _ _ _ _ _ us hl => match us, hl with | [_, _], _ => rfl
theorem bok_D : BindOk "put_departures" "Instance.put_departures" (inClass (top 14) 2) ["self", "departures"] := fun _ _ _ _ _ _ us hl => match us, hl with | [_, _], _ => rfl
section
variable {P : Program} {w : World} {K : PySem.W.Frag} {h : Heap} {mg : Str → Option Value} {base : Heap} {CI CR : Addr}
/-- all defs of the text -/
structure AllDefs (K : PySem.W.Frag) (mg : Str → Option Value) : Prop where
  d15 : DefAt K mg "check_hour" 15 ["hour"]
  d16 : DefAt K mg "check_weight" 16 ["weight"]
  d17 : DefAt K mg "check_ship" 17 ["instance", "ship"]
  d18 : DefAt K mg "ships_with" 18 ["instance", "arrival", "weight"]
  d19 : DefAt K mg "ships_without" 19 ["instance", "ship"]
  d20 : DefAt K mg "ships_changed" 20 ["instance", "ship", "arrival", "weight"]
  d21 : DefAt K mg "add_ship" 21 ["instance", "numbers"]
  d22 : DefAt K mg "remove_ship" 22 ["instance", "numbers"]
  d23 : DefAt K mg "set_arrival" 23 ["instance", "numbers"]
  d24 : DefAt K mg "set_weight" 24 ["instance", "numbers"]
  d25 : DefAt K mg "add_departure" 25 ["instance", "numbers"]
  d26 : DefAt K mg "cancel_departure" 26 ["instance", "numbers"]
  d28 : DefAt K mg "departure_from" 28 ["departures", "hour"]
  d29 : DefAt K mg "are_all_served" 29 ["ships", "departures"]
  d30 : DefAt K mg "sum_of_waiting" 30 ["ships", "departures"]
  d31 : DefAt K mg "ships_leaving" 31 ["ships", "departures", "departure"]
  d32 : DefAt K mg "longest_of" 32 ["ships", "departures"]
  d36 : DefAt K mg "arrival_hours" 36 ["ships"]
  d37 : DefAt K mg "hour_lists" 37 ["hours", "most"]
  d38 : DefAt K mg "optimal" 38 ["ships", "most"]
  d39 : DefAt K mg "optimal_waiting" 39 ["ships", "most"]
  d40 : DefAt K mg "fewest_within" 40 ["ships", "limit"]
  d41 : DefAt K mg "cheapest" 41 ["ships", "price"]
  d43 : DefAt K mg "told_total" 43 ["ships", "departures"]
  d44 : DefAt K mg "told_departure" 44 ["departures", "hour"]
  d45 : DefAt K mg "list_ships" 45 ["instance", "numbers"]
  d46 : DefAt K mg "list_departures" 46 ["instance", "numbers"]
  d47 : DefAt K mg "all_served" 47 ["instance", "numbers"]
  d48 : DefAt K mg "total_waiting" 48 ["instance", "numbers"]
  d49 : DefAt K mg "waiting_time" 49 ["instance", "numbers"]
  d50 : DefAt K mg "longest_waiting" 50 ["instance", "numbers"]
  d51 : DefAt K mg "total_waiting_with" 51 ["instance", "numbers"]
  d52 : DefAt K mg "next_departure" 52 ["instance", "numbers"]
  d53 : DefAt K mg "ships_per_departure" 53 ["instance", "numbers"]
  d54 : DefAt K mg "summary" 54 ["instance", "numbers"]
  d57 : DefAt K mg "check_count" 57 ["count", "least"]
  d58 : DefAt K mg "present_count" 58 ["instance"]
  d59 : DefAt K mg "optimal_departures" 59 ["instance", "numbers"]
  d60 : DefAt K mg "use_optimal_departures" 60 ["instance", "numbers"]
  d61 : DefAt K mg "excess_waiting" 61 ["instance", "numbers"]
  d62 : DefAt K mg "saving_of_departure" 62 ["instance", "numbers"]
  d63 : DefAt K mg "min_departures" 63 ["instance", "numbers"]
  d64 : DefAt K mg "cheapest_count" 64 ["instance", "numbers"]
  d65 : DefAt K mg "optimal_waiting_with_ship" 65 ["instance", "numbers"]
  d66 : DefAt K mg "optimal_waiting_without_ship" 66 ["instance", "numbers"]
  d71 : DefAt K mg "answer" 71 ["instance", "call", "numbers"]
/-- the table of deeds holds them -/
structure AllKeys (K : PySem.W.Frag) (mg : Str → Option Value) (aD : Addr) : Prop where
  k1 : ∀ f, mg "add_ship" = some (.ref f) → KInt K aD 1 (.ref f)
  k2 : ∀ f, mg "remove_ship" = some (.ref f) → KInt K aD 2 (.ref f)
  k3 : ∀ f, mg "set_arrival" = some (.ref f) → KInt K aD 3 (.ref f)
  k4 : ∀ f, mg "set_weight" = some (.ref f) → KInt K aD 4 (.ref f)
  k5 : ∀ f, mg "list_ships" = some (.ref f) → KInt K aD 5 (.ref f)
  k6 : ∀ f, mg "add_departure" = some (.ref f) → KInt K aD 6 (.ref f)
  k7 : ∀ f, mg "cancel_departure" = some (.ref f) → KInt K aD 7 (.ref f)
  k8 : ∀ f, mg "list_departures" = some (.ref f) → KInt K aD 8 (.ref f)
  k9 : ∀ f, mg "all_served" = some (.ref f) → KInt K aD 9 (.ref f)
  k10 : ∀ f, mg "total_waiting" = some (.ref f) → KInt K aD 10 (.ref f)
  k11 : ∀ f, mg "waiting_time" = some (.ref f) → KInt K aD 11 (.ref f)
  k12 : ∀ f, mg "longest_waiting" = some (.ref f) → KInt K aD 12 (.ref f)
  k13 : ∀ f, mg "optimal_departures" = some (.ref f) → KInt K aD 13 (.ref f)
  k14 : ∀ f, mg "use_optimal_departures" = some (.ref f) → KInt K aD 14 (.ref f)
  k15 : ∀ f, mg "excess_waiting" = some (.ref f) → KInt K aD 15 (.ref f)
  k16 : ∀ f, mg "saving_of_departure" = some (.ref f) → KInt K aD 16 (.ref f)
  k17 : ∀ f, mg "min_departures" = some (.ref f) → KInt K aD 17 (.ref f)
  k18 : ∀ f, mg "cheapest_count" = some (.ref f) → KInt K aD 18 (.ref f)
  k19 : ∀ f, mg "total_waiting_with" = some (.ref f) → KInt K aD 19 (.ref f)
  k20 : ∀ f, mg "next_departure" = some (.ref f) → KInt K aD 20 (.ref f)
  k21 : ∀ f, mg "ships_per_departure" = some (.ref f) → KInt K aD 21 (.ref f)
  k22 : ∀ f, mg "optimal_waiting_with_ship" = some (.ref f) → KInt K aD 22 (.ref f)
  k23 : ∀ f, mg "optimal_waiting_without_ship" = some (.ref f) → KInt K aD 23 (.ref f)
  k24 : ∀ f, mg "summary" = some (.ref f) → KInt K aD 24 (.ref f)
/-- .. read off its entries -/
theorem allKeys_mk {aD : Addr} {es : List DictEntry} {n : Nat} (T : IntTab K aD ⟨es⟩ n) {f1 : Addr} (m1 : mg "add_ship" = some (.ref f1)) (e1 : findI 1 es = some (.ref f1)) {f2 : Addr} (m2 : mg "remove_ship" = some (.ref f2)) (e2 : findI 2 es = some (.ref f2)) {f3 : Addr} (m3 : mg "set_arrival" = some (.ref f3)) (e3 : findI 3 es = some (.ref f3)) {f4 : Addr} (m4 : mg "set_weight" = some (.ref f4)) (e4 : findI 4 es = some (.ref f4)) {f5 : Addr} (m5 : mg "list_ships" = some (.ref f5)) (e5 : findI 5 es = some (.ref f5)) {f6 : Addr} (m6 : mg "add_departure" = some (.ref f6)) (e6 : findI 6 es = some (.ref f6)) {f7 : Addr} (m7 : mg "cancel_departure" = some (.ref f7)) (e7 : findI 7 es = some (.ref f7)) {f8 : Addr} (m8 : mg "list_departures" = some (.ref f8)) (e8 : findI 8 es = some (.ref f8)) {f9 : Addr} (m9 : mg "all_served" = some (.ref f9)) (e9 : findI 9 es = some (.ref f9)) {f10 : Addr} (m10 : mg "total_waiting" = some (.ref f10)) (e10 : findI 10 es = some (.ref f10)) {f11 : Addr} (m11 : mg "waiting_time" = some (.ref f11)) (e11 : findI 11 es = some (.ref f11)) {f12 : Addr} (m12 : mg "longest_waiting" = some (.ref f12)) (e12 : findI 12 es = some (.ref f12)) {f13 : Addr} (m13 : mg "optimal_departures" = some (.ref f13)) (e13 : findI 13 es = some (.ref f13)) {f14 : Addr} (m14 : mg "use_optimal_departures" = some (.ref f14)) (e14 : findI 14 es = some (.ref f14)) {f15 : Addr} (m15 : mg "excess_waiting" = some (.ref f15)) (e15 : findI 15 es = some (.ref f15)) {f16 : Addr} (m16 : mg "saving_of_departure" = some (.ref f16)) (e16 : findI 16 es = some (.ref f16)) {f17 : Addr} (m17 : mg "min_departures" = some (.ref f17)) (e17 : findI 17 es = some (.ref f17)) {f18 : Addr} (m18 : mg "cheapest_count" = some (.ref f18)) (e18 : findI 18 es = some (.ref f18)) {f19 : Addr} (m19 : mg "total_waiting_with" = some (.ref f19)) (e19 : findI 19 es = some (.ref f19)) {f20 : Addr} (m20 : mg "next_departure" = some (.ref f20)) (e20 : findI 20 es = some (.ref f20)) {f21 : Addr} (m21 : mg "ships_per_departure" = some (.ref f21)) (e21 : findI 21 es = some (.ref f21)) {f22 : Addr} (m22 : mg "optimal_waiting_with_ship" = some (.ref f22)) (e22 : findI 22 es = some (.ref f22)) {f23 : Addr} (m23 : mg "optimal_waiting_without_ship" = some (.ref f23)) (e23 : findI 23 es = some (.ref f23)) {f24 : Addr} (m24 : mg "summary" = some (.ref f24)) (e24 : findI 24 es = some (.ref f24)) : AllKeys K mg aD :=
  ⟨kint_mk T m1 e1, kint_mk T m2 e2, kint_mk T m3 e3, kint_mk T m4 e4, kint_mk T m5 e5, kint_mk T m6 e6, kint_mk T m7 e7, kint_mk T m8 e8, kint_mk T m9 e9, kint_mk T m10 e10, kint_mk T m11 e11, kint_mk T m12 e12, kint_mk T m13 e13, kint_mk T m14 e14, kint_mk T m15 e15, kint_mk T m16 e16, kint_mk T m17 e17, kint_mk T m18 e18, kint_mk T m19 e19, kint_mk T m20 e20, kint_mk T m21 e21, kint_mk T m22 e22, kint_mk T m23 e23, kint_mk T m24 e24⟩
theorem all_deeds (T : Txt K mg CI CR) (RI : RefInit P w K mg base CR) (mS : MetS P w K mg base CI) (mD : MetD P w K mg base CI) (D : AllDefs K mg) {aD : Addr} (Y : AllKeys K mg aD) : Deeds P w K mg base CI CR aD := by
  have cH : Has P w K mg base (L2.CX P w) 3 "check_hour" (spCheckHour CR) := has_check_hour T RI D.d15
  have cWt : Has P w K mg base (L2.CX P w) 3 "check_weight" (spCheckWeight CR) := has_check_weight T RI D.d16
  have cSh : Has P w K mg base (L2.CX P w) 3 "check_ship" (spCheckShip CI CR) := has_check_ship T RI D.d17
  have cWith : Has P w K mg base (L2.CX P w) 4 "ships_with" (spWith CI CR) := has_ships_with T RI D.d18 cH cWt
  have cOut : Has P w K mg base (L2.CX P w) 4 "ships_without" (spWithout CI CR) := has_ships_without T D.d19 cSh
  have cChg : Has P w K mg base CX0 1 "ships_changed" (spChanged CI) := has_ships_changed T D.d20
  have cDep : Has P w K mg base CX0 1 "departure_from" (spDep K) := has_departure_from T D.d28
  have cSrv : Has P w K mg base CX0 2 "are_all_served" spServed := has_served T D.d29 cDep
  have cSum : Has P w K mg base CX0 2 "sum_of_waiting" spSum := has_sum T D.d30 cDep
  have cLv : Has P w K mg base CX0 2 "ships_leaving" spLeaving := has_leaving T D.d31 cDep
  have cLg : Has P w K mg base CX0 2 "longest_of" (spLong K) := has_longest T D.d32 cDep
  have cHrs : Has P w K mg base CX0 1 "arrival_hours" spHours := has_hours T D.d36
  have cLst : Has P w K mg base CX0 1 "hour_lists" spLists := has_lists T D.d37
  have cOpt : Has P w K mg base CX0 3 "optimal" spOpt := has_optimal T D.d38 cHrs cLst cSrv cSum
  have cOw : Has P w K mg base CX0 4 "optimal_waiting" spOptW := has_optw T D.d39 cOpt
  have cFew : Has P w K mg base CX0 5 "fewest_within" spFewest := has_fewest T D.d40 cOw
  have cChp : Has P w K mg base CX0 5 "cheapest" spCheapest := has_cheapest T D.d41 cOw
  have cTot : Has P w K mg base (L2.CX P w) 3 "told_total" (spTotal CR) := has_total T RI D.d43 cSrv cSum
  have cTold : Has P w K mg base (L2.CX P w) 3 "told_departure" (spTold CR) := has_told T RI D.d44 cDep
  have cCnt : Has P w K mg base (L2.CX P w) 3 "check_count" (spCount CR) := has_count T RI D.d57
  have cPre : Has P w K mg base CX0 1 "present_count" (spPresent CI) := has_present T D.d58
  exact
    { d1 := deed_of (has_add_ship T D.d21 mS cWith) Y.k1, d2 := deed_of (has_remove_ship T D.d22 mS cOut) Y.k2, d3 := deed_of (has_set_arrival T D.d23 mS cSh cH cChg) Y.k3, d4 := deed_of (has_set_weight T D.d24 mS cSh cWt cChg) Y.k4,
      d5 := deed_of (has_list_ships T D.d45) Y.k5, d6 := deed_of (has_add_departure T RI D.d25 mD cH) Y.k6, d7 := deed_of (has_cancel_departure T RI D.d26 mD) Y.k7, d8 := deed_of (has_list_departures T D.d46) Y.k8,
      d9 := deed_of (has_all_served T D.d47 cSrv) Y.k9, d10 := deed_of (has_total_waiting T D.d48 cTot) Y.k10, d11 := deed_of (has_waiting_time T D.d49 cSh cTold) Y.k11, d12 := deed_of (has_longest_waiting T RI D.d50 cLg) Y.k12,
      d13 := deed_of (has_optimal_departures T D.d59 cCnt cOpt) Y.k13, d14 := deed_of (has_use_optimal T D.d60 mD cCnt cOpt) Y.k14, d15 := deed_of (has_excess T D.d61 cTot cOw) Y.k15, d16 := deed_of (has_saving T D.d62 cCnt cOw) Y.k16,
      d17 := deed_of (has_min_departures T D.d63 cFew) Y.k17, d18 := deed_of (has_cheapest_count T RI D.d64 cChp) Y.k18, d19 := deed_of (has_total_with T D.d51 cH cTot) Y.k19, d20 := deed_of (has_next T D.d52 cTold) Y.k20,
      d21 := deed_of (has_per_departure T D.d53 cLv) Y.k21, d22 := deed_of (has_with_ship T D.d65 cWith cOw cPre) Y.k22, d23 := deed_of (has_without_ship T D.d66 cOut cOw cPre) Y.k23, d24 := deed_of (has_summary T D.d54 cHrs) Y.k24 }
theorem all_mk (X : K.In h) (G : h.Ns mainGlobals mg) {fa : Addr} (hfa : mg "answers" = some (.ref fa)) (T : Txt K mg CI CR)
    (MR : MethAt K CR "__init__" "Refusal.__init__" (inClass (top 7) 0) ["self", "code"]) (tR : ∀ f, PySem.W.findIn K (.ref CR) "__init__" = some (some (.ref f)) → PySem.W.typeIn K (.ref f) = some (.type "function"))
    (mk : PySem.W.makesIn K CI = true) (kc : PySem.W.keepIn K (.ref CI) = true) (MI : MethAt K CI "__init__" "Instance.__init__" (inClass (top 14) 0) ["self"])
    (MS : MethAt K CI "put_ships" "Instance.put_ships" (inClass (top 14) 1) ["self", "ships"]) (MD : MethAt K CI "put_departures" "Instance.put_departures" (inClass (top 14) 2) ["self", "departures"])
    (D : AllDefs K mg) {aC aD : Addr} (gC : Named mg "COUNTS" (.ref aC)) (hC : Counts K aC) (gD : Named mg "DEEDS" (.ref aD)) (Y : AllKeys K mg aD) (DA : DefAt K mg "answers" 72 ["calls"]) :
    ∃ fd : FuncData, (∀ (s : Shared) (us : List Value), us.length = (["calls"] : List Str).length → BindsTo s fd ⟨us, []⟩ ((["calls"] : List Str).zip us)) ∧ ∀ base : Heap, K.In base → base.Ns mainGlobals mg → FnOk P w K mg base CX0 9 fa fd ["calls"] (spAnswers K) := by
  obtain ⟨fA, fdA, FA, gA, _⟩ := DA.ex
  have e := hfa.symm.trans gA
  cases e
  refine ⟨fdA, fun s us hu => ?_, fun base _ _ => ?_⟩
  · obtain ⟨oc, od, kV, dc, pm, an, cd, ct, sl, rfl, l, c⟩ := FA.ex
    exact match us, hu with | [_], _ => .of_eq rfl
  · obtain ⟨fR, fdR, FR, iR, _, bR⟩ := MR.ex
    obtain ⟨fI, fdI, FI, iI, nI, bI⟩ := MI.ex
    obtain ⟨fS, fdS, FS, iS, nS, bS⟩ := MS.ex
    obtain ⟨fD, fdD, FD, iD, nD, bD⟩ := MD.ex
    have RI : RefInit P w K mg base CR := ref_init T.ref iR (tR _ iR) FR bR
    have mS : MetS P w K mg base CI := ⟨fS, fdS, _, [], T.cl, ⟨iS, nS, FS.kp⟩, ok_putS T FS, bS, .nil⟩
    have mD : MetD P w K mg base CI := ⟨fD, fdD, _, [], T.cl, ⟨iD, nD, FD.kp⟩, ok_putD T FD, bD, .nil⟩
    exact has_answers T gC hC ⟨fI, fdI, ⟨mk, iI, nI, kc⟩, ok_inst T FI, bI⟩ FA (has_answer T gD D.d71 (all_deeds T RI mS mD D Y))
end
end Cv
open PySem PySem.W PyProof.Rows
set_option maxRecDepth 100000 in
set_option maxHeartbeats 8000000 in
theorem PySem.Challenge.cw_convoytimes_s01_answers_holds : PySem.Challenge.rw_convoytimes_s01_answers.Holds := by
  w_on; k_headS; (case hw => exact ⟨[.list [.int 5]], by decide +kernel, by decide +kernel⟩)
  k_fillS
  refine L2.walk_specK (r := PySem.Challenge.rw_convoytimes_s01_answers) (k := 9) (CX := L2.CX0) (ps := ["calls"]) (sp := Cv.spAnswers) (by decide +kernel) rfl rfl ⟨rfl, by decide, by decide⟩ (fun w h Y => PySem.W.kIn_of Y) ?F ?S (fun _ _ _ _ z => z)
  case F =>
    intro w mg fa h Y KX G hmg
    refine' Cv.all_mk KX G hmg ?T ?MR ?tR ?mk ?kc ?MI ?MS ?MD ?D ?gC ?hC ?gD ?Y ?DA
    case T =>
      refine' ⟨?ref, ?cl, ?nS, ?nD, ?gI, ?c_lastHour, ?c_leastWeight, ?c_greatestWeight, ?c_mostShips, ?c_mostDeps, ?c_noInstance, ?c_notThere, ?c_outOfRange, ?c_taken, ?c_full, ?c_notServed, ?c_fewest, ?c_most, ?c_greatestPrice, ?c_create, ?b_len, ?b_all, ?b_sum, ?b_enumerate, ?b_sorted, ?b_set, ?b_min, ?b_max, ?b_range, ?b_int⟩
      (case ref => refine' Cv.ref_mk KX G ?aC_R ?xL_R ?sa_R ?ga_R ?gg_R ?nc_R ?kC_R ?eC_R ?tC_R ?zC_R ?iC_R ?sC_R ?nv_R ?vi_R; (case aC_R => k_is); (case xL_R => k_is); (case sa_R => k_is); (case ga_R => k_is); (case gg_R => k_is); (case nc_R => k_is); (case kC_R => k_is); (case eC_R => k_is); (case tC_R => k_is); (case zC_R => k_is); (case iC_R => k_is); (case sC_R => first | rfl | k_is); (case nv_R => k_is); (case vi_R => k_is))
      (case gI => refine' PySem.W.mg_of KX G ?a_gI; (case a_gI => k_is))
      (case cl => refine' ⟨?pg_cl, ?hd_cl, ?po_cl, ?sa_cl⟩; (case pg_cl => k_is); (case hd_cl => k_is); (case po_cl => k_is); (case sa_cl => k_is))
      (case nS => unfold L2.NoAttr; k_is)
      (case nD => unfold L2.NoAttr; k_is)
      (case c_lastHour => refine' Cv.named_mk KX G ?a_lastHour; (case a_lastHour => k_is))
      (case c_leastWeight => refine' Cv.named_mk KX G ?a_leastWeight; (case a_leastWeight => k_is))
      (case c_greatestWeight => refine' Cv.named_mk KX G ?a_greatestWeight; (case a_greatestWeight => k_is))
      (case c_mostShips => refine' Cv.named_mk KX G ?a_mostShips; (case a_mostShips => k_is))
      (case c_mostDeps => refine' Cv.named_mk KX G ?a_mostDeps; (case a_mostDeps => k_is))
      (case c_noInstance => refine' Cv.named_mk KX G ?a_noInstance; (case a_noInstance => k_is))
      (case c_notThere => refine' Cv.named_mk KX G ?a_notThere; (case a_notThere => k_is))
      (case c_outOfRange => refine' Cv.named_mk KX G ?a_outOfRange; (case a_outOfRange => k_is))
      (case c_taken => refine' Cv.named_mk KX G ?a_taken; (case a_taken => k_is))
      (case c_full => refine' Cv.named_mk KX G ?a_full; (case a_full => k_is))
      (case c_notServed => refine' Cv.named_mk KX G ?a_notServed; (case a_notServed => k_is))
      (case c_fewest => refine' Cv.named_mk KX G ?a_fewest; (case a_fewest => k_is))
      (case c_most => refine' Cv.named_mk KX G ?a_most; (case a_most => k_is))
      (case c_greatestPrice => refine' Cv.named_mk KX G ?a_greatestPrice; (case a_greatestPrice => k_is))
      (case c_create => refine' Cv.named_mk KX G ?a_create; (case a_create => k_is))
      (case b_len => refine' PySem.W.mg_none_of KX G ?a_len; (case a_len => k_is))
      (case b_all => refine' PySem.W.mg_none_of KX G ?a_all; (case a_all => k_is))
      (case b_sum => refine' PySem.W.mg_none_of KX G ?a_sum; (case a_sum => k_is))
      (case b_enumerate => refine' PySem.W.mg_none_of KX G ?a_enumerate; (case a_enumerate => k_is))
      (case b_sorted => refine' PySem.W.mg_none_of KX G ?a_sorted; (case a_sorted => k_is))
      (case b_set => refine' PySem.W.mg_none_of KX G ?a_set; (case a_set => k_is))
      (case b_min => refine' PySem.W.mg_none_of KX G ?a_min; (case a_min => k_is))
      (case b_max => refine' PySem.W.mg_none_of KX G ?a_max; (case a_max => k_is))
      (case b_range => refine' PySem.W.mg_none_of KX G ?a_range; (case a_range => k_is))
      (case b_int => refine' PySem.W.mg_none_of KX G ?a_int; (case a_int => k_is))
    case MR => refine' Cv.methAt_mk Cv.bok_R ?a_MR ?i_MR ?l_MR ?c_MR ?k_MR; (case a_MR => k_is); (case i_MR => k_is); (case l_MR => k_is); (case c_MR => k_is); (case k_MR => k_is)
    case tR => refine' Cv.tyR_mk ?a_tR ?t_tR; (case a_tR => k_is); (case t_tR => k_is)
    case mk => k_is
    case kc => k_is
    case MI => refine' Cv.methAt_mk Cv.bok_I ?a_MI ?i_MI ?l_MI ?c_MI ?k_MI; (case a_MI => k_is); (case i_MI => k_is); (case l_MI => k_is); (case c_MI => k_is); (case k_MI => k_is)
    case MS => refine' Cv.methAt_mk Cv.bok_S ?a_MS ?i_MS ?l_MS ?c_MS ?k_MS; (case a_MS => k_is); (case i_MS => k_is); (case l_MS => k_is); (case c_MS => k_is); (case k_MS => k_is)
    case MD => refine' Cv.methAt_mk Cv.bok_D ?a_MD ?i_MD ?l_MD ?c_MD ?k_MD; (case a_MD => k_is); (case i_MD => k_is); (case l_MD => k_is); (case c_MD => k_is); (case k_MD => k_is)
    case DA => refine' Cv.defAt_mk Cv.bok_72 KX G ?a_DA ?l_DA ?c_DA ?k_DA; (case a_DA => k_is); (case l_DA => k_is); (case c_DA => k_is); (case k_DA => k_is)
    case D =>
      refine' ⟨?d15, ?d16, ?d17, ?d18, ?d19, ?d20, ?d21, ?d22, ?d23, ?d24, ?d25, ?d26, ?d28, ?d29, ?d30, ?d31, ?d32, ?d36, ?d37, ?d38, ?d39, ?d40, ?d41, ?d43, ?d44, ?d45, ?d46, ?d47, ?d48, ?d49, ?d50, ?d51, ?d52, ?d53, ?d54, ?d57, ?d58, ?d59, ?d60, ?d61, ?d62, ?d63, ?d64, ?d65, ?d66, ?d71⟩
      (case d15 => refine' Cv.defAt_mk Cv.bok_15 KX G ?a_15 ?l_15 ?c_15 ?k_15; (case a_15 => k_is); (case l_15 => k_is); (case c_15 => k_is); (case k_15 => k_is))
      (case d16 => refine' Cv.defAt_mk Cv.bok_16 KX G ?a_16 ?l_16 ?c_16 ?k_16; (case a_16 => k_is); (case l_16 => k_is); (case c_16 => k_is); (case k_16 => k_is))
      (case d17 => refine' Cv.defAt_mk Cv.bok_17 KX G ?a_17 ?l_17 ?c_17 ?k_17; (case a_17 => k_is); (case l_17 => k_is); (case c_17 => k_is); (case k_17 => k_is))
      (case d18 => refine' Cv.defAt_mk Cv.bok_18 KX G ?a_18 ?l_18 ?c_18 ?k_18; (case a_18 => k_is); (case l_18 => k_is); (case c_18 => k_is); (case k_18 => k_is))
      (case d19 => refine' Cv.defAt_mk Cv.bok_19 KX G ?a_19 ?l_19 ?c_19 ?k_19; (case a_19 => k_is); (case l_19 => k_is); (case c_19 => k_is); (case k_19 => k_is))
      (case d20 => refine' Cv.defAt_mk Cv.bok_20 KX G ?a_20 ?l_20 ?c_20 ?k_20; (case a_20 => k_is); (case l_20 => k_is); (case c_20 => k_is); (case k_20 => k_is))
      (case d21 => refine' Cv.defAt_mk Cv.bok_21 KX G ?a_21 ?l_21 ?c_21 ?k_21; (case a_21 => k_is); (case l_21 => k_is); (case c_21 => k_is); (case k_21 => k_is))
      (case d22 => refine' Cv.defAt_mk Cv.bok_22 KX G ?a_22 ?l_22 ?c_22 ?k_22; (case a_22 => k_is); (case l_22 => k_is); (case c_22 => k_is); (case k_22 => k_is))
      (case d23 => refine' Cv.defAt_mk Cv.bok_23 KX G ?a_23 ?l_23 ?c_23 ?k_23; (case a_23 => k_is); (case l_23 => k_is); (case c_23 => k_is); (case k_23 => k_is))
      (case d24 => refine' Cv.defAt_mk Cv.bok_24 KX G ?a_24 ?l_24 ?c_24 ?k_24; (case a_24 => k_is); (case l_24 => k_is); (case c_24 => k_is); (case k_24 => k_is))
      (case d25 => refine' Cv.defAt_mk Cv.bok_25 KX G ?a_25 ?l_25 ?c_25 ?k_25; (case a_25 => k_is); (case l_25 => k_is); (case c_25 => k_is); (case k_25 => k_is))
      (case d26 => refine' Cv.defAt_mk Cv.bok_26 KX G ?a_26 ?l_26 ?c_26 ?k_26; (case a_26 => k_is); (case l_26 => k_is); (case c_26 => k_is); (case k_26 => k_is))
      (case d28 => refine' Cv.defAt_mk Cv.bok_28 KX G ?a_28 ?l_28 ?c_28 ?k_28; (case a_28 => k_is); (case l_28 => k_is); (case c_28 => k_is); (case k_28 => k_is))
      (case d29 => refine' Cv.defAt_mk Cv.bok_29 KX G ?a_29 ?l_29 ?c_29 ?k_29; (case a_29 => k_is); (case l_29 => k_is); (case c_29 => k_is); (case k_29 => k_is))
      (case d30 => refine' Cv.defAt_mk Cv.bok_30 KX G ?a_30 ?l_30 ?c_30 ?k_30; (case a_30 => k_is); (case l_30 => k_is); (case c_30 => k_is); (case k_30 => k_is))
      (case d31 => refine' Cv.defAt_mk Cv.bok_31 KX G ?a_31 ?l_31 ?c_31 ?k_31; (case a_31 => k_is); (case l_31 => k_is); (case c_31 => k_is); (case k_31 => k_is))
      (case d32 => refine' Cv.defAt_mk Cv.bok_32 KX G ?a_32 ?l_32 ?c_32 ?k_32; (case a_32 => k_is); (case l_32 => k_is); (case c_32 => k_is); (case k_32 => k_is))
      (case d36 => refine' Cv.defAt_mk Cv.bok_36 KX G ?a_36 ?l_36 ?c_36 ?k_36; (case a_36 => k_is); (case l_36 => k_is); (case c_36 => k_is); (case k_36 => k_is))
      (case d37 => refine' Cv.defAt_mk Cv.bok_37 KX G ?a_37 ?l_37 ?c_37 ?k_37; (case a_37 => k_is); (case l_37 => k_is); (case c_37 => k_is); (case k_37 => k_is))
      (case d38 => refine' Cv.defAt_mk Cv.bok_38 KX G ?a_38 ?l_38 ?c_38 ?k_38; (case a_38 => k_is); (case l_38 => k_is); (case c_38 => k_is); (case k_38 => k_is))
      (case d39 => refine' Cv.defAt_mk Cv.bok_39 KX G ?a_39 ?l_39 ?c_39 ?k_39; (case a_39 => k_is); (case l_39 => k_is); (case c_39 => k_is); (case k_39 => k_is))
      (case d40 => refine' Cv.defAt_mk Cv.bok_40 KX G ?a_40 ?l_40 ?c_40 ?k_40; (case a_40 => k_is); (case l_40 => k_is); (case c_40 => k_is); (case k_40 => k_is))
      (case d41 => refine' Cv.defAt_mk Cv.bok_41 KX G ?a_41 ?l_41 ?c_41 ?k_41; (case a_41 => k_is); (case l_41 => k_is); (case c_41 => k_is); (case k_41 => k_is))
      (case d43 => refine' Cv.defAt_mk Cv.bok_43 KX G ?a_43 ?l_43 ?c_43 ?k_43; (case a_43 => k_is); (case l_43 => k_is); (case c_43 => k_is); (case k_43 => k_is))
      (case d44 => refine' Cv.defAt_mk Cv.bok_44 KX G ?a_44 ?l_44 ?c_44 ?k_44; (case a_44 => k_is); (case l_44 => k_is); (case c_44 => k_is); (case k_44 => k_is))
      (case d45 => refine' Cv.defAt_mk Cv.bok_45 KX G ?a_45 ?l_45 ?c_45 ?k_45; (case a_45 => k_is); (case l_45 => k_is); (case c_45 => k_is); (case k_45 => k_is))
      (case d46 => refine' Cv.defAt_mk Cv.bok_46 KX G ?a_46 ?l_46 ?c_46 ?k_46; (case a_46 => k_is); (case l_46 => k_is); (case c_46 => k_is); (case k_46 => k_is))
      (case d47 => refine' Cv.defAt_mk Cv.bok_47 KX G ?a_47 ?l_47 ?c_47 ?k_47; (case a_47 => k_is); (case l_47 => k_is); (case c_47 => k_is); (case k_47 => k_is))
      (case d48 => refine' Cv.defAt_mk Cv.bok_48 KX G ?a_48 ?l_48 ?c_48 ?k_48; (case a_48 => k_is); (case l_48 => k_is); (case c_48 => k_is); (case k_48 => k_is))
      (case d49 => refine' Cv.defAt_mk Cv.bok_49 KX G ?a_49 ?l_49 ?c_49 ?k_49; (case a_49 => k_is); (case l_49 => k_is); (case c_49 => k_is); (case k_49 => k_is))
      (case d50 => refine' Cv.defAt_mk Cv.bok_50 KX G ?a_50 ?l_50 ?c_50 ?k_50; (case a_50 => k_is); (case l_50 => k_is); (case c_50 => k_is); (case k_50 => k_is))
      (case d51 => refine' Cv.defAt_mk Cv.bok_51 KX G ?a_51 ?l_51 ?c_51 ?k_51; (case a_51 => k_is); (case l_51 => k_is); (case c_51 => k_is); (case k_51 => k_is))
      (case d52 => refine' Cv.defAt_mk Cv.bok_52 KX G ?a_52 ?l_52 ?c_52 ?k_52; (case a_52 => k_is); (case l_52 => k_is); (case c_52 => k_is); (case k_52 => k_is))
      (case d53 => refine' Cv.defAt_mk Cv.bok_53 KX G ?a_53 ?l_53 ?c_53 ?k_53; (case a_53 => k_is); (case l_53 => k_is); (case c_53 => k_is); (case k_53 => k_is))
      (case d54 => refine' Cv.defAt_mk Cv.bok_54 KX G ?a_54 ?l_54 ?c_54 ?k_54; (case a_54 => k_is); (case l_54 => k_is); (case c_54 => k_is); (case k_54 => k_is))
      (case d57 => refine' Cv.defAt_mk Cv.bok_57 KX G ?a_57 ?l_57 ?c_57 ?k_57; (case a_57 => k_is); (case l_57 => k_is); (case c_57 => k_is); (case k_57 => k_is))
      (case d58 => refine' Cv.defAt_mk Cv.bok_58 KX G ?a_58 ?l_58 ?c_58 ?k_58; (case a_58 => k_is); (case l_58 => k_is); (case c_58 => k_is); (case k_58 => k_is))
      (case d59 => refine' Cv.defAt_mk Cv.bok_59 KX G ?a_59 ?l_59 ?c_59 ?k_59; (case a_59 => k_is); (case l_59 => k_is); (case c_59 => k_is); (case k_59 => k_is))
      (case d60 => refine' Cv.defAt_mk Cv.bok_60 KX G ?a_60 ?l_60 ?c_60 ?k_60; (case a_60 => k_is); (case l_60 => k_is); (case c_60 => k_is); (case k_60 => k_is))
      (case d61 => refine' Cv.defAt_mk Cv.bok_61 KX G ?a_61 ?l_61 ?c_61 ?k_61; (case a_61 => k_is); (case l_61 => k_is); (case c_61 => k_is); (case k_61 => k_is))
      (case d62 => refine' Cv.defAt_mk Cv.bok_62 KX G ?a_62 ?l_62 ?c_62 ?k_62; (case a_62 => k_is); (case l_62 => k_is); (case c_62 => k_is); (case k_62 => k_is))
      (case d63 => refine' Cv.defAt_mk Cv.bok_63 KX G ?a_63 ?l_63 ?c_63 ?k_63; (case a_63 => k_is); (case l_63 => k_is); (case c_63 => k_is); (case k_63 => k_is))
      (case d64 => refine' Cv.defAt_mk Cv.bok_64 KX G ?a_64 ?l_64 ?c_64 ?k_64; (case a_64 => k_is); (case l_64 => k_is); (case c_64 => k_is); (case k_64 => k_is))
      (case d65 => refine' Cv.defAt_mk Cv.bok_65 KX G ?a_65 ?l_65 ?c_65 ?k_65; (case a_65 => k_is); (case l_65 => k_is); (case c_65 => k_is); (case k_65 => k_is))
      (case d66 => refine' Cv.defAt_mk Cv.bok_66 KX G ?a_66 ?l_66 ?c_66 ?k_66; (case a_66 => k_is); (case l_66 => k_is); (case c_66 => k_is); (case k_66 => k_is))
      (case d71 => refine' Cv.defAt_mk Cv.bok_71 KX G ?a_71 ?l_71 ?c_71 ?k_71; (case a_71 => k_is); (case l_71 => k_is); (case c_71 => k_is); (case k_71 => k_is))
    case gC => refine' Cv.namedR_mk KX G ?a_gC; (case a_gC => k_is)
    case gD => refine' Cv.namedR_mk KX G ?a_gD; (case a_gD => k_is)
    case hC =>
      refine' Cv.counts_mk ?l_hC ?hs ?hv
      (case l_hC => k_is)
      (case hs => exact Nat.le_of_ble_eq_true rfl)
      (case hv => exact (.cons ⟨_, rfl⟩ (.cons ⟨_, rfl⟩ (.cons ⟨_, rfl⟩ (.cons ⟨_, rfl⟩ (.cons ⟨_, rfl⟩ (.cons ⟨_, rfl⟩ (.cons ⟨_, rfl⟩ (.cons ⟨_, rfl⟩ (.cons ⟨_, rfl⟩ (.cons ⟨_, rfl⟩ (.cons ⟨_, rfl⟩ (.cons ⟨_, rfl⟩ (.cons ⟨_, rfl⟩ (.cons ⟨_, rfl⟩ (.cons ⟨_, rfl⟩ (.cons ⟨_, rfl⟩ (.cons ⟨_, rfl⟩ (.cons ⟨_, rfl⟩ (.cons ⟨_, rfl⟩ (.cons ⟨_, rfl⟩ (.cons ⟨_, rfl⟩ (.cons ⟨_, rfl⟩ (.cons ⟨_, rfl⟩ (.cons ⟨_, rfl⟩ (.cons ⟨_, rfl⟩ .nil))))))))))))))))))))))))))
    case Y =>
      refine' Cv.allKeys_mk (Cv.tab_mk ?l_Y ?hb) ?m1 ?e1 ?m2 ?e2 ?m3 ?e3 ?m4 ?e4 ?m5 ?e5 ?m6 ?e6 ?m7 ?e7 ?m8 ?e8 ?m9 ?e9 ?m10 ?e10 ?m11 ?e11 ?m12 ?e12 ?m13 ?e13 ?m14 ?e14 ?m15 ?e15 ?m16 ?e16 ?m17 ?e17 ?m18 ?e18 ?m19 ?e19 ?m20 ?e20 ?m21 ?e21 ?m22 ?e22 ?m23 ?e23 ?m24 ?e24
      (case l_Y => k_is)
      (case hb => rfl)
      (case m1 => refine' PySem.W.mg_of KX G ?a_m1; k_is); (case e1 => rfl)
      (case m2 => refine' PySem.W.mg_of KX G ?a_m2; k_is); (case e2 => rfl)
      (case m3 => refine' PySem.W.mg_of KX G ?a_m3; k_is); (case e3 => rfl)
      (case m4 => refine' PySem.W.mg_of KX G ?a_m4; k_is); (case e4 => rfl)
      (case m5 => refine' PySem.W.mg_of KX G ?a_m5; k_is); (case e5 => rfl)
      (case m6 => refine' PySem.W.mg_of KX G ?a_m6; k_is); (case e6 => rfl)
      (case m7 => refine' PySem.W.mg_of KX G ?a_m7; k_is); (case e7 => rfl)
      (case m8 => refine' PySem.W.mg_of KX G ?a_m8; k_is); (case e8 => rfl)
      (case m9 => refine' PySem.W.mg_of KX G ?a_m9; k_is); (case e9 => rfl)
      (case m10 => refine' PySem.W.mg_of KX G ?a_m10; k_is); (case e10 => rfl)
      (case m11 => refine' PySem.W.mg_of KX G ?a_m11; k_is); (case e11 => rfl)
      (case m12 => refine' PySem.W.mg_of KX G ?a_m12; k_is); (case e12 => rfl)
      (case m13 => refine' PySem.W.mg_of KX G ?a_m13; k_is); (case e13 => rfl)
      (case m14 => refine' PySem.W.mg_of KX G ?a_m14; k_is); (case e14 => rfl)
      (case m15 => refine' PySem.W.mg_of KX G ?a_m15; k_is); (case e15 => rfl)
      (case m16 => refine' PySem.W.mg_of KX G ?a_m16; k_is); (case e16 => rfl)
      (case m17 => refine' PySem.W.mg_of KX G ?a_m17; k_is); (case e17 => rfl)
      (case m18 => refine' PySem.W.mg_of KX G ?a_m18; k_is); (case e18 => rfl)
      (case m19 => refine' PySem.W.mg_of KX G ?a_m19; k_is); (case e19 => rfl)
      (case m20 => refine' PySem.W.mg_of KX G ?a_m20; k_is); (case e20 => rfl)
      (case m21 => refine' PySem.W.mg_of KX G ?a_m21; k_is); (case e21 => rfl)
      (case m22 => refine' PySem.W.mg_of KX G ?a_m22; k_is); (case e22 => rfl)
      (case m23 => refine' PySem.W.mg_of KX G ?a_m23; k_is); (case e23 => rfl)
      (case m24 => refine' PySem.W.mg_of KX G ?a_m24; k_is); (case e24 => rfl)
  case S =>
    intro K H xs a hO hwi hask hx
    cases hx with
    | cons h1 h2 =>
      cases h2
      cases h1 with
      | lst hs ha =>
        have e := L2.ints_dw a.1 _ ha
        subst e
        have q : ((Codec.inLen 0 150 a.1 && a.1.all (Codec.inInt 0 4294967295)) && true) = true := hwi
        rw [Bool.and_eq_true, Bool.and_eq_true] at q
        exact ⟨_, a.1, rfl, hs, (Codec.inNat_iff.mp q.1.1).2, hask, fun H' p hp => .lst (L2.SqL.of hp) (L2.dw_ints _)⟩
#print axioms PySem.Challenge.cw_convoytimes_s01_answers_holds
